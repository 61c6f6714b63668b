/-
  Chapter 21: what is told of turned leans, over a row of maps. Own work.
-/
import Derived.Test.YtfdmlionhbeebaaVkA
import Derived.Test.YtfdmlionhbeebaaRdyPlain
namespace Go.Vc
open Go
/-- Who leans on k. -/
def hits (l : LL) (k : Nat) (i : Nat) : Bool := (l.getD i []).any fun x => decide (x = (k : Int))
def turnedL (l : LL) : LL := (List.range l.length).map fun k => sel (hits l k) l.length
def gotK (l : LL) (i j k : Nat) : List Int := sel (hits l k) i ++ if ((l.getD i []).take j).any (fun x => decide (x = (k : Int))) then [(i : Int)] else []
def TI (l : LL) (i j : Nat) (G : MapRow Int) : Prop := G.length = l.length ∧ ∀ k, k < l.length → keysOf (G.getD k none) = gotK l i j k
theorem any_take {r : List Int} {p : Int → Bool} {j : Nat} (h : j < r.length) : (r.take (j + 1)).any p = ((r.take j).any p || p (r.getD j 0)) := by
  rw [List.take_add_one, List.any_append]
  simp [List.getD, h, Option.toList]
theorem TI.start (l : LL) : TI l 0 0 (List.replicate l.length none) := by
  refine ⟨by simp, fun k hk => ?_⟩
  simp [gotK, sel_zero, List.getD, hk, keysOf]
theorem TI.skip {l : LL} {i j : Nat} {G : MapRow Int} (h : TI l i j G) (hj : j < (l.getD i []).length) (hx : (l.getD i []).getD j 0 < 0 ∨ (l.length : Int) ≤ (l.getD i []).getD j 0) : TI l i (j + 1) G := by
  refine ⟨h.1, fun k hk => (h.2 k hk).trans ?_⟩
  unfold gotK
  rw [any_take hj, decide_eq_false (p := (l.getD i []).getD j 0 = (k : Int)) (by omega), Bool.or_false]
theorem TI.row {l : LL} {i j : Nat} {G : MapRow Int} (h : TI l i j G) (hj : (l.getD i []).length ≤ j) : TI l (i + 1) 0 G := by
  refine ⟨h.1, fun k hk => (h.2 k hk).trans ?_⟩
  unfold gotK
  rw [List.take_of_length_le hj]
  cases hh : hits l k i with
  | true =>
    rw [sel_yes hh]
    simp only [hits] at hh
    rw [hh]; simp
  | false =>
    rw [sel_no hh]
    simp only [hits] at hh
    rw [hh]; simp
def addKey (ks : List Int) (i : Int) : List Int := if i ∈ ks then ks else ks ++ [i]
theorem keys_upd (m : List (Int × Value)) (i : Int) (v : Value) : (updM m i v).map (·.1) = addKey (m.map (·.1)) i := by
  unfold updM addKey
  cases h : lkAt i m 0 with
  | none =>
    rw [if_neg (lkAt_none.1 h)]
    simp
  | some p =>
    obtain ⟨h1, h2⟩ := lkAt_some (i := p.1) (v := p.2) h
    simp only [Nat.sub_zero] at h2
    have hm : i ∈ m.map (·.1) := List.mem_map.2 ⟨_, List.mem_of_getElem? h2, rfl⟩
    rw [if_pos hm]
    apply List.ext_getElem?
    intro q
    simp only [List.getElem?_map, List.getElem?_set]
    by_cases e : p.1 = q
    · subst e
      obtain ⟨hl, he⟩ := List.getElem?_eq_some_iff.1 h2
      simp [hl, he]
    · simp [e]
theorem TI.put {l : LL} {i j : Nat} {G G' : MapRow Int} (h : TI l i j G) (hj : j < (l.getD i []).length) (h0 : 0 ≤ (l.getD i []).getD j 0) (hl : G'.length = G.length)
    (ho : ∀ k, k ≠ ((l.getD i []).getD j 0).toNat → G'.getD k none = G.getD k none) (hk : keysOf (G'.getD ((l.getD i []).getD j 0).toNat none) = addKey (keysOf (G.getD ((l.getD i []).getD j 0).toNat none)) i) : TI l i (j + 1) G' := by
  refine ⟨hl.trans h.1, fun k hkl => ?_⟩
  unfold gotK
  rw [any_take hj]
  by_cases e : (l.getD i []).getD j 0 = (k : Int)
  · have ek : k = ((l.getD i []).getD j 0).toNat := by omega
    rw [decide_eq_true e, Bool.or_true, if_pos rfl, ek, hk, ← ek, h.2 k hkl]
    unfold addKey gotK
    have hns : (i : Int) ∉ sel (hits l k) i := fun hm => by
      obtain ⟨q, e1, e2, _⟩ := sel_mem.1 hm
      omega
    by_cases hb : ((l.getD i []).take j).any (fun x => decide (x = (k : Int))) = true
    · rw [hb]; simp
    · rw [if_neg hb, List.append_nil, if_neg hns]
  · have ek : k ≠ ((l.getD i []).getD j 0).toNat := by omega
    rw [decide_eq_false e, Bool.or_false, ho k ek]
    exact h.2 k hkl
theorem sel_sorted (f : Nat → Bool) : ∀ n, (sel f n).Pairwise fun x y => decide (x ≤ y) = true
  | 0 => .nil
  | n + 1 => by
    cases h : f n with
    | false => rw [sel_no h]; exact sel_sorted f n
    | true =>
      rw [sel_yes h, List.pairwise_append]
      refine ⟨sel_sorted f n, List.pairwise_singleton _ _, fun x hx y hy => ?_⟩
      obtain ⟨q, e1, e2, _⟩ := sel_mem.1 hx
      simp at hy
      simp; omega
theorem rise_sel (f : Nat → Bool) (n : Nat) : rise (sel f n) = sel f n := List.mergeSort_of_pairwise (sel_sorted f n)
theorem TI.done {l : LL} {G : MapRow Int} (h : TI l l.length 0 G) {k : Nat} (hk : k < l.length) : rise (keysOf (G.getD k none)) = (turnedL l).getD k [] := by
  have e : (turnedL l).getD k [] = sel (hits l k) l.length := by simp [turnedL, List.getD, hk]
  rw [e, h.2 k hk]
  unfold gotK
  simp [rise_sel]
theorem TI.len {l : LL} {G : MapRow Int} (h : TI l l.length 0 G) {k : Nat} (hk : k < l.length) : (keysOf (G.getD k none)).length ≤ l.length := by
  have e : (turnedL l).getD k [] = sel (hits l k) l.length := by simp [turnedL, List.getD, hk]
  rw [← rise_len, h.done hk, e]
  exact sel_len _ _
theorem memOf {κ : Type} {G : MapRow κ} {k : Nat} (hk : k < G.length) {x : Option (Nat × List (κ × Value))} (h : G.getD k none = x) : x ∈ G := by
  rw [← h]; simp [List.getD, hk]
theorem outStep {M : Mem} {O : List Value} {R : LL} {k : Nat} {v : Value} (hk : k < O.length) (hb : ∀ q, q < k → IntRow M .i64 (O.getD q undef) (R.getD q [])) (hv : IntRow M .i64 v (R.getD k [])) : ∀ q, q < k + 1 → IntRow M .i64 ((O.set k v).getD q undef) (R.getD q []) := fun q hq => by
  by_cases e : q = k
  · subst e
    have : (O.set q v).getD q undef = v := by simp [List.getD, hk]
    rw [this]; exact hv
  · have : (O.set k v).getD q undef = O.getD q undef := by
      simp only [List.getD_eq_getElem?_getD]
      rw [List.getElem?_set_ne (by omega)]
    rw [this]; exact hb q (by omega)
def wayL (l : LL) (back : Bool) : LL := bif back then turnedL l else l
theorem turned_len (l : LL) : (turnedL l).length = l.length := by simp [turnedL]
theorem wayL_len (l : LL) (b : Bool) : (wayL l b).length = l.length := by cases b <;> simp [wayL, turned_len]
theorem turned_row {l : LL} : ∀ {x : List Int}, x ∈ turnedL l → ∃ k, x = sel (hits l k) l.length := fun {x} h => by
  obtain ⟨k, _, e⟩ := List.mem_map.1 h
  exact ⟨k, e.symm⟩
theorem way_rows {l : LL} {b : Bool} {K : Nat} (hl : l.length ≤ K) (hr : ∀ r ∈ l, r.length ≤ K) : ∀ r ∈ wayL l b, r.length ≤ K := by
  cases b with
  | false => exact hr
  | true =>
    intro r h
    obtain ⟨k, rfl⟩ := turned_row (l := l) h
    exact Nat.le_trans (sel_len _ _) hl
theorem way_in {l : LL} {st : List Int} {b : Bool} (h : mayB l st = true) : ∀ r ∈ wayL l b, ∀ x ∈ r, 0 ≤ x ∧ x < st.length := by
  obtain ⟨h1, _, h3⟩ := mayB_in h
  cases b with
  | false => intro r hr x hx; have := h3 r hr x hx; omega
  | true =>
    intro r hr x hx
    obtain ⟨k, rfl⟩ := turned_row (l := l) hr
    obtain ⟨i, e, hi, _⟩ := sel_mem.1 hx
    omega
def allQ (xs : List Int) (p : Int → Bool) : Bool := xs.all p
def anyQ (xs : List Int) (p : Int → Bool) : Bool := xs.any p
def rdyL (l : LL) (st : List Int) (b : Bool) : List Int := sel (pickF allQ letsB (wayL l b) st) st.length
def readyR (l : LL) (st : List Int) (b : Bool) : List Int := bif mayB l st then rdyL l st b else []
theorem RetInts.nil (M : Mem) (k : IntKind) (M' : Mem) : RetInts M k [] M' (.slice none 0 0) := ⟨none, 0, rfl, ⟨Nat.le_refl _, fun _ => rfl⟩, .inl rfl, fun _ e => by cases e⟩
end Go.Vc
