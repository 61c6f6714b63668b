/-
  VC, part 16: typed data: what a slice, a struct holds, by an embedding into 'Dat'; owned rows of such; the shallow reading's words. Own work.
-/
import Derived.Test.YtoonlehffohpaaaVc15
namespace Go.Vc
open Go Go.RowKit

/-! ### The shallow reading -/
def need (p : Prop) [Decidable p] {α : Type} (x : Option α) : Option α := if p then x else none
theorem need_some {p : Prop} [Decidable p] {α : Type} {x : Option α} {r : α} (h : need p x = some r) : p ∧ x = some r := by
  unfold need at h
  split at h
  · exact ⟨‹_›, h⟩
  · cases h
theorem need_t {p : Prop} [Decidable p] {α : Type} {x : Option α} (h : p) : need p x = x := by unfold need; rw [if_pos h]
theorem cnd_t {α : Type} {b : Bool} {x y r : α} (hb : b = true) (h : (bif b then x else y) = r) : x = r := by rw [hb] at h; exact h
theorem cnd_f {α : Type} {b : Bool} {x y r : α} (hb : b = false) (h : (bif b then x else y) = r) : y = r := by rw [hb] at h; exact h
theorem bind_some' {α β : Type} {x : Option α} {f : α → Option β} {r : β} (h : x.bind f = some r) : ∃ a, x = some a ∧ f a = some r := Option.bind_eq_some_iff.1 h
inductive Lp (σ β : Type)
  | nx (s : σ)
  | br (b : β)
def loopF {σ β : Type} (step : σ → Option (Lp σ β)) : Nat → σ → Option β
  | 0, _ => none
  | n + 1, s => (step s).bind fun r => match r with
    | .nx s' => loopF step n s'
    | .br b => some b
theorem loop_step {σ β : Type} {step : σ → Option (Lp σ β)} {n : Nat} {s : σ} {b : β} (h : loopF step n s = some b) : ∃ m r, n = m + 1 ∧ step s = some r ∧ (match r with | .nx s' => loopF step m s' | .br b => some b) = some b := by
  cases n with
  | zero => cases h
  | succ m =>
    obtain ⟨r, h1, h2⟩ := Option.bind_eq_some_iff.1 h
    exact ⟨m, r, rfl, h1, h2⟩
def joinF {τ Λ : Type} (j : Lp τ Λ) (k : τ → Option Λ) : Option Λ := match j with | .nx x => k x | .br l => some l
def getI {α : Type} (xs : List α) (i : Int) : Option α := if 0 ≤ i then xs[i.toNat]? else none
theorem getI_some {α : Type} {xs : List α} {i : Int} {x : α} (h : getI xs i = some x) : 0 ≤ i ∧ i < xs.length ∧ xs[i.toNat]? = some x := by
  unfold getI at h
  split at h
  · have := (List.getElem?_eq_some_iff.1 h).1
    exact ⟨‹_›, by omega, h⟩
  · cases h
theorem getI_lt {α : Type} {xs : List α} {i : Int} {x : α} (h : getI xs i = some x) : i < xs.length := (getI_some h).2.1
theorem getI_nn {α : Type} {xs : List α} {i : Int} {x : α} (h : getI xs i = some x) : 0 ≤ i := (getI_some h).1
def inR (k : IntKind) (x : Int) : Prop := k.min ≤ x ∧ x ≤ k.max
instance (k : IntKind) (x : Int) : Decidable (inR k x) := by unfold inR; exact inferInstance
theorem inR_i64 {x : Int} (h : inR .i64 x) : IntKind.i64.wrap x = x := IntWalk.i64_in _ (by simp [inR, IntKind.min, IntKind.max, IntKind.signed, IntKind.bits] at h; omega)
theorem inR_mk {x : Int} : inR .i64 x ↔ -9223372036854775808 ≤ x ∧ x ≤ 9223372036854775807 := by simp [inR, IntKind.min, IntKind.max, IntKind.signed, IntKind.bits]

/-! ### Slices of typed data -/
section
variable {α : Type} {M M' : Mem} {sz : Nat} {f : α → Dat} {A : Option Addr} {cap : Nat} {xs : List α}
def eL (sz : Nat) (f : α → Dat) (xs : List α) : Dat := .list sz (xs.map f)
def Sli (M : Mem) (sz : Nat) (f : α → Dat) (A : Option Addr) (cap : Nat) (xs : List α) : Prop :=
  xs.length ≤ cap ∧ (A = none → cap = 0) ∧ (xs = [] ∨ ∃ ad, A = some ad ∧ RepArr M sz (xs.map f) ad)
theorem Sli.mono (h : Sli M sz f A cap xs) (hM : M.le M') : Sli M' sz f A cap xs := by
  obtain ⟨h1, h2, h3⟩ := h
  refine ⟨h1, h2, ?_⟩
  rcases h3 with h3 | ⟨ad, h4, h5⟩
  · exact .inl h3
  · exact .inr ⟨ad, h4, RepArr.mono hM _ _ _ h5⟩
theorem Sli.nil : Sli M sz f none 0 [] := ⟨Nat.le_refl _, fun _ => rfl, .inl rfl⟩
theorem Sli.rep (h : Sli M sz f A cap xs) : Rep M (eL sz f xs) [.slice A xs.length cap] := by
  obtain ⟨h1, h2, h3⟩ := h
  refine ⟨A, cap, by simp, by simpa using h1, h2, ?_⟩
  rcases h3 with h3 | ⟨ad, h4, h5⟩
  · exact .inl (by simp [h3])
  · exact .inr ⟨ad, h4, h5⟩
theorem Rep.sli {cs : List Value} (h : Rep M (eL sz f xs) cs) : ∃ A cap, cs = [.slice A xs.length cap] ∧ Sli M sz f A cap xs := by
  obtain ⟨A, cap, h1, h2, h3, h4⟩ := h
  refine ⟨A, cap, by simpa using h1, by simpa using h2, h3, ?_⟩
  rcases h4 with h4 | ⟨ad, h5, h6⟩
  · exact .inl (by simpa using h4)
  · exact .inr ⟨ad, h5, h6⟩
theorem Sli.at_ (h : Sli M sz f A cap xs) {i : Int} {x : α} (hx : getI xs i = some x) :
    ∃ ad c, A = some ad ∧ c.length = sz ∧ Rep M (f x) c ∧ ∀ j v, c[j]? = some v → M.cell? ((ad.add (i.toNat * sz)).add j) = some v := by
  obtain ⟨_, _, h3⟩ := h
  obtain ⟨h0, h1, h2⟩ := getI_some hx
  rcases h3 with h3 | ⟨ad, h4, h5⟩
  · subst h3; simp at h2
  · obtain ⟨c, k1, k2, k3⟩ := RepArr.get i.toNat (f x) h5 (by simp [h2])
    exact ⟨ad, c, h4, k1, k2, k3⟩
theorem add_of_add' (a : Addr) (i j : Nat) : (a.add i).add j = a.add (i + j) := add_of_add a i j
theorem RepArr.drop : ∀ (k : Nat) {ds : List Dat} {ad : Addr}, RepArr M sz ds ad → RepArr M sz (ds.drop k) (ad.add (k * sz))
  | 0, ds, ad, h => by simpa [Addr.add] using h
  | k + 1, [], ad, h => by simp [RepArr]
  | k + 1, d :: ds, ad, h => by
    have := RepArr.drop (ds := ds) k h.2
    rw [add_of_add] at this
    rw [List.drop_succ_cons, show (k + 1) * sz = sz + k * sz by rw [Nat.add_mul]; omega]
    exact this
theorem RepArr.take : ∀ (k : Nat) {ds : List Dat} {ad : Addr}, RepArr M sz ds ad → RepArr M sz (ds.take k) ad
  | 0, ds, ad, h => by simp [RepArr]
  | k + 1, [], ad, h => by simp [RepArr]
  | k + 1, d :: ds, ad, h => ⟨h.1, RepArr.take k h.2⟩
theorem Sli.cut (h : Sli M sz f A cap xs) {a b : Nat} (hab : a ≤ b) (hb : b ≤ xs.length) : Sli M sz f (cutA A sz a cap) (cap - a) ((xs.take b).drop a) := by
  obtain ⟨h1, h2, h3⟩ := h
  refine ⟨by simp; omega, fun e => ?_, ?_⟩
  · unfold cutA at e
    split at e
    · omega
    · cases A with
      | none => have := h2 rfl; omega
      | some ad => simp at e
  · rcases h3 with h3 | ⟨ad, h4, h5⟩
    · exact .inl (by simp [h3])
    · by_cases hac : cap = a
      · exact .inl (by simp; omega)
      · refine .inr ⟨ad.add (a * sz), by simp [cutA, hac, h4], ?_⟩
        rw [List.map_drop, List.map_take]
        exact RepArr.drop a (RepArr.take b h5)
theorem Sli.len (h : Sli M sz f A cap xs) : xs.length ≤ cap := h.1
end

/-- Data all of whose spellings have n cells. -/
def Szd (n : Nat) (d : Dat) : Prop := ∀ M cs, Rep M d cs → cs.length = n
theorem szd_int (k : IntKind) (n : Int) : Szd 1 (.int k n) := fun _ _ h => by rw [show _ = _ from h]; rfl
theorem szd_bool (b : Bool) : Szd 1 (.bool b) := fun _ _ h => by rw [show _ = _ from h]; rfl
theorem szd_str (l : List UInt8) : Szd 1 (.str l) := fun _ _ h => by rw [show _ = _ from h]; rfl
theorem szd_list (sz : Nat) (ds : List Dat) : Szd 1 (.list sz ds) := fun _ _ h => by obtain ⟨A, cap, h1, _⟩ := h; rw [h1]; rfl
theorem szd_nil : Szd 0 (.struct []) := fun _ _ h => by rw [show _ = [] from h]; rfl
theorem szd_cons {a b : Nat} {d : Dat} {ds : List Dat} (h1 : Szd a d) (h2 : Szd b (.struct ds)) : Szd (a + b) (.struct (d :: ds)) := fun M cs h => by
  obtain ⟨c1, c2, e, k1, k2⟩ := h
  rw [e, List.length_append, h1 M c1 k1, h2 M c2 k2]

section
variable {M M' : Mem} {sz : Nat}
theorem RepSeq.append {M : Mem} : ∀ {ds es : List Dat} {c c' : List Value}, RepSeq M ds c → RepSeq M es c' → RepSeq M (ds ++ es) (c ++ c')
  | [], es, c, c', h, h' => by rw [show c = [] from h]; exact h'
  | d :: ds, es, c, c', h, h' => by
    obtain ⟨c1, c2, e, k1, k2⟩ := h
    exact ⟨c1, c2 ++ c', by rw [e, List.append_assoc], k1, RepSeq.append k2 h'⟩
theorem RepSeq.one {d : Dat} {c : List Value} (h : Rep M d c) : RepSeq M [d] c := ⟨c, [], by simp, h, rfl⟩
theorem RepSeq.snoc {α : Type} {f : α → Dat} {xs : List α} {x : α} {c c' : List Value} (h : RepSeq M (xs.map f) c) (h' : Rep M (f x) c') : RepSeq M ((xs ++ [x]).map f) (c ++ c') := by
  rw [List.map_append]; exact h.append (RepSeq.one h')
theorem RepSeq.more {α : Type} {f : α → Dat} {xs ys : List α} {c c' : List Value} (h : RepSeq M (xs.map f) c) (h' : RepSeq M (ys.map f) c') : RepSeq M ((xs ++ ys).map f) (c ++ c') := by
  rw [List.map_append]; exact h.append h'
theorem RepSeq.len : ∀ {ds : List Dat} {c : List Value}, (∀ d ∈ ds, Szd sz d) → RepSeq M ds c → c.length = ds.length * sz
  | [], c, _, h => by rw [show c = [] from h]; simp
  | d :: ds, c, hs, h => by
    obtain ⟨c1, c2, e, k1, k2⟩ := h
    rw [e, List.length_append, hs d List.mem_cons_self M c1 k1, RepSeq.len (fun d hd => hs d (List.mem_cons_of_mem _ hd)) k2, List.length_cons, Nat.add_mul]; omega
theorem RepSeq.arr : ∀ {ds : List Dat} {c : List Value} {ad : Addr}, (∀ d ∈ ds, Szd sz d) → RepSeq M ds c → (∀ j u, c[j]? = some u → M.cell? (ad.add j) = some u) → RepArr M sz ds ad
  | [], _, _, _, _, _ => trivial
  | d :: ds, c, ad, hs, h, hc => by
    obtain ⟨c1, c2, e, k1, k2⟩ := h
    have hl := hs d List.mem_cons_self M c1 k1
    refine ⟨⟨c1, hl, k1, fun j v hv => hc j v ?_⟩, RepSeq.arr (fun d hd => hs d (List.mem_cons_of_mem _ hd)) k2 fun j v hv => ?_⟩
    · rw [e, List.getElem?_append_left (List.getElem?_eq_some_iff.1 hv).1]; exact hv
    · rw [add_of_add]
      refine hc _ v ?_
      rw [e, List.getElem?_append_right (by omega), show sz + j - c1.length = j by omega]; exact hv
/-- Element i's cells. -/
theorem RepSeq.get {M : Mem} : ∀ {ds : List Dat} {c : List Value} (i : Nat) {d : Dat}, (∀ d ∈ ds, Szd sz d) → RepSeq M ds c → ds[i]? = some d → ∃ e, e.length = sz ∧ Rep M d e ∧ ∀ j v, e[j]? = some v → c[i * sz + j]? = some v
  | [], _, i, d, _, _, h => by simp at h
  | x :: ds, c, 0, d, hs, h, hd => by
    simp only [List.getElem?_cons_zero, Option.some.injEq] at hd
    subst hd
    obtain ⟨c1, c2, e, k1, k2⟩ := h
    refine ⟨c1, hs _ List.mem_cons_self M c1 k1, k1, fun j v hv => ?_⟩
    rw [e, Nat.zero_mul, Nat.zero_add, List.getElem?_append_left (List.getElem?_eq_some_iff.1 hv).1]; exact hv
  | x :: ds, c, i + 1, d, hs, h, hd => by
    simp only [List.getElem?_cons_succ] at hd
    obtain ⟨c1, c2, e, k1, k2⟩ := h
    obtain ⟨y, h1, h2, h3⟩ := RepSeq.get i (fun d hd => hs d (List.mem_cons_of_mem _ hd)) k2 hd
    refine ⟨y, h1, h2, fun j v hv => ?_⟩
    have hl := hs x List.mem_cons_self M c1 k1
    rw [e, List.getElem?_append_right (by rw [Nat.add_mul]; omega), show (i + 1) * sz + j - c1.length = i * sz + j by rw [Nat.add_mul]; omega]
    exact h3 j v hv
theorem RepArr.cells : ∀ {ds : List Dat} {ad : Addr}, RepArr M sz ds ad → ∃ cs : List Value, cs.length = ds.length * sz ∧ RepSeq M ds cs ∧ ∀ j v, cs[j]? = some v → M.cell? (ad.add j) = some v
  | [], _, _ => ⟨[], by simp, rfl, fun j v h => by simp at h⟩
  | d :: ds, ad, h => by
    obtain ⟨⟨c, h1, h2, h3⟩, h4⟩ := h
    obtain ⟨cs, k1, k2, k3⟩ := RepArr.cells h4
    refine ⟨c ++ cs, by rw [List.length_append, k1, h1, List.length_cons, Nat.add_mul]; omega, ⟨c, cs, rfl, h2, k2⟩, fun j v hv => ?_⟩
    by_cases hj : j < c.length
    · rw [List.getElem?_append_left hj] at hv; exact h3 j v hv
    · rw [List.getElem?_append_right (by omega)] at hv
      have := k3 _ v hv
      rw [add_of_add, show sz + (j - c.length) = j by omega] at this
      exact this
mutual
theorem Rep.one {M : Mem} : ∀ (d : Dat) (cs : List Value), Rep M d cs → ∀ u ∈ cs, u.oneCell' = true
  | .int _ _, cs, h => by intro u hu; rw [show cs = _ from h] at hu; simp at hu; subst hu; rfl
  | .bool _, cs, h => by intro u hu; rw [show cs = _ from h] at hu; simp at hu; subst hu; rfl
  | .str _, cs, h => by intro u hu; rw [show cs = _ from h] at hu; simp at hu; subst hu; rfl
  | .list _ _, cs, h => by
    obtain ⟨A, cap, e, _⟩ := h
    intro u hu; rw [e] at hu; simp at hu; subst hu; rfl
  | .struct ds, cs, h => RepSeq.oneC ds cs h
theorem RepSeq.oneC {M : Mem} : ∀ (ds : List Dat) (cs : List Value), RepSeq M ds cs → ∀ u ∈ cs, u.oneCell' = true
  | [], cs, h => by intro u hu; rw [show cs = [] from h] at hu; cases hu
  | d :: ds, cs, h => by
    obtain ⟨c1, c2, e, k1, k2⟩ := h
    intro u hu
    rw [e] at hu
    rcases List.mem_append.1 hu with hu | hu
    · exact Rep.one d c1 k1 u hu
    · exact RepSeq.oneC ds c2 k2 u hu
end
end

/-! ### Owned rows of typed data -/
section
variable {α : Type} {w0 w : World} {M M' : Mem} {H : List Ent} {sz : Nat} {f : α → Dat} {xs : List α}
/-- An owned row becomes known. -/
theorem Hp.rowSli {e : TypeId} {v : Value} {cs : List Value} (h : Hp w0 M (.row e sz v xs.length cs :: H) w) (hf : ∀ x, Szd sz (f x)) (hr : RepSeq M (xs.map f) cs) :
    ∃ A cap M', v = .slice A xs.length cap ∧ M.le M' ∧ Hp w0 M' H w ∧ Sli M' sz f A cap xs := by
  have hs : ∀ d ∈ xs.map f, Szd sz d := fun d hd => by obtain ⟨x, _, rfl⟩ := List.mem_map.1 hd; exact hf x
  obtain ⟨M', h1, h2, h3⟩ := h.rowKnown
  rcases h3 with ⟨rfl, hn, rfl⟩ | ⟨ad, cap, rfl, hcap, _, hc⟩
  · have : xs = [] := List.eq_nil_of_length_eq_zero hn
    subst this
    exact ⟨none, 0, M', rfl, h1, h2, Sli.nil⟩
  · exact ⟨some ad, cap, M', rfl, h1, h2, hcap, (fun e => by cases e), .inr ⟨ad, rfl, RepSeq.arr hs (RepSeq.mono h1 _ _ hr) hc⟩⟩
/-- The row's block: its address and its cells. -/
theorem Hp.rowAddr {e : TypeId} {n : Nat} {v : Value} {cs : List Value} (h : Hp w0 M H w) (i : Nat) (he : H[i]? = some (.row e sz v n cs)) (hn : 0 < n) :
    ∃ g cap, v = .slice (some ⟨g, 0, none⟩) n cap ∧ n ≤ cap := by
  obtain ⟨h1, h2⟩ := h.rowAt i he
  rcases h2 with ⟨rfl, hn'⟩ | ⟨g, cap, cur, rfl, hg, hh, hnc, hcm, hcs, htk⟩
  · omega
  · exact ⟨g, cap, rfl, hnc⟩
theorem Hp.rowCell {e : TypeId} {n m cap g : Nat} {v : Value} {cs : List Value} (h : Hp w0 M H w) (i : Nat) (he : H[i]? = some (.row e sz v n cs)) (hv : v = .slice (some ⟨g, 0, none⟩) m cap) (j : Nat) (u : Value) (hu : cs[j]? = some u) :
    w.cell? ⟨g, j, none⟩ = some u := by
  obtain ⟨h1, h2⟩ := h.rowAt i he
  rcases h2 with ⟨h3, _⟩ | ⟨g', cap', cur, h3, hg, hh, hnc, hcm, hcs, htk⟩
  · rw [h3] at hv; cases hv
  · rw [h3] at hv; cases hv
    have hj : j < n * sz := h1 ▸ (List.getElem?_eq_some_iff.1 hu).1
    rw [cell_of_row w _ _ cur e (0, 0) hh, ← Array.getElem?_toList]
    rw [← htk, List.getElem?_take_of_lt hj] at hu
    simpa using hu
/-- Cutting an owned row at its front part. -/
theorem Hp.rowShape {e : TypeId} {n : Nat} {v : Value} {cs : List Value} (h : Hp w0 M H w) (i : Nat) (he : H[i]? = some (.row e sz v n cs)) : ∃ A cap, v = .slice A n cap ∧ n ≤ cap ∧ (A = none → cap = 0) := by
  rcases (h.rowAt i he).2 with ⟨rfl, rfl⟩ | ⟨g, cap, cur, rfl, hg, hh, hnc, _⟩
  · exact ⟨none, 0, rfl, Nat.le_refl _, fun _ => rfl⟩
  · exact ⟨_, cap, rfl, hnc, fun e => by cases e⟩
theorem Hp.rowTrunc {e : TypeId} {n m cap g : Nat} {v : Value} {cs : List Value} (h : Hp w0 M (.row e sz v n cs :: H) w) (hv : v = .slice (some ⟨g, 0, none⟩) n cap) (hm : m ≤ n) :
    Hp w0 M (.row e sz (.slice (some ⟨g, 0, none⟩) m cap) m (cs.take (m * sz)) :: H) w := by
  rcases h.rowObj with ⟨h1, h2, h3, h4⟩ | ⟨g', cap', cur, h1, h2, h3, h4, h5, h6, h7⟩
  · rw [h1] at hv; cases hv
  · rw [h1] at hv; cases hv
    have hle : m * sz ≤ n * sz := Nat.mul_le_mul_right _ hm
    refine h7.objRow (by omega) h3 h4 ?_ ?_
    · rw [← h5, List.take_take, Nat.min_eq_left hle]
    · rw [List.length_take, h6, Nat.min_eq_left hle]
/-- Storing into one cell of an owned row. -/
theorem Hp.rowSet {e : TypeId} {n m cap g : Nat} {v : Value} {cs : List Value} (h : Hp w0 M (.row e sz v n cs :: H) w) (hv : v = .slice (some ⟨g, 0, none⟩) m cap) (j : Nat) (hj : j < cs.length) (u : Value) :
    Hp w0 M (.row e sz v n (cs.set j u) :: H) (w.setCell ⟨g, j, none⟩ u) ∧ w.frozen? ⟨g, j, none⟩ = false ∧ ∃ x, w.cell? ⟨g, j, none⟩ = some x := by
  rcases h.rowObj with ⟨h1, h2, h3, h4⟩ | ⟨g', cap', cur, h1, h2, h3, h4, h5, h6, h7⟩
  · rw [h1] at hv; cases hv
  · rw [h1] at hv; cases hv
    have hjl : j < n * sz := h6 ▸ hj
    have hsz : n * sz ≤ cur.size := by rw [h4]; exact Nat.mul_le_mul_right _ h2
    refine ⟨?_, h7.ownFrozen 0 rfl j (by omega), ⟨_, (h7.ownCell 0 rfl j).trans (Array.getElem?_eq_getElem (by omega))⟩⟩
    subst h1
    refine (h7.setCell j u).objRow h2 h3 (by simp [h4]) ?_ (by simp [h6])
    rw [← h5, Array.toList_setIfInBounds, List.take_set]
end

section
variable {α : Type} {P : Program} {ops : Array Oper} {n : Nat} {Q : Exit → Act → World → Prop} {L : Fr} {a : Act} {w0 w : World} {M : Mem} {H : List Ent} {sz : Nat} {f : α → Dat}
/-- append of a known slice to the row that stands first among the owned. -/
theorem W_appendS {o : Oper} {rest : List Oper} {d : Nat} {t e : TypeId} {x y : Operand} {z v : Value} {bytes c : Nat} {A : Option Addr} {xs ys : List α} {cs : List Value} (hf : Frm n L a) (hp : Hp w0 M (.row e sz v xs.length cs :: H) w) 
    (hcs : RepSeq M (xs.map f) cs) (hys : Sli M sz f A c ys)
    (hw : wantedL ops L o = some true) (hr : readyL L o = true) (hd : o.dst = some d) (hdn : Nat.blt d n = true) (ho : o.op = .call { callee := .builtin .append, args := #[x, y], argTypes := #[t, t] })
    (hx : ev L x = v) (hy : ev L y = .slice A ys.length c) (ht : P.underlying t = some (.slice e)) (hi : infoIs P e z sz bytes = true)
    (hb : (xs.length + ys.length) * bytes ≤ 140737488355328) (h63 : xs.length + ys.length ≤ 9223372036854775807)
    (hk' : ∀ A cap cs' w', Hp w0 M (.row e sz (.slice A (xs ++ ys).length cap) (xs ++ ys).length cs' :: H) w' → RepSeq M ((xs ++ ys).map f) cs' → ∀ a', Frm n ((d, .slice A (xs ++ ys).length cap) :: L) a' → wpList P ops Q rest a' w') : wpList P ops Q (o :: rest) a w := by
  have hk : ∀ v' cs' w', Hp w0 M (.row e sz v' (xs ++ ys).length cs' :: H) w' → RepSeq M ((xs ++ ys).map f) cs' → ∀ a', Frm n ((d, v') :: L) a' → wpList P ops Q rest a' w' := fun v' cs' w' hp' hr' a' ha => by
    obtain ⟨A, cap, rfl, _⟩ := hp'.rowShape 0 rfl
    exact hk' A cap cs' w' hp' hr' a' ha
  obtain ⟨h1, h2, h3⟩ := hys
  rcases A with _ | ad
  · have h0 := h2 rfl
    have hy0 : ys = [] := List.eq_nil_of_length_eq_zero (by omega)
    subst hy0; subst h0
    refine W_append_nil hf hp hw hr hd hdn ho hx hy ht hi fun a' ha => hk v cs w ?_ ?_ a' ha
    · simpa using hp
    · simpa using hcs
  · have h5 : RepArr M sz (ys.map f) ad := by
      rcases h3 with h3 | ⟨ad', e', h5⟩
      · subst h3; trivial
      · cases e'; exact h5
    obtain ⟨news, k1, k2, k3⟩ := RepArr.cells h5
    refine W_append (z := z) (news := news) hf hp hw hr hd hdn ho hx hy ht hi (by simpa using k1) (fun j u hu => hp.cell (k3 j u hu)) (RepSeq.oneC _ _ k2) hb h63 fun v' w' hp' a' ha => hk v' (cs ++ news) w' ?_ (hcs.more k2) a' ha
    rw [List.length_append]; exact hp'
end
end Go.Vc
