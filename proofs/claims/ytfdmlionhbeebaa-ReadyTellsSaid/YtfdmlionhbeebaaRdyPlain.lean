/-
  Chapter 21, plain: what the functions compute. Own work.
-/
namespace Go.Vc
abbrev LL := List (List Int)

theorem getD_mem {xs : List Int} {k : Nat} (h : k < xs.length) : xs.getD k 0 ∈ xs := by
  simp [List.getD, h]
theorem row_mem {l : LL} {k : Nat} (h : k < l.length) : l.getD k [] ∈ l := by
  simp [List.getD, h]

/-- The first place of one that p lets. -/
def idxI (p : Int → Bool) (xs : List Int) : Int := match xs.findIdx? p with | some i => (i : Int) | none => -1
theorem idxI_at {p : Int → Bool} {xs : List Int} {k : Nat} (hk : k < xs.length) (hb : ∀ j, j < k → p (xs.getD j 0) = false) (h : p (xs.getD k 0) = true) : idxI p xs = k := by
  have : xs.findIdx? p = some k := by
    rw [List.findIdx?_eq_some_iff_getElem]
    refine ⟨hk, by simpa [List.getD, hk] using h, fun j hj => ?_⟩
    have := hb j hj
    have hj' : j < xs.length := by omega
    simpa [List.getD, hj'] using this
  simp [idxI, this]
theorem idxI_no {p : Int → Bool} {xs : List Int} (hb : ∀ j, j < xs.length → p (xs.getD j 0) = false) : idxI p xs = -1 := by
  have : xs.findIdx? p = none := by
    rw [List.findIdx?_eq_none_iff]
    intro x hx
    obtain ⟨j, hj, rfl⟩ := List.mem_iff_getElem.1 hx
    have := hb j hj
    simpa [List.getD, hj] using this
  simp [idxI, this]
theorem idxI_any (p : Int → Bool) (xs : List Int) : decide ((0 : Int) ≤ idxI p xs) = xs.any p := by
  unfold idxI
  cases h : xs.findIdx? p with
  | some i =>
    have : xs.any p = true := by
      obtain ⟨hi, hp, _⟩ := List.findIdx?_eq_some_iff_getElem.1 h
      exact List.any_eq_true.2 ⟨_, List.getElem_mem hi, hp⟩
    rw [this]; simp
  | none =>
    have : xs.any p = false := by
      rw [List.findIdx?_eq_none_iff] at h
      simpa using h
    rw [this]; rfl
theorem lt_step {p : Nat → Prop} {k : Nat} (h : ∀ j, j < k → p j) (hk : p k) : ∀ j, j < k + 1 → p j := fun j hj => by
  rcases Nat.lt_succ_iff_lt_or_eq.1 hj with h1 | rfl
  · exact h j h1
  · exact hk
theorem lt_zero {p : Nat → Prop} : ∀ j, j < 0 → p j := fun j hj => absurd hj (Nat.not_lt_zero j)

def rowOk (l : LL) (st : List Int) (i : Nat) : Bool := decide (0 ≤ st.getD i 0) && decide (st.getD i 0 ≤ 5) && !((l.getD i []).any fun n => decide (n < 0) || decide ((l.length : Int) ≤ n))
def mayB (l : LL) (st : List Int) : Bool := decide (l.length = st.length) && (List.range l.length).all (rowOk l st)
theorem mayB_len {l : LL} {st : List Int} (h : l.length ≠ st.length) : mayB l st = false := by simp [mayB, h]
theorem mayB_no {l : LL} {st : List Int} {k : Nat} (hk : k < l.length) (h : rowOk l st k = false) : mayB l st = false := by
  cases hm : mayB l st with
  | false => rfl
  | true =>
    simp only [mayB, Bool.and_eq_true, List.all_eq_true, List.mem_range] at hm
    rw [hm.2 k hk] at h; cases h
theorem mayB_yes {l : LL} {st : List Int} (h : l.length = st.length) (hb : ∀ j, j < l.length → rowOk l st j = true) : mayB l st = true := by
  simp only [mayB, Bool.and_eq_true, List.all_eq_true, List.mem_range, decide_eq_true_eq]
  exact ⟨h, hb⟩
theorem mayB_in {l : LL} {st : List Int} (h : mayB l st = true) : l.length = st.length ∧ (∀ i, i < st.length → 0 ≤ st.getD i 0 ∧ st.getD i 0 ≤ 5) ∧ ∀ r ∈ l, ∀ n ∈ r, 0 ≤ n ∧ n < l.length := by
  simp only [mayB, Bool.and_eq_true, List.all_eq_true, List.mem_range, decide_eq_true_eq] at h
  refine ⟨h.1, fun i hi => ?_, fun r hr n hn => ?_⟩
  · have := h.2 i (by omega)
    simp only [rowOk, Bool.and_eq_true, decide_eq_true_eq] at this
    exact this.1
  · obtain ⟨i, hi, rfl⟩ := List.mem_iff_getElem.1 hr
    have := h.2 i hi
    simp only [rowOk, Bool.and_eq_true, decide_eq_true_eq, Bool.not_eq_true', List.any_eq_false] at this
    have := this.2 n (by simpa [List.getD, hi] using hn)
    simp at this
    omega

theorem rowOk_eq (l : LL) (st : List Int) (i : Nat) : rowOk l st i = !((decide ((st.getD i 0) < 0)) || ((decide ((5 : Int) < (st.getD i 0))) || ((l.getD i []).any fun n => decide (n < 0) || decide ((l.length : Int) ≤ n)))) := by
  unfold rowOk
  rw [Bool.eq_iff_iff]
  simp only [Bool.and_eq_true, Bool.not_eq_true', Bool.or_eq_false_iff, decide_eq_true_eq, decide_eq_false_iff_not, Int.not_lt]
  exact ⟨fun h => ⟨h.1.1, h.1.2, h.2⟩, fun h => ⟨⟨h.1, h.2.1⟩, h.2.2⟩⟩
def letsB (s : Int) : Bool := decide (s = 0) || decide (s = 3)
def blocksB (s : Int) : Bool := decide (s = 4) || decide (s = 5)
def cntI (w : Int) (xs : List Int) : Nat := xs.countP (· == w)
theorem cntI_step {w : Int} {xs : List Int} {k : Nat} (hk : k < xs.length) : cntI w (xs.take (k + 1)) = cntI w (xs.take k) + if xs.getD k 0 = w then 1 else 0 := by
  unfold cntI
  rw [List.take_add_one, List.countP_append]
  simp [List.getD, hk, Option.toList]
theorem cntI_le (w : Int) (xs : List Int) (k : Nat) : cntI w (xs.take k) ≤ k := by
  unfold cntI
  exact Nat.le_trans List.countP_le_length (by simp; omega)
def greatB (l : LL) : Bool := decide (60 < l.length) || l.any fun r => decide (100 < r.length)
theorem greatB_row {l : LL} {k : Nat} (hk : k < l.length) (h : 100 < (l.getD k []).length) : greatB l = true := by
  simp only [greatB, Bool.or_eq_true, List.any_eq_true, decide_eq_true_eq]
  exact .inr ⟨_, row_mem hk, h⟩
theorem greatB_len {l : LL} (h : 60 < l.length) : greatB l = true := by simp [greatB, h]
theorem greatB_no {l : LL} (h0 : ¬ 60 < l.length) (hb : ∀ j, j < l.length → (l.getD j []).length ≤ 100) : greatB l = false := by
  simp only [greatB, Bool.or_eq_false_iff, decide_eq_false_iff_not, List.any_eq_false, decide_eq_true_eq]
  refine ⟨h0, fun r hr => ?_⟩
  obtain ⟨i, hi, rfl⟩ := List.mem_iff_getElem.1 hr
  have := hb i hi
  simp [List.getD, hi] at this
  omega
theorem greatB_in {l : LL} (h : greatB l = false) : l.length ≤ 60 ∧ ∀ r ∈ l, r.length ≤ 100 := by
  simp only [greatB, Bool.or_eq_false_iff, decide_eq_false_iff_not, List.any_eq_false, decide_eq_true_eq] at h
  exact ⟨by omega, fun r hr => by have := h.2 r hr; omega⟩
theorem list_eq {xs ys : List Int} (hl : xs.length = ys.length) (h : ∀ j, j < xs.length → xs.getD j 0 = ys.getD j 0) : xs = ys := by
  apply List.ext_getElem hl
  intro i h1 h2
  have := h i h1
  simpa [List.getD, h1, h2] using this
theorem list_ne {xs ys : List Int} {k : Nat} (h : ¬ xs.getD k 0 = ys.getD k 0) : decide (xs = ys) = false := decide_eq_false fun e => h (by rw [e])
theorem list_ne_len {xs ys : List Int} (h : ¬ xs.length = ys.length) : decide (xs = ys) = false := decide_eq_false fun e => h (by rw [e])
/-- The places that f lets, rising. -/
def sel (f : Nat → Bool) (n : Nat) : List Int := ((List.range n).filter f).map Int.ofNat
theorem sel_zero (f : Nat → Bool) : sel f 0 = [] := rfl
theorem sel_no {f : Nat → Bool} {n : Nat} (h : f n = false) : sel f (n + 1) = sel f n := by simp [sel, List.range_succ, List.filter_append, h]
theorem sel_yes {f : Nat → Bool} {n : Nat} (h : f n = true) : sel f (n + 1) = sel f n ++ [(n : Int)] := by simp [sel, List.range_succ, List.filter_append, h]
theorem sel_len (f : Nat → Bool) (n : Nat) : (sel f n).length ≤ n := by
  unfold sel
  rw [List.length_map]
  exact Nat.le_trans (List.length_filter_le _ _) (by simp)
theorem sel_mem {f : Nat → Bool} {n : Nat} {x : Int} : x ∈ sel f n ↔ ∃ i : Nat, x = i ∧ i < n ∧ f i = true := by
  simp only [sel, List.mem_map, List.mem_filter, List.mem_range]
  exact ⟨fun ⟨i, h, e⟩ => ⟨i, e.symm, h⟩, fun ⟨i, e, h⟩ => ⟨i, h, e.symm⟩⟩
/-- Who is waiting and lets go. -/
def pickF (Q : List Int → (Int → Bool) → Bool) (is : Int → Bool) (l : LL) (st : List Int) (i : Nat) : Bool := (decide ((st.getD i 0) = 1)) && (Q (l.getD i []) fun x => is (st.getD x.toNat 0))
theorem any_no {p : Int → Bool} {xs : List Int} (h : ∀ j, j < xs.length → p (xs.getD j 0) = false) : xs.any p = false := by
  rw [List.any_eq_false]
  intro x hx
  obtain ⟨j, hj, rfl⟩ := List.mem_iff_getElem.1 hx
  have := h j hj
  simpa [List.getD, hj] using this
theorem any_yes {p : Int → Bool} {xs : List Int} {k : Nat} (hk : k < xs.length) (h : p (xs.getD k 0) = true) : xs.any p = true :=
  List.any_eq_true.2 ⟨_, getD_mem hk, h⟩
def hasB (w : Int) (xs : List Int) : Bool := xs.any fun x => decide (w = x)
def overB (st : List Int) : Bool := (!(hasB 1 st)) && (!(hasB 2 st))
theorem cntI_all (w : Int) (xs : List Int) : cntI w xs ≤ xs.length := List.countP_le_length
theorem cntI_take {w : Int} {xs : List Int} {k : Nat} (h : xs.length ≤ k) : cntI w (xs.take k) = cntI w xs := by rw [List.take_of_length_le h]
theorem rows_eq {l m : LL} (hl : l.length = m.length) (h : ∀ j, j < l.length → l.getD j [] = m.getD j []) : l = m := by
  apply List.ext_getElem hl
  intro i h1 h2
  have := h i h1
  simpa [List.getD, h1, h2] using this
theorem rowOk_bad {l : LL} {st : List Int} {k : Nat} (h : ((l.getD k []).any fun x => (decide (x < 0)) || (decide ((l.length : Int) ≤ x))) = true) : rowOk l st k = false := by
  rw [rowOk_eq, h, Bool.or_true, Bool.or_true]; rfl
theorem rowOk_st {l : LL} {st : List Int} {k : Nat} (h : st.getD k 0 < 0 ∨ 5 < st.getD k 0) : rowOk l st k = false := by
  rw [rowOk_eq]
  rcases h with h | h
  · rw [decide_eq_true h]; rfl
  · rw [decide_eq_true (p := (5 : Int) < st.getD k 0) h, Bool.true_or, Bool.or_true]; rfl
theorem rowOk_yes {l : LL} {st : List Int} {k : Nat} (h : ¬ (st.getD k 0 < 0 ∨ 5 < st.getD k 0)) (h2 : ((l.getD k []).any fun x => (decide (x < 0)) || (decide ((l.length : Int) ≤ x))) = false) : rowOk l st k = true := by
  rw [rowOk_eq, h2, decide_eq_false (fun x => h (.inl x)), decide_eq_false (fun x => h (.inr x))]; rfl
theorem rows_ne {l m : LL} {k : Nat} (h : ¬ l.getD k [] = m.getD k []) : decide (l = m) = false := decide_eq_false fun e => h (by rw [e])
theorem any_all (p : Int → Bool) : ∀ xs : List Int, (!(xs.any fun x => !p x)) = xs.all p
  | [] => rfl
  | x :: r => by
    have := any_all p r
    simp only [List.any_cons, List.all_cons, Bool.not_or, Bool.not_not, this]
end Go.Vc
