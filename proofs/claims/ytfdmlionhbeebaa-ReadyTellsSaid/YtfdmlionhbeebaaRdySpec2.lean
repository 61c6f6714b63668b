/-
  Chapter 21: what the shallow readings compute, part 2. Own work.
-/
import Derived.Test.YtfdmlionhbeebaaRdySpec
namespace Go.Proofs.Ytfdmlionhbeebaa
open Go Go.Vc

/-- ContainsFunc, by what its function computes. -/
theorem contains_of {n : Nat} {xs : List Int} {q : Int → Bool} {step : Int → Option (Lp Int (Sum Int Unit))} (hn : xs.length < n)
    (hs : ∀ k : Nat, k < xs.length → step (k : Int) = if q (xs.getD k 0) = true then some (.br (.inl (k : Int))) else some (.nx ((k : Int) + 1))) (he : step (xs.length : Int) = some (.br (.inr ()))) :
    (((loopF step n 0).bind fun b_1 => match b_1 with | .inl y => some y | .inr _ => some (-1 : Int)).bind fun x => some (decide ((0 : Int) ≤ x))) = some (xs.any q) := by
  have := loop_run (n := n) (fun k : Nat => (k : Int)) (fun k => if q (xs.getD k 0) = true then some (.inl (k : Int)) else none) xs.length (.inr () : Sum Int Unit) (fun k hk => by
    rw [hs k hk]
    by_cases h : q (xs.getD k 0) = true
    · rw [if_pos h, if_pos h]
    · rw [if_neg h, if_neg h]; rfl) he hn
  have e0 : ((0 : Nat) : Int) = 0 := rfl
  simp only [e0] at this
  rw [this, bnd]
  have ha := any_range (0 : Int) q xs
  cases h : xs.any q with
  | true =>
    rw [h] at ha
    cases h2 : (List.range xs.length).findSome? (fun k => if q (xs.getD k 0) = true then some (Sum.inl (k : Int) : Sum Int Unit) else none) with
    | some x =>
      obtain ⟨k, hk, hxx⟩ := List.exists_of_findSome?_eq_some h2
      by_cases hq : q (xs.getD k 0) = true
      · rw [if_pos hq] at hxx
        cases hxx
        simp
      · rw [if_neg hq] at hxx; cases hxx
    | none =>
      rw [List.findSome?_eq_none_iff] at h2
      obtain ⟨k, hk, hq⟩ := List.any_eq_true.1 ha
      have := h2 k hk
      rw [if_pos hq] at this; cases this
  | false =>
    rw [h] at ha
    have : (List.range xs.length).findSome? (fun k => if q (xs.getD k 0) = true then some (Sum.inl (k : Int) : Sum Int Unit) else none) = none := by
      rw [List.findSome?_eq_none_iff]
      intro k hk
      have := List.any_eq_false.1 ha k hk
      rw [if_neg this]
    rw [this]; rfl

theorem may1_eq {n : Nat} (x : Int) (l : LL) : ready_May_1 n x l = some (decide (x < 0) || decide ((l.length : Int) ≤ x)) := by
  unfold ready_May_1
  cases decide (x < 0) <;> simp
theorem mayC_eq {n : Nat} (xs : List Int) (l : LL) (hx : xs.length ≤ 100) (hn : 100 < n) : slices_ContainsFuncint_int n xs l = some (xs.any fun x => decide (x < 0) || decide ((l.length : Int) ≤ x)) := by
  unfold slices_ContainsFuncint_int slices_IndexFuncint_int
  refine contains_of (q := fun x => decide (x < 0) || decide ((l.length : Int) ≤ x)) (by omega) (fun k hk => ?_) ?_
  · unfold slices_IndexFuncint_int_s1
    simp only [decide_eq_true (by omega : (k : Int) < xs.length), cT, getI_at 0 hk, bnd, may1_eq]
    rw [need_i (by omega) (by omega), cond_ite]
  · unfold slices_IndexFuncint_int_s1; simp
theorem may_eq {n : Nat} (l : LL) (st : List Int) (h : Sm l) (hn : 100 < n) : ready_May n l st = some (mayB l st) := by
  unfold ready_May
  have hlen := h.len
  by_cases hl : l.length = st.length
  · have hs : ∀ k : Nat, k < l.length → ready_May_s1 n l st (k : Int) = if (!rowOk l st k) = true then some (.br (.inl ())) else some (.nx ((k : Int) + 1)) := fun k hk => by
      unfold ready_May_s1
      simp only [decide_eq_true (by omega : (k : Int) < l.length), cT, getI_at [] hk, getI_at (xs := st) 0 (by omega : k < st.length), bnd, mayC_eq _ l (h.at_ k) hn]
      rw [need_i (by omega) (by omega), rowOk_eq, Bool.not_not]
      cases decide (st.getD k 0 < 0) with
      | true => rfl
      | false =>
        cases decide ((5 : Int) < st.getD k 0) with
        | true => rfl
        | false =>
          simp only [cF, Bool.false_or]
          rw [cond_ite]
    have he : ready_May_s1 n l st (l.length : Int) = some (.br (.inr ())) := by unfold ready_May_s1; simp
    rw [loop_any _ _ _ _ hs he (by omega), decide_eq_true (by omega : (l.length : Int) = st.length)]
    simp only [Bool.not_true, cF, bnd]
    unfold mayB
    rw [decide_eq_true hl, Bool.true_and]
    have : ((List.range l.length).any fun k => !rowOk l st k) = !((List.range l.length).all (rowOk l st)) := by
      rw [List.not_all_eq_any_not]
    rw [this]
    cases (List.range l.length).all (rowOk l st) <;> rfl
  · have h1 : ¬ ((l.length : Int) = (st.length : Int)) := by omega
    rw [decide_eq_false h1, mayB_len hl]; rfl

theorem hasC_eq {n : Nat} (st : List Int) (q : Int) (hx : st.length ≤ 100) (hn : 100 < n) : slices_Containsint8_int8 n st q = some (hasB q st) := by
  unfold slices_Containsint8_int8 slices_Indexint8_int8 hasB
  refine contains_of (q := fun x => decide (q = x)) (by omega) (fun k hk => ?_) ?_
  · unfold slices_Indexint8_int8_s1
    simp only [decide_eq_true (by omega : (k : Int) < st.length), cT, getI_at 0 hk, bnd]
    rw [need_i (by omega) (by omega), cond_ite]
  · unfold slices_Indexint8_int8_s1; simp
theorem over_eq {n : Nat} (st : List Int) (hx : st.length ≤ 100) (hn : 100 < n) : ready_Over n st = some (overB st) := by
  unfold ready_Over overB
  rw [hasC_eq st 1 hx hn, bnd, hasC_eq st 2 hx hn]
  cases hasB 1 st <;> simp

theorem every_eq {n : Nat} (xs st : List Int) (hx : xs.length ≤ 100) (hin : ∀ x ∈ xs, 0 ≤ x ∧ x < st.length) (hn : 100 < n) : ready_every n xs st = some (allQ xs fun x => letsB (st.getD x.toNat 0)) := by
  have hc : slices_ContainsFuncint_int_2 n xs st = some (xs.any fun x => !letsB (st.getD x.toNat 0)) := by
    unfold slices_ContainsFuncint_int_2 slices_IndexFuncint_int_2
    refine contains_of (q := fun x => !letsB (st.getD x.toNat 0)) (by omega) (fun k hk => ?_) ?_
    · have hm := hin _ (getD_mem hk)
      unfold slices_IndexFuncint_int_2_s1 ready_every_1 ready_over_1 ready_lets
      simp only [decide_eq_true (by omega : (k : Int) < xs.length), cT, getI_at 0 hk, bnd, getI_in 0 hm.1 hm.2]
      rw [need_i (by omega) (by omega), cond_ite]
      unfold letsB
      cases decide (st.getD (xs.getD k 0).toNat 0 = 0) <;> simp
    · unfold slices_IndexFuncint_int_2_s1; simp
  unfold ready_every
  rw [hc, bnd, any_all]; rfl
theorem some_eq {n : Nat} (xs st : List Int) (hx : xs.length ≤ 100) (hin : ∀ x ∈ xs, 0 ≤ x ∧ x < st.length) (hn : 100 < n) : ready_some n xs st = some (anyQ xs fun x => blocksB (st.getD x.toNat 0)) := by
  have hc : slices_ContainsFuncint_int_3 n xs st = some (xs.any fun x => blocksB (st.getD x.toNat 0)) := by
    unfold slices_ContainsFuncint_int_3 slices_IndexFuncint_int_3
    refine contains_of (q := fun x => blocksB (st.getD x.toNat 0)) (by omega) (fun k hk => ?_) ?_
    · have hm := hin _ (getD_mem hk)
      unfold slices_IndexFuncint_int_3_s1 ready_over_1_2 ready_blocks
      simp only [decide_eq_true (by omega : (k : Int) < xs.length), cT, getI_at 0 hk, bnd, getI_in 0 hm.1 hm.2]
      rw [need_i (by omega) (by omega), cond_ite]
      unfold blocksB
      cases decide (st.getD (xs.getD k 0).toNat 0 = 4) <;> simp
    · unfold slices_IndexFuncint_int_3_s1; simp
  unfold ready_some
  rw [hc, bnd]; rfl

/-- The places that are let, by a loop that looks at each. -/
theorem sel_loop {n : Nat} {F : Nat → Bool} {len : Nat} {step : List Int × Int → Option (Lp (List Int × Int) (List Int))} (hl : len ≤ 100) (hn : 100 < n)
    (hs : ∀ (k : Nat) (r : List Int), k < len → r.length ≤ k → step (r, (k : Int)) = if F k = true then some (.nx (r ++ [(k : Int)], (k : Int) + 1)) else some (.nx (r, (k : Int) + 1)))
    (he : ∀ r, step (r, (len : Int)) = some (.br r)) : loopF step n ([], 0) = some (sel F len) := by
  refine loop_all (fun k : Nat => (sel F k, (k : Int))) len (sel F len) (fun k hk => ?_) (he _) (by omega)
  show step (sel F k, (k : Int)) = _
  rw [hs k _ hk (sel_len F k)]
  cases h : F k with
  | true => rw [sel_yes h]; rfl
  | false => rw [sel_no h]; rfl
theorem overL_eq {n : Nat} (l : LL) (st : List Int) (h : Sm l) (hl : l.length = st.length) (hin : ∀ r ∈ l, ∀ x ∈ r, 0 ≤ x ∧ x < st.length) (hn : 100 < n) : ready_over n l st = some (sel (pickF allQ letsB l st) st.length) := by
  unfold ready_over
  have hlen := h.len
  rw [sel_loop (F := pickF allQ letsB l st) (len := st.length) (by omega) hn (fun k r hk hr => ?_) (fun r => ?_)]
  · rfl
  · unfold ready_over_s1 pickF
    simp only [decide_eq_true (by omega : (k : Int) < st.length), cT, getI_at 0 hk, getI_at (xs := l) [] (by omega : k < l.length), bnd, every_eq _ st (h.at_ k) (hin _ (row_mem (by omega))) hn]
    have hi : inR .i64 ((k : Int) + 1) := inR_small (by omega) (by omega)
    have hj : (r.length + 1) * 8 ≤ 140737488355328 := by omega
    simp only [need_t hi, need_t hj]
    cases decide (st.getD k 0 = 1) with
    | false => rfl
    | true =>
      simp only [cT, bnd, Bool.true_and]
      rw [cond_ite]
  · unfold ready_over_s1; simp
theorem overB_eq {n : Nat} (l : LL) (st : List Int) (h : Sm l) (hl : l.length = st.length) (hin : ∀ r ∈ l, ∀ x ∈ r, 0 ≤ x ∧ x < st.length) (hn : 100 < n) : ready_over_2 n l st = some (sel (pickF anyQ blocksB l st) st.length) := by
  unfold ready_over_2
  have hlen := h.len
  rw [sel_loop (F := pickF anyQ blocksB l st) (len := st.length) (by omega) hn (fun k r hk hr => ?_) (fun r => ?_)]
  · rfl
  · unfold ready_over_2_s1 pickF
    simp only [decide_eq_true (by omega : (k : Int) < st.length), cT, getI_at 0 hk, getI_at (xs := l) [] (by omega : k < l.length), bnd, some_eq _ st (h.at_ k) (hin _ (row_mem (by omega))) hn]
    have hi : inR .i64 ((k : Int) + 1) := inR_small (by omega) (by omega)
    have hj : (r.length + 1) * 8 ≤ 140737488355328 := by omega
    simp only [need_t hi, need_t hj]
    cases decide (st.getD k 0 = 1) with
    | false => rfl
    | true =>
      simp only [cT, bnd, Bool.true_and]
      rw [cond_ite]
  · unfold ready_over_2_s1; simp
theorem ways_eq {n : Nat} (l : LL) (b : Bool) (h : Sm l) : ready_ways n l b = some (wayL l b) := by
  unfold ready_ways wayL
  rw [turned_eq h]
  cases b <;> rfl
theorem Sm.way {l : LL} (h : Sm l) (b : Bool) : Sm (wayL l b) := by
  cases b with
  | false => exact h
  | true => exact h.turned
theorem ready_eq {n : Nat} (l : LL) (st : List Int) (b : Bool) (h : Sm l) (hn : 100 < n) : ready_Ready n l st b = some (readyR l st b, bif mayB l st then 0 else 2) := by
  unfold ready_Ready readyR
  rw [may_eq l st h hn, bnd]
  cases hm : mayB l st with
  | false => rfl
  | true =>
    simp only [Bool.not_true, cF, cT]
    rw [ways_eq l b h, bnd, overL_eq _ st (h.way b) (by rw [wayL_len]; exact (mayB_in hm).1) (way_in hm) hn]
    rfl
end Go.Proofs.Ytfdmlionhbeebaa
