/-
  Chapter 21: what the shallow readings compute. Own work.
-/
import Derived.Test.YtfdmlionhbeebaaQ4
import Derived.Test.YtfdmlionhbeebaaVp
import Derived.Test.YtfdmlionhbeebaaRdyTurned
namespace Go.Proofs.Ytfdmlionhbeebaa
open Go Go.Vc

theorem great_eq {n : Nat} (l : LL) (hn : 60 < n) : ref21_Great n l = some (greatB l) := by
  unfold ref21_Great greatB
  by_cases h : 60 < l.length
  · have h' : (60 : Int) < (l.length : Int) := by omega
    simp [h, h']
  · have h' : ¬ (60 : Int) < (l.length : Int) := by omega
    have hs : ∀ k : Nat, k < l.length → ref21_Great_s1 n l (k : Int) = if (decide (100 < (l.getD k []).length)) = true then some (.br (.inl ())) else some (.nx ((k : Int) + 1)) := fun k hk => by
      unfold ref21_Great_s1
      rw [getI_at [] hk, decide_eq_true (by omega : (k : Int) < l.length)]
      simp only [bnd, cT]
      rw [need_i (by omega) (by omega), cond_ite]
      by_cases hq : 100 < (l.getD k []).length
      · have : (100 : Int) < ((l.getD k []).length : Int) := by omega
        rw [decide_eq_true hq, decide_eq_true this]
      · have : ¬ (100 : Int) < ((l.getD k []).length : Int) := by omega
        rw [decide_eq_false hq, decide_eq_false this]
    have he : ref21_Great_s1 n l (l.length : Int) = some (.br (.inr ())) := by unfold ref21_Great_s1; simp
    rw [loop_any _ _ _ _ hs he (by omega), any_range [] (fun r : List Int => decide (100 < r.length))]
    simp only [decide_eq_false h', decide_eq_false h, cF, Bool.false_or, bnd]
    cases l.any fun r => decide (100 < r.length) <;> rfl

theorem count_eq {n : Nat} (st : List Int) (q : Int) (hn : st.length < n) (hb : st.length ≤ 1000) : ready_Count n st q = some (cntI q st : Int) := by
  have hs : ∀ k, k < st.length → ready_Count_s1 n st q ((cntI q (st.take k) : Int), (k : Int)) = some (.nx ((cntI q (st.take (k + 1)) : Int), ((k + 1 : Nat) : Int))) := fun k hk => by
    unfold ready_Count_s1
    have hc := cntI_le q st k
    have hs := cntI_step (w := q) hk
    simp only [decide_eq_true (by omega : (k : Int) < st.length), cT, getI_at 0 hk, bnd]
    by_cases e : st.getD k 0 = q
    · simp only [e, decide_true, cT]
      rw [need_i (by omega) (by omega), need_i (by omega) (by omega)]
      rw [if_pos e] at hs
      rw [hs]; rfl
    · simp only [e, decide_false, cF]
      rw [need_i (by omega) (by omega)]
      rw [if_neg e] at hs
      rw [hs]; rfl
  have he : ready_Count_s1 n st q ((cntI q (st.take st.length) : Int), (st.length : Int)) = some (.br (cntI q st : Int)) := by
    unfold ready_Count_s1; simp
  have hl : loopF (ready_Count_s1 n st q) n ((0 : Int), (0 : Int)) = some (cntI q st : Int) := loop_all (fun k => ((cntI q (st.take k) : Int), (k : Int))) _ _ hs he hn
  unfold ready_Count
  rw [hl]; rfl
theorem ints_loop {n : Nat} (xs ys : List Int) (hl : xs.length = ys.length) (hn : xs.length < n) (hb : xs.length ≤ 1000) : loopF (ref21_Ints_s1 n xs ys) n 0 = some (bif (!decide (xs = ys)) then .inl () else .inr ()) := by
  have hs : ∀ k : Nat, k < xs.length → ref21_Ints_s1 n xs ys (k : Int) = if (!decide (xs.getD k 0 = ys.getD k 0)) = true then some (.br (.inl ())) else some (.nx ((k : Int) + 1)) := fun k hk => by
    unfold ref21_Ints_s1
    simp only [decide_eq_true (by omega : (k : Int) < xs.length), cT, getI_at 0 hk, getI_at (xs := ys) 0 (by omega : k < ys.length), bnd]
    rw [need_i (by omega) (by omega), cond_ite]
  have he : ref21_Ints_s1 n xs ys (xs.length : Int) = some (.br (.inr ())) := by unfold ref21_Ints_s1; simp
  rw [loop_any _ _ _ _ hs he hn, any_neq 0 hl]
theorem ints_eq {n : Nat} (xs ys : List Int) (hn : xs.length < n) (hb : xs.length ≤ 1000) : ref21_Ints n xs ys = some (decide (xs = ys)) := by
  unfold ref21_Ints
  by_cases hl : xs.length = ys.length
  · rw [ints_loop xs ys hl hn hb, decide_eq_true (by omega : (xs.length : Int) = ys.length)]
    simp only [Bool.not_true, cF, bnd]
    cases decide (xs = ys) <;> rfl
  · have : ¬ ((xs.length : Int) = (ys.length : Int)) := by omega
    have h2 : ¬ xs = ys := fun e => hl (by rw [e])
    simp [this, h2]
theorem states_eq {n : Nat} (xs ys : List Int) (hn : xs.length < n) (hb : xs.length ≤ 1000) : ref21_States n xs ys = some (decide (xs = ys)) := by
  have h1 : ref21_States n xs ys = ref21_Ints n xs ys := rfl
  rw [h1, ints_eq xs ys hn hb]
/-- Small enough for all that follows. -/
structure Sm (l : LL) : Prop where
  len : l.length ≤ 100
  row : ∀ r ∈ l, r.length ≤ 100
theorem Sm.great {l : LL} (h : greatB l = false) : Sm l := ⟨by have := (greatB_in h).1; omega, (greatB_in h).2⟩
theorem Sm.turned {l : LL} (h : Sm l) : Sm (turnedL l) := ⟨by rw [turned_len]; exact h.len, fun r hr => by
  obtain ⟨k, rfl⟩ := turned_row (l := l) hr
  exact Nat.le_trans (sel_len _ _) h.len⟩
theorem Sm.at_ {l : LL} (h : Sm l) (k : Nat) : (l.getD k []).length ≤ 100 := by
  by_cases hk : k < l.length
  · exact h.row _ (row_mem hk)
  · simp [List.getD, List.getElem?_eq_none (Nat.le_of_not_lt hk)]
theorem turned_eq {n : Nat} {l : LL} (h : Sm l) : deps_Turned n l = some (turnedL l) :=
  need_t ⟨by have := h.len; omega, fun r hr => by have := h.row r hr; omega⟩
end Go.Proofs.Ytfdmlionhbeebaa
