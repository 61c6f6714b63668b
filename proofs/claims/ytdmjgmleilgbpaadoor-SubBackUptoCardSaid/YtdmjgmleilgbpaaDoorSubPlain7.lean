/-
  Chapter 12, plain: where holes begin. Own work.
-/
import Derived.Test.YtdmjgmleilgbpaaDoorSubPlain6
namespace Go.Proofs.YtdmjgmleilgbpaaDoor
open Go Go.Vc

theorem etaE (x : T_api_Expr) : (⟨x.fKind, x.fText, x.fNum, x.fName, x.fAttr, x.fL⟩ : T_api_Expr) = x := by cases x; rfl
def isStart (s : List UInt8) (k : Nat) : Bool := decide (s.getD k 0 = 36 ∧ (s.drop (k + 1)).head? = some 123)
theorem start_ref {s : List UInt8} {k : Nat} (hk : k < s.length) (hs : s.length < 1000000) :
    ((getI s (k : Int)).bind fun c_1 =>
        bif (!(decide (((c_1).toNat : Int) = 36))) then
          (some ((true)))
        else
          need (inR .i64 ((k : Int) + 1)) <|
          bif (decide ((s.length : Int) ≤ ((k : Int) + 1))) then
            (some ((true)))
          else
            need (inR .i64 ((k : Int) + 1)) <|
            (getI s ((k : Int) + 1)).bind fun c_2 =>
            some ((!(decide (((c_2).toNat : Int) = 123))))) = some (!isStart s k) := by
  unfold isStart
  rw [getI_at 0 hk, bnd, byteEq _ 36 36 rfl]
  by_cases h : s.getD k 0 = 36
  · rw [h, beq_self_eq_true, Bool.not_true, cF, need_i (by omega) (by omega)]
    by_cases h2 : s.length ≤ k + 1
    · rw [decide_eq_true (by omega), cT, List.drop_eq_nil_of_le h2]
      rfl
    · have e : (k : Int) + 1 = ((k + 1 : Nat) : Int) := by omega
      rw [decide_eq_false (by omega), cF, need_i (by omega) (by omega), e, getI_at 0 (by omega), bnd, byteEq _ 123 123 rfl]
      have e2 : (s.drop (k + 1)).head? = some (s.getD (k + 1) 0) := by
        rw [List.head?_drop]
        simp [List.getD, show k + 1 < s.length by omega]
      rw [e2]
      congr 2
      rw [Bool.eq_iff_iff, beq_iff_eq, decide_eq_true_iff]
      simp
  · rw [show (s.getD k 0 == (36 : UInt8)) = false by simpa using h, Bool.not_false, cT, decide_eq_false (fun h2 => h h2.1)]
    rfl
theorem drop_at {s : List UInt8} {k : Nat} (hk : k < s.length) : s.drop k = s.getD k 0 :: s.drop (k + 1) := by
  rw [List.drop_eq_getElem_cons hk]
  simp [List.getD, hk]
theorem start_shape {s : List UInt8} {k : Nat} (hk : k < s.length) (h : isStart s k = true) : k + 1 < s.length ∧ s.drop k = 36 :: 123 :: s.drop (k + 2) := by
  unfold isStart at h
  obtain ⟨h1, h2⟩ := of_decide_eq_true h
  have h3 : k + 1 < s.length := by
    by_cases h3 : k + 1 < s.length
    · exact h3
    · rw [List.drop_eq_nil_of_le (by omega)] at h2
      cases h2
  refine ⟨h3, ?_⟩
  rw [drop_at hk, h1, drop_at h3] at *
  simp only [List.head?_cons, Option.some.injEq] at h2
  rw [h2]
theorem prs_at {s : List UInt8} {k : Nat} (hk : k < s.length) (h : isStart s k = false) : prs (s.drop k) = add (.tx [s.getD k 0]) 1 (prs (s.drop (k + 1))) := by
  rw [drop_at hk, prs_ch (of_decide_eq_false h)]
theorem take_drop_at {s : List UInt8} {k e : Nat} : (s.take (k + e)).drop k = (s.drop k).take e := by
  rw [List.drop_take]
  congr 1
  omega
theorem head_take {l : List UInt8} {i : Nat} (hi : l.findIdx? (· == 125) = some i) : (l.take i).head? = some 33 ↔ l.head? = some 33 := by
  cases l with
  | nil => cases hi
  | cons c r =>
    cases i with
    | zero =>
      rw [List.findIdx?_cons] at hi
      have : c = 125 := by
        by_cases h : (c == 125) = true
        · simpa using h
        · rw [if_neg h] at hi
          cases h2 : r.findIdx? (· == 125) with
          | none => rw [h2] at hi; cases hi
          | some j => rw [h2] at hi; simp at hi
      subst this
      simp
    | succ i => simp

end Go.Proofs.YtdmjgmleilgbpaaDoor
