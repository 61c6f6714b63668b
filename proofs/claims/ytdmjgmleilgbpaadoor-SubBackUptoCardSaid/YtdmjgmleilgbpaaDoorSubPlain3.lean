/-
  Chapter 12, plain: cutting at one byte. Own work.
-/
import Derived.Test.YtdmjgmleilgbpaaDoorSubPlain2
import Derived.Lib.IndexLaws
namespace Go.Proofs.YtdmjgmleilgbpaaDoor
open Go Go.Vc

theorem index_one (c : UInt8) : ∀ s : List UInt8, Lib.index s [c] = match s.findIdx? (· == c) with | some i => ((i : Nat) : Int) | none => -1
  | [] => by simp [Lib.index]
  | x :: s => by
    have ih := index_one c s
    rw [List.findIdx?_cons]
    by_cases h : x = c
    · subst h
      simp [Lib.index]
    · have h1 : (x == c) = false := by simpa using h
      have h2 : ¬ c = x := fun e => h e.symm
      simp only [h1, Bool.false_eq_true, if_false]
      simp [Lib.index, h2, ih]
      cases s.findIdx? (· == c) <;> simp
theorem cut_one (c : UInt8) (s : List UInt8) : Lib.cut s [c] = match s.findIdx? (· == c) with | some i => (s.take i, s.drop (i + 1), true) | none => (s, [], false) := by
  unfold Lib.cut
  rw [index_one]
  cases s.findIdx? (· == c) with
  | none => rfl
  | some i =>
    show (if 0 ≤ ((i : Nat) : Int) then _ else _) = _
    rw [if_pos (by omega)]
    simp
theorem hole_cut {n : Nat} {s : List UInt8} (c : UInt8) (hs : s.length < 1000000) : h_Cut n s [c] = some (match s.findIdx? (· == c) with | some i => (s.take i, s.drop (i + 1), true) | none => (s, [], false)) := by
  unfold h_Cut
  rw [need_t (by omega), cut_one]
end Go.Proofs.YtdmjgmleilgbpaaDoor
