/-
  Chapter 12, plain: attributes. Own work.
-/
import Derived.Test.YtdmjgmleilgbpaaDoorSubPlain3
namespace Go.Proofs.YtdmjgmleilgbpaaDoor
open Go Go.Vc

def attrS (s : List UInt8) : Bool := match s.findIdx? (· == 46) with
  | some i => decide (s.take i = [79, 117, 116, 112, 117, 116, 115]) && nameS (s.drop (i + 1))
  | none => nameS s
theorem attr_ref {n : Nat} {s : List UInt8} (hn : s.length < n) (hs : s.length < 1000000) : ref12_Attr n s = some (attrS s) := by
  unfold ref12_Attr attrS
  rw [dot_ref hn hs, bnd]
  cases h : s.findIdx? (· == 46) with
  | none =>
    show (bif decide ((-1 : Int) < 0) then _ else _) = some (nameS s)
    rw [decide_eq_true (by omega), cT, name_ref hn hs, bnd]
  | some i =>
    have hi : i < s.length := by
      obtain ⟨h1, _⟩ := List.findIdx?_eq_some_iff_getElem.1 h
      exact h1
    show (bif decide (((i : Nat) : Int) < 0) then _ else _) = some (decide (s.take i = [79, 117, 116, 112, 117, 116, 115]) && nameS (s.drop (i + 1)))
    dsimp only
    rw [decide_eq_false (by omega), cF, need_t (by omega)]
    rw [Int.toNat_natCast]
    by_cases h2 : s.take i = [79, 117, 116, 112, 117, 116, 115]
    · rw [decide_eq_true h2, cT, need_i (by omega) (by omega), need_t (by omega)]
      have e : ((i : Nat) : Int) + 1 = ((i + 1 : Nat) : Int) := by omega
      rw [e, Int.toNat_natCast, name_ref (by rw [List.length_drop]; omega) (by rw [List.length_drop]; omega), bnd, Bool.true_and]
    · rw [decide_eq_false h2, cF, Bool.false_and]
theorem nameS_dot {s : List UInt8} (h : (46 : UInt8) ∈ s) : nameS s = false := by
  have : (s.all fun c => isL c || isD c) = false := by
    rw [List.all_eq_false]
    exact ⟨46, h, by decide⟩
  simp only [nameS, this, Bool.and_false]
end Go.Proofs.YtdmjgmleilgbpaaDoor
