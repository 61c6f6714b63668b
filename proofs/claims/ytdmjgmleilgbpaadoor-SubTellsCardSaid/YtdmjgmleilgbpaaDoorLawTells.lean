/-
  Chapter 12, plain: SubTells. Own work.
-/
import Derived.Test.YtdmjgmleilgbpaaDoorSubLaws1
import Derived.Test.YtdmjgmleilgbpaaDoorLTells
namespace Go.Proofs.YtdmjgmleilgbpaaDoor
open Go Go.Vc

theorem tells_law (n : Nat) (hn : 200000 ≤ n) (s : List UInt8) : law12_SubTells n s = some true := by
  unfold law12_SubTells
  by_cases h : 5000 < s.length
  · rw [decide_eq_true (by omega), cT, wakes_t (by omega), bnd]
  · have hl := lexS_len s
    rw [decide_eq_false (by omega), cF, lex_sub (by omega) (by omega), bnd, lex_ref (by omega) (by omega), bnd, same_t (by omega) _ (by omega) (lexS_flat s), bnd, cT, decide_eq_true rfl, cT, decide_eq_true rfl, cT,
      holes_sub (by omega) hn, bnd, holes_ref (by omega) hn, bnd, decide_eq_true rfl, cT, attr_sub (by omega) (by omega), bnd, attr_ref (by omega) (by omega), bnd, beq_self_eq_true, cT, wakes_t (by omega), bnd]
end Go.Proofs.YtdmjgmleilgbpaaDoor
