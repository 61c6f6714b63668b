/-
  Chapter 12, plain: SubWrites. Own work.
-/
import Derived.Test.YtdmjgmleilgbpaaDoorSubW4
import Derived.Test.YtdmjgmleilgbpaaDoorLWrites
namespace Go.Proofs.YtdmjgmleilgbpaaDoor
open Go Go.Vc

theorem writes_law (n : Nat) (hn : 2000000 ≤ n) (l : List T_api_Expr) (hb : dsz (eL 6 emb_T_api_Expr l) ≤ 1048576) : law12_SubWrites n l = some true := by
  unfold law12_SubWrites
  obtain ⟨g, h1, h2⟩ := great_all hn hb
  rw [h1, bnd]
  cases g with
  | true => rw [cT, wakes_t (by omega), bnd]
  | false =>
    obtain ⟨h3, h4⟩ := h2 rfl
    have hs : Small l := ⟨by omega, h4⟩
    rw [cF, write_sub hs (by omega), bnd, write_ref hs (by omega), bnd, decide_eq_true rfl, cT, decide_eq_true rfl, cT, wakes_t (by omega), bnd]
end Go.Proofs.YtdmjgmleilgbpaaDoor
