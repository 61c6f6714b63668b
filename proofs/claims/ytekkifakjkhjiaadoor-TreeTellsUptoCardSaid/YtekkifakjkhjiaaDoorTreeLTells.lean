/-
  Chapter 3's law TreeTells in plain Lean. Own work.
-/
import Derived.Test.YtekkifakjkhjiaaDoorTreeM
import Derived.Test.YtekkifakjkhjiaaDoorLTreeTells
set_option linter.unusedSimpArgs false
set_option linter.unusedVariables false
namespace Go.Proofs.YtekkifakjkhjiaaDoor
open Go Go.Vc Go.RowKit
theorem treeTells_true (v w : T_api_Value) (key : List UInt8) : law03_TreeTells 10000 v w key = some true := by
  have hn : 6000 < 10000 := by omega
  obtain ⟨g, hg, hg2⟩ := great_fine hn v
  obtain ⟨g', hg', hg2'⟩ := great_fine hn w
  unfold law03_TreeTells
  rw [hg, bnd]
  cases g with
  | true => rw [cT, bnd, cT, wakes_true, bnd]
  | false =>
    obtain ⟨hf, hs, hl⟩ := hg2 rfl
    rw [cF, hg', bnd]
    cases g' with
    | true => rw [cT, bnd, cT, wakes_true, bnd]
    | false =>
      obtain ⟨hf', hs', hl'⟩ := hg2' rfl
      rw [cF, bnd]
      by_cases hkey : (1000 : Int) < (key.length : Int)
      · rw [decide_eq_true hkey, cT, wakes_true, bnd]
      rw [decide_eq_false hkey, cF, Get_run hn hf.wide, bnd, Get_ref hn hf.wide, bnd, beq_self_eq_true, Bool.not_true, cF, Same_self hn (d := 30) (by omega) _ (get_small hs key), bnd, Bool.not_true, cF, check_run hn hf, bnd, check_ref hn hf, bnd,
        decide_eq_true rfl, Bool.not_true, cF, Depth_run hn hf, bnd, Depth_ref hn hf, bnd, decide_eq_true rfl, Bool.not_true, cF, Count_run hf, bnd, Count_ref hn hf, bnd, decide_eq_true rfl, Bool.not_true, bnd, cF,
        Equal_run hn hf hf', bnd, Equal_ref hn hf hf', bnd, beq_self_eq_true, cT, Less_run hn hf hf', bnd, Less_ref hn hf hf', bnd, beq_self_eq_true, cT, Sorted_run hn hf, bnd, Sorted_ref hn hf, bnd, Same_self hn (d := 60) (by omega) _ hf.sorted.small, bnd, cT]
      unfold tree_Text ref03_Text tree_Num ref03_Num
      have hsm : ∀ (k m : Int) (t : List UInt8), t.length ≤ 5000 → Small 1 (⟨k, false, m, t, [], []⟩ : T_api_Value) := fun k m t h => ⟨by simp, by simp, h, fun k hk => by simp at hk, fun x hx => by simp at hx⟩
      rw [bnd, bnd, Same_self hn (d := 1) (by omega) _ (hsm _ _ _ (by omega)), bnd, cT, bnd, bnd, Same_self hn (d := 1) (by omega) _ (hsm _ _ _ (by simp)), bnd, cT, wakes_true, bnd]
end Go.Proofs.YtekkifakjkhjiaaDoor
