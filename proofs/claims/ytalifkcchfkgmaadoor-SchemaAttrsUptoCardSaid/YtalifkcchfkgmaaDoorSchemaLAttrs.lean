/-
  Chapter 9's law SchemaAttrs in plain Lean. Own work.
-/
import Derived.Test.YtalifkcchfkgmaaDoorSchemaP1
import Derived.Test.YtalifkcchfkgmaaDoorL1
set_option linter.unusedVariables false
set_option linter.unusedSimpArgs false
namespace Go.Proofs.YtalifkcchfkgmaaDoor
open Go Go.Vc Go.RowKit
theorem wakes_bind : ((law09_wakes 10000).bind fun x => some x) = some true := by rw [wakes_run, bnd]
theorem types_loop (kind : List UInt8) : loopF (law09_SchemaAttrs_s1 10000 kind kindsS) 10000 (false, (0 : Int)) = some (kindIn kind) := by
  by_cases h1 : kDisk = kind
  · subst h1; decide +kernel
  by_cases h2 : kNet = kind
  · subst h2; decide +kernel
  by_cases h3 : kNode = kind
  · subst h3; decide +kernel
  by_cases h4 : kRule = kind
  · subst h4; decide +kernel
  have e : kindIn kind = false := by unfold kindIn; rw [decide_eq_false h1, decide_eq_false h2, decide_eq_false h3, decide_eq_false h4]; rfl
  rw [e]
  have hn : ∀ k ∈ kindsS, k ≠ kind := by
    intro k hk
    simp only [kindsS, List.mem_cons, List.mem_nil_iff, or_false] at hk
    rcases hk with rfl | rfl | rfl | rfl <;> assumption
  refine loop_all (f := fun k => (false, (k : Int))) 4 false (fun k hk => ?_) ?_ (by omega)
  · unfold law09_SchemaAttrs_s1
    have hl : k < kindsS.length := hk
    have hl2 : (k : Int) < ((kindsS.length : Nat) : Int) := by omega
    have hm : kindsS.getD k [] ∈ kindsS := by rw [List.getD_eq_getElem?_getD, List.getElem?_eq_getElem hl]; exact List.getElem_mem hl
    dsimp only
    rw [decide_eq_true hl2, cT, getI_at [] hl, bnd, cF, need_i (by omega) (by omega), decide_eq_false (hn _ hm)]
    rfl
  · unfold law09_SchemaAttrs_s1
    rfl
theorem schemaAttrs_true (kind n1 n2 attr : List UInt8) : law09_SchemaAttrs 10000 kind n1 n2 attr = some true := by
  unfold law09_SchemaAttrs
  by_cases g0 : (200 : Int) < (kind.length : Int)
  · rw [decide_eq_true g0, cT, bnd, cT, wakes_bind]
  rw [decide_eq_false g0, cF]
  by_cases g1 : (200 : Int) < (n1.length : Int)
  · rw [decide_eq_true g1, cT, bnd, cT, wakes_bind]
  rw [decide_eq_false g1, cF]
  by_cases g2 : (200 : Int) < (n2.length : Int)
  · rw [decide_eq_true g2, cT, bnd, cT, wakes_bind]
  rw [decide_eq_false g2, cF]
  by_cases g3 : (200 : Int) < (attr.length : Int)
  · rw [decide_eq_true g3, bnd, cT, wakes_bind]
  rw [decide_eq_false g3, bnd, cF]
  have hT : schema_Types 10000 = some kindsS := rfl
  cases hk : kindIn kind with
  | false =>
    have hA : ∀ a b, schema_Attr 10000 kind a b = some ([], 90) := by
      intro a b; unfold schema_Attr; rw [hk]; rfl
    rw [hA, bnd, hA, bnd, hA, bnd, hA, bnd, hT, bnd, types_loop, hk, bnd]
    dsimp only
    rw [Bool.not_false, cT, decide_eq_true rfl, cT, cT, cT, cT, wakes_bind, bnd]
  | true =>
    have hArn : ∀ a, a.length ≤ 200 → schema_Attr 10000 kind a [65, 114, 110] = some ((kind ++ [58]) ++ a, 0) := by
      intro a ha; unfold schema_Attr; rw [hk, Bool.not_true, cF, decide_eq_true rfl, cT, need_t (by simp; omega), need_t (by simp; omega)]
    have hZone : ∀ a, a.length ≤ 200 → schema_Attr 10000 kind a [90, 111, 110, 101] = some (a.drop ((max (a.length : Int) (1 : Int)) - 1).toNat, 0) := by
      intro a ha; unfold schema_Attr; rw [hk, Bool.not_true, cF, decide_eq_false (by decide), cF, decide_eq_true rfl, cT, need_i (by omega) (by omega), need_t (by omega)]
    have hOther : ∀ a b, b ≠ [65, 114, 110] → b ≠ [90, 111, 110, 101] → schema_Attr 10000 kind a b = some ([], 91) := by
      intro a b h1 h2; unfold schema_Attr; rw [hk, Bool.not_true, cF, decide_eq_false h1, cF, decide_eq_false h2, cF]
    have e1 : (decide ((kind ++ [58]) ++ n1 = (kind ++ [58]) ++ n2) == decide (n1 = n2)) = true := by simp
    have e2 : (((n1.drop ((max (n1.length : Int) (1 : Int)) - 1).toNat).length : Int) = min (n1.length : Int) (1 : Int)) := by rw [List.length_drop]; omega
    rw [hArn n1 (by omega), bnd, hArn n2 (by omega), bnd, hZone n1 (by omega), bnd]
    by_cases ha : attr = [65, 114, 110]
    · subst ha
      rw [hArn n1 (by omega), bnd, hT, bnd, types_loop, hk, bnd]
      dsimp only
      rw [Bool.not_true, cF, decide_eq_true rfl, cT, cT, cT, e1, cT, decide_eq_true e2, cT, decide_eq_true (Eq.refl ([65, 114, 110] : List UInt8)), cT, beq_self_eq_true, cT, wakes_bind]
    · by_cases hz : attr = [90, 111, 110, 101]
      · subst hz
        rw [hZone n1 (by omega), bnd, hT, bnd, types_loop, hk, bnd]
        dsimp only
        rw [Bool.not_true, cF, decide_eq_true rfl, cT, cT, cT, e1, cT, decide_eq_true e2, cT, decide_eq_false (by decide), cF, decide_eq_true (Eq.refl ([90, 111, 110, 101] : List UInt8)), beq_self_eq_true, cT, wakes_bind]
      · rw [hOther n1 attr ha hz, bnd, hT, bnd, types_loop, hk, bnd]
        dsimp only
        rw [Bool.not_true, cF, decide_eq_true rfl, cT, cT, cT, e1, cT, decide_eq_true e2, cT, decide_eq_false ha, cF, decide_eq_false (by decide), decide_eq_false hz, beq_self_eq_true, cT, wakes_bind]
end Go.Proofs.YtalifkcchfkgmaaDoor
