/-
  Chapter 3's law TreeOrder in plain Lean. Own work.
-/
import Derived.Test.YtekkifakjkhjiaaDoorTreeM
import Derived.Test.YtekkifakjkhjiaaDoorLTreeOrder
set_option linter.unusedSimpArgs false
set_option linter.unusedVariables false
namespace Go.Proofs.YtekkifakjkhjiaaDoor
open Go Go.Vc Go.RowKit
theorem order_loop (a b c : Bool) : loopF (law03_TreeOrder_s1 10000) 10000 ((0 : Int), [a, b, c], (0 : Int)) = some (bitI a + bitI b + bitI c) := by
  cases a <;> cases b <;> cases c <;> kernel_rfl
theorem treeOrder_true (u v w : T_api_Value) : law03_TreeOrder 10000 u v w = some true := by
  have hn : 6000 < 10000 := by omega
  obtain ⟨g1, hg1, hh1⟩ := great_fine hn u
  obtain ⟨g2, hg2, hh2⟩ := great_fine hn v
  obtain ⟨g3, hg3, hh3⟩ := great_fine hn w
  unfold law03_TreeOrder
  rw [hg1, bnd]
  cases g1 with
  | true => rw [cT, bnd, cT, wakes_true, bnd]
  | false =>
  have f1 := (hh1 rfl).1
  rw [cF, hg2, bnd]
  cases g2 with
  | true => rw [cT, bnd, cT, wakes_true, bnd]
  | false =>
  have f2 := (hh2 rfl).1
  rw [cF, hg3, bnd, bnd]
  cases g3 with
  | true => rw [cT, wakes_true, bnd]
  | false =>
  have f3 := (hh3 rfl).1
  rw [cF, check_run hn f1, bnd, check_run hn f2, bnd, check_run hn f3, bnd, Equal_run hn f1 f1, Less_run hn f1 f2, Less_run hn f2 f1, Equal_run hn f1 f2, Equal_run hn f2 f1, Equal_run hn f2 f3, Equal_run hn f1 f3, Less_run hn f1 f3, Less_run hn f2 f3]
  by_cases c1 : checkV u = 0
  case neg =>
    have e1 : ∀ x, eqV u x = false := fun x => by unfold eqV; rw [decide_eq_false c1]; rfl
    have e2 : ∀ x, ltV u x = false := fun x => by unfold ltV; rw [decide_eq_false c1]; rfl
    have e3 : ∀ x, ltV x u = false := fun x => by unfold ltV; rw [decide_eq_false c1]; simp
    rw [decide_eq_false c1, Bool.not_false, cT, bnd, cT, cF, e1, bnd, Bool.not_false, cT, e2, bnd, Bool.not_false, cT, e3, bnd, Bool.not_false, cT, wakes_true, bnd, bnd]
  rw [decide_eq_true c1, Bool.not_true, cF]
  by_cases c2 : checkV v = 0
  case neg => rw [decide_eq_false c2, Bool.not_false, cT, bnd, cT, cT, wakes_true, bnd, bnd]
  rw [decide_eq_true c2, Bool.not_true, cF]
  by_cases c3 : checkV w = 0
  case neg => rw [decide_eq_false c3, Bool.not_false, bnd, cT, cT, wakes_true, bnd, bnd]
  rw [decide_eq_true c3, Bool.not_true, bnd, cF]
  have e : ∀ x y, checkV x = 0 → checkV y = 0 → eqV x y = decide (cmpV (sortV x) (sortV y) = 0) ∧ ltV x y = decide (cmpV (sortV x) (sortV y) < 0) := fun x y hx hy => by
    unfold eqV ltV
    rw [decide_eq_true hx, decide_eq_true hy]
    exact ⟨rfl, rfl⟩
  rw [(e u u c1 c1).1, (e u v c1 c2).1, (e v u c2 c1).1, (e v w c2 c3).1, (e u w c1 c3).1, (e u v c1 c2).2, (e v u c2 c1).2, (e v w c2 c3).2, (e u w c1 c3).2]
  have a1 := cmpV_anti (sortV u) (sortV v)
  have t := cmpV_tr (sortV u) (sortV v) (sortV w)
  have t2 := cmpV_tr (sortV v) (sortV u) (sortV w)
  have s := cmpV_self (sortV u)
  unfold Tr at t t2
  generalize cmpV (sortV u) (sortV u) = uu at *
  generalize cmpV (sortV u) (sortV v) = uv at *
  generalize cmpV (sortV v) (sortV u) = vu at *
  generalize cmpV (sortV v) (sortV w) = vw at *
  generalize cmpV (sortV u) (sortV w) = uw at *
  rw [bnd, bnd, bnd, order_loop, bnd, bnd, bnd, bnd]
  subst s a1
  have hsum : bitI (decide (uv = 0)) + bitI (decide (uv < 0)) + bitI (decide (-uv < 0)) = 1 := by
    rcases Int.lt_trichotomy uv 0 with h | h | h
    · rw [decide_eq_false (by omega), decide_eq_true h, decide_eq_false (by omega)]; rfl
    · rw [decide_eq_true h, decide_eq_false (by omega), decide_eq_false (by omega)]; rfl
    · rw [decide_eq_false (by omega), decide_eq_false (by omega), decide_eq_true (by omega)]; rfl
  have hz : decide (-uv = 0) = decide (uv = 0) := decide_eq_decide.2 (by omega)
  rw [hsum, decide_eq_true rfl, Bool.not_true, cF, decide_eq_true rfl, Bool.not_true, cF, hz, beq_self_eq_true, Bool.not_true, bnd, cF]
  by_cases h0 : uv = 0
  · rw [decide_eq_true h0, bnd, cT, bnd, bnd]
    have h1 : (vw = 0) ↔ (uw = 0) := by omega
    have h2 : (uw < 0) ↔ (vw < 0) := by omega
    rw [decide_eq_decide.2 h1, beq_self_eq_true, Bool.not_true, cF, bnd, bnd, decide_eq_decide.2 h2, beq_self_eq_true, Bool.not_true, bnd, cF, bnd, decide_eq_false (by omega), Bool.not_false, cT, wakes_true, bnd]
  · rw [decide_eq_false h0, bnd, cF, bnd, cF, bnd]
    by_cases hl : uv < 0
    · rw [decide_eq_true hl, Bool.not_true, cF, bnd]
      by_cases hl2 : vw < 0
      · rw [decide_eq_true hl2, Bool.not_true, cF, bnd, decide_eq_true (by omega), cT, wakes_true, bnd]
      · rw [decide_eq_false hl2, Bool.not_false, cT, wakes_true, bnd]
    · rw [decide_eq_false hl, Bool.not_false, cT, wakes_true, bnd]
end Go.Proofs.YtekkifakjkhjiaaDoor
