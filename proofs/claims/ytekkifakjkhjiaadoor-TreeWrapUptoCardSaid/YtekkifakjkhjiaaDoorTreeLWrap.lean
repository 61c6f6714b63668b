/-
  Chapter 3's law TreeWrap in plain Lean. Own work.
-/
import Derived.Test.YtekkifakjkhjiaaDoorTreeM
import Derived.Test.YtekkifakjkhjiaaDoorLTreeWrap
set_option linter.unusedSimpArgs false
set_option linter.unusedVariables false
namespace Go.Proofs.YtekkifakjkhjiaaDoor
open Go Go.Vc Go.RowKit
theorem wrap_walk (k : Int) (ks : List (List UInt8)) (a : T_api_Value) : (walkV ⟨k, false, 0, [], [a], ks⟩).length = (walkV a).length + 1 := by
  rw [walkV_eq, List.length_cons]
  dsimp only
  simp [walkVs]
theorem wrap_depth (k : Int) (ks : List (List UInt8)) (a : T_api_Value) : depthV ⟨k, false, 0, [], [a], ks⟩ = depthV a + 1 := by
  rw [depthV_eq]
  dsimp only
  simp [depthVs]
theorem wrap_fine {k : Int} {ks : List (List UInt8)} {a : T_api_Value} (h1 : Small 30 a) (h2 : (walkV a).length ≤ 5000) (hk : ks.length ≤ 1) (hkk : ∀ x ∈ ks, x.length ≤ 5000) : Fine ⟨k, false, 0, [], [a], ks⟩ := by
  refine ⟨Small.le (d := 31) (by omega) ⟨by simp, by dsimp only; omega, by simp, hkk, fun x hx => ?_⟩, by rw [wrap_walk]; omega⟩
  have : x = a := by simpa using hx
  rw [this]
  exact h1
theorem wrap_ok {k : Int} {ks : List (List UInt8)} {a : T_api_Value} (h : checkV (⟨k, false, 0, [], [a], ks⟩ : T_api_Value) = 0) : checkV a = 0 := by
  obtain ⟨h1, h2, h3⟩ := checkV_ok h
  rw [wrap_depth] at h2
  rw [wrap_walk] at h3
  exact checkV_of (h1.part (by simp)) (by omega) (by omega)
theorem cmpVs_one (o : Bool) (ks js : List (List UInt8)) (x y : T_api_Value) : cmpVs o [x] ks [y] js = thenC (bif o then Lib.compareBytes (ks.headD []) (js.headD []) else 0) (thenC (cmpV x y) 0) := by rw [cmpVs, cmpVs]
theorem thenC_0 (a : Int) : thenC a 0 = a := by
  unfold thenC
  by_cases h : a = 0
  · rw [decide_eq_true h, cT, h]
  · rw [decide_eq_false h, cF]
theorem wrap_cmp4 (a b : T_api_Value) : cmpV (sortV ⟨4, false, 0, [], [a], []⟩) (sortV ⟨4, false, 0, [], [b], []⟩) = cmpV (sortV a) (sortV b) := by
  have h4 : (4 : Int) ≠ 5 := by decide
  rw [sortV_n h4, sortV_n h4, cmpV_eq]
  dsimp only
  have hb : Lib.compareBytes [] [] = 0 := rfl
  rw [cmpI_self, cmpI_self, cmpI_self, thenC0, thenC0, thenC0, hb, thenC0, List.map_cons, List.map_nil, List.map_cons, List.map_nil, cmpVs_one, decide_eq_false h4, cF, thenC0, thenC_0]
theorem wrap_cmp5 (key : List UInt8) (a b : T_api_Value) : cmpV (sortV ⟨5, false, 0, [], [a], [key]⟩) (sortV ⟨5, false, 0, [], [b], [key]⟩) = cmpV (sortV a) (sortV b) := by
  rw [sortV_5 rfl, sortV_5 rfl, cmpV_eq]
  dsimp only
  have e1 : ∀ x : T_api_Value, pairsV ⟨5, false, 0, [], [x], [key]⟩ = [(key, sortV x)] := fun x => rfl
  have hb : Lib.compareBytes [] [] = 0 := rfl
  rw [e1, e1, cmpI_self, cmpI_self, cmpI_self, thenC0, thenC0, thenC0, hb, thenC0, List.map_cons, List.map_nil, List.map_cons, List.map_nil, List.map_cons, List.map_nil, List.map_cons, List.map_nil, cmpVs_one, decide_eq_true rfl, cT, List.headD_cons, cb_self, thenC0, thenC_0]
theorem treeWrap_true (a b : T_api_Value) (key : List UInt8) : law03_TreeWrap 10000 a b key = some true := by
  have hn : 6000 < 10000 := by omega
  obtain ⟨g1, hg1, hh1⟩ := great_fine hn a
  obtain ⟨g2, hg2, hh2⟩ := great_fine hn b
  unfold law03_TreeWrap
  rw [hg1, bnd]
  cases g1 with
  | true => rw [cT, bnd, cT, wakes_true, bnd]
  | false =>
  obtain ⟨fa, sa, la⟩ := hh1 rfl
  rw [cF, hg2, bnd]
  cases g2 with
  | true => rw [cT, bnd, cT, wakes_true, bnd]
  | false =>
  obtain ⟨fb, sb, lb⟩ := hh2 rfl
  rw [cF, bnd]
  by_cases hkey : (200 : Int) < (key.length : Int)
  · rw [decide_eq_true hkey, cT, wakes_true, bnd]
  rw [decide_eq_false hkey, cF, evV, evV]
  have x4 : Fine (⟨4, false, 0, [], [a], []⟩ : T_api_Value) := wrap_fine sa la (by simp) (by simp)
  have y4 : Fine (⟨4, false, 0, [], [b], []⟩ : T_api_Value) := wrap_fine sb lb (by simp) (by simp)
  have x5 : Fine (⟨5, false, 0, [], [a], [key]⟩ : T_api_Value) := wrap_fine sa la (by simp) (fun x hx => by
    have : x = key := by simpa using hx
    rw [this]
    omega)
  have y5 : Fine (⟨5, false, 0, [], [b], [key]⟩ : T_api_Value) := wrap_fine sb lb (by simp) (fun x hx => by
    have : x = key := by simpa using hx
    rw [this]
    omega)
  have hda := depth_small sa
  have hc4 : tree_Count 10000 (⟨4, false, 0, [], [a], []⟩ : T_api_Value) = some (((walkV a).length : Int) + 1) := by rw [Count_run x4, wrap_walk]; rfl
  have hc5 : tree_Count 10000 (⟨5, false, 0, [], [a], [key]⟩ : T_api_Value) = some (((walkV a).length : Int) + 1) := by rw [Count_run x5, wrap_walk]; rfl
  have hd4 : tree_Depth 10000 (⟨4, false, 0, [], [a], []⟩ : T_api_Value) = some ((depthV a : Int) + 1) := by rw [Depth_run hn x4, wrap_depth]; rfl
  have hd5 : tree_Depth 10000 (⟨5, false, 0, [], [a], [key]⟩ : T_api_Value) = some ((depthV a : Int) + 1) := by rw [Depth_run hn x5, wrap_depth]; rfl
  rw [hc4, hc5, hd4, hd5, Count_run fa, Depth_run hn fa, bnd, bnd, need_i (by omega) (by omega), decide_eq_true rfl, Bool.not_true, cF, bnd, bnd, need_i (by omega) (by omega), decide_eq_true (by omega), Bool.not_true, cF, bnd, bnd, decide_eq_true rfl, Bool.not_true, cF, bnd, bnd, decide_eq_true rfl, Bool.not_true, bnd, cF]
  rw [check_run hn x4, check_run hn y4, check_run hn x5, check_run hn y5, check_run hn fa, Less_run hn x4 y4, Less_run hn x5 y5, Less_run hn fa fb, Equal_run hn x4 y4, Equal_run hn x5 y5, Equal_run hn fa fb]
  have key4 : ((bif decide (checkV (⟨4, false, 0, [], [a], []⟩ : T_api_Value) = 0) then
      ((some (checkV (⟨4, false, 0, [], [b], []⟩ : T_api_Value))).bind fun x_13 =>
          bif (decide (x_13 = 0)) then
            ((some (ltV (⟨4, false, 0, [], [a], []⟩ : T_api_Value) ⟨4, false, 0, [], [b], []⟩)).bind fun x_14 =>
            (some (ltV a b)).bind fun x_15 =>
            bif (!(x_14 == x_15)) then
              (some ((true)))
            else
              (some (eqV (⟨4, false, 0, [], [a], []⟩ : T_api_Value) ⟨4, false, 0, [], [b], []⟩)).bind fun x_16 =>
              (some (eqV a b)).bind fun x_17 =>
              some ((!(x_16 == x_17))))
          else
            some ((false)))
        else
          some ((false)) : Option Bool)) = some false := by
    by_cases c1 : checkV (⟨4, false, 0, [], [a], []⟩ : T_api_Value) = 0
    · rw [decide_eq_true c1, cT, bnd]
      by_cases c2 : checkV (⟨4, false, 0, [], [b], []⟩ : T_api_Value) = 0
      · rw [decide_eq_true c2, cT, bnd, bnd, bnd, bnd]
        unfold ltV eqV
        rw [wrap_cmp4, decide_eq_true c1, decide_eq_true c2, decide_eq_true (wrap_ok c1), decide_eq_true (wrap_ok c2), beq_self_eq_true, Bool.not_true, cF, beq_self_eq_true, Bool.not_true]
      · rw [decide_eq_false c2, cF]
    · rw [decide_eq_false c1, cF]
  have key5 : ((bif decide (checkV (⟨5, false, 0, [], [a], [key]⟩ : T_api_Value) = 0) then
      ((some (checkV (⟨5, false, 0, [], [b], [key]⟩ : T_api_Value))).bind fun x_13 =>
          bif (decide (x_13 = 0)) then
            ((some (ltV (⟨5, false, 0, [], [a], [key]⟩ : T_api_Value) ⟨5, false, 0, [], [b], [key]⟩)).bind fun x_14 =>
            (some (ltV a b)).bind fun x_15 =>
            bif (!(x_14 == x_15)) then
              (some ((true)))
            else
              (some (eqV (⟨5, false, 0, [], [a], [key]⟩ : T_api_Value) ⟨5, false, 0, [], [b], [key]⟩)).bind fun x_16 =>
              (some (eqV a b)).bind fun x_17 =>
              some ((!(x_16 == x_17))))
          else
            some ((false)))
        else
          some ((false)) : Option Bool)) = some false := by
    by_cases c1 : checkV (⟨5, false, 0, [], [a], [key]⟩ : T_api_Value) = 0
    · rw [decide_eq_true c1, cT, bnd]
      by_cases c2 : checkV (⟨5, false, 0, [], [b], [key]⟩ : T_api_Value) = 0
      · rw [decide_eq_true c2, cT, bnd, bnd, bnd, bnd]
        unfold ltV eqV
        rw [wrap_cmp5, decide_eq_true c1, decide_eq_true c2, decide_eq_true (wrap_ok c1), decide_eq_true (wrap_ok c2), beq_self_eq_true, Bool.not_true, cF, beq_self_eq_true, Bool.not_true]
      · rw [decide_eq_false c2, cF]
    · rw [decide_eq_false c1, cF]
  rw [bnd, key4, bnd, cF, bnd, key5, bnd, cF, bnd]
  by_cases c1 : checkV (⟨4, false, 0, [], [a], []⟩ : T_api_Value) = 0
  · rw [decide_eq_true c1, Bool.not_true, cF, bnd, decide_eq_true (wrap_ok c1), cT, wakes_true, bnd]
  · rw [decide_eq_false c1, Bool.not_false, cT, wakes_true, bnd]
end Go.Proofs.YtekkifakjkhjiaaDoor
