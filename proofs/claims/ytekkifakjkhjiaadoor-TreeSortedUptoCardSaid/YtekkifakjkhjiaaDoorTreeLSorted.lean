/-
  Chapter 3's law TreeSorted in plain Lean. Own work.
-/
import Derived.Test.YtekkifakjkhjiaaDoorTreeM
import Derived.Test.YtekkifakjkhjiaaDoorLTreeSorted
set_option linter.unusedSimpArgs false
set_option linter.unusedVariables false
namespace Go.Proofs.YtekkifakjkhjiaaDoor
open Go Go.Vc Go.RowKit
theorem walk_rise : ∀ (m : Nat) {v : T_api_Value}, SizeOf.sizeOf v < m → OkV v → ∀ x ∈ walkV (sortV v), x.fKeys.Pairwise fun a b => Lib.compareBytes a b < 0
  | 0, v, hm, _ => absurd hm (by omega)
  | m + 1, v, hm, hok => fun x hx => by
    rw [walkV_eq] at hx
    rcases List.mem_cons.1 hx with rfl | hx
    · exact sort_rise hok
    · obtain ⟨y, hy, hxy⟩ := mem_walkVs.1 hx
      obtain ⟨z, hz, rfl⟩ := List.mem_map.1 ((sort_perm hok.plain).mem_iff.1 hy)
      exact walk_rise m (by have := part_small hz; omega) (hok.part hz) x hxy
theorem rise_loop {x : T_api_Value} (hw : x.fKeys.length ≤ 3000) (hr : x.fKeys.Pairwise fun a b => Lib.compareBytes a b < 0) : loopF (law03_TreeSorted_s2 10000 x) 10000 (1 : Int) = some (.inr ()) := by
  obtain ⟨b, hb, hp⟩ := loop_inv (step := law03_TreeSorted_s2 10000 x) (n := 10000) (s0 := (1 : Int)) (fun q s => s = (q : Int) + 1) (fun b => b = .inr ()) (x.fKeys.length - 1) rfl (fun q s hq hI => by
    have hI' : s = (q : Int) + 1 := hI
    subst hI'
    have h1 : q + 1 < x.fKeys.length := by omega
    have g1 : getI x.fKeys ((q : Int) + 1) = some x.fKeys[q + 1] := by
      have : ((q : Int) + 1) = ((q + 1 : Nat) : Int) := by omega
      rw [this, getI_at [] h1]
      simp [List.getD, h1]
    have g2 : getI x.fKeys ((q : Int) + 1 - 1) = some x.fKeys[q] := by
      have : ((q : Int) + 1 - 1) = (q : Int) := by omega
      rw [this]
      simp [getI, (by omega : q < x.fKeys.length)]
    have hlt := List.pairwise_iff_getElem.1 hr q (q + 1) (by omega) h1 (by omega)
    have ha := cb_anti x.fKeys[q] x.fKeys[q + 1]
    have hne : (x.fKeys[q + 1] == x.fKeys[q]) = false := by
      rw [beq_eq_false_iff_ne]
      intro e
      rw [e, cb_self] at hlt
      omega
    unfold law03_TreeSorted_s2
    rw [decide_eq_true (by omega), cT, g1, bnd, need_i (by omega) (by omega), g2, bnd, less_cb, decide_eq_false (by omega), hne, Bool.or_false, cF, need_i (by omega) (by omega)]
    refine .inl ⟨_, rfl, ?_⟩
    omega) (fun s hI => by
    have hI' : s = ((x.fKeys.length - 1 : Nat) : Int) + 1 := hI
    subst hI'
    unfold law03_TreeSorted_s2
    rw [decide_eq_false (by omega), cF]
    exact ⟨_, rfl, rfl⟩) (by omega)
  rw [hb, hp]
theorem treeSorted_true (a b : T_api_Value) : law03_TreeSorted 10000 a b = some true := by
  have hn : 6000 < 10000 := by omega
  obtain ⟨g1, hg1, hh1⟩ := great_fine hn a
  obtain ⟨g2, hg2, hh2⟩ := great_fine hn b
  unfold law03_TreeSorted
  rw [hg1, bnd]
  cases g1 with
  | true => rw [cT, bnd, cT, wakes_true, bnd]
  | false =>
  obtain ⟨fa, sa, la⟩ := hh1 rfl
  rw [cF, hg2, bnd, bnd]
  cases g2 with
  | true => rw [cT, wakes_true, bnd]
  | false =>
  obtain ⟨fb, sb, lb⟩ := hh2 rfl
  rw [cF, Sorted_run hn fa, bnd, Sorted_run hn fb, bnd, bnd]
  simp only [evV]
  rw [check_run hn fa, bnd]
  by_cases ca : checkV a = 0
  case neg =>
    have e : sortedV a = a := by unfold sortedV; rw [if_neg ca]
    rw [decide_eq_false ca, Bool.not_false, cT, bnd, cT, bnd, decide_eq_false ca, cF, e, Same_self hn (d := 30) (by omega) _ sa, bnd, cT, wakes_true, bnd, bnd]
  have ea : sortedV a = sortV a := by unfold sortedV; rw [if_pos ca]
  rw [decide_eq_true ca, Bool.not_true, cF, check_run hn fb, bnd]
  by_cases cb : checkV b = 0
  case neg => rw [decide_eq_false cb, Bool.not_false, bnd, cT, bnd, decide_eq_true ca, cT, wakes_true, bnd, bnd]
  have eb : sortedV b = sortV b := by unfold sortedV; rw [if_pos cb]
  rw [decide_eq_true cb, Bool.not_true, bnd, cF, ea, eb]
  have oa := (checkV_ok ca).1
  have ob := (checkV_ok cb).1
  have hcnt := sort_count _ (Nat.lt_succ_self _) oa
  have ssm := sort_small sa oa
  unfold ref03_Walk
  rw [walk_k_ok (by omega) 10000 30 _ (by omega) ssm (by omega), bnd]
  have hrise := walk_rise _ (Nat.lt_succ_self _) oa
  have hloop := loop_all (step := law03_TreeSorted_s1 10000 (walkV (sortV a))) (n := 10000) (fun q => (q : Int)) (walkV (sortV a)).length (.inr ()) (fun q hq => by
    have hg : getI (walkV (sortV a)) (q : Int) = some (walkV (sortV a))[q] := by simp [getI]
    have hm : (walkV (sortV a))[q] ∈ walkV (sortV a) := List.getElem_mem hq
    unfold law03_TreeSorted_s1
    rw [decide_eq_true (by omega), cT, hg, bnd, rise_loop (small_walk ssm hm).wide.2.1 (hrise _ hm), bnd]
    dsimp only
    rw [need_i (by omega) (by omega)]
    rfl) (by
    unfold law03_TreeSorted_s1
    rw [decide_eq_false (by omega), cF]) (by omega)
  have e0 : ((0 : Nat) : Int) = 0 := rfl
  simp only [e0] at hloop
  have fs := fa.sort oa
  have cs := sort_check ca
  rw [hloop, bnd]
  dsimp only
  have hEq : eqV (sortV a) a = true := by
    unfold eqV
    rw [decide_eq_true cs, decide_eq_true ca, sorts_once oa, cmpV_self]; rfl
  have hS : sortedV (sortV a) = sortV a := by unfold sortedV; rw [if_pos cs, sorts_once oa]
  rw [Equal_run hn fs fa, bnd, hEq, cT, Sorted_run hn fs, bnd, hS, Same_self hn (d := 30) (by omega) _ ssm, bnd, cT, Equal_run hn fa fb, bnd]
  obtain ⟨s, hs, hs2⟩ := Same_run hn (d := 30) (by omega) (sortV a) (sortV b) ssm
  have hsame : eqV a b = s := by
    unfold eqV
    rw [decide_eq_true ca, decide_eq_true cb, Bool.true_and, Bool.true_and]
    cases s with
    | true =>
      rw [hs2.1 rfl, cmpV_self]; rfl
    | false =>
      rw [decide_eq_false]
      intro h
      have := hs2.2 (cmp_same _ (Nat.lt_succ_self _) oa.sort ob.sort h)
      cases this
  rw [hs, bnd, hsame, beq_self_eq_true, cT, Count_run fs, bnd, Count_run fa, bnd, hcnt, decide_eq_true rfl, cT, wakes_true, bnd]
end Go.Proofs.YtekkifakjkhjiaaDoor
