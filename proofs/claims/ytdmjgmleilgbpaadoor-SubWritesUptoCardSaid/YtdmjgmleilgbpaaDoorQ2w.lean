/-
  Printed by a program: of each function its shallow reading, and the proof that the function gives what the reading gives. No condition.
-/
import Derived.Test.YtdmjgmleilgbpaaDoorQ1
import Derived.Test.YtdmjgmleilgbpaaDoorTy
set_option linter.unusedVariables false
set_option linter.unusedSimpArgs false
namespace Go.Proofs.YtdmjgmleilgbpaaDoor
open Go Go.Vc Go.RowKit
def ref12_part (n : Nat) (d0 : T_api_Expr) : Option Bool :=
  ((bif (decide ((0 : Int) < ((d0.fL.length : Nat) : Int))) then
      (some ((true)))
    else
      some ((!(decide (d0.fNum = 0)))) : Option Bool)).bind fun y_1 =>
  bif y_1 then
    (some ((false)))
  else
    bif (decide (d0.fKind = 0)) then
      (bif (decide (d0.fName = [])) then
        (bif (decide (d0.fAttr = [])) then
          (bif (!(decide (d0.fText = []))) then
            ((ref01_Valid n d0.fText).bind fun x_1 =>
            some ((x_1)))
          else
            some ((false)))
        else
          some ((false)))
      else
        some ((false)))
    else
      bif (decide (d0.fKind = 3)) then
        (bif (decide (d0.fText = [])) then
          (bif (decide (d0.fAttr = [])) then
            ((ref01_Name n d0.fName).bind fun x_2 =>
            some ((x_2)))
          else
            some ((false)))
        else
          some ((false)))
      else
        bif (decide (d0.fKind = 4)) then
          (bif (decide (d0.fText = [])) then
            ((ref01_Name n d0.fName).bind fun x_3 =>
            bif x_3 then
              ((ref12_Attr n d0.fAttr).bind fun x_4 =>
              some ((x_4)))
            else
              some ((false)))
          else
            some ((false)))
        else
          some ((false))
theorem ref12_part_ok (n : Nat) (M : Mem) (c0 : List Value) (d0 : T_api_Expr) (h0 : Rep M (emb_T_api_Expr d0) c0) (r : Bool) (hF : ref12_part n d0 = some r) : Ok Tryd.prog M 40 [.agg c0.toArray] (fun _ v => v = .bool r) := by
  unfold ref12_part at hF
  intro M1 hM0 w0 H w p0
  replace h0 := Rep.mono hM0 _ _ h0
  obtain ⟨A_1, cap_1, rfl, h_1⟩ := T_api_Expr.opn h0
  refine R_enter 64 Tryd.func40 rfl rfl (by simp) (fun a0 f0 => ?_)
  replace f0 : Frm 64 [(0, .agg #[.int .i8 d0.fKind, S d0.fText, .int .i64 d0.fNum, S d0.fName, S d0.fAttr, .slice A_1 d0.fL.length cap_1])] a0 := f0
  refine R_seq ?_
  refine R_reg ?_
  refine W_box (cs := #[.int .i8 d0.fKind, S d0.fText, .int .i64 d0.fNum, S d0.fName, S d0.fAttr, .slice A_1 d0.fL.length cap_1]) (T := 29) f0 p0 1 [0, 1] (fun b_1 => [(0, .agg #[.int .i8 d0.fKind, S d0.fText, .int .i64 d0.fNum, S d0.fName, S d0.fAttr, .slice A_1 d0.fL.length cap_1]), (1, .pointer (some (⟨b_1, 0, none⟩)))]) (fun _ => by kernel_rfl) (fun b_1 M_1 w_1 hM_1 hc_1 p_1 a_1 f_1 => ?_)
  replace f_1 : Frm 64 [(0, .agg #[.int .i8 d0.fKind, S d0.fText, .int .i64 d0.fNum, S d0.fName, S d0.fAttr, .slice A_1 d0.fL.length cap_1]), (1, .pointer (some (⟨b_1, 0, none⟩)))] a_1 := f_1
  have hc_2 := fz_box hc_1
  refine W_run (L' := [(1, .pointer (some (⟨b_1, 0, none⟩)))]) (w' := w_1) f_1 1 [1] (by kernel_rfl) (fun a_2 f_2 => ?_)
  refine W_end rfl ?_
  refine T_n ?_
  refine R_seq ?_
  refine R_seq ?_
  obtain ⟨j_1, hj_1, hF_1⟩ := bind_some' hF
  refine R_mid (fun a_10 w_2 => ∃ y_1 : Bool, j_1 = y_1 ∧ ∃ M_2 : Mem, M_1.le M_2 ∧ Frm 64 [(1, .pointer (some (⟨b_1, 0, none⟩))), (11, .bool y_1)] a_10 ∧ Hp w0 M_2 (H) w_2) ?_ ?_
  · refine R_reg ?_
    refine W_run (L' := [(1, .pointer (some (⟨b_1, 0, none⟩))), (3, .pointer (some ((⟨b_1, 0, none⟩ : Addr).add 5)))]) (w' := w_1) f_2 1 [1, 3] (by kernel_rfl) (fun a_3 f_3 => ?_)
    refine W_eq (v := .slice A_1 d0.fL.length cap_1) f_3 (by kernel_rfl) (by kernel_rfl) rfl rfl (X_load1 (v := .slice A_1 d0.fL.length cap_1) rfl (ad := (⟨b_1, 0, none⟩ : Addr).add 5) (by kernel_rfl) (by kernel_rfl) (p_1.cell (hc_2 5 _ rfl))) (fun a_4 f_4 => ?_)
    refine W_run (L' := [(1, .pointer (some (⟨b_1, 0, none⟩))), (7, .bool (decide ((0 : Int) < ((d0.fL.length : Nat) : Int))))]) (w' := w_1) f_4 3 [1, 7] (by kernel_rfl) (fun a_5 f_5 => ?_)
    rcases Bool.eq_false_or_eq_true (decide ((0 : Int) < ((d0.fL.length : Nat) : Int))) with h_2 | h_2
    · have k_1 : (0 : Int) < ((d0.fL.length : Nat) : Int) := decide_eq_true_iff.1 h_2
      have hF_2 := cnd_t h_2 hj_1
      have f_6 := Frm.set f_5 7 (v := .bool (decide ((0 : Int) < ((d0.fL.length : Nat) : Int)))) (v' := .bool true) (by kernel_rfl) (congrArg Value.bool h_2)
      have f_7 : Frm 64 [(1, .pointer (some (⟨b_1, 0, none⟩))), (7, .bool true)] a_5 := f_6.keep (ks := [1, 7]) (by kernel_rfl)
      refine W_run (L' := [(1, .pointer (some (⟨b_1, 0, none⟩))), (11, .bool true)]) (w' := w_1) f_7 4 [1, 11] (by kernel_rfl) (fun a_6 f_8 => ?_)
      refine W_end rfl ?_
      refine T_n ?_
      exact ⟨(true), (Option.some.inj hF_2).symm, M_1, (Mem.le_refl _), f_8.keep (ks := [1, 11]) (by kernel_rfl), p_1⟩
    · have k_2 : ¬ ((0 : Int) < ((d0.fL.length : Nat) : Int)) := iff_f decide_eq_true_iff h_2
      have hF_3 := cnd_f h_2 hj_1
      have f_9 := Frm.set f_5 7 (v := .bool (decide ((0 : Int) < ((d0.fL.length : Nat) : Int)))) (v' := .bool false) (by kernel_rfl) (congrArg Value.bool h_2)
      have f_10 : Frm 64 [(1, .pointer (some (⟨b_1, 0, none⟩))), (7, .bool false)] a_5 := f_9.keep (ks := [1, 7]) (by kernel_rfl)
      refine W_run (L' := [(1, .pointer (some (⟨b_1, 0, none⟩))), (7, .bool false), (8, .pointer (some ((⟨b_1, 0, none⟩ : Addr).add 2)))]) (w' := w_1) f_10 1 [1, 7, 8] (by kernel_rfl) (fun a_7 f_11 => ?_)
      refine W_eq (v := .int .i64 d0.fNum) f_11 (by kernel_rfl) (by kernel_rfl) rfl rfl (X_load1 (v := .int .i64 d0.fNum) rfl (ad := (⟨b_1, 0, none⟩ : Addr).add 2) (by kernel_rfl) (by kernel_rfl) (p_1.cell (hc_2 2 _ rfl))) (fun a_8 f_12 => ?_)
      refine W_run (L' := [(1, .pointer (some (⟨b_1, 0, none⟩))), (11, .bool (!(decide (d0.fNum = 0))))]) (w' := w_1) f_12 2 [1, 11] (by kernel_rfl) (fun a_9 f_13 => ?_)
      refine W_end rfl ?_
      refine T_n ?_
      exact ⟨(!(decide (d0.fNum = 0))), (Option.some.inj hF_3).symm, M_1, (Mem.le_refl _), f_13.keep (ks := [1, 11]) (by kernel_rfl), p_1⟩
  · rintro a_10 w_2 ⟨y_1, hq_1, M_2, hM_2, f_14, p_2⟩
    subst j_1
    refine T_n ?_
    refine R_cond f_14 (b := y_1) (by kernel_rfl) (by kernel_rfl) (fun h_3 => ?_) (fun h_3 => ?_)
    · have hF_4 := cnd_t h_3 hF_1
      refine R_seq ?_
      refine R_reg ?_
      refine W_run (L' := [(2, .bool false)]) (w' := w_2) f_14 1 [2] (by kernel_rfl) (fun a_11 f_15 => ?_)
      refine W_end rfl ?_
      refine T_n ?_
      refine wp_ret ?_
      refine T_r ?_
      refine E_ret1 f_15 rfl (by kernel_rfl : Vc.look _ 2 = some (.bool false)) ?_
      obtain rfl := Option.some.inj hF_4
      exact ⟨_, rfl, M_2, (hM_1.trans hM_2), p_2, rfl⟩
    · have hF_5 := cnd_f h_3 hF_1
      refine wp_skip ?_
      refine T_n ?_
      refine R_seq ?_
      refine R_seq ?_
      refine R_reg ?_
      refine W_run (L' := [(1, .pointer (some (⟨b_1, 0, none⟩))), (12, .pointer (some ((⟨b_1, 0, none⟩ : Addr).add 0)))]) (w' := w_2) f_14 1 [1, 12] (by kernel_rfl) (fun a_12 f_16 => ?_)
      refine W_eq (v := .int .i8 d0.fKind) f_16 (by kernel_rfl) (by kernel_rfl) rfl rfl (X_load1 (v := .int .i8 d0.fKind) rfl (ad := (⟨b_1, 0, none⟩ : Addr).add 0) (by kernel_rfl) (by kernel_rfl) (p_2.cell ((fun j v h => hM_2.cell (hc_2 j v h)) 0 _ rfl))) (fun a_13 f_17 => ?_)
      refine W_end rfl ?_
      refine T_n ?_
      refine wp_block ?_
      refine R_seq ?_
      refine R_reg ?_
      refine W_run (L' := [(1, .pointer (some (⟨b_1, 0, none⟩))), (13, .int .i8 d0.fKind), (14, .bool (decide (d0.fKind = 0)))]) (w' := w_2) f_17 2 [1, 13, 14] (by kernel_rfl) (fun a_14 f_18 => ?_)
      refine W_end rfl ?_
      refine T_n ?_
      refine R_cond f_18 (b := decide (d0.fKind = 0)) (by kernel_rfl) (by kernel_rfl) (fun h_4 => ?_) (fun h_4 => ?_)
      · have k_5 : d0.fKind = 0 := decide_eq_true_iff.1 h_4
        have hF_6 := cnd_t h_4 hF_5
        refine R_seq ?_
        refine R_reg ?_
        refine W_run (L' := [(1, .pointer (some (⟨b_1, 0, none⟩))), (16, .pointer (some ((⟨b_1, 0, none⟩ : Addr).add 3)))]) (w' := w_2) f_18 1 [1, 16] (by kernel_rfl) (fun a_15 f_19 => ?_)
        refine W_eq (v := S d0.fName) f_19 (by kernel_rfl) (by kernel_rfl) rfl rfl (X_load1 (v := S d0.fName) rfl (ad := (⟨b_1, 0, none⟩ : Addr).add 3) (by kernel_rfl) (by kernel_rfl) (p_2.cell ((fun j v h => hM_2.cell (hc_2 j v h)) 3 _ rfl))) (fun a_16 f_20 => ?_)
        refine W_eq (v := .bool (decide (d0.fName = []))) f_20 (by kernel_rfl) (by kernel_rfl) rfl rfl (X_streq rfl (l := d0.fName) (m := []) (by kernel_rfl) (by kernel_rfl)) (fun a_17 f_21 => ?_)
        refine W_run (L' := [(1, .pointer (some (⟨b_1, 0, none⟩))), (19, .bool (decide (d0.fName = [])))]) (w' := w_2) f_21 1 [1, 19] (by kernel_rfl) (fun a_18 f_22 => ?_)
        rcases Bool.eq_false_or_eq_true (decide (d0.fName = [])) with h_5 | h_5
        · have k_6 : d0.fName = [] := decide_eq_true_iff.1 h_5
          have hF_7 := cnd_t h_5 hF_6
          have f_23 := Frm.set f_22 19 (v := .bool (decide (d0.fName = []))) (v' := .bool true) (by kernel_rfl) (congrArg Value.bool h_5)
          have f_24 : Frm 64 [(1, .pointer (some (⟨b_1, 0, none⟩))), (19, .bool true)] a_18 := f_23.keep (ks := [1, 19]) (by kernel_rfl)
          refine W_run (L' := [(1, .pointer (some (⟨b_1, 0, none⟩))), (19, .bool true), (20, .pointer (some ((⟨b_1, 0, none⟩ : Addr).add 4)))]) (w' := w_2) f_24 1 [1, 19, 20] (by kernel_rfl) (fun a_19 f_25 => ?_)
          refine W_eq (v := S d0.fAttr) f_25 (by kernel_rfl) (by kernel_rfl) rfl rfl (X_load1 (v := S d0.fAttr) rfl (ad := (⟨b_1, 0, none⟩ : Addr).add 4) (by kernel_rfl) (by kernel_rfl) (p_2.cell ((fun j v h => hM_2.cell (hc_2 j v h)) 4 _ rfl))) (fun a_20 f_26 => ?_)
          refine W_eq (v := .bool (decide (d0.fAttr = []))) f_26 (by kernel_rfl) (by kernel_rfl) rfl rfl (X_streq rfl (l := d0.fAttr) (m := []) (by kernel_rfl) (by kernel_rfl)) (fun a_21 f_27 => ?_)
          refine W_run (L' := [(1, .pointer (some (⟨b_1, 0, none⟩))), (24, .bool (decide (d0.fAttr = [])))]) (w' := w_2) f_27 2 [1, 24] (by kernel_rfl) (fun a_22 f_28 => ?_)
          rcases Bool.eq_false_or_eq_true (decide (d0.fAttr = [])) with h_6 | h_6
          · have k_7 : d0.fAttr = [] := decide_eq_true_iff.1 h_6
            have hF_8 := cnd_t h_6 hF_7
            have f_29 := Frm.set f_28 24 (v := .bool (decide (d0.fAttr = []))) (v' := .bool true) (by kernel_rfl) (congrArg Value.bool h_6)
            have f_30 : Frm 64 [(1, .pointer (some (⟨b_1, 0, none⟩))), (24, .bool true)] a_22 := f_29.keep (ks := [1, 24]) (by kernel_rfl)
            refine W_run (L' := [(1, .pointer (some (⟨b_1, 0, none⟩))), (24, .bool true), (25, .pointer (some ((⟨b_1, 0, none⟩ : Addr).add 1)))]) (w' := w_2) f_30 1 [1, 24, 25] (by kernel_rfl) (fun a_23 f_31 => ?_)
            refine W_eq (v := S d0.fText) f_31 (by kernel_rfl) (by kernel_rfl) rfl rfl (X_load1 (v := S d0.fText) rfl (ad := (⟨b_1, 0, none⟩ : Addr).add 1) (by kernel_rfl) (by kernel_rfl) (p_2.cell ((fun j v h => hM_2.cell (hc_2 j v h)) 1 _ rfl))) (fun a_24 f_32 => ?_)
            refine W_eq (v := .bool (!(decide (d0.fText = [])))) f_32 (by kernel_rfl) (by kernel_rfl) rfl rfl (X_strne rfl (l := d0.fText) (m := []) (by kernel_rfl) (by kernel_rfl)) (fun a_25 f_33 => ?_)
            refine W_run (L' := [(1, .pointer (some (⟨b_1, 0, none⟩))), (29, .bool (!(decide (d0.fText = []))))]) (w' := w_2) f_33 2 [1, 29] (by kernel_rfl) (fun a_26 f_34 => ?_)
            rcases Bool.eq_false_or_eq_true (!(decide (d0.fText = []))) with h_7 | h_7
            · have k_8 : ¬ (d0.fText = []) := (not_iff decide_eq_true_iff).1 h_7
              have hF_9 := cnd_t h_7 hF_8
              have f_35 := Frm.set f_34 29 (v := .bool (!(decide (d0.fText = [])))) (v' := .bool true) (by kernel_rfl) (congrArg Value.bool h_7)
              have f_36 : Frm 64 [(1, .pointer (some (⟨b_1, 0, none⟩))), (29, .bool true)] a_26 := f_35.keep (ks := [1, 29]) (by kernel_rfl)
              refine W_run (L' := [(29, .bool true), (30, .pointer (some ((⟨b_1, 0, none⟩ : Addr).add 1)))]) (w' := w_2) f_36 1 [29, 30] (by kernel_rfl) (fun a_27 f_37 => ?_)
              refine W_eq (v := S d0.fText) f_37 (by kernel_rfl) (by kernel_rfl) rfl rfl (X_load1 (v := S d0.fText) rfl (ad := (⟨b_1, 0, none⟩ : Addr).add 1) (by kernel_rfl) (by kernel_rfl) (p_2.cell ((fun j v h => hM_2.cell (hc_2 j v h)) 1 _ rfl))) (fun a_28 f_38 => ?_)
              obtain ⟨x_1, hx_1, hF_10⟩ := bind_some' hF_9
              refine W_okv (v := .bool x_1) f_38 p_2 (by kernel_rfl) (by kernel_rfl) rfl rfl (fun _ => by kernel_rfl) (ref01_Valid_ok n _ d0.fText x_1 hx_1) (fun w_3 p_3 a_29 f_39 => ?_)
              refine W_run (L' := [(2, .bool x_1)]) (w' := w_3) f_39 2 [2] (by kernel_rfl) (fun a_30 f_40 => ?_)
              refine W_end rfl ?_
              refine T_n ?_
              refine wp_ret ?_
              refine B_r ?_
              refine T_r ?_
              refine E_ret1 f_40 rfl (by kernel_rfl : Vc.look _ 2 = some (.bool x_1)) ?_
              obtain rfl := Option.some.inj hF_10
              exact ⟨_, rfl, M_2, (hM_1.trans hM_2), p_3, rfl⟩
            · have k_9 : ¬ (¬ (d0.fText = [])) := iff_f (not_iff decide_eq_true_iff) h_7
              have hF_11 := cnd_f h_7 hF_8
              have f_41 := Frm.set f_34 29 (v := .bool (!(decide (d0.fText = [])))) (v' := .bool false) (by kernel_rfl) (congrArg Value.bool h_7)
              have f_42 : Frm 64 [(1, .pointer (some (⟨b_1, 0, none⟩))), (29, .bool false)] a_26 := f_41.keep (ks := [1, 29]) (by kernel_rfl)
              refine W_run (L' := [(2, .bool false)]) (w' := w_2) f_42 5 [2] (by kernel_rfl) (fun a_31 f_43 => ?_)
              refine W_end rfl ?_
              refine T_n ?_
              refine wp_ret ?_
              refine B_r ?_
              refine T_r ?_
              refine E_ret1 f_43 rfl (by kernel_rfl : Vc.look _ 2 = some (.bool false)) ?_
              obtain rfl := Option.some.inj hF_11
              exact ⟨_, rfl, M_2, (hM_1.trans hM_2), p_2, rfl⟩
          · have k_10 : ¬ (d0.fAttr = []) := iff_f decide_eq_true_iff h_6
            have hF_12 := cnd_f h_6 hF_7
            have f_44 := Frm.set f_28 24 (v := .bool (decide (d0.fAttr = []))) (v' := .bool false) (by kernel_rfl) (congrArg Value.bool h_6)
            have f_45 : Frm 64 [(1, .pointer (some (⟨b_1, 0, none⟩))), (24, .bool false)] a_22 := f_44.keep (ks := [1, 24]) (by kernel_rfl)
            refine W_run (L' := [(2, .bool false)]) (w' := w_2) f_45 10 [2] (by kernel_rfl) (fun a_32 f_46 => ?_)
            refine W_end rfl ?_
            refine T_n ?_
            refine wp_ret ?_
            refine B_r ?_
            refine T_r ?_
            refine E_ret1 f_46 rfl (by kernel_rfl : Vc.look _ 2 = some (.bool false)) ?_
            obtain rfl := Option.some.inj hF_12
            exact ⟨_, rfl, M_2, (hM_1.trans hM_2), p_2, rfl⟩
        · have k_11 : ¬ (d0.fName = []) := iff_f decide_eq_true_iff h_5
          have hF_13 := cnd_f h_5 hF_6
          have f_47 := Frm.set f_22 19 (v := .bool (decide (d0.fName = []))) (v' := .bool false) (by kernel_rfl) (congrArg Value.bool h_5)
          have f_48 : Frm 64 [(1, .pointer (some (⟨b_1, 0, none⟩))), (19, .bool false)] a_18 := f_47.keep (ks := [1, 19]) (by kernel_rfl)
          refine W_run (L' := [(2, .bool false)]) (w' := w_2) f_48 15 [2] (by kernel_rfl) (fun a_33 f_49 => ?_)
          refine W_end rfl ?_
          refine T_n ?_
          refine wp_ret ?_
          refine B_r ?_
          refine T_r ?_
          refine E_ret1 f_49 rfl (by kernel_rfl : Vc.look _ 2 = some (.bool false)) ?_
          obtain rfl := Option.some.inj hF_13
          exact ⟨_, rfl, M_2, (hM_1.trans hM_2), p_2, rfl⟩
      · have k_12 : ¬ (d0.fKind = 0) := iff_f decide_eq_true_iff h_4
        have hF_14 := cnd_f h_4 hF_5
        refine R_seq ?_
        refine R_reg ?_
        refine W_run (L' := [(1, .pointer (some (⟨b_1, 0, none⟩))), (13, .int .i8 d0.fKind), (34, .bool (decide (d0.fKind = 3)))]) (w' := w_2) f_18 2 [1, 13, 34] (by kernel_rfl) (fun a_34 f_50 => ?_)
        refine W_end rfl ?_
        refine T_n ?_
        refine R_cond f_50 (b := decide (d0.fKind = 3)) (by kernel_rfl) (by kernel_rfl) (fun h_8 => ?_) (fun h_8 => ?_)
        · have k_13 : d0.fKind = 3 := decide_eq_true_iff.1 h_8
          have hF_15 := cnd_t h_8 hF_14
          refine R_seq ?_
          refine R_reg ?_
          refine W_run (L' := [(1, .pointer (some (⟨b_1, 0, none⟩))), (36, .pointer (some ((⟨b_1, 0, none⟩ : Addr).add 1)))]) (w' := w_2) f_50 1 [1, 36] (by kernel_rfl) (fun a_35 f_51 => ?_)
          refine W_eq (v := S d0.fText) f_51 (by kernel_rfl) (by kernel_rfl) rfl rfl (X_load1 (v := S d0.fText) rfl (ad := (⟨b_1, 0, none⟩ : Addr).add 1) (by kernel_rfl) (by kernel_rfl) (p_2.cell ((fun j v h => hM_2.cell (hc_2 j v h)) 1 _ rfl))) (fun a_36 f_52 => ?_)
          refine W_eq (v := .bool (decide (d0.fText = []))) f_52 (by kernel_rfl) (by kernel_rfl) rfl rfl (X_streq rfl (l := d0.fText) (m := []) (by kernel_rfl) (by kernel_rfl)) (fun a_37 f_53 => ?_)
          refine W_run (L' := [(1, .pointer (some (⟨b_1, 0, none⟩))), (39, .bool (decide (d0.fText = [])))]) (w' := w_2) f_53 1 [1, 39] (by kernel_rfl) (fun a_38 f_54 => ?_)
          rcases Bool.eq_false_or_eq_true (decide (d0.fText = [])) with h_9 | h_9
          · have k_14 : d0.fText = [] := decide_eq_true_iff.1 h_9
            have hF_16 := cnd_t h_9 hF_15
            have f_55 := Frm.set f_54 39 (v := .bool (decide (d0.fText = []))) (v' := .bool true) (by kernel_rfl) (congrArg Value.bool h_9)
            have f_56 : Frm 64 [(1, .pointer (some (⟨b_1, 0, none⟩))), (39, .bool true)] a_38 := f_55.keep (ks := [1, 39]) (by kernel_rfl)
            refine W_run (L' := [(1, .pointer (some (⟨b_1, 0, none⟩))), (39, .bool true), (40, .pointer (some ((⟨b_1, 0, none⟩ : Addr).add 4)))]) (w' := w_2) f_56 1 [1, 39, 40] (by kernel_rfl) (fun a_39 f_57 => ?_)
            refine W_eq (v := S d0.fAttr) f_57 (by kernel_rfl) (by kernel_rfl) rfl rfl (X_load1 (v := S d0.fAttr) rfl (ad := (⟨b_1, 0, none⟩ : Addr).add 4) (by kernel_rfl) (by kernel_rfl) (p_2.cell ((fun j v h => hM_2.cell (hc_2 j v h)) 4 _ rfl))) (fun a_40 f_58 => ?_)
            refine W_eq (v := .bool (decide (d0.fAttr = []))) f_58 (by kernel_rfl) (by kernel_rfl) rfl rfl (X_streq rfl (l := d0.fAttr) (m := []) (by kernel_rfl) (by kernel_rfl)) (fun a_41 f_59 => ?_)
            refine W_run (L' := [(1, .pointer (some (⟨b_1, 0, none⟩))), (44, .bool (decide (d0.fAttr = [])))]) (w' := w_2) f_59 2 [1, 44] (by kernel_rfl) (fun a_42 f_60 => ?_)
            rcases Bool.eq_false_or_eq_true (decide (d0.fAttr = [])) with h_10 | h_10
            · have k_15 : d0.fAttr = [] := decide_eq_true_iff.1 h_10
              have hF_17 := cnd_t h_10 hF_16
              have f_61 := Frm.set f_60 44 (v := .bool (decide (d0.fAttr = []))) (v' := .bool true) (by kernel_rfl) (congrArg Value.bool h_10)
              have f_62 : Frm 64 [(1, .pointer (some (⟨b_1, 0, none⟩))), (44, .bool true)] a_42 := f_61.keep (ks := [1, 44]) (by kernel_rfl)
              refine W_run (L' := [(44, .bool true), (45, .pointer (some ((⟨b_1, 0, none⟩ : Addr).add 3)))]) (w' := w_2) f_62 1 [44, 45] (by kernel_rfl) (fun a_43 f_63 => ?_)
              refine W_eq (v := S d0.fName) f_63 (by kernel_rfl) (by kernel_rfl) rfl rfl (X_load1 (v := S d0.fName) rfl (ad := (⟨b_1, 0, none⟩ : Addr).add 3) (by kernel_rfl) (by kernel_rfl) (p_2.cell ((fun j v h => hM_2.cell (hc_2 j v h)) 3 _ rfl))) (fun a_44 f_64 => ?_)
              obtain ⟨x_2, hx_2, hF_18⟩ := bind_some' hF_17
              refine W_okv (v := .bool x_2) f_64 p_2 (by kernel_rfl) (by kernel_rfl) rfl rfl (fun _ => by kernel_rfl) (ref01_Name_ok n _ d0.fName x_2 hx_2) (fun w_4 p_4 a_45 f_65 => ?_)
              refine W_run (L' := [(2, .bool x_2)]) (w' := w_4) f_65 2 [2] (by kernel_rfl) (fun a_46 f_66 => ?_)
              refine W_end rfl ?_
              refine T_n ?_
              refine wp_ret ?_
              refine B_r ?_
              refine T_r ?_
              refine E_ret1 f_66 rfl (by kernel_rfl : Vc.look _ 2 = some (.bool x_2)) ?_
              obtain rfl := Option.some.inj hF_18
              exact ⟨_, rfl, M_2, (hM_1.trans hM_2), p_4, rfl⟩
            · have k_16 : ¬ (d0.fAttr = []) := iff_f decide_eq_true_iff h_10
              have hF_19 := cnd_f h_10 hF_16
              have f_67 := Frm.set f_60 44 (v := .bool (decide (d0.fAttr = []))) (v' := .bool false) (by kernel_rfl) (congrArg Value.bool h_10)
              have f_68 : Frm 64 [(1, .pointer (some (⟨b_1, 0, none⟩))), (44, .bool false)] a_42 := f_67.keep (ks := [1, 44]) (by kernel_rfl)
              refine W_run (L' := [(2, .bool false)]) (w' := w_2) f_68 5 [2] (by kernel_rfl) (fun a_47 f_69 => ?_)
              refine W_end rfl ?_
              refine T_n ?_
              refine wp_ret ?_
              refine B_r ?_
              refine T_r ?_
              refine E_ret1 f_69 rfl (by kernel_rfl : Vc.look _ 2 = some (.bool false)) ?_
              obtain rfl := Option.some.inj hF_19
              exact ⟨_, rfl, M_2, (hM_1.trans hM_2), p_2, rfl⟩
          · have k_17 : ¬ (d0.fText = []) := iff_f decide_eq_true_iff h_9
            have hF_20 := cnd_f h_9 hF_15
            have f_70 := Frm.set f_54 39 (v := .bool (decide (d0.fText = []))) (v' := .bool false) (by kernel_rfl) (congrArg Value.bool h_9)
            have f_71 : Frm 64 [(1, .pointer (some (⟨b_1, 0, none⟩))), (39, .bool false)] a_38 := f_70.keep (ks := [1, 39]) (by kernel_rfl)
            refine W_run (L' := [(2, .bool false)]) (w' := w_2) f_71 10 [2] (by kernel_rfl) (fun a_48 f_72 => ?_)
            refine W_end rfl ?_
            refine T_n ?_
            refine wp_ret ?_
            refine B_r ?_
            refine T_r ?_
            refine E_ret1 f_72 rfl (by kernel_rfl : Vc.look _ 2 = some (.bool false)) ?_
            obtain rfl := Option.some.inj hF_20
            exact ⟨_, rfl, M_2, (hM_1.trans hM_2), p_2, rfl⟩
        · have k_18 : ¬ (d0.fKind = 3) := iff_f decide_eq_true_iff h_8
          have hF_21 := cnd_f h_8 hF_14
          refine R_seq ?_
          refine R_reg ?_
          refine W_run (L' := [(1, .pointer (some (⟨b_1, 0, none⟩))), (49, .bool (decide (d0.fKind = 4)))]) (w' := w_2) f_50 2 [1, 49] (by kernel_rfl) (fun a_49 f_73 => ?_)
          refine W_end rfl ?_
          refine T_n ?_
          refine R_cond f_73 (b := decide (d0.fKind = 4)) (by kernel_rfl) (by kernel_rfl) (fun h_11 => ?_) (fun h_11 => ?_)
          · have k_19 : d0.fKind = 4 := decide_eq_true_iff.1 h_11
            have hF_22 := cnd_t h_11 hF_21
            refine R_seq ?_
            refine R_reg ?_
            refine W_run (L' := [(1, .pointer (some (⟨b_1, 0, none⟩))), (51, .pointer (some ((⟨b_1, 0, none⟩ : Addr).add 1)))]) (w' := w_2) f_73 1 [1, 51] (by kernel_rfl) (fun a_50 f_74 => ?_)
            refine W_eq (v := S d0.fText) f_74 (by kernel_rfl) (by kernel_rfl) rfl rfl (X_load1 (v := S d0.fText) rfl (ad := (⟨b_1, 0, none⟩ : Addr).add 1) (by kernel_rfl) (by kernel_rfl) (p_2.cell ((fun j v h => hM_2.cell (hc_2 j v h)) 1 _ rfl))) (fun a_51 f_75 => ?_)
            refine W_eq (v := .bool (decide (d0.fText = []))) f_75 (by kernel_rfl) (by kernel_rfl) rfl rfl (X_streq rfl (l := d0.fText) (m := []) (by kernel_rfl) (by kernel_rfl)) (fun a_52 f_76 => ?_)
            refine W_run (L' := [(1, .pointer (some (⟨b_1, 0, none⟩))), (54, .bool (decide (d0.fText = [])))]) (w' := w_2) f_76 1 [1, 54] (by kernel_rfl) (fun a_53 f_77 => ?_)
            rcases Bool.eq_false_or_eq_true (decide (d0.fText = [])) with h_12 | h_12
            · have k_20 : d0.fText = [] := decide_eq_true_iff.1 h_12
              have hF_23 := cnd_t h_12 hF_22
              have f_78 := Frm.set f_77 54 (v := .bool (decide (d0.fText = []))) (v' := .bool true) (by kernel_rfl) (congrArg Value.bool h_12)
              have f_79 : Frm 64 [(1, .pointer (some (⟨b_1, 0, none⟩))), (54, .bool true)] a_53 := f_78.keep (ks := [1, 54]) (by kernel_rfl)
              refine W_run (L' := [(1, .pointer (some (⟨b_1, 0, none⟩))), (54, .bool true), (55, .pointer (some ((⟨b_1, 0, none⟩ : Addr).add 3)))]) (w' := w_2) f_79 1 [1, 54, 55] (by kernel_rfl) (fun a_54 f_80 => ?_)
              refine W_eq (v := S d0.fName) f_80 (by kernel_rfl) (by kernel_rfl) rfl rfl (X_load1 (v := S d0.fName) rfl (ad := (⟨b_1, 0, none⟩ : Addr).add 3) (by kernel_rfl) (by kernel_rfl) (p_2.cell ((fun j v h => hM_2.cell (hc_2 j v h)) 3 _ rfl))) (fun a_55 f_81 => ?_)
              obtain ⟨x_3, hx_3, hF_24⟩ := bind_some' hF_23
              refine W_okv (v := .bool x_3) f_81 p_2 (by kernel_rfl) (by kernel_rfl) rfl rfl (fun _ => by kernel_rfl) (ref01_Name_ok n _ d0.fName x_3 hx_3) (fun w_5 p_5 a_56 f_82 => ?_)
              refine W_run (L' := [(1, .pointer (some (⟨b_1, 0, none⟩))), (59, .bool x_3)]) (w' := w_5) f_82 2 [1, 59] (by kernel_rfl) (fun a_57 f_83 => ?_)
              rcases Bool.eq_false_or_eq_true (x_3) with h_13 | h_13
              · have hF_25 := cnd_t h_13 hF_24
                have f_84 := Frm.set f_83 59 (v := .bool x_3) (v' := .bool true) (by kernel_rfl) (congrArg Value.bool h_13)
                have f_85 : Frm 64 [(1, .pointer (some (⟨b_1, 0, none⟩))), (59, .bool true)] a_57 := f_84.keep (ks := [1, 59]) (by kernel_rfl)
                refine W_run (L' := [(59, .bool true), (60, .pointer (some ((⟨b_1, 0, none⟩ : Addr).add 4)))]) (w' := w_5) f_85 1 [59, 60] (by kernel_rfl) (fun a_58 f_86 => ?_)
                refine W_eq (v := S d0.fAttr) f_86 (by kernel_rfl) (by kernel_rfl) rfl rfl (X_load1 (v := S d0.fAttr) rfl (ad := (⟨b_1, 0, none⟩ : Addr).add 4) (by kernel_rfl) (by kernel_rfl) (p_5.cell ((fun j v h => hM_2.cell (hc_2 j v h)) 4 _ rfl))) (fun a_59 f_87 => ?_)
                obtain ⟨x_4, hx_4, hF_26⟩ := bind_some' hF_25
                refine W_okv (v := .bool x_4) f_87 p_5 (by kernel_rfl) (by kernel_rfl) rfl rfl (fun _ => by kernel_rfl) (ref12_Attr_ok n _ d0.fAttr x_4 hx_4) (fun w_6 p_6 a_60 f_88 => ?_)
                refine W_run (L' := [(2, .bool x_4)]) (w' := w_6) f_88 2 [2] (by kernel_rfl) (fun a_61 f_89 => ?_)
                refine W_end rfl ?_
                refine T_n ?_
                refine wp_ret ?_
                refine B_r ?_
                refine T_r ?_
                refine E_ret1 f_89 rfl (by kernel_rfl : Vc.look _ 2 = some (.bool x_4)) ?_
                obtain rfl := Option.some.inj hF_26
                exact ⟨_, rfl, M_2, (hM_1.trans hM_2), p_6, rfl⟩
              · have hF_27 := cnd_f h_13 hF_24
                have f_90 := Frm.set f_83 59 (v := .bool x_3) (v' := .bool false) (by kernel_rfl) (congrArg Value.bool h_13)
                have f_91 : Frm 64 [(1, .pointer (some (⟨b_1, 0, none⟩))), (59, .bool false)] a_57 := f_90.keep (ks := [1, 59]) (by kernel_rfl)
                refine W_run (L' := [(2, .bool false)]) (w' := w_5) f_91 5 [2] (by kernel_rfl) (fun a_62 f_92 => ?_)
                refine W_end rfl ?_
                refine T_n ?_
                refine wp_ret ?_
                refine B_r ?_
                refine T_r ?_
                refine E_ret1 f_92 rfl (by kernel_rfl : Vc.look _ 2 = some (.bool false)) ?_
                obtain rfl := Option.some.inj hF_27
                exact ⟨_, rfl, M_2, (hM_1.trans hM_2), p_5, rfl⟩
            · have k_23 : ¬ (d0.fText = []) := iff_f decide_eq_true_iff h_12
              have hF_28 := cnd_f h_12 hF_22
              have f_93 := Frm.set f_77 54 (v := .bool (decide (d0.fText = []))) (v' := .bool false) (by kernel_rfl) (congrArg Value.bool h_12)
              have f_94 : Frm 64 [(1, .pointer (some (⟨b_1, 0, none⟩))), (54, .bool false)] a_53 := f_93.keep (ks := [1, 54]) (by kernel_rfl)
              refine W_run (L' := [(2, .bool false)]) (w' := w_2) f_94 10 [2] (by kernel_rfl) (fun a_63 f_95 => ?_)
              refine W_end rfl ?_
              refine T_n ?_
              refine wp_ret ?_
              refine B_r ?_
              refine T_r ?_
              refine E_ret1 f_95 rfl (by kernel_rfl : Vc.look _ 2 = some (.bool false)) ?_
              obtain rfl := Option.some.inj hF_28
              exact ⟨_, rfl, M_2, (hM_1.trans hM_2), p_2, rfl⟩
          · have k_24 : ¬ (d0.fKind = 4) := iff_f decide_eq_true_iff h_11
            have hF_29 := cnd_f h_11 hF_21
            refine wp_skip ?_
            refine B_n ?_
            refine T_n ?_
            refine R_seq ?_
            refine R_reg ?_
            refine W_run (L' := [(2, .bool false)]) (w' := w_2) f_73 1 [2] (by kernel_rfl) (fun a_64 f_96 => ?_)
            refine W_end rfl ?_
            refine T_n ?_
            refine wp_ret ?_
            refine E_ret1 f_96 rfl (by kernel_rfl : Vc.look _ 2 = some (.bool false)) ?_
            obtain rfl := Option.some.inj hF_29
            exact ⟨_, rfl, M_2, (hM_1.trans hM_2), p_2, rfl⟩

def ref12_written_s1 (n : Nat) (d0 : List UInt8) (s_1 : List UInt8 × Int) : Option (Lp (List UInt8 × Int) (Sum Unit (List UInt8))) :=
    bif (decide (s_1.2 < (d0.length : Int))) then
      ((((getI d0 s_1.2).bind fun c_1 =>
        bif (!(decide (((c_1).toNat : Int) = 36))) then
          (some ((true)))
        else
          need (inR .i64 (s_1.2 + 1)) <|
          bif (decide ((d0.length : Int) ≤ (s_1.2 + 1))) then
            (some ((true)))
          else
            need (inR .i64 (s_1.2 + 1)) <|
            (getI d0 (s_1.2 + 1)).bind fun c_2 =>
            some ((!(decide (((c_2).toNat : Int) = 123)))) : Option Bool)).bind fun y_1 =>
      bif y_1 then
        ((getI d0 s_1.2).bind fun c_3 =>
        need ((s_1.1.length + 1) * 1 ≤ 140737488355328) <|
        need (inR .i64 (s_1.2 + 1)) <|
        some (.nx (s_1.1 ++ [c_3], s_1.2 + 1)))
      else
        need (inR .i64 (s_1.2 + 2)) <|
        (ref12_shut n d0 (s_1.2 + 2)).bind fun x_1 =>
        bif (decide (x_1 < 0)) then
          (some (.br (.inl ())))
        else
          need ((s_1.1.length + [36, 123, 33].length) * 1 ≤ 140737488355328) <|
          need (inR .i64 (s_1.2 + 2)) <|
          need (inR .i64 (x_1 + 1)) <|
          need (0 ≤ (s_1.2 + 2) ∧ (s_1.2 + 2) ≤ (x_1 + 1) ∧ (x_1 + 1) ≤ d0.length) <|
          need (((s_1.1 ++ [36, 123, 33]).length + ((d0.take (x_1 + 1).toNat).drop (s_1.2 + 2).toNat).length) * 1 ≤ 140737488355328) <|
          need (inR .i64 (x_1 + 1)) <|
          some (.nx ((s_1.1 ++ [36, 123, 33]) ++ ((d0.take (x_1 + 1).toNat).drop (s_1.2 + 2).toNat), x_1 + 1)))
    else
      some (.br (.inr s_1.1))
def ref12_written (n : Nat) (d0 : List UInt8) : Option (List UInt8 × Bool) :=
  (loopF (ref12_written_s1 n d0) n (([] : List UInt8), (0 : Int))).bind fun b_1 =>
  (match b_1 with 
  | .inl y_2 => some ((([] : List UInt8), (false))) 
  | .inr y_3 => some ((y_3, (true))))
theorem ref12_written_ok (n : Nat) (M : Mem) (d0 : List UInt8) (r : List UInt8 × Bool) (hF : ref12_written n d0 = some r) : Ok Tryd.prog M 41 [S d0] (fun _ v => v = .tuple #[S r.1, .bool r.2]) := by
  unfold ref12_written at hF
  intro M1 hM0 w0 H w p0
  refine R_enter 57 Tryd.func41 rfl rfl (by simp) (fun a0 f0 => ?_)
  replace f0 : Frm 57 [(0, S d0)] a0 := f0
  refine R_seq ?_
  refine R_reg ?_
  refine W_run (L' := [(0, S d0)]) (w' := w) f0 2 [0] (by kernel_rfl) (fun a_1 f_1 => ?_)
  refine W_end rfl ?_
  refine T_n ?_
  refine R_seq ?_
  refine R_reg ?_
  refine W_run (L' := [(0, S d0), (4, .slice none 0 0)]) (w' := w) f_1 1 [0, 4] (by kernel_rfl) (fun a_2 f_2 => ?_)
  refine W_end rfl ?_
  refine T_n ?_
  refine R_seq ?_
  refine R_reg ?_
  refine W_run (L' := [(0, S d0), (4, .slice none 0 0), (5, .int .i64 0)]) (w' := w) f_2 1 [0, 4, 5] (by kernel_rfl) (fun a_3 f_3 => ?_)
  refine W_end rfl ?_
  refine T_n ?_
  refine R_seq ?_
  refine wp_block ?_
  obtain ⟨A_1, cap_1, hv_1⟩ : ∃ A cap, Value.slice none 0 0 = .slice A ([] : List UInt8).length cap := ⟨none, 0, rfl⟩
  have p_1 : Hp w0 M1 ((Ent.row 5 1 (.slice A_1 ([] : List UInt8).length cap_1) ([] : List UInt8).length []) :: H) w := by rw [← hv_1]; exact p0.nilRow 5 1
  have f_4 := Frm.set f_3 4 (v := .slice none 0 0) (v' := .slice A_1 ([] : List UInt8).length cap_1) (by kernel_rfl) (hv_1)
  have f_5 : Frm 57 [(0, S d0), (4, .slice A_1 ([] : List UInt8).length cap_1), (5, .int .i64 0)] a_3 := f_4.keep (ks := [0, 4, 5]) (by kernel_rfl)
  have hr_1 : RepSeq M1 (([] : List UInt8).map embB) [] := rfl
  obtain ⟨b_1, hL_1, hF_1⟩ := bind_some' hF
  refine wp_mono (Q := fun e a w => (e = .ret ∧ (∃ y_2 : Unit, b_1 = .inl y_2 ∧ ∃ M_3 : Mem, M1.le M_3 ∧ Frm 57 [(2, S []), (3, .bool false)] a ∧ Hp w0 M_3 (H) w)) ∨ (e = .exit 0 ∧ (∃ y_3 : List UInt8, b_1 = .inr y_3 ∧ ∃ M_4 : Mem, M1.le M_4 ∧ ∃ (A_6 : Option Addr), ∃ (cap_6 : Nat), ∃ (cs_5 : List Value), RepSeq M_4 (y_3.map embB) cs_5 ∧ Frm 57 [(4, .slice A_6 y_3.length cap_6)] a ∧ Hp w0 M_4 ((Ent.row 5 1 (.slice A_6 y_3.length cap_6) y_3.length cs_5) :: H) w))) (R_loop (n := 57) (w0 := w0) (M := M1) (fun (x : Nat × (List UInt8 × Int) × (Option Addr) × Nat × (List Value)) => match x with | (m_1, s_1, A_2, cap_2, cs_1) => [(0, S d0), (4, .slice A_2 s_1.1.length cap_2), (5, .int .i64 s_1.2)]) (fun (x : Nat × (List UInt8 × Int) × (Option Addr) × Nat × (List Value)) => match x with | (m_1, s_1, A_2, cap_2, cs_1) => ((Ent.row 5 1 (.slice A_2 s_1.1.length cap_2) s_1.1.length cs_1) :: H)) (fun (x : Nat × (List UInt8 × Int) × (Option Addr) × Nat × (List Value)) (MM : Mem) => match x with | (m_1, s_1, A_2, cap_2, cs_1) => loopF (ref12_written_s1 n d0) m_1 s_1 = some b_1 ∧ RepSeq MM (s_1.1.map embB) cs_1) (fun (x : Nat × (List UInt8 × Int) × (Option Addr) × Nat × (List Value)) => match x with | (m_1, s_1, A_2, cap_2, cs_1) => m_1) (n, (([] : List UInt8), (0 : Int)), A_1, cap_1, []) (f_5.keep (ks := [0, 4, 5]) (by kernel_rfl)) p_1 ⟨hL_1, hr_1⟩ ?_) ?_
  · rintro ⟨m_1, s_1, A_2, cap_2, cs_1⟩ M_1 a_4 w_1 hM_1 I_1 f_6 p_2
    replace f_6 : Frm 57 [(0, S d0), (4, .slice A_2 s_1.1.length cap_2), (5, .int .i64 s_1.2)] a_4 := f_6
    replace p_2 : Hp w0 M_1 ((Ent.row 5 1 (.slice A_2 s_1.1.length cap_2) s_1.1.length cs_1) :: H) w_1 := p_2
    obtain ⟨I_1L, hr_2⟩ := I_1
    obtain ⟨m_2, r_1, rfl, hs_1, hn_1⟩ := loop_step I_1L
    unfold ref12_written_s1 at hs_1
    refine R_seq ?_
    refine R_seq ?_
    refine R_reg ?_
    refine W_run (L' := [(0, S d0), (4, .slice A_2 s_1.1.length cap_2), (5, .int .i64 s_1.2), (10, .bool (decide (s_1.2 < (d0.length : Int))))]) (w' := w_1) f_6 4 [0, 4, 5, 10] (by kernel_rfl) (fun a_5 f_7 => ?_)
    refine W_end rfl ?_
    refine T_n ?_
    refine R_cond f_7 (b := decide (s_1.2 < (d0.length : Int))) (by kernel_rfl) (by kernel_rfl) (fun h_1 => ?_) (fun h_1 => ?_)
    · have k_1 : s_1.2 < (d0.length : Int) := decide_eq_true_iff.1 h_1
      have hF_2 := cnd_t h_1 hs_1
      refine wp_skip ?_
      refine T_n ?_
      refine wp_block ?_
      refine R_seq ?_
      refine R_seq ?_
      obtain ⟨j_1, hj_1, hF_3⟩ := bind_some' hF_2
      refine R_mid (fun a_18 w_2 => ∃ y_1 : Bool, j_1 = y_1 ∧ ∃ M_2 : Mem, M_1.le M_2 ∧ Frm 57 [(0, S d0), (4, .slice A_2 s_1.1.length cap_2), (5, .int .i64 s_1.2), (28, .bool y_1)] a_18 ∧ Hp w0 M_2 ((Ent.row 5 1 (.slice A_2 s_1.1.length cap_2) s_1.1.length cs_1) :: H) w_2) ?_ ?_
      · refine R_reg ?_
        refine W_run (L' := [(0, S d0), (4, .slice A_2 s_1.1.length cap_2), (5, .int .i64 s_1.2), (11, S d0), (12, .int .i64 s_1.2)]) (w' := w_1) f_7 2 [0, 4, 5, 11, 12] (by kernel_rfl) (fun a_6 f_8 => ?_)
        obtain ⟨c_1, hx_1, hF_4⟩ := bind_some' hj_1
        refine W_eq (v := .int .u8 ((d0.getD s_1.2.toNat 0).toNat : Int)) f_8 (by kernel_rfl) (by kernel_rfl) rfl rfl (X_strIndex rfl (l := d0) (k := .i64) (i := s_1.2) (by kernel_rfl) (by kernel_rfl) (by kernel_rfl) (getI_nn hx_1) (getI_lt hx_1)) (fun a_7 f_9 => ?_)
        have f_10 := Frm.set f_9 13 (v := .int .u8 ((d0.getD s_1.2.toNat 0).toNat : Int)) (v' := .int .u8 ((c_1).toNat : Int)) (by kernel_rfl) (congrArg (fun c : UInt8 => Value.int .u8 ((c.toNat : Nat) : Int)) (getI_getD hx_1))
        have f_11 : Frm 57 [(0, S d0), (4, .slice A_2 s_1.1.length cap_2), (5, .int .i64 s_1.2), (11, S d0), (12, .int .i64 s_1.2), (13, .int .u8 ((c_1).toNat : Int))] a_7 := f_10.keep (ks := [0, 4, 5, 11, 12, 13]) (by kernel_rfl)
        refine W_run (L' := [(0, S d0), (4, .slice A_2 s_1.1.length cap_2), (5, .int .i64 s_1.2), (15, .bool (!(decide (((c_1).toNat : Int) = 36))))]) (w' := w_1) f_11 2 [0, 4, 5, 15] (by kernel_rfl) (fun a_8 f_12 => ?_)
        rcases Bool.eq_false_or_eq_true (!(decide (((c_1).toNat : Int) = 36))) with h_2 | h_2
        · have k_2 : ¬ (((c_1).toNat : Int) = 36) := (not_iff decide_eq_true_iff).1 h_2
          have hF_5 := cnd_t h_2 hF_4
          have f_13 := Frm.set f_12 15 (v := .bool (!(decide (((c_1).toNat : Int) = 36)))) (v' := .bool true) (by kernel_rfl) (congrArg Value.bool h_2)
          have f_14 : Frm 57 [(0, S d0), (4, .slice A_2 s_1.1.length cap_2), (5, .int .i64 s_1.2), (15, .bool true)] a_8 := f_13.keep (ks := [0, 4, 5, 15]) (by kernel_rfl)
          refine W_run (L' := [(0, S d0), (4, .slice A_2 s_1.1.length cap_2), (5, .int .i64 s_1.2), (28, .bool true)]) (w' := w_1) f_14 13 [0, 4, 5, 28] (by kernel_rfl) (fun a_9 f_15 => ?_)
          refine W_end rfl ?_
          refine T_n ?_
          exact ⟨(true), (Option.some.inj hF_5).symm, M_1, (Mem.le_refl _), f_15.keep (ks := [0, 4, 5, 28]) (by kernel_rfl), p_2⟩
        · have k_3 : ¬ (¬ (((c_1).toNat : Int) = 36)) := iff_f (not_iff decide_eq_true_iff) h_2
          have hF_6 := cnd_f h_2 hF_4
          have f_16 := Frm.set f_12 15 (v := .bool (!(decide (((c_1).toNat : Int) = 36)))) (v' := .bool false) (by kernel_rfl) (congrArg Value.bool h_2)
          have f_17 : Frm 57 [(0, S d0), (4, .slice A_2 s_1.1.length cap_2), (5, .int .i64 s_1.2), (15, .bool false)] a_8 := f_16.keep (ks := [0, 4, 5, 15]) (by kernel_rfl)
          refine W_run (L' := [(0, S d0), (4, .slice A_2 s_1.1.length cap_2), (5, .int .i64 s_1.2), (15, .bool false), (16, .int .i64 s_1.2)]) (w' := w_1) f_17 1 [0, 4, 5, 15, 16] (by kernel_rfl) (fun a_10 f_18 => ?_)
          obtain ⟨g_1, hF_7⟩ := need_some hF_6
          refine W_run (L' := [(0, S d0), (4, .slice A_2 s_1.1.length cap_2), (5, .int .i64 s_1.2), (15, .bool false), (16, .int .i64 s_1.2), (17, .int .i64 (IntKind.wrap .i64 (s_1.2 + 1)))]) (w' := w_1) f_18 1 [0, 4, 5, 15, 16, 17] (by kernel_rfl) (fun a_11 f_19 => ?_)
          have f_20 := Frm.set f_19 17 (v := .int .i64 (IntKind.wrap .i64 (s_1.2 + 1))) (v' := .int .i64 (s_1.2 + 1)) (by kernel_rfl) (congrArg (Value.int .i64) (inR_wrap g_1))
          have f_21 : Frm 57 [(0, S d0), (4, .slice A_2 s_1.1.length cap_2), (5, .int .i64 s_1.2), (15, .bool false), (16, .int .i64 s_1.2), (17, .int .i64 (s_1.2 + 1))] a_11 := f_20.keep (ks := [0, 4, 5, 15, 16, 17]) (by kernel_rfl)
          refine W_run (L' := [(0, S d0), (4, .slice A_2 s_1.1.length cap_2), (5, .int .i64 s_1.2), (22, .bool (decide ((d0.length : Int) ≤ (s_1.2 + 1))))]) (w' := w_1) f_21 5 [0, 4, 5, 22] (by kernel_rfl) (fun a_12 f_22 => ?_)
          rcases Bool.eq_false_or_eq_true (decide ((d0.length : Int) ≤ (s_1.2 + 1))) with h_3 | h_3
          · have k_4 : (d0.length : Int) ≤ (s_1.2 + 1) := decide_eq_true_iff.1 h_3
            have hF_8 := cnd_t h_3 hF_7
            have f_23 := Frm.set f_22 22 (v := .bool (decide ((d0.length : Int) ≤ (s_1.2 + 1)))) (v' := .bool true) (by kernel_rfl) (congrArg Value.bool h_3)
            have f_24 : Frm 57 [(0, S d0), (4, .slice A_2 s_1.1.length cap_2), (5, .int .i64 s_1.2), (22, .bool true)] a_12 := f_23.keep (ks := [0, 4, 5, 22]) (by kernel_rfl)
            refine W_run (L' := [(0, S d0), (4, .slice A_2 s_1.1.length cap_2), (5, .int .i64 s_1.2), (28, .bool true)]) (w' := w_1) f_24 6 [0, 4, 5, 28] (by kernel_rfl) (fun a_13 f_25 => ?_)
            refine W_end rfl ?_
            refine T_n ?_
            exact ⟨(true), (Option.some.inj hF_8).symm, M_1, (Mem.le_refl _), f_25.keep (ks := [0, 4, 5, 28]) (by kernel_rfl), p_2⟩
          · have k_5 : ¬ ((d0.length : Int) ≤ (s_1.2 + 1)) := iff_f decide_eq_true_iff h_3
            have hF_9 := cnd_f h_3 hF_7
            have f_26 := Frm.set f_22 22 (v := .bool (decide ((d0.length : Int) ≤ (s_1.2 + 1)))) (v' := .bool false) (by kernel_rfl) (congrArg Value.bool h_3)
            have f_27 : Frm 57 [(0, S d0), (4, .slice A_2 s_1.1.length cap_2), (5, .int .i64 s_1.2), (22, .bool false)] a_12 := f_26.keep (ks := [0, 4, 5, 22]) (by kernel_rfl)
            refine W_run (L' := [(0, S d0), (4, .slice A_2 s_1.1.length cap_2), (5, .int .i64 s_1.2), (22, .bool false), (23, S d0), (24, .int .i64 s_1.2)]) (w' := w_1) f_27 2 [0, 4, 5, 22, 23, 24] (by kernel_rfl) (fun a_14 f_28 => ?_)
            obtain ⟨g_2, hF_10⟩ := need_some hF_9
            refine W_run (L' := [(0, S d0), (4, .slice A_2 s_1.1.length cap_2), (5, .int .i64 s_1.2), (22, .bool false), (23, S d0), (24, .int .i64 s_1.2), (25, .int .i64 (IntKind.wrap .i64 (s_1.2 + 1)))]) (w' := w_1) f_28 1 [0, 4, 5, 22, 23, 24, 25] (by kernel_rfl) (fun a_15 f_29 => ?_)
            have f_30 := Frm.set f_29 25 (v := .int .i64 (IntKind.wrap .i64 (s_1.2 + 1))) (v' := .int .i64 (s_1.2 + 1)) (by kernel_rfl) (congrArg (Value.int .i64) (inR_wrap g_2))
            have f_31 : Frm 57 [(0, S d0), (4, .slice A_2 s_1.1.length cap_2), (5, .int .i64 s_1.2), (22, .bool false), (23, S d0), (24, .int .i64 s_1.2), (25, .int .i64 (s_1.2 + 1))] a_15 := f_30.keep (ks := [0, 4, 5, 22, 23, 24, 25]) (by kernel_rfl)
            obtain ⟨c_2, hx_2, hF_11⟩ := bind_some' hF_10
            refine W_eq (v := .int .u8 ((d0.getD (s_1.2 + 1).toNat 0).toNat : Int)) f_31 (by kernel_rfl) (by kernel_rfl) rfl rfl (X_strIndex rfl (l := d0) (k := .i64) (i := s_1.2 + 1) (by kernel_rfl) (by kernel_rfl) (by kernel_rfl) (getI_nn hx_2) (getI_lt hx_2)) (fun a_16 f_32 => ?_)
            have f_33 := Frm.set f_32 26 (v := .int .u8 ((d0.getD (s_1.2 + 1).toNat 0).toNat : Int)) (v' := .int .u8 ((c_2).toNat : Int)) (by kernel_rfl) (congrArg (fun c : UInt8 => Value.int .u8 ((c.toNat : Nat) : Int)) (getI_getD hx_2))
            have f_34 : Frm 57 [(0, S d0), (4, .slice A_2 s_1.1.length cap_2), (5, .int .i64 s_1.2), (22, .bool false), (23, S d0), (24, .int .i64 s_1.2), (25, .int .i64 (s_1.2 + 1)), (26, .int .u8 ((c_2).toNat : Int))] a_16 := f_33.keep (ks := [0, 4, 5, 22, 23, 24, 25, 26]) (by kernel_rfl)
            refine W_run (L' := [(0, S d0), (4, .slice A_2 s_1.1.length cap_2), (5, .int .i64 s_1.2), (28, .bool (!(decide (((c_2).toNat : Int) = 123))))]) (w' := w_1) f_34 2 [0, 4, 5, 28] (by kernel_rfl) (fun a_17 f_35 => ?_)
            refine W_end rfl ?_
            refine T_n ?_
            exact ⟨(!(decide (((c_2).toNat : Int) = 123))), (Option.some.inj hF_11).symm, M_1, (Mem.le_refl _), f_35.keep (ks := [0, 4, 5, 28]) (by kernel_rfl), p_2⟩
      · rintro a_18 w_2 ⟨y_1, hq_1, M_2, hM_2, f_36, p_3⟩
        subst j_1
        refine T_n ?_
        refine R_cond f_36 (b := y_1) (by kernel_rfl) (by kernel_rfl) (fun h_4 => ?_) (fun h_4 => ?_)
        · have hF_12 := cnd_t h_4 hF_3
          refine R_seq ?_
          refine R_reg ?_
          refine W_run (L' := [(0, S d0), (5, .int .i64 s_1.2), (29, .slice A_2 s_1.1.length cap_2), (30, S d0), (31, .int .i64 s_1.2)]) (w' := w_2) f_36 3 [0, 5, 29, 30, 31] (by kernel_rfl) (fun a_19 f_37 => ?_)
          obtain ⟨c_3, hx_3, hF_13⟩ := bind_some' hF_12
          refine W_eq (v := .int .u8 ((d0.getD s_1.2.toNat 0).toNat : Int)) f_37 (by kernel_rfl) (by kernel_rfl) rfl rfl (X_strIndex rfl (l := d0) (k := .i64) (i := s_1.2) (by kernel_rfl) (by kernel_rfl) (by kernel_rfl) (getI_nn hx_3) (getI_lt hx_3)) (fun a_20 f_38 => ?_)
          have f_39 := Frm.set f_38 32 (v := .int .u8 ((d0.getD s_1.2.toNat 0).toNat : Int)) (v' := .int .u8 ((c_3).toNat : Int)) (by kernel_rfl) (congrArg (fun c : UInt8 => Value.int .u8 ((c.toNat : Nat) : Int)) (getI_getD hx_3))
          have f_40 : Frm 57 [(0, S d0), (5, .int .i64 s_1.2), (29, .slice A_2 s_1.1.length cap_2), (30, S d0), (31, .int .i64 s_1.2), (32, .int .u8 ((c_3).toNat : Int))] a_20 := f_39.keep (ks := [0, 5, 29, 30, 31, 32]) (by kernel_rfl)
          refine W_alloc f_40 p_3 1 [0, 5, 29, 30, 31, 32, 33] (.cells #[.int .u8 ((c_3).toNat : Int)] 5 (0, 0)) (fun b_2 => [(0, S d0), (5, .int .i64 s_1.2), (29, .slice A_2 s_1.1.length cap_2), (30, S d0), (31, .int .i64 s_1.2), (32, .int .u8 ((c_3).toNat : Int)), (33, .slice (some ⟨b_2, 0, none⟩) 1 1)]) (fun _ => by kernel_rfl) (fun b_2 w_3 p_4 a_21 f_41 => ?_)
          replace f_41 : Frm 57 [(0, S d0), (5, .int .i64 s_1.2), (29, .slice A_2 s_1.1.length cap_2), (30, S d0), (31, .int .i64 s_1.2), (32, .int .u8 ((c_3).toNat : Int)), (33, .slice (some ⟨b_2, 0, none⟩) 1 1)] a_21 := f_41
          have p_5 : Hp w0 M_2 ((Ent.row 5 1 (.slice A_2 s_1.1.length cap_2) s_1.1.length cs_1) :: (Ent.obj b_2 (.cells #[.int .u8 ((c_3).toNat : Int)] 5 (0, 0))) :: H) w_3 := p_4.pull 1 rfl rfl
          obtain ⟨g_3, hF_14⟩ := need_some hF_13
          refine W_appendL (z := .int .u8 0) (f := embB) (xs := s_1.1) (ys := [c_3]) (news := [.int .u8 ((c_3).toNat : Int)]) (ad := ⟨b_2, 0, none⟩) (m := 1) (c := 1) f_41 p_5 (RepSeq.mono hM_2 _ _ hr_2) (by exact ⟨_, _, rfl, rfl, rfl⟩) (by kernel_rfl) (by kernel_rfl) rfl rfl rfl (by kernel_rfl) (by kernel_rfl) (by kernel_rfl) (by kernel_rfl) rfl (own_cells (p_5.ownCell 1 rfl) 0 rfl) (by exact g_3) (by have hg_ := g_3; first | omega | (simp only [List.length_cons, List.length_nil] at *; omega)) (fun A_3 cap_3 cs_2 w_4 p_6 hr_3 a_22 f_42 => ?_)
          have p_7 : Hp w0 M_2 ((Ent.obj b_2 (.cells #[.int .u8 ((c_3).toNat : Int)] 5 (0, 0))) :: (Ent.row 5 1 (.slice A_3 (s_1.1 ++ [c_3]).length cap_3) (s_1.1 ++ [c_3]).length cs_2) :: H) w_4 := p_6.pull 1 rfl rfl
          have p_8 := p_7.drop
          refine W_run (L' := [(0, S d0), (4, .slice A_3 (s_1.1 ++ [c_3]).length cap_3), (5, .int .i64 s_1.2)]) (w' := w_4) f_42 1 [0, 4, 5] (by kernel_rfl) (fun a_23 f_43 => ?_)
          refine W_end rfl ?_
          refine T_n ?_
          refine R_seq ?_
          refine R_reg ?_
          refine W_run (L' := [(0, S d0), (4, .slice A_3 (s_1.1 ++ [c_3]).length cap_3), (35, .int .i64 s_1.2)]) (w' := w_4) f_43 1 [0, 4, 35] (by kernel_rfl) (fun a_24 f_44 => ?_)
          obtain ⟨g_4, hF_15⟩ := need_some hF_14
          refine W_run (L' := [(0, S d0), (4, .slice A_3 (s_1.1 ++ [c_3]).length cap_3), (35, .int .i64 s_1.2), (36, .int .i64 (IntKind.wrap .i64 (s_1.2 + 1)))]) (w' := w_4) f_44 1 [0, 4, 35, 36] (by kernel_rfl) (fun a_25 f_45 => ?_)
          have f_46 := Frm.set f_45 36 (v := .int .i64 (IntKind.wrap .i64 (s_1.2 + 1))) (v' := .int .i64 (s_1.2 + 1)) (by kernel_rfl) (congrArg (Value.int .i64) (inR_wrap g_4))
          have f_47 : Frm 57 [(0, S d0), (4, .slice A_3 (s_1.1 ++ [c_3]).length cap_3), (35, .int .i64 s_1.2), (36, .int .i64 (s_1.2 + 1))] a_25 := f_46.keep (ks := [0, 4, 35, 36]) (by kernel_rfl)
          refine W_run (L' := [(0, S d0), (4, .slice A_3 (s_1.1 ++ [c_3]).length cap_3), (5, .int .i64 (s_1.2 + 1))]) (w' := w_4) f_47 1 [0, 4, 5] (by kernel_rfl) (fun a_26 f_48 => ?_)
          refine W_end rfl ?_
          refine T_n ?_
          refine wp_exit ?_
          refine T_x ?_
          refine B_x ?_
          refine T_n ?_
          obtain rfl := Option.some.inj hF_15
          exact ⟨⟨m_2, (s_1.1 ++ [c_3], s_1.2 + 1), A_3, cap_3, cs_2⟩, Nat.lt_succ_self _, M_2, (hM_1.trans hM_2), ⟨hn_1, hr_3⟩, f_48.keep (ks := [0, 4, 5]) (by kernel_rfl), p_8⟩
        · have hF_16 := cnd_f h_4 hF_3
          refine wp_skip ?_
          refine T_n ?_
          refine R_seq ?_
          refine R_reg ?_
          refine W_run (L' := [(0, S d0), (4, .slice A_2 s_1.1.length cap_2), (5, .int .i64 s_1.2), (37, S d0), (38, .int .i64 s_1.2)]) (w' := w_2) f_36 2 [0, 4, 5, 37, 38] (by kernel_rfl) (fun a_27 f_49 => ?_)
          obtain ⟨g_5, hF_17⟩ := need_some hF_16
          refine W_run (L' := [(0, S d0), (4, .slice A_2 s_1.1.length cap_2), (5, .int .i64 s_1.2), (37, S d0), (38, .int .i64 s_1.2), (39, .int .i64 (IntKind.wrap .i64 (s_1.2 + 2)))]) (w' := w_2) f_49 1 [0, 4, 5, 37, 38, 39] (by kernel_rfl) (fun a_28 f_50 => ?_)
          have f_51 := Frm.set f_50 39 (v := .int .i64 (IntKind.wrap .i64 (s_1.2 + 2))) (v' := .int .i64 (s_1.2 + 2)) (by kernel_rfl) (congrArg (Value.int .i64) (inR_wrap g_5))
          have f_52 : Frm 57 [(0, S d0), (4, .slice A_2 s_1.1.length cap_2), (5, .int .i64 s_1.2), (37, S d0), (38, .int .i64 s_1.2), (39, .int .i64 (s_1.2 + 2))] a_28 := f_51.keep (ks := [0, 4, 5, 37, 38, 39]) (by kernel_rfl)
          obtain ⟨x_1, hx_4, hF_18⟩ := bind_some' hF_17
          refine W_okv (v := .int .i64 x_1) f_52 p_3 (by kernel_rfl) (by kernel_rfl) rfl rfl (fun _ => by kernel_rfl) (ref12_shut_ok n _ d0 (s_1.2 + 2) x_1 hx_4) (fun w_5 p_9 a_29 f_53 => ?_)
          refine W_run (L' := [(0, S d0), (4, .slice A_2 s_1.1.length cap_2), (5, .int .i64 s_1.2), (6, .int .i64 x_1)]) (w' := w_5) f_53 1 [0, 4, 5, 6] (by kernel_rfl) (fun a_30 f_54 => ?_)
          refine W_end rfl ?_
          refine T_n ?_
          refine R_seq ?_
          refine R_seq ?_
          refine R_reg ?_
          refine W_run (L' := [(0, S d0), (4, .slice A_2 s_1.1.length cap_2), (5, .int .i64 s_1.2), (6, .int .i64 x_1), (42, .bool (decide (x_1 < 0)))]) (w' := w_5) f_54 2 [0, 4, 5, 6, 42] (by kernel_rfl) (fun a_31 f_55 => ?_)
          refine W_end rfl ?_
          refine T_n ?_
          refine R_cond f_55 (b := decide (x_1 < 0)) (by kernel_rfl) (by kernel_rfl) (fun h_5 => ?_) (fun h_5 => ?_)
          · have k_8 : x_1 < 0 := decide_eq_true_iff.1 h_5
            have hF_19 := cnd_t h_5 hF_18
            refine R_seq ?_
            refine R_reg ?_
            refine W_run (L' := [(2, S []), (3, .bool false)]) (w' := w_5) f_55 2 [2, 3] (by kernel_rfl) (fun a_32 f_56 => ?_)
            refine W_end rfl ?_
            refine T_n ?_
            refine wp_ret ?_
            refine T_r ?_
            refine B_r ?_
            refine T_r ?_
            obtain rfl := Option.some.inj hF_19
            exact .inl ⟨rfl, (), (Option.some.inj hn_1).symm, M_2, (hM_1.trans hM_2), f_56.keep (ks := [2, 3]) (by kernel_rfl), (p_9.dropN 1)⟩
          · have k_9 : ¬ (x_1 < 0) := iff_f decide_eq_true_iff h_5
            have hF_20 := cnd_f h_5 hF_18
            refine wp_skip ?_
            refine T_n ?_
            refine R_seq ?_
            refine R_reg ?_
            refine W_run (L' := [(0, S d0), (5, .int .i64 s_1.2), (6, .int .i64 x_1), (43, .slice A_2 s_1.1.length cap_2)]) (w' := w_5) f_55 1 [0, 5, 6, 43] (by kernel_rfl) (fun a_33 f_57 => ?_)
            obtain ⟨g_6, hF_21⟩ := need_some hF_20
            refine W_appendT (z := .int .u8 0) (xs := s_1.1) (l := [36, 123, 33]) f_57 p_9 (RepSeq.mono hM_2 _ _ hr_2) (by kernel_rfl) (by kernel_rfl) rfl rfl rfl (by kernel_rfl) (by kernel_rfl) (by kernel_rfl) (by kernel_rfl) (by kernel_rfl) g_6 (by omega) (fun A_4 cap_4 cs_3 w_6 p_10 hr_4 a_34 f_58 => ?_)
            refine W_run (L' := [(0, S d0), (4, .slice A_4 (s_1.1 ++ [36, 123, 33]).length cap_4), (5, .int .i64 s_1.2), (6, .int .i64 x_1)]) (w' := w_6) f_58 1 [0, 4, 5, 6] (by kernel_rfl) (fun a_35 f_59 => ?_)
            refine W_end rfl ?_
            refine T_n ?_
            refine R_seq ?_
            refine R_reg ?_
            refine W_run (L' := [(0, S d0), (6, .int .i64 x_1), (45, .slice A_4 (s_1.1 ++ [36, 123, 33]).length cap_4), (46, S d0), (47, .int .i64 s_1.2)]) (w' := w_6) f_59 3 [0, 6, 45, 46, 47] (by kernel_rfl) (fun a_36 f_60 => ?_)
            obtain ⟨g_7, hF_22⟩ := need_some hF_21
            refine W_run (L' := [(0, S d0), (6, .int .i64 x_1), (45, .slice A_4 (s_1.1 ++ [36, 123, 33]).length cap_4), (46, S d0), (47, .int .i64 s_1.2), (48, .int .i64 (IntKind.wrap .i64 (s_1.2 + 2)))]) (w' := w_6) f_60 1 [0, 6, 45, 46, 47, 48] (by kernel_rfl) (fun a_37 f_61 => ?_)
            have f_62 := Frm.set f_61 48 (v := .int .i64 (IntKind.wrap .i64 (s_1.2 + 2))) (v' := .int .i64 (s_1.2 + 2)) (by kernel_rfl) (congrArg (Value.int .i64) (inR_wrap g_7))
            have f_63 : Frm 57 [(0, S d0), (6, .int .i64 x_1), (45, .slice A_4 (s_1.1 ++ [36, 123, 33]).length cap_4), (46, S d0), (47, .int .i64 s_1.2), (48, .int .i64 (s_1.2 + 2))] a_37 := f_62.keep (ks := [0, 6, 45, 46, 47, 48]) (by kernel_rfl)
            refine W_run (L' := [(0, S d0), (6, .int .i64 x_1), (45, .slice A_4 (s_1.1 ++ [36, 123, 33]).length cap_4), (46, S d0), (48, .int .i64 (s_1.2 + 2)), (49, .int .i64 x_1)]) (w' := w_6) f_63 1 [0, 6, 45, 46, 48, 49] (by kernel_rfl) (fun a_38 f_64 => ?_)
            obtain ⟨g_8, hF_23⟩ := need_some hF_22
            refine W_run (L' := [(0, S d0), (6, .int .i64 x_1), (45, .slice A_4 (s_1.1 ++ [36, 123, 33]).length cap_4), (46, S d0), (48, .int .i64 (s_1.2 + 2)), (49, .int .i64 x_1), (50, .int .i64 (IntKind.wrap .i64 (x_1 + 1)))]) (w' := w_6) f_64 1 [0, 6, 45, 46, 48, 49, 50] (by kernel_rfl) (fun a_39 f_65 => ?_)
            have f_66 := Frm.set f_65 50 (v := .int .i64 (IntKind.wrap .i64 (x_1 + 1))) (v' := .int .i64 (x_1 + 1)) (by kernel_rfl) (congrArg (Value.int .i64) (inR_wrap g_8))
            have f_67 : Frm 57 [(0, S d0), (6, .int .i64 x_1), (45, .slice A_4 (s_1.1 ++ [36, 123, 33]).length cap_4), (46, S d0), (48, .int .i64 (s_1.2 + 2)), (49, .int .i64 x_1), (50, .int .i64 (x_1 + 1))] a_39 := f_66.keep (ks := [0, 6, 45, 46, 48, 49, 50]) (by kernel_rfl)
            obtain ⟨g_9, hF_24⟩ := need_some hF_23
            refine W_eq (v := S ((d0.take (x_1 + 1).toNat).drop (s_1.2 + 2).toNat)) f_67 (by kernel_rfl) (by kernel_rfl) rfl rfl (X_strSlice rfl (l := d0) (k := .i64) (k' := .i64) (a := s_1.2 + 2) (b := x_1 + 1) (by kernel_rfl) (by kernel_rfl) (by kernel_rfl) (by kernel_rfl) g_9.1 g_9.2.1 g_9.2.2) (fun a_40 f_68 => ?_)
            obtain ⟨g_10, hF_25⟩ := need_some hF_24
            refine W_appendT (z := .int .u8 0) (xs := s_1.1 ++ [36, 123, 33]) (l := (d0.take (x_1 + 1).toNat).drop (s_1.2 + 2).toNat) f_68 p_10 hr_4 (by kernel_rfl) (by kernel_rfl) rfl rfl rfl (by kernel_rfl) (by kernel_rfl) (by kernel_rfl) (by kernel_rfl) (by kernel_rfl) g_10 (by omega) (fun A_5 cap_5 cs_4 w_7 p_11 hr_5 a_41 f_69 => ?_)
            refine W_run (L' := [(0, S d0), (4, .slice A_5 ((s_1.1 ++ [36, 123, 33]) ++ ((d0.take (x_1 + 1).toNat).drop (s_1.2 + 2).toNat)).length cap_5), (6, .int .i64 x_1)]) (w' := w_7) f_69 1 [0, 4, 6] (by kernel_rfl) (fun a_42 f_70 => ?_)
            refine W_end rfl ?_
            refine T_n ?_
            refine R_reg ?_
            refine W_run (L' := [(0, S d0), (4, .slice A_5 ((s_1.1 ++ [36, 123, 33]) ++ ((d0.take (x_1 + 1).toNat).drop (s_1.2 + 2).toNat)).length cap_5), (53, .int .i64 x_1)]) (w' := w_7) f_70 1 [0, 4, 53] (by kernel_rfl) (fun a_43 f_71 => ?_)
            obtain ⟨g_11, hF_26⟩ := need_some hF_25
            refine W_run (L' := [(0, S d0), (4, .slice A_5 ((s_1.1 ++ [36, 123, 33]) ++ ((d0.take (x_1 + 1).toNat).drop (s_1.2 + 2).toNat)).length cap_5), (53, .int .i64 x_1), (54, .int .i64 (IntKind.wrap .i64 (x_1 + 1)))]) (w' := w_7) f_71 1 [0, 4, 53, 54] (by kernel_rfl) (fun a_44 f_72 => ?_)
            have f_73 := Frm.set f_72 54 (v := .int .i64 (IntKind.wrap .i64 (x_1 + 1))) (v' := .int .i64 (x_1 + 1)) (by kernel_rfl) (congrArg (Value.int .i64) (inR_wrap g_11))
            have f_74 : Frm 57 [(0, S d0), (4, .slice A_5 ((s_1.1 ++ [36, 123, 33]) ++ ((d0.take (x_1 + 1).toNat).drop (s_1.2 + 2).toNat)).length cap_5), (53, .int .i64 x_1), (54, .int .i64 (x_1 + 1))] a_44 := f_73.keep (ks := [0, 4, 53, 54]) (by kernel_rfl)
            refine W_run (L' := [(0, S d0), (4, .slice A_5 ((s_1.1 ++ [36, 123, 33]) ++ ((d0.take (x_1 + 1).toNat).drop (s_1.2 + 2).toNat)).length cap_5), (5, .int .i64 (x_1 + 1))]) (w' := w_7) f_74 1 [0, 4, 5] (by kernel_rfl) (fun a_45 f_75 => ?_)
            refine W_end rfl ?_
            refine B_n ?_
            refine T_n ?_
            obtain rfl := Option.some.inj hF_26
            exact ⟨⟨m_2, ((s_1.1 ++ [36, 123, 33]) ++ ((d0.take (x_1 + 1).toNat).drop (s_1.2 + 2).toNat), x_1 + 1), A_5, cap_5, cs_4⟩, Nat.lt_succ_self _, M_2, (hM_1.trans hM_2), ⟨hn_1, hr_5⟩, f_75.keep (ks := [0, 4, 5]) (by kernel_rfl), p_11⟩
    · have k_10 : ¬ (s_1.2 < (d0.length : Int)) := iff_f decide_eq_true_iff h_1
      have hF_27 := cnd_f h_1 hs_1
      refine wp_exit ?_
      refine T_x ?_
      refine T_x ?_
      obtain rfl := Option.some.inj hF_27
      exact .inr ⟨rfl, s_1.1, (Option.some.inj hn_1).symm, M_1, hM_1, A_2, cap_2, cs_1, hr_2, f_7.keep (ks := [4]) (by kernel_rfl), p_2⟩
  · rintro _ a_48 w_10 (⟨rfl, y_2, rfl, M_3, hM_3, f_76, p_12⟩ | ⟨rfl, y_3, rfl, M_4, hM_4, A_6, cap_6, cs_5, hr_6, f_77, p_13⟩)
    · refine B_r ?_
      refine T_r ?_
      refine E_ret2 f_76 rfl (by kernel_rfl : Vc.look _ 2 = some (S [])) (by kernel_rfl : Vc.look _ 3 = some (.bool false)) ?_
      obtain rfl := Option.some.inj hF_1
      exact ⟨_, rfl, M_3, hM_3, p_12, rfl⟩
    · refine B_x ?_
      refine T_n ?_
      refine R_seq ?_
      refine R_reg ?_
      refine W_run (L' := [(55, .slice A_6 y_3.length cap_6)]) (w' := w_10) f_77 1 [55] (by kernel_rfl) (fun a_49 f_78 => ?_)
      have he_1 := RepSeq.bytes_eq hr_6
      refine W_eq (v := S y_3) f_78 (by kernel_rfl) (by kernel_rfl) rfl rfl (X_string_row rfl (l := y_3) (v := .slice A_6 y_3.length cap_6) (by kernel_rfl) (e := 5) (by kernel_rfl) (by kernel_rfl) (by kernel_rfl) (by have h0 := p_13.rowAt 0 rfl; rw [he_1] at h0; exact h0)) (fun a_50 f_79 => ?_)
      refine W_run (L' := [(2, S y_3), (3, .bool true)]) (w' := w_10) f_79 2 [2, 3] (by kernel_rfl) (fun a_51 f_80 => ?_)
      refine W_end rfl ?_
      refine T_n ?_
      refine wp_ret ?_
      refine E_ret2 f_80 rfl (by kernel_rfl : Vc.look _ 2 = some (S y_3)) (by kernel_rfl : Vc.look _ 3 = some (.bool true)) ?_
      obtain rfl := Option.some.inj hF_1
      exact ⟨_, rfl, M_4, hM_4, (p_13.dropN 1), rfl⟩

def ref12_Write_s1 (n : Nat) (d0 : List T_api_Expr) (s_1 : Int) : Option (Lp Int (Sum Unit Unit)) :=
    bif (decide (s_1 < ((d0.length : Nat) : Int))) then
      ((getI d0 s_1).bind fun x_1 =>
      (ref12_part n x_1).bind fun x_2 =>
      bif !x_2 then
        (some (.br (.inl ())))
      else
        bif (decide ((0 : Int) < s_1)) then
          ((getI d0 s_1).bind fun x_3 =>
          bif (decide (x_3.fKind = 0)) then
            (need (inR .i64 (s_1 - 1)) <|
            (getI d0 (s_1 - 1)).bind fun x_4 =>
            bif (decide (x_4.fKind = 0)) then
              (some (.br (.inl ())))
            else
              need (inR .i64 (s_1 + 1)) <|
              some (.nx (s_1 + 1)))
          else
            need (inR .i64 (s_1 + 1)) <|
            some (.nx (s_1 + 1)))
        else
          need (inR .i64 (s_1 + 1)) <|
          some (.nx (s_1 + 1)))
    else
      some (.br (.inr ()))
def ref12_Write_s2 (n : Nat) (d0 : List T_api_Expr) (s_2 : List UInt8 × Int) : Option (Lp (List UInt8 × Int) (Sum Unit (List UInt8))) :=
    bif (decide (s_2.2 < ((d0.length : Nat) : Int))) then
      ((getI d0 s_2.2).bind fun x_5 =>
      bif (decide (x_5.fKind = 0)) then
        ((ref12_written n x_5.fText).bind fun x_6 =>
        bif !x_6.2 then
          (some (.br (.inl ())))
        else
          need (s_2.1.length + x_6.1.length ≤ 9223372036854775807) <|
          need (inR .i64 (s_2.2 + 1)) <|
          some (.nx (s_2.1 ++ x_6.1, s_2.2 + 1)))
      else
        bif (decide (x_5.fKind = 3)) then
          (need (s_2.1.length + [36, 123].length ≤ 9223372036854775807) <|
          need ((s_2.1 ++ [36, 123]).length + x_5.fName.length ≤ 9223372036854775807) <|
          need (((s_2.1 ++ [36, 123]) ++ x_5.fName).length + [125].length ≤ 9223372036854775807) <|
          need (inR .i64 (s_2.2 + 1)) <|
          some (.nx (((s_2.1 ++ [36, 123]) ++ x_5.fName) ++ [125], s_2.2 + 1)))
        else
          bif (decide (x_5.fKind = 4)) then
            (need (s_2.1.length + [36, 123].length ≤ 9223372036854775807) <|
            need ((s_2.1 ++ [36, 123]).length + x_5.fName.length ≤ 9223372036854775807) <|
            need (((s_2.1 ++ [36, 123]) ++ x_5.fName).length + [46].length ≤ 9223372036854775807) <|
            need ((((s_2.1 ++ [36, 123]) ++ x_5.fName) ++ [46]).length + x_5.fAttr.length ≤ 9223372036854775807) <|
            need (((((s_2.1 ++ [36, 123]) ++ x_5.fName) ++ [46]) ++ x_5.fAttr).length + [125].length ≤ 9223372036854775807) <|
            need (inR .i64 (s_2.2 + 1)) <|
            some (.nx (((((s_2.1 ++ [36, 123]) ++ x_5.fName) ++ [46]) ++ x_5.fAttr) ++ [125], s_2.2 + 1)))
          else
            need (inR .i64 (s_2.2 + 1)) <|
            some (.nx (s_2.1, s_2.2 + 1)))
    else
      some (.br (.inr s_2.1))
def ref12_Write (n : Nat) (d0 : List T_api_Expr) : Option (List UInt8 × Int) :=
  (loopF (ref12_Write_s1 n d0) n (0 : Int)).bind fun b_1 =>
  (match b_1 with 
  | .inl y_1 => some ((([] : List UInt8), (2 : Int))) 
  | .inr y_2 => (loopF (ref12_Write_s2 n d0) n (([] : List UInt8), (0 : Int))).bind fun b_2 =>
    (match b_2 with 
    | .inl y_3 => some ((([] : List UInt8), (130 : Int))) 
    | .inr y_4 => some ((y_4, (0 : Int)))))
theorem ref12_Write_ok (n : Nat) (M : Mem) (A0 : Option Addr) (cap0 : Nat) (d0 : List T_api_Expr) (h0 : Sli M 6 emb_T_api_Expr A0 cap0 d0) (r : List UInt8 × Int) (hF : ref12_Write n d0 = some r) : Ok Tryd.prog M 18 [.slice A0 d0.length cap0] (fun _ v => v = .tuple #[S r.1, .int .i64 r.2]) := by
  unfold ref12_Write at hF
  intro M1 hM0 w0 H w p0
  replace h0 := h0.mono hM0
  refine R_enter 89 Tryd.func18 rfl rfl (by simp) (fun a0 f0 => ?_)
  replace f0 : Frm 89 [(0, .slice A0 d0.length cap0)] a0 := f0
  refine R_seq ?_
  refine R_reg ?_
  refine W_run (L' := [(0, .slice A0 d0.length cap0)]) (w' := w) f0 2 [0] (by kernel_rfl) (fun a_1 f_1 => ?_)
  refine W_end rfl ?_
  refine T_n ?_
  refine R_seq ?_
  refine R_seq ?_
  refine R_reg ?_
  refine W_run (L' := [(0, .slice A0 d0.length cap0), (4, .int .i64 0)]) (w' := w) f_1 1 [0, 4] (by kernel_rfl) (fun a_2 f_2 => ?_)
  refine W_end rfl ?_
  refine T_n ?_
  refine wp_block ?_
  obtain ⟨b_1, hL_1, hF_1⟩ := bind_some' hF
  refine wp_mono (Q := fun e a w => (e = .ret ∧ (∃ y_1 : Unit, b_1 = .inl y_1 ∧ ∃ M_2 : Mem, M1.le M_2 ∧ Frm 89 [(2, S []), (3, .int .i64 2)] a ∧ Hp w0 M_2 (H) w)) ∨ (e = .exit 0 ∧ (∃ y_2 : Unit, b_1 = .inr y_2 ∧ ∃ M_3 : Mem, M1.le M_3 ∧ Frm 89 [(0, .slice A0 d0.length cap0)] a ∧ Hp w0 M_3 (H) w))) (R_loop (n := 89) (w0 := w0) (M := M1) (fun (x : Nat × Int) => match x with | (m_1, s_1) => [(0, .slice A0 d0.length cap0), (4, .int .i64 s_1)]) (fun (x : Nat × Int) => match x with | (m_1, s_1) => (H)) (fun (x : Nat × Int) (MM : Mem) => match x with | (m_1, s_1) => loopF (ref12_Write_s1 n d0) m_1 s_1 = some b_1) (fun (x : Nat × Int) => match x with | (m_1, s_1) => m_1) (n, (0 : Int)) (f_2.keep (ks := [0, 4]) (by kernel_rfl)) p0 hL_1 ?_) ?_
  · rintro ⟨m_1, s_1⟩ M_1 a_3 w_1 hM_1 I_1 f_3 p_1
    replace f_3 : Frm 89 [(0, .slice A0 d0.length cap0), (4, .int .i64 s_1)] a_3 := f_3
    replace p_1 : Hp w0 M_1 (H) w_1 := p_1
    have I_1L := I_1
    obtain ⟨m_2, r_1, rfl, hs_1, hn_1⟩ := loop_step I_1L
    unfold ref12_Write_s1 at hs_1
    refine R_seq ?_
    refine R_seq ?_
    refine R_reg ?_
    refine W_run (L' := [(0, .slice A0 d0.length cap0), (4, .int .i64 s_1), (13, .bool (decide (s_1 < ((d0.length : Nat) : Int))))]) (w' := w_1) f_3 4 [0, 4, 13] (by kernel_rfl) (fun a_4 f_4 => ?_)
    refine W_end rfl ?_
    refine T_n ?_
    refine R_cond f_4 (b := decide (s_1 < ((d0.length : Nat) : Int))) (by kernel_rfl) (by kernel_rfl) (fun h_1 => ?_) (fun h_1 => ?_)
    · have k_1 : s_1 < ((d0.length : Nat) : Int) := decide_eq_true_iff.1 h_1
      have hF_2 := cnd_t h_1 hs_1
      refine wp_skip ?_
      refine T_n ?_
      refine R_seq ?_
      refine wp_block ?_
      refine R_seq ?_
      refine R_reg ?_
      refine W_run (L' := [(0, .slice A0 d0.length cap0), (4, .int .i64 s_1), (16, .slice A0 d0.length cap0), (17, .int .i64 s_1)]) (w' := w_1) f_4 2 [0, 4, 16, 17] (by kernel_rfl) (fun a_5 f_5 => ?_)
      obtain ⟨x_1, hx_1, hF_3⟩ := bind_some' hF_2
      obtain ⟨ad_1, c_1, e_1, hl_1, hr_1, hc_1⟩ := Sli.at_ (h0.mono hM_1) hx_1
      clear hl_1
      obtain ⟨A_1, cap_1, rfl, h_2⟩ := T_api_Expr.opn hr_1
      refine W_eq (v := .pointer (some (ad_1.add (s_1.toNat * 6)))) f_5 (by kernel_rfl) (by kernel_rfl) rfl rfl (X_indexAddrA e_1 rfl (len := d0.length) (cap := cap0) (k := .i64) (i := s_1) (by kernel_rfl) (by kernel_rfl) (e := 29) (by kernel_rfl) (sz := 6) (by kernel_rfl) (getI_nn hx_1) (getI_lt hx_1)) (fun a_6 f_6 => ?_)
      refine W_eq (v := .agg #[.int .i8 x_1.fKind, S x_1.fText, .int .i64 x_1.fNum, S x_1.fName, S x_1.fAttr, .slice A_1 x_1.fL.length cap_1]) f_6 (by kernel_rfl) (by kernel_rfl) rfl rfl (X_loadN (cs := [.int .i8 x_1.fKind, S x_1.fText, .int .i64 x_1.fNum, S x_1.fName, S x_1.fAttr, .slice A_1 x_1.fL.length cap_1]) rfl (ad := ad_1.add (s_1.toNat * 6)) (by kernel_rfl) (by kernel_rfl) (fun j v h => p_1.cell (hc_1 j v h))) (fun a_7 f_7 => ?_)
      obtain ⟨x_2, hx_2, hF_4⟩ := bind_some' hF_3
      refine W_okv (v := .bool x_2) f_7 p_1 (by kernel_rfl) (by kernel_rfl) rfl rfl (fun _ => by kernel_rfl) (ref12_part_ok n _ [.int .i8 x_1.fKind, S x_1.fText, .int .i64 x_1.fNum, S x_1.fName, S x_1.fAttr, .slice A_1 x_1.fL.length cap_1] x_1 (T_api_Expr.shutx (x := x_1) h_2) x_2 hx_2) (fun w_2 p_2 a_8 f_8 => ?_)
      refine W_run (L' := [(0, .slice A0 d0.length cap0), (4, .int .i64 s_1), (22, .bool !x_2)]) (w' := w_2) f_8 2 [0, 4, 22] (by kernel_rfl) (fun a_9 f_9 => ?_)
      rcases Bool.eq_false_or_eq_true (!x_2) with h_3 | h_3
      · have k_2 : (x_2) = false := by simpa using h_3
        have hF_5 := cnd_t h_3 hF_4
        have f_10 := Frm.set f_9 22 (v := .bool !x_2) (v' := .bool true) (by kernel_rfl) (congrArg Value.bool h_3)
        have f_11 : Frm 89 [(0, .slice A0 d0.length cap0), (4, .int .i64 s_1), (22, .bool true)] a_9 := f_10.keep (ks := [0, 4, 22]) (by kernel_rfl)
        refine W_run (L' := [(0, .slice A0 d0.length cap0), (4, .int .i64 s_1), (42, .bool true)]) (w' := w_2) f_11 20 [0, 4, 42] (by kernel_rfl) (fun a_10 f_12 => ?_)
        refine W_end rfl ?_
        refine T_n ?_
        refine R_cond_t f_12 (by kernel_rfl) (by kernel_rfl) ?_
        refine R_seq ?_
        refine R_reg ?_
        refine W_run (L' := [(2, S []), (3, .int .i64 2)]) (w' := w_2) f_12 2 [2, 3] (by kernel_rfl) (fun a_11 f_13 => ?_)
        refine W_end rfl ?_
        refine T_n ?_
        refine wp_ret ?_
        refine B_r ?_
        refine T_r ?_
        refine T_r ?_
        obtain rfl := Option.some.inj hF_5
        exact .inl ⟨rfl, (), (Option.some.inj hn_1).symm, M_1, hM_1, f_13.keep (ks := [2, 3]) (by kernel_rfl), p_2⟩
      · have k_3 : (x_2) = true := by simpa using h_3
        have hF_6 := cnd_f h_3 hF_4
        have f_14 := Frm.set f_9 22 (v := .bool !x_2) (v' := .bool false) (by kernel_rfl) (congrArg Value.bool h_3)
        have f_15 : Frm 89 [(0, .slice A0 d0.length cap0), (4, .int .i64 s_1), (22, .bool false)] a_9 := f_14.keep (ks := [0, 4, 22]) (by kernel_rfl)
        refine W_run (L' := [(0, .slice A0 d0.length cap0), (4, .int .i64 s_1), (22, .bool false), (25, .bool (decide ((0 : Int) < s_1)))]) (w' := w_2) f_15 3 [0, 4, 22, 25] (by kernel_rfl) (fun a_12 f_16 => ?_)
        rcases Bool.eq_false_or_eq_true (decide ((0 : Int) < s_1)) with h_4 | h_4
        · have k_4 : (0 : Int) < s_1 := decide_eq_true_iff.1 h_4
          have hF_7 := cnd_t h_4 hF_6
          have f_17 := Frm.set f_16 25 (v := .bool (decide ((0 : Int) < s_1))) (v' := .bool true) (by kernel_rfl) (congrArg Value.bool h_4)
          have f_18 : Frm 89 [(0, .slice A0 d0.length cap0), (4, .int .i64 s_1), (22, .bool false), (25, .bool true)] a_12 := f_17.keep (ks := [0, 4, 22, 25]) (by kernel_rfl)
          refine W_run (L' := [(0, .slice A0 d0.length cap0), (4, .int .i64 s_1), (22, .bool false), (25, .bool true), (26, .slice A0 d0.length cap0), (27, .int .i64 s_1)]) (w' := w_2) f_18 2 [0, 4, 22, 25, 26, 27] (by kernel_rfl) (fun a_13 f_19 => ?_)
          obtain ⟨x_3, hx_3, hF_8⟩ := bind_some' hF_7
          obtain ⟨ad_2, c_2, e_2, hl_2, hr_2, hc_2⟩ := Sli.at_ (h0.mono hM_1) hx_3
          clear hl_2
          obtain ⟨A_2, cap_2, rfl, h_5⟩ := T_api_Expr.opn hr_2
          refine W_eq (v := .pointer (some (ad_2.add (s_1.toNat * 6)))) f_19 (by kernel_rfl) (by kernel_rfl) rfl rfl (X_indexAddrA e_2 rfl (len := d0.length) (cap := cap0) (k := .i64) (i := s_1) (by kernel_rfl) (by kernel_rfl) (e := 29) (by kernel_rfl) (sz := 6) (by kernel_rfl) (getI_nn hx_3) (getI_lt hx_3)) (fun a_14 f_20 => ?_)
          refine W_run (L' := [(0, .slice A0 d0.length cap0), (4, .int .i64 s_1), (22, .bool false), (25, .bool true), (29, .pointer (some ((ad_2.add (s_1.toNat * 6)).add 0)))]) (w' := w_2) f_20 1 [0, 4, 22, 25, 29] (by kernel_rfl) (fun a_15 f_21 => ?_)
          refine W_eq (v := .int .i8 x_3.fKind) f_21 (by kernel_rfl) (by kernel_rfl) rfl rfl (X_load1 (v := .int .i8 x_3.fKind) rfl (ad := (ad_2.add (s_1.toNat * 6)).add 0) (by kernel_rfl) (by kernel_rfl) (p_2.cell (hc_2 0 _ rfl))) (fun a_16 f_22 => ?_)
          refine W_run (L' := [(0, .slice A0 d0.length cap0), (4, .int .i64 s_1), (22, .bool false), (33, .bool (decide (x_3.fKind = 0)))]) (w' := w_2) f_22 3 [0, 4, 22, 33] (by kernel_rfl) (fun a_17 f_23 => ?_)
          rcases Bool.eq_false_or_eq_true (decide (x_3.fKind = 0)) with h_6 | h_6
          · have k_5 : x_3.fKind = 0 := decide_eq_true_iff.1 h_6
            have hF_9 := cnd_t h_6 hF_8
            have f_24 := Frm.set f_23 33 (v := .bool (decide (x_3.fKind = 0))) (v' := .bool true) (by kernel_rfl) (congrArg Value.bool h_6)
            have f_25 : Frm 89 [(0, .slice A0 d0.length cap0), (4, .int .i64 s_1), (22, .bool false), (33, .bool true)] a_17 := f_24.keep (ks := [0, 4, 22, 33]) (by kernel_rfl)
            refine W_run (L' := [(0, .slice A0 d0.length cap0), (4, .int .i64 s_1), (22, .bool false), (33, .bool true), (34, .slice A0 d0.length cap0), (35, .int .i64 s_1)]) (w' := w_2) f_25 2 [0, 4, 22, 33, 34, 35] (by kernel_rfl) (fun a_18 f_26 => ?_)
            obtain ⟨g_1, hF_10⟩ := need_some hF_9
            refine W_run (L' := [(0, .slice A0 d0.length cap0), (4, .int .i64 s_1), (22, .bool false), (33, .bool true), (34, .slice A0 d0.length cap0), (35, .int .i64 s_1), (36, .int .i64 (IntKind.wrap .i64 (s_1 - 1)))]) (w' := w_2) f_26 1 [0, 4, 22, 33, 34, 35, 36] (by kernel_rfl) (fun a_19 f_27 => ?_)
            have f_28 := Frm.set f_27 36 (v := .int .i64 (IntKind.wrap .i64 (s_1 - 1))) (v' := .int .i64 (s_1 - 1)) (by kernel_rfl) (congrArg (Value.int .i64) (inR_wrap g_1))
            have f_29 : Frm 89 [(0, .slice A0 d0.length cap0), (4, .int .i64 s_1), (22, .bool false), (33, .bool true), (34, .slice A0 d0.length cap0), (35, .int .i64 s_1), (36, .int .i64 (s_1 - 1))] a_19 := f_28.keep (ks := [0, 4, 22, 33, 34, 35, 36]) (by kernel_rfl)
            obtain ⟨x_4, hx_4, hF_11⟩ := bind_some' hF_10
            obtain ⟨ad_3, c_3, e_3, hl_3, hr_3, hc_3⟩ := Sli.at_ (h0.mono hM_1) hx_4
            clear hl_3
            obtain ⟨A_3, cap_3, rfl, h_7⟩ := T_api_Expr.opn hr_3
            refine W_eq (v := .pointer (some (ad_3.add ((s_1 - 1).toNat * 6)))) f_29 (by kernel_rfl) (by kernel_rfl) rfl rfl (X_indexAddrA e_3 rfl (len := d0.length) (cap := cap0) (k := .i64) (i := s_1 - 1) (by kernel_rfl) (by kernel_rfl) (e := 29) (by kernel_rfl) (sz := 6) (by kernel_rfl) (getI_nn hx_4) (getI_lt hx_4)) (fun a_20 f_30 => ?_)
            refine W_run (L' := [(0, .slice A0 d0.length cap0), (4, .int .i64 s_1), (22, .bool false), (33, .bool true), (38, .pointer (some ((ad_3.add ((s_1 - 1).toNat * 6)).add 0)))]) (w' := w_2) f_30 1 [0, 4, 22, 33, 38] (by kernel_rfl) (fun a_21 f_31 => ?_)
            refine W_eq (v := .int .i8 x_4.fKind) f_31 (by kernel_rfl) (by kernel_rfl) rfl rfl (X_load1 (v := .int .i8 x_4.fKind) rfl (ad := (ad_3.add ((s_1 - 1).toNat * 6)).add 0) (by kernel_rfl) (by kernel_rfl) (p_2.cell (hc_3 0 _ rfl))) (fun a_22 f_32 => ?_)
            refine W_run (L' := [(0, .slice A0 d0.length cap0), (4, .int .i64 s_1), (42, .bool (decide (x_4.fKind = 0)))]) (w' := w_2) f_32 3 [0, 4, 42] (by kernel_rfl) (fun a_23 f_33 => ?_)
            refine W_end rfl ?_
            refine T_n ?_
            refine R_cond f_33 (b := decide (x_4.fKind = 0)) (by kernel_rfl) (by kernel_rfl) (fun h_8 => ?_) (fun h_8 => ?_)
            · have k_6 : x_4.fKind = 0 := decide_eq_true_iff.1 h_8
              have hF_12 := cnd_t h_8 hF_11
              refine R_seq ?_
              refine R_reg ?_
              refine W_run (L' := [(2, S []), (3, .int .i64 2)]) (w' := w_2) f_33 2 [2, 3] (by kernel_rfl) (fun a_24 f_34 => ?_)
              refine W_end rfl ?_
              refine T_n ?_
              refine wp_ret ?_
              refine B_r ?_
              refine T_r ?_
              refine T_r ?_
              obtain rfl := Option.some.inj hF_12
              exact .inl ⟨rfl, (), (Option.some.inj hn_1).symm, M_1, hM_1, f_34.keep (ks := [2, 3]) (by kernel_rfl), p_2⟩
            · have k_7 : ¬ (x_4.fKind = 0) := iff_f decide_eq_true_iff h_8
              have hF_13 := cnd_f h_8 hF_11
              refine wp_skip ?_
              refine B_n ?_
              refine T_n ?_
              refine R_reg ?_
              refine W_run (L' := [(0, .slice A0 d0.length cap0), (14, .int .i64 s_1)]) (w' := w_2) f_33 1 [0, 14] (by kernel_rfl) (fun a_25 f_35 => ?_)
              obtain ⟨g_2, hF_14⟩ := need_some hF_13
              refine W_run (L' := [(0, .slice A0 d0.length cap0), (14, .int .i64 s_1), (15, .int .i64 (IntKind.wrap .i64 (s_1 + 1)))]) (w' := w_2) f_35 1 [0, 14, 15] (by kernel_rfl) (fun a_26 f_36 => ?_)
              have f_37 := Frm.set f_36 15 (v := .int .i64 (IntKind.wrap .i64 (s_1 + 1))) (v' := .int .i64 (s_1 + 1)) (by kernel_rfl) (congrArg (Value.int .i64) (inR_wrap g_2))
              have f_38 : Frm 89 [(0, .slice A0 d0.length cap0), (14, .int .i64 s_1), (15, .int .i64 (s_1 + 1))] a_26 := f_37.keep (ks := [0, 14, 15]) (by kernel_rfl)
              refine W_run (L' := [(0, .slice A0 d0.length cap0), (4, .int .i64 (s_1 + 1))]) (w' := w_2) f_38 1 [0, 4] (by kernel_rfl) (fun a_27 f_39 => ?_)
              refine W_end rfl ?_
              refine T_n ?_
              obtain rfl := Option.some.inj hF_14
              exact ⟨⟨m_2, s_1 + 1⟩, Nat.lt_succ_self _, M_1, hM_1, hn_1, f_39.keep (ks := [0, 4]) (by kernel_rfl), p_2⟩
          · have k_8 : ¬ (x_3.fKind = 0) := iff_f decide_eq_true_iff h_6
            have hF_15 := cnd_f h_6 hF_8
            have f_40 := Frm.set f_23 33 (v := .bool (decide (x_3.fKind = 0))) (v' := .bool false) (by kernel_rfl) (congrArg Value.bool h_6)
            have f_41 : Frm 89 [(0, .slice A0 d0.length cap0), (4, .int .i64 s_1), (22, .bool false), (33, .bool false)] a_17 := f_40.keep (ks := [0, 4, 22, 33]) (by kernel_rfl)
            refine W_run (L' := [(0, .slice A0 d0.length cap0), (4, .int .i64 s_1), (42, .bool false)]) (w' := w_2) f_41 9 [0, 4, 42] (by kernel_rfl) (fun a_28 f_42 => ?_)
            refine W_end rfl ?_
            refine T_n ?_
            refine R_cond_f f_42 (by kernel_rfl) (by kernel_rfl) ?_
            refine wp_skip ?_
            refine B_n ?_
            refine T_n ?_
            refine R_reg ?_
            refine W_run (L' := [(0, .slice A0 d0.length cap0), (14, .int .i64 s_1)]) (w' := w_2) f_42 1 [0, 14] (by kernel_rfl) (fun a_29 f_43 => ?_)
            obtain ⟨g_3, hF_16⟩ := need_some hF_15
            refine W_run (L' := [(0, .slice A0 d0.length cap0), (14, .int .i64 s_1), (15, .int .i64 (IntKind.wrap .i64 (s_1 + 1)))]) (w' := w_2) f_43 1 [0, 14, 15] (by kernel_rfl) (fun a_30 f_44 => ?_)
            have f_45 := Frm.set f_44 15 (v := .int .i64 (IntKind.wrap .i64 (s_1 + 1))) (v' := .int .i64 (s_1 + 1)) (by kernel_rfl) (congrArg (Value.int .i64) (inR_wrap g_3))
            have f_46 : Frm 89 [(0, .slice A0 d0.length cap0), (14, .int .i64 s_1), (15, .int .i64 (s_1 + 1))] a_30 := f_45.keep (ks := [0, 14, 15]) (by kernel_rfl)
            refine W_run (L' := [(0, .slice A0 d0.length cap0), (4, .int .i64 (s_1 + 1))]) (w' := w_2) f_46 1 [0, 4] (by kernel_rfl) (fun a_31 f_47 => ?_)
            refine W_end rfl ?_
            refine T_n ?_
            obtain rfl := Option.some.inj hF_16
            exact ⟨⟨m_2, s_1 + 1⟩, Nat.lt_succ_self _, M_1, hM_1, hn_1, f_47.keep (ks := [0, 4]) (by kernel_rfl), p_2⟩
        · have k_9 : ¬ ((0 : Int) < s_1) := iff_f decide_eq_true_iff h_4
          have hF_17 := cnd_f h_4 hF_6
          have f_48 := Frm.set f_16 25 (v := .bool (decide ((0 : Int) < s_1))) (v' := .bool false) (by kernel_rfl) (congrArg Value.bool h_4)
          have f_49 : Frm 89 [(0, .slice A0 d0.length cap0), (4, .int .i64 s_1), (22, .bool false), (25, .bool false)] a_12 := f_48.keep (ks := [0, 4, 22, 25]) (by kernel_rfl)
          refine W_run (L' := [(0, .slice A0 d0.length cap0), (4, .int .i64 s_1), (42, .bool false)]) (w' := w_2) f_49 17 [0, 4, 42] (by kernel_rfl) (fun a_32 f_50 => ?_)
          refine W_end rfl ?_
          refine T_n ?_
          refine R_cond_f f_50 (by kernel_rfl) (by kernel_rfl) ?_
          refine wp_skip ?_
          refine B_n ?_
          refine T_n ?_
          refine R_reg ?_
          refine W_run (L' := [(0, .slice A0 d0.length cap0), (14, .int .i64 s_1)]) (w' := w_2) f_50 1 [0, 14] (by kernel_rfl) (fun a_33 f_51 => ?_)
          obtain ⟨g_4, hF_18⟩ := need_some hF_17
          refine W_run (L' := [(0, .slice A0 d0.length cap0), (14, .int .i64 s_1), (15, .int .i64 (IntKind.wrap .i64 (s_1 + 1)))]) (w' := w_2) f_51 1 [0, 14, 15] (by kernel_rfl) (fun a_34 f_52 => ?_)
          have f_53 := Frm.set f_52 15 (v := .int .i64 (IntKind.wrap .i64 (s_1 + 1))) (v' := .int .i64 (s_1 + 1)) (by kernel_rfl) (congrArg (Value.int .i64) (inR_wrap g_4))
          have f_54 : Frm 89 [(0, .slice A0 d0.length cap0), (14, .int .i64 s_1), (15, .int .i64 (s_1 + 1))] a_34 := f_53.keep (ks := [0, 14, 15]) (by kernel_rfl)
          refine W_run (L' := [(0, .slice A0 d0.length cap0), (4, .int .i64 (s_1 + 1))]) (w' := w_2) f_54 1 [0, 4] (by kernel_rfl) (fun a_35 f_55 => ?_)
          refine W_end rfl ?_
          refine T_n ?_
          obtain rfl := Option.some.inj hF_18
          exact ⟨⟨m_2, s_1 + 1⟩, Nat.lt_succ_self _, M_1, hM_1, hn_1, f_55.keep (ks := [0, 4]) (by kernel_rfl), p_2⟩
    · have k_10 : ¬ (s_1 < ((d0.length : Nat) : Int)) := iff_f decide_eq_true_iff h_1
      have hF_19 := cnd_f h_1 hs_1
      refine wp_exit ?_
      refine T_x ?_
      refine T_x ?_
      obtain rfl := Option.some.inj hF_19
      exact .inr ⟨rfl, (), (Option.some.inj hn_1).symm, M_1, hM_1, f_4.keep (ks := [0]) (by kernel_rfl), p_1⟩
  · rintro _ a_38 w_5 (⟨rfl, y_1, rfl, M_2, hM_2, f_56, p_3⟩ | ⟨rfl, y_2, rfl, M_3, hM_3, f_57, p_4⟩)
    · refine B_r ?_
      refine T_r ?_
      refine E_ret2 f_56 rfl (by kernel_rfl : Vc.look _ 2 = some (S [])) (by kernel_rfl : Vc.look _ 3 = some (.int .i64 2)) ?_
      obtain rfl := Option.some.inj hF_1
      exact ⟨_, rfl, M_2, hM_2, p_3, rfl⟩
    · refine B_x ?_
      refine T_n ?_
      refine R_seq ?_
      refine R_reg ?_
      refine W_run (L' := [(0, .slice A0 d0.length cap0), (5, S [])]) (w' := w_5) f_57 1 [0, 5] (by kernel_rfl) (fun a_39 f_58 => ?_)
      refine W_end rfl ?_
      refine T_n ?_
      refine R_seq ?_
      refine R_seq ?_
      refine R_reg ?_
      refine W_run (L' := [(0, .slice A0 d0.length cap0), (5, S []), (6, .int .i64 0)]) (w' := w_5) f_58 1 [0, 5, 6] (by kernel_rfl) (fun a_40 f_59 => ?_)
      refine W_end rfl ?_
      refine T_n ?_
      refine wp_block ?_
      obtain ⟨b_2, hL_2, hF_20⟩ := bind_some' hF_1
      refine wp_mono (Q := fun e a w => (e = .ret ∧ (∃ y_3 : Unit, b_2 = .inl y_3 ∧ ∃ M_5 : Mem, M_3.le M_5 ∧ Frm 89 [(2, S []), (3, .int .i64 130)] a ∧ Hp w0 M_5 (H) w)) ∨ (e = .exit 2 ∧ (∃ y_4 : List UInt8, b_2 = .inr y_4 ∧ ∃ M_6 : Mem, M_3.le M_6 ∧ Frm 89 [(5, S y_4)] a ∧ Hp w0 M_6 (H) w))) (R_loop (n := 89) (w0 := w0) (M := M_3) (fun (x : Nat × (List UInt8 × Int)) => match x with | (m_3, s_2) => [(0, .slice A0 d0.length cap0), (5, S s_2.1), (6, .int .i64 s_2.2)]) (fun (x : Nat × (List UInt8 × Int)) => match x with | (m_3, s_2) => (H)) (fun (x : Nat × (List UInt8 × Int)) (MM : Mem) => match x with | (m_3, s_2) => loopF (ref12_Write_s2 n d0) m_3 s_2 = some b_2) (fun (x : Nat × (List UInt8 × Int)) => match x with | (m_3, s_2) => m_3) (n, (([] : List UInt8), (0 : Int))) (f_59.keep (ks := [0, 5, 6]) (by kernel_rfl)) p_4 hL_2 ?_) ?_
      · rintro ⟨m_3, s_2⟩ M_4 a_41 w_6 hM_4 I_2 f_60 p_5
        replace f_60 : Frm 89 [(0, .slice A0 d0.length cap0), (5, S s_2.1), (6, .int .i64 s_2.2)] a_41 := f_60
        replace p_5 : Hp w0 M_4 (H) w_6 := p_5
        have I_2L := I_2
        obtain ⟨m_4, r_2, rfl, hs_2, hn_2⟩ := loop_step I_2L
        unfold ref12_Write_s2 at hs_2
        refine R_seq ?_
        refine R_seq ?_
        refine R_reg ?_
        refine W_run (L' := [(0, .slice A0 d0.length cap0), (5, S s_2.1), (6, .int .i64 s_2.2), (46, .bool (decide (s_2.2 < ((d0.length : Nat) : Int))))]) (w' := w_6) f_60 4 [0, 5, 6, 46] (by kernel_rfl) (fun a_42 f_61 => ?_)
        refine W_end rfl ?_
        refine T_n ?_
        refine R_cond f_61 (b := decide (s_2.2 < ((d0.length : Nat) : Int))) (by kernel_rfl) (by kernel_rfl) (fun h_9 => ?_) (fun h_9 => ?_)
        · have k_11 : s_2.2 < ((d0.length : Nat) : Int) := decide_eq_true_iff.1 h_9
          have hF_21 := cnd_t h_9 hs_2
          refine wp_skip ?_
          refine T_n ?_
          refine R_seq ?_
          refine wp_block ?_
          refine R_seq ?_
          refine R_reg ?_
          refine W_run (L' := [(0, .slice A0 d0.length cap0), (5, S s_2.1), (6, .int .i64 s_2.2), (49, .slice A0 d0.length cap0), (50, .int .i64 s_2.2)]) (w' := w_6) f_61 2 [0, 5, 6, 49, 50] (by kernel_rfl) (fun a_43 f_62 => ?_)
          obtain ⟨x_5, hx_5, hF_22⟩ := bind_some' hF_21
          obtain ⟨ad_4, c_4, e_4, hl_4, hr_4, hc_4⟩ := Sli.at_ (h0.mono (hM_3.trans hM_4)) hx_5
          clear hl_4
          obtain ⟨A_4, cap_4, rfl, h_10⟩ := T_api_Expr.opn hr_4
          refine W_eq (v := .pointer (some (ad_4.add (s_2.2.toNat * 6)))) f_62 (by kernel_rfl) (by kernel_rfl) rfl rfl (X_indexAddrA e_4 rfl (len := d0.length) (cap := cap0) (k := .i64) (i := s_2.2) (by kernel_rfl) (by kernel_rfl) (e := 29) (by kernel_rfl) (sz := 6) (by kernel_rfl) (getI_nn hx_5) (getI_lt hx_5)) (fun a_44 f_63 => ?_)
          refine W_eq (v := .agg #[.int .i8 x_5.fKind, S x_5.fText, .int .i64 x_5.fNum, S x_5.fName, S x_5.fAttr, .slice A_4 x_5.fL.length cap_4]) f_63 (by kernel_rfl) (by kernel_rfl) rfl rfl (X_loadN (cs := [.int .i8 x_5.fKind, S x_5.fText, .int .i64 x_5.fNum, S x_5.fName, S x_5.fAttr, .slice A_4 x_5.fL.length cap_4]) rfl (ad := ad_4.add (s_2.2.toNat * 6)) (by kernel_rfl) (by kernel_rfl) (fun j v h => p_5.cell (hc_4 j v h))) (fun a_45 f_64 => ?_)
          refine W_alloc f_64 p_5 1 [0, 5, 6, 7, 49, 50, 51, 52] (.cells #[.int .i8 0, S [], .int .i64 0, S [], S [], .slice none 0 0] 29 (0, 0)) (fun b_3 => [(0, .slice A0 d0.length cap0), (5, S s_2.1), (6, .int .i64 s_2.2), (7, .pointer (some (⟨b_3, 0, none⟩))), (49, .slice A0 d0.length cap0), (50, .int .i64 s_2.2), (51, .pointer (some (ad_4.add (s_2.2.toNat * 6)))), (52, .agg #[.int .i8 x_5.fKind, S x_5.fText, .int .i64 x_5.fNum, S x_5.fName, S x_5.fAttr, .slice A_4 x_5.fL.length cap_4])]) (fun _ => by kernel_rfl) (fun b_3 w_7 p_6 a_46 f_65 => ?_)
          replace f_65 : Frm 89 [(0, .slice A0 d0.length cap0), (5, S s_2.1), (6, .int .i64 s_2.2), (7, .pointer (some (⟨b_3, 0, none⟩))), (49, .slice A0 d0.length cap0), (50, .int .i64 s_2.2), (51, .pointer (some (ad_4.add (s_2.2.toNat * 6)))), (52, .agg #[.int .i8 x_5.fKind, S x_5.fText, .int .i64 x_5.fNum, S x_5.fName, S x_5.fAttr, .slice A_4 x_5.fL.length cap_4])] a_46 := f_65
          refine W_storeN (vs := [.int .i8 x_5.fKind, S x_5.fText, .int .i64 x_5.fNum, S x_5.fName, S x_5.fAttr, .slice A_4 x_5.fL.length cap_4]) (j := 0) f_65 p_6 (by kernel_rfl) (by kernel_rfl) rfl rfl (by kernel_rfl) (by kernel_rfl) (by simp [Value.oneCell', S]) (by kernel_rfl) (by simp) (by decide) (cs' := #[.int .i8 x_5.fKind, S x_5.fText, .int .i64 x_5.fNum, S x_5.fName, S x_5.fAttr, .slice A_4 x_5.fL.length cap_4]) rfl (fun w_8 p_7 a_47 f_66 => ?_)
          refine W_end rfl ?_
          refine T_n ?_
          refine R_seq ?_
          refine R_reg ?_
          refine W_run (L' := [(0, .slice A0 d0.length cap0), (5, S s_2.1), (6, .int .i64 s_2.2), (7, .pointer (some (⟨b_3, 0, none⟩))), (53, .pointer (some (⟨b_3, 0, none⟩)))]) (w' := w_8) f_66 1 [0, 5, 6, 7, 53] (by kernel_rfl) (fun a_48 f_67 => ?_)
          refine W_eq (v := .int .i8 x_5.fKind) f_67 (by kernel_rfl) (by kernel_rfl) rfl rfl (X_load1 (v := .int .i8 x_5.fKind) rfl (ad := ⟨b_3, 0, none⟩) (by kernel_rfl) (by kernel_rfl) (p_7.ownCell 0 rfl 0)) (fun a_49 f_68 => ?_)
          refine W_end rfl ?_
          refine T_n ?_
          refine wp_block ?_
          refine R_seq ?_
          refine R_reg ?_
          refine W_run (L' := [(0, .slice A0 d0.length cap0), (5, S s_2.1), (6, .int .i64 s_2.2), (7, .pointer (some (⟨b_3, 0, none⟩))), (54, .int .i8 x_5.fKind), (55, .bool (decide (x_5.fKind = 0)))]) (w' := w_8) f_68 2 [0, 5, 6, 7, 54, 55] (by kernel_rfl) (fun a_50 f_69 => ?_)
          refine W_end rfl ?_
          refine T_n ?_
          refine R_cond f_69 (b := decide (x_5.fKind = 0)) (by kernel_rfl) (by kernel_rfl) (fun h_11 => ?_) (fun h_11 => ?_)
          · have k_12 : x_5.fKind = 0 := decide_eq_true_iff.1 h_11
            have hF_23 := cnd_t h_11 hF_22
            refine R_seq ?_
            refine R_reg ?_
            refine W_run (L' := [(0, .slice A0 d0.length cap0), (5, S s_2.1), (6, .int .i64 s_2.2), (58, .pointer (some (⟨b_3, 1, none⟩)))]) (w' := w_8) f_69 1 [0, 5, 6, 58] (by kernel_rfl) (fun a_51 f_70 => ?_)
            refine W_eq (v := S x_5.fText) f_70 (by kernel_rfl) (by kernel_rfl) rfl rfl (X_load1 (v := S x_5.fText) rfl (ad := ⟨b_3, 1, none⟩) (by kernel_rfl) (by kernel_rfl) (p_7.ownCell 0 rfl 1)) (fun a_52 f_71 => ?_)
            obtain ⟨x_6, hx_6, hF_24⟩ := bind_some' hF_23
            refine W_okv (v := .tuple #[S x_6.1, .bool x_6.2]) f_71 p_7 (by kernel_rfl) (by kernel_rfl) rfl rfl (fun _ => by kernel_rfl) (ref12_written_ok n _ x_5.fText x_6 hx_6) (fun w_9 p_8 a_53 f_72 => ?_)
            refine W_run (L' := [(0, .slice A0 d0.length cap0), (5, S s_2.1), (6, .int .i64 s_2.2), (8, S x_6.1), (9, .bool x_6.2)]) (w' := w_9) f_72 5 [0, 5, 6, 8, 9] (by kernel_rfl) (fun a_54 f_73 => ?_)
            refine W_end rfl ?_
            refine T_n ?_
            refine R_seq ?_
            refine R_seq ?_
            refine R_reg ?_
            refine W_run (L' := [(0, .slice A0 d0.length cap0), (5, S s_2.1), (6, .int .i64 s_2.2), (8, S x_6.1), (64, .bool !x_6.2)]) (w' := w_9) f_73 2 [0, 5, 6, 8, 64] (by kernel_rfl) (fun a_55 f_74 => ?_)
            refine W_end rfl ?_
            refine T_n ?_
            refine R_cond f_74 (b := !x_6.2) (by kernel_rfl) (by kernel_rfl) (fun h_12 => ?_) (fun h_12 => ?_)
            · have k_13 : (x_6.2) = false := by simpa using h_12
              have hF_25 := cnd_t h_12 hF_24
              refine R_seq ?_
              refine R_reg ?_
              refine W_run (L' := [(2, S []), (3, .int .i64 130)]) (w' := w_9) f_74 2 [2, 3] (by kernel_rfl) (fun a_56 f_75 => ?_)
              refine W_end rfl ?_
              refine T_n ?_
              refine wp_ret ?_
              refine T_r ?_
              refine B_r ?_
              refine B_r ?_
              refine T_r ?_
              refine T_r ?_
              obtain rfl := Option.some.inj hF_25
              exact .inl ⟨rfl, (), (Option.some.inj hn_2).symm, M_4, hM_4, f_75.keep (ks := [2, 3]) (by kernel_rfl), (p_8.dropN 1)⟩
            · have k_14 : (x_6.2) = true := by simpa using h_12
              have hF_26 := cnd_f h_12 hF_24
              refine wp_skip ?_
              refine T_n ?_
              refine R_reg ?_
              refine W_run (L' := [(0, .slice A0 d0.length cap0), (6, .int .i64 s_2.2), (65, S s_2.1), (66, S x_6.1)]) (w' := w_9) f_74 2 [0, 6, 65, 66] (by kernel_rfl) (fun a_57 f_76 => ?_)
              obtain ⟨g_5, hF_27⟩ := need_some hF_26
              refine W_eq (v := S (s_2.1 ++ x_6.1)) f_76 (by kernel_rfl) (by kernel_rfl) rfl rfl (X_concat rfl (l := s_2.1) (m := x_6.1) (by kernel_rfl) (by kernel_rfl) g_5) (fun a_58 f_77 => ?_)
              refine W_run (L' := [(0, .slice A0 d0.length cap0), (5, S (s_2.1 ++ x_6.1)), (6, .int .i64 s_2.2)]) (w' := w_9) f_77 1 [0, 5, 6] (by kernel_rfl) (fun a_59 f_78 => ?_)
              refine W_end rfl ?_
              refine B_n ?_
              refine B_n ?_
              refine T_n ?_
              refine R_reg ?_
              refine W_run (L' := [(0, .slice A0 d0.length cap0), (5, S (s_2.1 ++ x_6.1)), (47, .int .i64 s_2.2)]) (w' := w_9) f_78 1 [0, 5, 47] (by kernel_rfl) (fun a_60 f_79 => ?_)
              obtain ⟨g_6, hF_28⟩ := need_some hF_27
              refine W_run (L' := [(0, .slice A0 d0.length cap0), (5, S (s_2.1 ++ x_6.1)), (47, .int .i64 s_2.2), (48, .int .i64 (IntKind.wrap .i64 (s_2.2 + 1)))]) (w' := w_9) f_79 1 [0, 5, 47, 48] (by kernel_rfl) (fun a_61 f_80 => ?_)
              have f_81 := Frm.set f_80 48 (v := .int .i64 (IntKind.wrap .i64 (s_2.2 + 1))) (v' := .int .i64 (s_2.2 + 1)) (by kernel_rfl) (congrArg (Value.int .i64) (inR_wrap g_6))
              have f_82 : Frm 89 [(0, .slice A0 d0.length cap0), (5, S (s_2.1 ++ x_6.1)), (47, .int .i64 s_2.2), (48, .int .i64 (s_2.2 + 1))] a_61 := f_81.keep (ks := [0, 5, 47, 48]) (by kernel_rfl)
              refine W_run (L' := [(0, .slice A0 d0.length cap0), (5, S (s_2.1 ++ x_6.1)), (6, .int .i64 (s_2.2 + 1))]) (w' := w_9) f_82 1 [0, 5, 6] (by kernel_rfl) (fun a_62 f_83 => ?_)
              refine W_end rfl ?_
              refine T_n ?_
              obtain rfl := Option.some.inj hF_28
              exact ⟨⟨m_4, (s_2.1 ++ x_6.1, s_2.2 + 1)⟩, Nat.lt_succ_self _, M_4, hM_4, hn_2, f_83.keep (ks := [0, 5, 6]) (by kernel_rfl), (p_8.dropN 1)⟩
          · have k_15 : ¬ (x_5.fKind = 0) := iff_f decide_eq_true_iff h_11
            have hF_29 := cnd_f h_11 hF_22
            refine R_seq ?_
            refine R_reg ?_
            refine W_run (L' := [(0, .slice A0 d0.length cap0), (5, S s_2.1), (6, .int .i64 s_2.2), (7, .pointer (some (⟨b_3, 0, none⟩))), (54, .int .i8 x_5.fKind), (68, .bool (decide (x_5.fKind = 3)))]) (w' := w_8) f_69 2 [0, 5, 6, 7, 54, 68] (by kernel_rfl) (fun a_63 f_84 => ?_)
            refine W_end rfl ?_
            refine T_n ?_
            refine R_cond f_84 (b := decide (x_5.fKind = 3)) (by kernel_rfl) (by kernel_rfl) (fun h_13 => ?_) (fun h_13 => ?_)
            · have k_16 : x_5.fKind = 3 := decide_eq_true_iff.1 h_13
              have hF_30 := cnd_t h_13 hF_29
              refine R_reg ?_
              refine W_run (L' := [(0, .slice A0 d0.length cap0), (6, .int .i64 s_2.2), (7, .pointer (some (⟨b_3, 0, none⟩))), (70, S s_2.1)]) (w' := w_8) f_84 1 [0, 6, 7, 70] (by kernel_rfl) (fun a_64 f_85 => ?_)
              obtain ⟨g_7, hF_31⟩ := need_some hF_30
              refine W_eq (v := S (s_2.1 ++ [36, 123])) f_85 (by kernel_rfl) (by kernel_rfl) rfl rfl (X_concat rfl (l := s_2.1) (m := [36, 123]) (by kernel_rfl) (by kernel_rfl) g_7) (fun a_65 f_86 => ?_)
              refine W_run (L' := [(0, .slice A0 d0.length cap0), (6, .int .i64 s_2.2), (71, S (s_2.1 ++ [36, 123])), (72, .pointer (some (⟨b_3, 3, none⟩)))]) (w' := w_8) f_86 1 [0, 6, 71, 72] (by kernel_rfl) (fun a_66 f_87 => ?_)
              refine W_eq (v := S x_5.fName) f_87 (by kernel_rfl) (by kernel_rfl) rfl rfl (X_load1 (v := S x_5.fName) rfl (ad := ⟨b_3, 3, none⟩) (by kernel_rfl) (by kernel_rfl) (p_7.ownCell 0 rfl 3)) (fun a_67 f_88 => ?_)
              obtain ⟨g_8, hF_32⟩ := need_some hF_31
              refine W_eq (v := S ((s_2.1 ++ [36, 123]) ++ x_5.fName)) f_88 (by kernel_rfl) (by kernel_rfl) rfl rfl (X_concat rfl (l := s_2.1 ++ [36, 123]) (m := x_5.fName) (by kernel_rfl) (by kernel_rfl) g_8) (fun a_68 f_89 => ?_)
              obtain ⟨g_9, hF_33⟩ := need_some hF_32
              refine W_eq (v := S (((s_2.1 ++ [36, 123]) ++ x_5.fName) ++ [125])) f_89 (by kernel_rfl) (by kernel_rfl) rfl rfl (X_concat rfl (l := (s_2.1 ++ [36, 123]) ++ x_5.fName) (m := [125]) (by kernel_rfl) (by kernel_rfl) g_9) (fun a_69 f_90 => ?_)
              refine W_run (L' := [(0, .slice A0 d0.length cap0), (5, S (((s_2.1 ++ [36, 123]) ++ x_5.fName) ++ [125])), (6, .int .i64 s_2.2)]) (w' := w_8) f_90 1 [0, 5, 6] (by kernel_rfl) (fun a_70 f_91 => ?_)
              refine W_end rfl ?_
              refine B_n ?_
              refine B_n ?_
              refine T_n ?_
              refine R_reg ?_
              refine W_run (L' := [(0, .slice A0 d0.length cap0), (5, S (((s_2.1 ++ [36, 123]) ++ x_5.fName) ++ [125])), (47, .int .i64 s_2.2)]) (w' := w_8) f_91 1 [0, 5, 47] (by kernel_rfl) (fun a_71 f_92 => ?_)
              obtain ⟨g_10, hF_34⟩ := need_some hF_33
              refine W_run (L' := [(0, .slice A0 d0.length cap0), (5, S (((s_2.1 ++ [36, 123]) ++ x_5.fName) ++ [125])), (47, .int .i64 s_2.2), (48, .int .i64 (IntKind.wrap .i64 (s_2.2 + 1)))]) (w' := w_8) f_92 1 [0, 5, 47, 48] (by kernel_rfl) (fun a_72 f_93 => ?_)
              have f_94 := Frm.set f_93 48 (v := .int .i64 (IntKind.wrap .i64 (s_2.2 + 1))) (v' := .int .i64 (s_2.2 + 1)) (by kernel_rfl) (congrArg (Value.int .i64) (inR_wrap g_10))
              have f_95 : Frm 89 [(0, .slice A0 d0.length cap0), (5, S (((s_2.1 ++ [36, 123]) ++ x_5.fName) ++ [125])), (47, .int .i64 s_2.2), (48, .int .i64 (s_2.2 + 1))] a_72 := f_94.keep (ks := [0, 5, 47, 48]) (by kernel_rfl)
              refine W_run (L' := [(0, .slice A0 d0.length cap0), (5, S (((s_2.1 ++ [36, 123]) ++ x_5.fName) ++ [125])), (6, .int .i64 (s_2.2 + 1))]) (w' := w_8) f_95 1 [0, 5, 6] (by kernel_rfl) (fun a_73 f_96 => ?_)
              refine W_end rfl ?_
              refine T_n ?_
              obtain rfl := Option.some.inj hF_34
              exact ⟨⟨m_4, (((s_2.1 ++ [36, 123]) ++ x_5.fName) ++ [125], s_2.2 + 1)⟩, Nat.lt_succ_self _, M_4, hM_4, hn_2, f_96.keep (ks := [0, 5, 6]) (by kernel_rfl), (p_7.dropN 1)⟩
            · have k_17 : ¬ (x_5.fKind = 3) := iff_f decide_eq_true_iff h_13
              have hF_35 := cnd_f h_13 hF_29
              refine R_seq ?_
              refine R_reg ?_
              refine W_run (L' := [(0, .slice A0 d0.length cap0), (5, S s_2.1), (6, .int .i64 s_2.2), (7, .pointer (some (⟨b_3, 0, none⟩))), (76, .bool (decide (x_5.fKind = 4)))]) (w' := w_8) f_84 2 [0, 5, 6, 7, 76] (by kernel_rfl) (fun a_74 f_97 => ?_)
              refine W_end rfl ?_
              refine T_n ?_
              refine R_cond f_97 (b := decide (x_5.fKind = 4)) (by kernel_rfl) (by kernel_rfl) (fun h_14 => ?_) (fun h_14 => ?_)
              · have k_18 : x_5.fKind = 4 := decide_eq_true_iff.1 h_14
                have hF_36 := cnd_t h_14 hF_35
                refine R_reg ?_
                refine W_run (L' := [(0, .slice A0 d0.length cap0), (6, .int .i64 s_2.2), (7, .pointer (some (⟨b_3, 0, none⟩))), (78, S s_2.1)]) (w' := w_8) f_97 1 [0, 6, 7, 78] (by kernel_rfl) (fun a_75 f_98 => ?_)
                obtain ⟨g_11, hF_37⟩ := need_some hF_36
                refine W_eq (v := S (s_2.1 ++ [36, 123])) f_98 (by kernel_rfl) (by kernel_rfl) rfl rfl (X_concat rfl (l := s_2.1) (m := [36, 123]) (by kernel_rfl) (by kernel_rfl) g_11) (fun a_76 f_99 => ?_)
                refine W_run (L' := [(0, .slice A0 d0.length cap0), (6, .int .i64 s_2.2), (7, .pointer (some (⟨b_3, 0, none⟩))), (79, S (s_2.1 ++ [36, 123])), (80, .pointer (some (⟨b_3, 3, none⟩)))]) (w' := w_8) f_99 1 [0, 6, 7, 79, 80] (by kernel_rfl) (fun a_77 f_100 => ?_)
                refine W_eq (v := S x_5.fName) f_100 (by kernel_rfl) (by kernel_rfl) rfl rfl (X_load1 (v := S x_5.fName) rfl (ad := ⟨b_3, 3, none⟩) (by kernel_rfl) (by kernel_rfl) (p_7.ownCell 0 rfl 3)) (fun a_78 f_101 => ?_)
                obtain ⟨g_12, hF_38⟩ := need_some hF_37
                refine W_eq (v := S ((s_2.1 ++ [36, 123]) ++ x_5.fName)) f_101 (by kernel_rfl) (by kernel_rfl) rfl rfl (X_concat rfl (l := s_2.1 ++ [36, 123]) (m := x_5.fName) (by kernel_rfl) (by kernel_rfl) g_12) (fun a_79 f_102 => ?_)
                obtain ⟨g_13, hF_39⟩ := need_some hF_38
                refine W_eq (v := S (((s_2.1 ++ [36, 123]) ++ x_5.fName) ++ [46])) f_102 (by kernel_rfl) (by kernel_rfl) rfl rfl (X_concat rfl (l := (s_2.1 ++ [36, 123]) ++ x_5.fName) (m := [46]) (by kernel_rfl) (by kernel_rfl) g_13) (fun a_80 f_103 => ?_)
                refine W_run (L' := [(0, .slice A0 d0.length cap0), (6, .int .i64 s_2.2), (83, S (((s_2.1 ++ [36, 123]) ++ x_5.fName) ++ [46])), (84, .pointer (some (⟨b_3, 4, none⟩)))]) (w' := w_8) f_103 1 [0, 6, 83, 84] (by kernel_rfl) (fun a_81 f_104 => ?_)
                refine W_eq (v := S x_5.fAttr) f_104 (by kernel_rfl) (by kernel_rfl) rfl rfl (X_load1 (v := S x_5.fAttr) rfl (ad := ⟨b_3, 4, none⟩) (by kernel_rfl) (by kernel_rfl) (p_7.ownCell 0 rfl 4)) (fun a_82 f_105 => ?_)
                obtain ⟨g_14, hF_40⟩ := need_some hF_39
                refine W_eq (v := S ((((s_2.1 ++ [36, 123]) ++ x_5.fName) ++ [46]) ++ x_5.fAttr)) f_105 (by kernel_rfl) (by kernel_rfl) rfl rfl (X_concat rfl (l := ((s_2.1 ++ [36, 123]) ++ x_5.fName) ++ [46]) (m := x_5.fAttr) (by kernel_rfl) (by kernel_rfl) g_14) (fun a_83 f_106 => ?_)
                obtain ⟨g_15, hF_41⟩ := need_some hF_40
                refine W_eq (v := S (((((s_2.1 ++ [36, 123]) ++ x_5.fName) ++ [46]) ++ x_5.fAttr) ++ [125])) f_106 (by kernel_rfl) (by kernel_rfl) rfl rfl (X_concat rfl (l := (((s_2.1 ++ [36, 123]) ++ x_5.fName) ++ [46]) ++ x_5.fAttr) (m := [125]) (by kernel_rfl) (by kernel_rfl) g_15) (fun a_84 f_107 => ?_)
                refine W_run (L' := [(0, .slice A0 d0.length cap0), (5, S (((((s_2.1 ++ [36, 123]) ++ x_5.fName) ++ [46]) ++ x_5.fAttr) ++ [125])), (6, .int .i64 s_2.2)]) (w' := w_8) f_107 1 [0, 5, 6] (by kernel_rfl) (fun a_85 f_108 => ?_)
                refine W_end rfl ?_
                refine B_n ?_
                refine B_n ?_
                refine T_n ?_
                refine R_reg ?_
                refine W_run (L' := [(0, .slice A0 d0.length cap0), (5, S (((((s_2.1 ++ [36, 123]) ++ x_5.fName) ++ [46]) ++ x_5.fAttr) ++ [125])), (47, .int .i64 s_2.2)]) (w' := w_8) f_108 1 [0, 5, 47] (by kernel_rfl) (fun a_86 f_109 => ?_)
                obtain ⟨g_16, hF_42⟩ := need_some hF_41
                refine W_run (L' := [(0, .slice A0 d0.length cap0), (5, S (((((s_2.1 ++ [36, 123]) ++ x_5.fName) ++ [46]) ++ x_5.fAttr) ++ [125])), (47, .int .i64 s_2.2), (48, .int .i64 (IntKind.wrap .i64 (s_2.2 + 1)))]) (w' := w_8) f_109 1 [0, 5, 47, 48] (by kernel_rfl) (fun a_87 f_110 => ?_)
                have f_111 := Frm.set f_110 48 (v := .int .i64 (IntKind.wrap .i64 (s_2.2 + 1))) (v' := .int .i64 (s_2.2 + 1)) (by kernel_rfl) (congrArg (Value.int .i64) (inR_wrap g_16))
                have f_112 : Frm 89 [(0, .slice A0 d0.length cap0), (5, S (((((s_2.1 ++ [36, 123]) ++ x_5.fName) ++ [46]) ++ x_5.fAttr) ++ [125])), (47, .int .i64 s_2.2), (48, .int .i64 (s_2.2 + 1))] a_87 := f_111.keep (ks := [0, 5, 47, 48]) (by kernel_rfl)
                refine W_run (L' := [(0, .slice A0 d0.length cap0), (5, S (((((s_2.1 ++ [36, 123]) ++ x_5.fName) ++ [46]) ++ x_5.fAttr) ++ [125])), (6, .int .i64 (s_2.2 + 1))]) (w' := w_8) f_112 1 [0, 5, 6] (by kernel_rfl) (fun a_88 f_113 => ?_)
                refine W_end rfl ?_
                refine T_n ?_
                obtain rfl := Option.some.inj hF_42
                exact ⟨⟨m_4, (((((s_2.1 ++ [36, 123]) ++ x_5.fName) ++ [46]) ++ x_5.fAttr) ++ [125], s_2.2 + 1)⟩, Nat.lt_succ_self _, M_4, hM_4, hn_2, f_113.keep (ks := [0, 5, 6]) (by kernel_rfl), (p_7.dropN 1)⟩
              · have k_19 : ¬ (x_5.fKind = 4) := iff_f decide_eq_true_iff h_14
                have hF_43 := cnd_f h_14 hF_35
                refine wp_skip ?_
                refine B_n ?_
                refine B_n ?_
                refine T_n ?_
                refine R_reg ?_
                refine W_run (L' := [(0, .slice A0 d0.length cap0), (5, S s_2.1), (47, .int .i64 s_2.2)]) (w' := w_8) f_97 1 [0, 5, 47] (by kernel_rfl) (fun a_89 f_114 => ?_)
                obtain ⟨g_17, hF_44⟩ := need_some hF_43
                refine W_run (L' := [(0, .slice A0 d0.length cap0), (5, S s_2.1), (47, .int .i64 s_2.2), (48, .int .i64 (IntKind.wrap .i64 (s_2.2 + 1)))]) (w' := w_8) f_114 1 [0, 5, 47, 48] (by kernel_rfl) (fun a_90 f_115 => ?_)
                have f_116 := Frm.set f_115 48 (v := .int .i64 (IntKind.wrap .i64 (s_2.2 + 1))) (v' := .int .i64 (s_2.2 + 1)) (by kernel_rfl) (congrArg (Value.int .i64) (inR_wrap g_17))
                have f_117 : Frm 89 [(0, .slice A0 d0.length cap0), (5, S s_2.1), (47, .int .i64 s_2.2), (48, .int .i64 (s_2.2 + 1))] a_90 := f_116.keep (ks := [0, 5, 47, 48]) (by kernel_rfl)
                refine W_run (L' := [(0, .slice A0 d0.length cap0), (5, S s_2.1), (6, .int .i64 (s_2.2 + 1))]) (w' := w_8) f_117 1 [0, 5, 6] (by kernel_rfl) (fun a_91 f_118 => ?_)
                refine W_end rfl ?_
                refine T_n ?_
                obtain rfl := Option.some.inj hF_44
                exact ⟨⟨m_4, (s_2.1, s_2.2 + 1)⟩, Nat.lt_succ_self _, M_4, hM_4, hn_2, f_118.keep (ks := [0, 5, 6]) (by kernel_rfl), (p_7.dropN 1)⟩
        · have k_20 : ¬ (s_2.2 < ((d0.length : Nat) : Int)) := iff_f decide_eq_true_iff h_9
          have hF_45 := cnd_f h_9 hs_2
          refine wp_exit ?_
          refine T_x ?_
          refine T_x ?_
          obtain rfl := Option.some.inj hF_45
          exact .inr ⟨rfl, s_2.1, (Option.some.inj hn_2).symm, M_4, hM_4, f_61.keep (ks := [5]) (by kernel_rfl), p_5⟩
      · rintro _ a_94 w_12 (⟨rfl, y_3, rfl, M_5, hM_5, f_119, p_9⟩ | ⟨rfl, y_4, rfl, M_6, hM_6, f_120, p_10⟩)
        · refine B_r ?_
          refine T_r ?_
          refine E_ret2 f_119 rfl (by kernel_rfl : Vc.look _ 2 = some (S [])) (by kernel_rfl : Vc.look _ 3 = some (.int .i64 130)) ?_
          obtain rfl := Option.some.inj hF_20
          exact ⟨_, rfl, M_5, (hM_3.trans hM_5), p_9, rfl⟩
        · refine B_x ?_
          refine T_n ?_
          refine R_seq ?_
          refine R_reg ?_
          refine W_run (L' := [(2, S y_4), (3, .int .i64 0)]) (w' := w_12) f_120 3 [2, 3] (by kernel_rfl) (fun a_95 f_121 => ?_)
          refine W_end rfl ?_
          refine T_n ?_
          refine wp_ret ?_
          refine E_ret2 f_121 rfl (by kernel_rfl : Vc.look _ 2 = some (S y_4)) (by kernel_rfl : Vc.look _ 3 = some (.int .i64 0)) ?_
          obtain rfl := Option.some.inj hF_20
          exact ⟨_, rfl, M_6, (hM_3.trans hM_6), p_10, rfl⟩
end Go.Proofs.YtdmjgmleilgbpaaDoor
