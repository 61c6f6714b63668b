/-
  Printed by a program: of each function its shallow reading, and the proof that the function gives what the reading gives. No condition.
-/
import Derived.Test.YtekkifakjkhjiaaDoorQ5
import Derived.Test.YtekkifakjkhjiaaDoorQ2a
set_option linter.unusedVariables false
set_option linter.unusedSimpArgs false
namespace Go.Proofs.YtekkifakjkhjiaaDoor
open Go Go.Vc Go.RowKit
def law03_TreeOrder_s1 (n : Nat) (s_1 : Int × List Bool × Int) : Option (Lp (Int × List Bool × Int) Int) :=
    bif (decide (s_1.2.2 < 3)) then
      ((getI s_1.2.1 s_1.2.2).bind fun x_16 =>
      bif x_16 then
        (need (inR .i64 (s_1.1 + 1)) <|
        need (inR .i64 (s_1.2.2 + 1)) <|
        some (.nx (s_1.1 + 1, s_1.2.1, s_1.2.2 + 1)))
      else
        need (inR .i64 (s_1.2.2 + 1)) <|
        some (.nx (s_1.1, s_1.2.1, s_1.2.2 + 1)))
    else
      some (.br s_1.1)
def law03_TreeOrder (n : Nat) (d0 : T_api_Value) (d1 : T_api_Value) (d2 : T_api_Value) : Option Bool :=
  (((ref03_Great n d0).bind fun x_1 =>
    bif x_1 then
      (some ((true)))
    else
      (ref03_Great n d1).bind fun x_2 =>
      bif x_2 then
        (some ((true)))
      else
        (ref03_Great n d2).bind fun x_3 =>
        some ((x_3)) : Option Bool)).bind fun y_1 =>
  bif y_1 then
    ((law03_wakes n).bind fun x_4 =>
    some ((x_4)))
  else
    (tree_Check n d0).bind fun x_5 =>
    (tree_Check n d1).bind fun x_6 =>
    (tree_Check n d2).bind fun x_7 =>
    ((bif (!(decide (x_5 = 0))) then
        (some ((true)))
      else
        bif (!(decide (x_6 = 0))) then
          (some ((true)))
        else
          some ((!(decide (x_7 = 0)))) : Option Bool)).bind fun y_2 =>
    bif y_2 then
      (((bif (decide (x_5 = 0)) then
          ((law03_wakes n).bind fun x_8 =>
          some ((x_8)))
        else
          (tree_Equal n d0 d0).bind fun x_9 =>
          bif !x_9 then
            ((tree_Less n d0 d1).bind fun x_10 =>
            bif !x_10 then
              ((tree_Less n d1 d0).bind fun x_11 =>
              bif !x_11 then
                ((law03_wakes n).bind fun x_12 =>
                some ((x_12)))
              else
                some ((false)))
            else
              some ((false)))
          else
            some ((false)) : Option Bool)).bind fun y_3 =>
      some ((y_3)))
    else
      (tree_Equal n d0 d1).bind fun x_13 =>
      (tree_Less n d0 d1).bind fun x_14 =>
      (tree_Less n d1 d0).bind fun x_15 =>
      (loopF (law03_TreeOrder_s1 n) n ((0 : Int), [(x_13), (x_14), (x_15)], (0 : Int))).bind fun y_4 =>
      ((bif (!(decide (y_4 = 1))) then
          (some ((true)))
        else
          (tree_Equal n d0 d0).bind fun x_17 =>
          bif !x_17 then
            (some ((true)))
          else
            (tree_Equal n d0 d1).bind fun x_18 =>
            (tree_Equal n d1 d0).bind fun x_19 =>
            some ((!(x_18 == x_19))) : Option Bool)).bind fun y_5 =>
      bif y_5 then
        (some ((false)))
      else
        (((tree_Equal n d0 d1).bind fun x_20 =>
          bif x_20 then
            ((tree_Equal n d1 d2).bind fun x_21 =>
            (tree_Equal n d0 d2).bind fun x_22 =>
            bif (!(x_21 == x_22)) then
              (some ((true)))
            else
              (tree_Less n d0 d2).bind fun x_23 =>
              (tree_Less n d1 d2).bind fun x_24 =>
              some ((!(x_23 == x_24))))
          else
            some ((false)) : Option Bool)).bind fun y_6 =>
        bif y_6 then
          (some ((false)))
        else
          (tree_Less n d0 d1).bind fun x_25 =>
          bif !x_25 then
            ((law03_wakes n).bind fun x_26 =>
            some ((x_26)))
          else
            (tree_Less n d1 d2).bind fun x_27 =>
            bif !x_27 then
              ((law03_wakes n).bind fun x_28 =>
              some ((x_28)))
            else
              (tree_Less n d0 d2).bind fun x_29 =>
              bif x_29 then
                ((law03_wakes n).bind fun x_30 =>
                some ((x_30)))
              else
                some ((false))
set_option maxHeartbeats 2000000 in
theorem law03_TreeOrder_ok (n : Nat) (M : Mem) (hG : GL M) (c0 : List Value) (d0 : T_api_Value) (h0 : Rep M (emb_T_api_Value d0) c0) (c1 : List Value) (d1 : T_api_Value) (h1 : Rep M (emb_T_api_Value d1) c1) (c2 : List Value) (d2 : T_api_Value) (h2 : Rep M (emb_T_api_Value d2) c2) (r : Bool) (hF : law03_TreeOrder n d0 d1 d2 = some r) : Ok Tryd.prog M 4 [.agg c0.toArray, .agg c1.toArray, .agg c2.toArray] (fun _ v => v = .bool r) := by
  unfold law03_TreeOrder at hF
  intro M1 hM0 w0 H w p0
  replace hG := GL.mono hM0 hG
  replace h0 := Rep.mono hM0 _ _ h0
  replace h1 := Rep.mono hM0 _ _ h1
  replace h2 := Rep.mono hM0 _ _ h2
  obtain ⟨A_1, cap_1, A_2, cap_2, rfl, h_1, h_2⟩ := T_api_Value.opn h0
  obtain ⟨A_3, cap_3, A_4, cap_4, rfl, h_3, h_4⟩ := T_api_Value.opn h1
  obtain ⟨A_5, cap_5, A_6, cap_6, rfl, h_5, h_6⟩ := T_api_Value.opn h2
  refine R_enter 140 Tryd.func4 rfl rfl (by simp) (fun a0 f0 => ?_)
  refine R_seq (R_reg ?_)
  refine V_box (cs := #[.int .i8 d0.fKind, .bool d0.fBool, .int .i64 d0.fNum, S d0.fText, .slice A_1 d0.fList.length cap_1, .slice A_2 d0.fKeys.length cap_2]) (T := 26) f0 p0 (by kernel_rfl) (fun _ => by kernel_rfl) (fun b_1 M_1 w_1 hM_1 hc_1 p_1 a_1 f_1 => ?_)
  have hc_2 := fz_box hc_1
  refine V_box (cs := #[.int .i8 d1.fKind, .bool d1.fBool, .int .i64 d1.fNum, S d1.fText, .slice A_3 d1.fList.length cap_3, .slice A_4 d1.fKeys.length cap_4]) (T := 26) f_1 p_1 (by kernel_rfl) (fun _ => by kernel_rfl) (fun b_2 M_2 w_2 hM_2 hc_3 p_2 a_2 f_2 => ?_)
  have hc_4 := fz_box hc_3
  refine V_box (cs := #[.int .i8 d2.fKind, .bool d2.fBool, .int .i64 d2.fNum, S d2.fText, .slice A_5 d2.fList.length cap_5, .slice A_6 d2.fKeys.length cap_6]) (T := 26) f_2 p_2 (by kernel_rfl) (fun _ => by kernel_rfl) (fun b_3 M_3 w_3 hM_3 hc_5 p_3 a_3 f_3 => ?_)
  have hc_6 := fz_box hc_5
  refine V_run f_3 1 (by kernel_rfl) (fun a_4 f_4 => ?_)
  refine W_end rfl (T_n (R_seq (R_seq ?_)))
  obtain ⟨j_1, hj_1, hF_1⟩ := bind_some' hF
  refine R_mid (fun a_16 w_7 => ∃ y_1 : Bool, j_1 = y_1 ∧ ∃ M_4 : Mem, M_3.le M_4 ∧ Frm 140 [(3, .pointer (some (⟨b_1, 0, none⟩))), (4, .pointer (some (⟨b_2, 0, none⟩))), (5, .pointer (some (⟨b_3, 0, none⟩))), (22, .bool y_1)] a_16 ∧ Hp w0 M_4 (H) w_7) ?_ ?_
  · refine R_reg ?_
    refine V_eq (v := .agg #[.int .i8 d0.fKind, .bool d0.fBool, .int .i64 d0.fNum, S d0.fText, .slice A_1 d0.fList.length cap_1, .slice A_2 d0.fKeys.length cap_2]) f_4 (by kernel_rfl) (X_loadN (cs := [.int .i8 d0.fKind, .bool d0.fBool, .int .i64 d0.fNum, S d0.fText, .slice A_1 d0.fList.length cap_1, .slice A_2 d0.fKeys.length cap_2]) rfl (ad := ⟨b_1, 0, none⟩) (by kernel_rfl) (by kernel_rfl) (fun j v h => p_3.cell ((fzu (hM_2.trans hM_3) hc_2) j v h))) (fun a_5 f_5 => ?_)
    obtain ⟨x_1, hx_1, hF_2⟩ := bind_some' hj_1
    refine V_okv f_5 p_3 (ref03_Great_ok n _ _ d0 (T_api_Value.shutx (x := d0) (h_1.mono ((hM_1.trans hM_2).trans hM_3)) (h_2.mono ((hM_1.trans hM_2).trans hM_3))) x_1 hx_1) (by kernel_rfl) (fun _ => by kernel_rfl) (fun w_4 p_4 a_6 f_6 => ?_)
    refine V_run f_6 1 (by kernel_rfl) (fun a_7 f_7 => ?_)
    rcases Bool.eq_false_or_eq_true (x_1) with h_7 | h_7
    · have hF_3 := cnd_t h_7 hF_2
      have f_8 := Frm.set f_7 15 (v := .bool x_1) (v' := .bool true) (by kernel_rfl) (congrArg Value.bool h_7)
      refine V_run f_8 7 (by kernel_rfl) (fun a_8 f_9 => ?_)
      refine W_end rfl (T_n ?_)
      exact ⟨(true), (Option.some.inj hF_3).symm, M_3, (Mem.le_refl _), f_9.keep (ks := [3, 4, 5, 22]) (by kernel_rfl), p_4⟩
    · have hF_4 := cnd_f h_7 hF_2
      have f_10 := Frm.set f_7 15 (v := .bool x_1) (v' := .bool false) (by kernel_rfl) (congrArg Value.bool h_7)
      refine V_eq (v := .agg #[.int .i8 d1.fKind, .bool d1.fBool, .int .i64 d1.fNum, S d1.fText, .slice A_3 d1.fList.length cap_3, .slice A_4 d1.fKeys.length cap_4]) f_10 (by kernel_rfl) (X_loadN (cs := [.int .i8 d1.fKind, .bool d1.fBool, .int .i64 d1.fNum, S d1.fText, .slice A_3 d1.fList.length cap_3, .slice A_4 d1.fKeys.length cap_4]) rfl (ad := ⟨b_2, 0, none⟩) (by kernel_rfl) (by kernel_rfl) (fun j v h => p_4.cell ((fzu hM_3 hc_4) j v h))) (fun a_9 f_11 => ?_)
      obtain ⟨x_2, hx_2, hF_5⟩ := bind_some' hF_4
      refine V_okv f_11 p_4 (ref03_Great_ok n _ _ d1 (T_api_Value.shutx (x := d1) (h_3.mono ((hM_1.trans hM_2).trans hM_3)) (h_4.mono ((hM_1.trans hM_2).trans hM_3))) x_2 hx_2) (by kernel_rfl) (fun _ => by kernel_rfl) (fun w_5 p_5 a_10 f_12 => ?_)
      refine V_run f_12 2 (by kernel_rfl) (fun a_11 f_13 => ?_)
      rcases Bool.eq_false_or_eq_true (x_2) with h_8 | h_8
      · have hF_6 := cnd_t h_8 hF_5
        have f_14 := Frm.set f_13 19 (v := .bool x_2) (v' := .bool true) (by kernel_rfl) (congrArg Value.bool h_8)
        refine V_run f_14 3 (by kernel_rfl) (fun a_12 f_15 => ?_)
        refine W_end rfl (T_n ?_)
        exact ⟨(true), (Option.some.inj hF_6).symm, M_3, (Mem.le_refl _), f_15.keep (ks := [3, 4, 5, 22]) (by kernel_rfl), p_5⟩
      · have hF_7 := cnd_f h_8 hF_5
        have f_16 := Frm.set f_13 19 (v := .bool x_2) (v' := .bool false) (by kernel_rfl) (congrArg Value.bool h_8)
        refine V_eq (v := .agg #[.int .i8 d2.fKind, .bool d2.fBool, .int .i64 d2.fNum, S d2.fText, .slice A_5 d2.fList.length cap_5, .slice A_6 d2.fKeys.length cap_6]) f_16 (by kernel_rfl) (X_loadN (cs := [.int .i8 d2.fKind, .bool d2.fBool, .int .i64 d2.fNum, S d2.fText, .slice A_5 d2.fList.length cap_5, .slice A_6 d2.fKeys.length cap_6]) rfl (ad := ⟨b_3, 0, none⟩) (by kernel_rfl) (by kernel_rfl) (fun j v h => p_5.cell (hc_6 j v h))) (fun a_13 f_17 => ?_)
        obtain ⟨x_3, hx_3, hF_8⟩ := bind_some' hF_7
        refine V_okv f_17 p_5 (ref03_Great_ok n _ _ d2 (T_api_Value.shutx (x := d2) (h_5.mono ((hM_1.trans hM_2).trans hM_3)) (h_6.mono ((hM_1.trans hM_2).trans hM_3))) x_3 hx_3) (by kernel_rfl) (fun _ => by kernel_rfl) (fun w_6 p_6 a_14 f_18 => ?_)
        refine V_run f_18 1 (by kernel_rfl) (fun a_15 f_19 => ?_)
        refine W_end rfl (T_n ?_)
        exact ⟨(x_3), (Option.some.inj hF_8).symm, M_3, (Mem.le_refl _), f_19.keep (ks := [3, 4, 5, 22]) (by kernel_rfl), p_6⟩
  · rintro a_16 w_7 ⟨y_1, hq_1, M_4, hM_4, f_20, p_7⟩
    subst j_1
    refine T_n ?_
    refine R_cond f_20 (b := y_1) (by kernel_rfl) (by kernel_rfl) (fun h_9 => ?_) (fun h_9 => ?_)
    · have hF_9 := cnd_t h_9 hF_1
      refine R_seq (R_reg ?_)
      obtain ⟨x_4, hx_4, hF_10⟩ := bind_some' hF_9
      refine V_okv f_20 p_7 (law03_wakes_ok n _ (GL.mono (((hM_1.trans hM_2).trans hM_3).trans hM_4) hG) x_4 hx_4) (by kernel_rfl) (fun _ => by kernel_rfl) (fun w_8 p_8 a_17 f_21 => ?_)
      refine V_run f_21 1 (by kernel_rfl) (fun a_18 f_22 => ?_)
      refine W_end rfl (T_n (wp_ret (T_r ?_)))
      refine E_ret1 f_22 rfl (by kernel_rfl : Vc.look _ 6 = some (.bool x_4)) ?_
      obtain rfl := Option.some.inj hF_10
      exact ⟨_, rfl, M_4, (((hM_1.trans hM_2).trans hM_3).trans hM_4), p_8, rfl⟩
    · have hF_11 := cnd_f h_9 hF_1
      refine wp_skip (T_n (R_seq ?_))
      refine R_draw p_7 (by kernel_rfl) (by kernel_rfl) ?_
      refine QV_eq (v := .agg #[.int .i8 d0.fKind, .bool d0.fBool, .int .i64 d0.fNum, S d0.fText, .slice A_1 d0.fList.length cap_1, .slice A_2 d0.fKeys.length cap_2]) f_20 (by kernel_rfl) (fun _ pq => X_loadN (cs := [.int .i8 d0.fKind, .bool d0.fBool, .int .i64 d0.fNum, S d0.fText, .slice A_1 d0.fList.length cap_1, .slice A_2 d0.fKeys.length cap_2]) rfl (ad := ⟨b_1, 0, none⟩) (by kernel_rfl) (by kernel_rfl) (fun j v h => pq.cell ((fzu ((hM_2.trans hM_3).trans hM_4) hc_2) j v h))) (fun a_19 f_23 => ?_)
      obtain ⟨x_5, hx_5, hF_12⟩ := bind_some' hF_11
      refine QV_okv f_23 (tree_Check_ok n _ (GL.mono (((hM_1.trans hM_2).trans hM_3).trans hM_4) hG) _ d0 (T_api_Value.shutx (x := d0) (h_1.mono (((hM_1.trans hM_2).trans hM_3).trans hM_4)) (h_2.mono (((hM_1.trans hM_2).trans hM_3).trans hM_4))) x_5 hx_5) (by kernel_rfl) (fun _ => by kernel_rfl) (fun a_20 f_24 => ?_)
      refine Q_run default f_24 1 (fun _ => by kernel_rfl) (fun a_21 f_25 => ?_)
      refine QV_eq (v := .agg #[.int .i8 d1.fKind, .bool d1.fBool, .int .i64 d1.fNum, S d1.fText, .slice A_3 d1.fList.length cap_3, .slice A_4 d1.fKeys.length cap_4]) f_25 (by kernel_rfl) (fun _ pq => X_loadN (cs := [.int .i8 d1.fKind, .bool d1.fBool, .int .i64 d1.fNum, S d1.fText, .slice A_3 d1.fList.length cap_3, .slice A_4 d1.fKeys.length cap_4]) rfl (ad := ⟨b_2, 0, none⟩) (by kernel_rfl) (by kernel_rfl) (fun j v h => pq.cell ((fzu (hM_3.trans hM_4) hc_4) j v h))) (fun a_22 f_26 => ?_)
      obtain ⟨x_6, hx_6, hF_13⟩ := bind_some' hF_12
      refine QV_okv f_26 (tree_Check_ok n _ (GL.mono (((hM_1.trans hM_2).trans hM_3).trans hM_4) hG) _ d1 (T_api_Value.shutx (x := d1) (h_3.mono (((hM_1.trans hM_2).trans hM_3).trans hM_4)) (h_4.mono (((hM_1.trans hM_2).trans hM_3).trans hM_4))) x_6 hx_6) (by kernel_rfl) (fun _ => by kernel_rfl) (fun a_23 f_27 => ?_)
      refine Q_run default f_27 1 (fun _ => by kernel_rfl) (fun a_24 f_28 => ?_)
      refine QV_eq (v := .agg #[.int .i8 d2.fKind, .bool d2.fBool, .int .i64 d2.fNum, S d2.fText, .slice A_5 d2.fList.length cap_5, .slice A_6 d2.fKeys.length cap_6]) f_28 (by kernel_rfl) (fun _ pq => X_loadN (cs := [.int .i8 d2.fKind, .bool d2.fBool, .int .i64 d2.fNum, S d2.fText, .slice A_5 d2.fList.length cap_5, .slice A_6 d2.fKeys.length cap_6]) rfl (ad := ⟨b_3, 0, none⟩) (by kernel_rfl) (by kernel_rfl) (fun j v h => pq.cell ((fzu hM_4 hc_6) j v h))) (fun a_25 f_29 => ?_)
      obtain ⟨x_7, hx_7, hF_14⟩ := bind_some' hF_13
      refine QV_okv f_29 (tree_Check_ok n _ (GL.mono (((hM_1.trans hM_2).trans hM_3).trans hM_4) hG) _ d2 (T_api_Value.shutx (x := d2) (h_5.mono (((hM_1.trans hM_2).trans hM_3).trans hM_4)) (h_6.mono (((hM_1.trans hM_2).trans hM_3).trans hM_4))) x_7 hx_7) (by kernel_rfl) (fun _ => by kernel_rfl) (fun a_26 f_30 => ?_)
      refine Q_run default f_30 4 (fun _ => by kernel_rfl) (fun a_27 f_31 => ?_)
      refine Q_end rfl ?_
      intro w_12 p_12
      refine T_n (R_seq (R_seq ?_))
      obtain ⟨j_2, hj_2, hF_15⟩ := bind_some' hF_14
      refine R_mid (fun a_33 w_13 => ∃ y_2 : Bool, j_2 = y_2 ∧ ∃ M_5 : Mem, M_4.le M_5 ∧ Frm 140 [(3, .pointer (some (⟨b_1, 0, none⟩))), (4, .pointer (some (⟨b_2, 0, none⟩))), (5, .pointer (some (⟨b_3, 0, none⟩))), (7, .bool (decide (x_5 = 0))), (42, .bool y_2)] a_33 ∧ Hp w0 M_5 (H) w_13) ?_ ?_
      · refine R_reg ?_
        refine V_run f_31 3 (by kernel_rfl) (fun a_28 f_32 => ?_)
        rcases Bool.eq_false_or_eq_true (!(decide (x_5 = 0))) with h_10 | h_10
        · have k_7 : ¬ (x_5 = 0) := (not_iff decide_eq_true_iff).1 h_10
          have hF_16 := cnd_t h_10 hj_2
          have f_33 := Frm.set f_32 35 (v := .bool (!(decide (x_5 = 0)))) (v' := .bool true) (by kernel_rfl) (congrArg Value.bool h_10)
          refine V_run f_33 7 (by kernel_rfl) (fun a_29 f_34 => ?_)
          refine W_end rfl (T_n ?_)
          exact ⟨(true), (Option.some.inj hF_16).symm, M_4, (Mem.le_refl _), f_34.keep (ks := [3, 4, 5, 7, 42]) (by kernel_rfl), p_12⟩
        · have k_8 : ¬ (¬ (x_5 = 0)) := iff_f (not_iff decide_eq_true_iff) h_10
          have hF_17 := cnd_f h_10 hj_2
          have f_35 := Frm.set f_32 35 (v := .bool (!(decide (x_5 = 0)))) (v' := .bool false) (by kernel_rfl) (congrArg Value.bool h_10)
          refine V_run f_35 4 (by kernel_rfl) (fun a_30 f_36 => ?_)
          rcases Bool.eq_false_or_eq_true (!(decide (x_6 = 0))) with h_11 | h_11
          · have k_9 : ¬ (x_6 = 0) := (not_iff decide_eq_true_iff).1 h_11
            have hF_18 := cnd_t h_11 hF_17
            have f_37 := Frm.set f_36 39 (v := .bool (!(decide (x_6 = 0)))) (v' := .bool true) (by kernel_rfl) (congrArg Value.bool h_11)
            refine V_run f_37 3 (by kernel_rfl) (fun a_31 f_38 => ?_)
            refine W_end rfl (T_n ?_)
            exact ⟨(true), (Option.some.inj hF_18).symm, M_4, (Mem.le_refl _), f_38.keep (ks := [3, 4, 5, 7, 42]) (by kernel_rfl), p_12⟩
          · have k_10 : ¬ (¬ (x_6 = 0)) := iff_f (not_iff decide_eq_true_iff) h_11
            have hF_19 := cnd_f h_11 hF_17
            have f_39 := Frm.set f_36 39 (v := .bool (!(decide (x_6 = 0)))) (v' := .bool false) (by kernel_rfl) (congrArg Value.bool h_11)
            refine V_run f_39 3 (by kernel_rfl) (fun a_32 f_40 => ?_)
            refine W_end rfl (T_n ?_)
            exact ⟨(!(decide (x_7 = 0))), (Option.some.inj hF_19).symm, M_4, (Mem.le_refl _), f_40.keep (ks := [3, 4, 5, 7, 42]) (by kernel_rfl), p_12⟩
      · rintro a_33 w_13 ⟨y_2, hq_2, M_5, hM_5, f_41, p_13⟩
        subst j_2
        refine T_n ?_
        refine R_cond f_41 (b := y_2) (by kernel_rfl) (by kernel_rfl) (fun h_12 => ?_) (fun h_12 => ?_)
        · have hF_20 := cnd_t h_12 hF_15
          refine R_seq ?_
          obtain ⟨j_3, hj_3, hF_21⟩ := bind_some' hF_20
          refine R_mid (fun a_55 w_19 => ∃ y_3 : Bool, j_3 = y_3 ∧ ∃ M_6 : Mem, M_5.le M_6 ∧ Frm 140 [(6, .bool y_3)] a_55 ∧ Hp w0 M_6 (H) w_19) ?_ ?_
          · refine R_reg ?_
            refine V_run f_41 2 (by kernel_rfl) (fun a_34 f_42 => ?_)
            rcases Bool.eq_false_or_eq_true (decide (x_5 = 0)) with h_13 | h_13
            · have k_12 : x_5 = 0 := decide_eq_true_iff.1 h_13
              have hF_22 := cnd_t h_13 hj_3
              have f_43 := Frm.set f_42 44 (v := .bool (decide (x_5 = 0))) (v' := .bool true) (by kernel_rfl) (congrArg Value.bool h_13)
              refine V_run f_43 18 (by kernel_rfl) (fun a_35 f_44 => ?_)
              obtain ⟨x_8, hx_8, hF_23⟩ := bind_some' hF_22
              refine V_okv f_44 p_13 (law03_wakes_ok n _ (GL.mono ((((hM_1.trans hM_2).trans hM_3).trans hM_4).trans hM_5) hG) x_8 hx_8) (by kernel_rfl) (fun _ => by kernel_rfl) (fun w_14 p_14 a_36 f_45 => ?_)
              refine V_run f_45 2 (by kernel_rfl) (fun a_37 f_46 => ?_)
              refine W_end rfl (T_n ?_)
              exact ⟨(x_8), (Option.some.inj hF_23).symm, M_5, (Mem.le_refl _), f_46.keep (ks := [6]) (by kernel_rfl), p_14⟩
            · have k_13 : ¬ (x_5 = 0) := iff_f decide_eq_true_iff h_13
              have hF_24 := cnd_f h_13 hj_3
              have f_47 := Frm.set f_42 44 (v := .bool (decide (x_5 = 0))) (v' := .bool false) (by kernel_rfl) (congrArg Value.bool h_13)
              refine V_eq (v := .agg #[.int .i8 d0.fKind, .bool d0.fBool, .int .i64 d0.fNum, S d0.fText, .slice A_1 d0.fList.length cap_1, .slice A_2 d0.fKeys.length cap_2]) f_47 (by kernel_rfl) (X_loadN (cs := [.int .i8 d0.fKind, .bool d0.fBool, .int .i64 d0.fNum, S d0.fText, .slice A_1 d0.fList.length cap_1, .slice A_2 d0.fKeys.length cap_2]) rfl (ad := ⟨b_1, 0, none⟩) (by kernel_rfl) (by kernel_rfl) (fun j v h => p_13.cell ((fzu (((hM_2.trans hM_3).trans hM_4).trans hM_5) hc_2) j v h))) (fun a_38 f_48 => ?_)
              refine V_eq (v := .agg #[.int .i8 d0.fKind, .bool d0.fBool, .int .i64 d0.fNum, S d0.fText, .slice A_1 d0.fList.length cap_1, .slice A_2 d0.fKeys.length cap_2]) f_48 (by kernel_rfl) (X_loadN (cs := [.int .i8 d0.fKind, .bool d0.fBool, .int .i64 d0.fNum, S d0.fText, .slice A_1 d0.fList.length cap_1, .slice A_2 d0.fKeys.length cap_2]) rfl (ad := ⟨b_1, 0, none⟩) (by kernel_rfl) (by kernel_rfl) (fun j v h => p_13.cell ((fzu (((hM_2.trans hM_3).trans hM_4).trans hM_5) hc_2) j v h))) (fun a_39 f_49 => ?_)
              obtain ⟨x_9, hx_9, hF_25⟩ := bind_some' hF_24
              refine V_okv f_49 p_13 (tree_Equal_ok n _ (GL.mono ((((hM_1.trans hM_2).trans hM_3).trans hM_4).trans hM_5) hG) _ d0 (T_api_Value.shutx (x := d0) (h_1.mono ((((hM_1.trans hM_2).trans hM_3).trans hM_4).trans hM_5)) (h_2.mono ((((hM_1.trans hM_2).trans hM_3).trans hM_4).trans hM_5))) _ d0 (T_api_Value.shutx (x := d0) (h_1.mono ((((hM_1.trans hM_2).trans hM_3).trans hM_4).trans hM_5)) (h_2.mono ((((hM_1.trans hM_2).trans hM_3).trans hM_4).trans hM_5))) x_9 hx_9) (by kernel_rfl) (fun _ => by kernel_rfl) (fun w_15 p_15 a_40 f_50 => ?_)
              refine V_run f_50 2 (by kernel_rfl) (fun a_41 f_51 => ?_)
              rcases Bool.eq_false_or_eq_true (!x_9) with h_14 | h_14
              · have k_14 : (x_9) = false := by simpa using h_14
                have hF_26 := cnd_t h_14 hF_25
                have f_52 := Frm.set f_51 49 (v := .bool !x_9) (v' := .bool true) (by kernel_rfl) (congrArg Value.bool h_14)
                refine V_eq (v := .agg #[.int .i8 d0.fKind, .bool d0.fBool, .int .i64 d0.fNum, S d0.fText, .slice A_1 d0.fList.length cap_1, .slice A_2 d0.fKeys.length cap_2]) f_52 (by kernel_rfl) (X_loadN (cs := [.int .i8 d0.fKind, .bool d0.fBool, .int .i64 d0.fNum, S d0.fText, .slice A_1 d0.fList.length cap_1, .slice A_2 d0.fKeys.length cap_2]) rfl (ad := ⟨b_1, 0, none⟩) (by kernel_rfl) (by kernel_rfl) (fun j v h => p_15.cell ((fzu (((hM_2.trans hM_3).trans hM_4).trans hM_5) hc_2) j v h))) (fun a_42 f_53 => ?_)
                refine V_eq (v := .agg #[.int .i8 d1.fKind, .bool d1.fBool, .int .i64 d1.fNum, S d1.fText, .slice A_3 d1.fList.length cap_3, .slice A_4 d1.fKeys.length cap_4]) f_53 (by kernel_rfl) (X_loadN (cs := [.int .i8 d1.fKind, .bool d1.fBool, .int .i64 d1.fNum, S d1.fText, .slice A_3 d1.fList.length cap_3, .slice A_4 d1.fKeys.length cap_4]) rfl (ad := ⟨b_2, 0, none⟩) (by kernel_rfl) (by kernel_rfl) (fun j v h => p_15.cell ((fzu ((hM_3.trans hM_4).trans hM_5) hc_4) j v h))) (fun a_43 f_54 => ?_)
                obtain ⟨x_10, hx_10, hF_27⟩ := bind_some' hF_26
                refine V_okv f_54 p_15 (tree_Less_ok n _ (GL.mono ((((hM_1.trans hM_2).trans hM_3).trans hM_4).trans hM_5) hG) _ d0 (T_api_Value.shutx (x := d0) (h_1.mono ((((hM_1.trans hM_2).trans hM_3).trans hM_4).trans hM_5)) (h_2.mono ((((hM_1.trans hM_2).trans hM_3).trans hM_4).trans hM_5))) _ d1 (T_api_Value.shutx (x := d1) (h_3.mono ((((hM_1.trans hM_2).trans hM_3).trans hM_4).trans hM_5)) (h_4.mono ((((hM_1.trans hM_2).trans hM_3).trans hM_4).trans hM_5))) x_10 hx_10) (by kernel_rfl) (fun _ => by kernel_rfl) (fun w_16 p_16 a_44 f_55 => ?_)
                refine V_run f_55 3 (by kernel_rfl) (fun a_45 f_56 => ?_)
                rcases Bool.eq_false_or_eq_true (!x_10) with h_15 | h_15
                · have k_15 : (x_10) = false := by simpa using h_15
                  have hF_28 := cnd_t h_15 hF_27
                  have f_57 := Frm.set f_56 55 (v := .bool !x_10) (v' := .bool true) (by kernel_rfl) (congrArg Value.bool h_15)
                  refine V_eq (v := .agg #[.int .i8 d1.fKind, .bool d1.fBool, .int .i64 d1.fNum, S d1.fText, .slice A_3 d1.fList.length cap_3, .slice A_4 d1.fKeys.length cap_4]) f_57 (by kernel_rfl) (X_loadN (cs := [.int .i8 d1.fKind, .bool d1.fBool, .int .i64 d1.fNum, S d1.fText, .slice A_3 d1.fList.length cap_3, .slice A_4 d1.fKeys.length cap_4]) rfl (ad := ⟨b_2, 0, none⟩) (by kernel_rfl) (by kernel_rfl) (fun j v h => p_16.cell ((fzu ((hM_3.trans hM_4).trans hM_5) hc_4) j v h))) (fun a_46 f_58 => ?_)
                  refine V_eq (v := .agg #[.int .i8 d0.fKind, .bool d0.fBool, .int .i64 d0.fNum, S d0.fText, .slice A_1 d0.fList.length cap_1, .slice A_2 d0.fKeys.length cap_2]) f_58 (by kernel_rfl) (X_loadN (cs := [.int .i8 d0.fKind, .bool d0.fBool, .int .i64 d0.fNum, S d0.fText, .slice A_1 d0.fList.length cap_1, .slice A_2 d0.fKeys.length cap_2]) rfl (ad := ⟨b_1, 0, none⟩) (by kernel_rfl) (by kernel_rfl) (fun j v h => p_16.cell ((fzu (((hM_2.trans hM_3).trans hM_4).trans hM_5) hc_2) j v h))) (fun a_47 f_59 => ?_)
                  obtain ⟨x_11, hx_11, hF_29⟩ := bind_some' hF_28
                  refine V_okv f_59 p_16 (tree_Less_ok n _ (GL.mono ((((hM_1.trans hM_2).trans hM_3).trans hM_4).trans hM_5) hG) _ d1 (T_api_Value.shutx (x := d1) (h_3.mono ((((hM_1.trans hM_2).trans hM_3).trans hM_4).trans hM_5)) (h_4.mono ((((hM_1.trans hM_2).trans hM_3).trans hM_4).trans hM_5))) _ d0 (T_api_Value.shutx (x := d0) (h_1.mono ((((hM_1.trans hM_2).trans hM_3).trans hM_4).trans hM_5)) (h_2.mono ((((hM_1.trans hM_2).trans hM_3).trans hM_4).trans hM_5))) x_11 hx_11) (by kernel_rfl) (fun _ => by kernel_rfl) (fun w_17 p_17 a_48 f_60 => ?_)
                  refine V_run f_60 4 (by kernel_rfl) (fun a_49 f_61 => ?_)
                  rcases Bool.eq_false_or_eq_true (!x_11) with h_16 | h_16
                  · have k_16 : (x_11) = false := by simpa using h_16
                    have hF_30 := cnd_t h_16 hF_29
                    have f_62 := Frm.set f_61 62 (v := .bool !x_11) (v' := .bool true) (by kernel_rfl) (congrArg Value.bool h_16)
                    obtain ⟨x_12, hx_12, hF_31⟩ := bind_some' hF_30
                    refine V_okv f_62 p_17 (law03_wakes_ok n _ (GL.mono ((((hM_1.trans hM_2).trans hM_3).trans hM_4).trans hM_5) hG) x_12 hx_12) (by kernel_rfl) (fun _ => by kernel_rfl) (fun w_18 p_18 a_50 f_63 => ?_)
                    refine V_run f_63 2 (by kernel_rfl) (fun a_51 f_64 => ?_)
                    refine W_end rfl (T_n ?_)
                    exact ⟨(x_12), (Option.some.inj hF_31).symm, M_5, (Mem.le_refl _), f_64.keep (ks := [6]) (by kernel_rfl), p_18⟩
                  · have k_17 : (x_11) = true := by simpa using h_16
                    have hF_32 := cnd_f h_16 hF_29
                    have f_65 := Frm.set f_61 62 (v := .bool !x_11) (v' := .bool false) (by kernel_rfl) (congrArg Value.bool h_16)
                    refine V_run f_65 3 (by kernel_rfl) (fun a_52 f_66 => ?_)
                    refine W_end rfl (T_n ?_)
                    exact ⟨(false), (Option.some.inj hF_32).symm, M_5, (Mem.le_refl _), f_66.keep (ks := [6]) (by kernel_rfl), p_17⟩
                · have k_18 : (x_10) = true := by simpa using h_15
                  have hF_33 := cnd_f h_15 hF_27
                  have f_67 := Frm.set f_56 55 (v := .bool !x_10) (v' := .bool false) (by kernel_rfl) (congrArg Value.bool h_15)
                  refine V_run f_67 10 (by kernel_rfl) (fun a_53 f_68 => ?_)
                  refine W_end rfl (T_n ?_)
                  exact ⟨(false), (Option.some.inj hF_33).symm, M_5, (Mem.le_refl _), f_68.keep (ks := [6]) (by kernel_rfl), p_16⟩
              · have k_19 : (x_9) = true := by simpa using h_14
                have hF_34 := cnd_f h_14 hF_25
                have f_69 := Frm.set f_51 49 (v := .bool !x_9) (v' := .bool false) (by kernel_rfl) (congrArg Value.bool h_14)
                refine V_run f_69 16 (by kernel_rfl) (fun a_54 f_70 => ?_)
                refine W_end rfl (T_n ?_)
                exact ⟨(false), (Option.some.inj hF_34).symm, M_5, (Mem.le_refl _), f_70.keep (ks := [6]) (by kernel_rfl), p_15⟩
          · rintro a_55 w_19 ⟨y_3, hq_3, M_6, hM_6, f_71, p_19⟩
            subst j_3
            refine T_n (wp_ret (T_r ?_))
            refine E_ret1 f_71 rfl (by kernel_rfl : Vc.look _ 6 = some (.bool y_3)) ?_
            obtain rfl := Option.some.inj hF_21
            exact ⟨_, rfl, M_6, (((((hM_1.trans hM_2).trans hM_3).trans hM_4).trans hM_5).trans hM_6), p_19, rfl⟩
        · have hF_35 := cnd_f h_12 hF_15
          refine wp_skip (T_n (R_seq (R_reg ?_)))
          refine V_run f_41 1 (by kernel_rfl) (fun a_56 f_72 => ?_)
          refine W_end rfl (T_n (R_seq (R_seq ?_)))
          refine R_mix (E := []) (Hr := (H)) [(0, true), (1, true), (2, true), (3, true), (4, true), (5, true), (6, true), (7, true), (8, true), (11, true), (9, false), (10, true)] p_13 (by kernel_rfl) (by kernel_rfl) rfl (by kernel_rfl) ?_
          refine M_eq (v := .agg #[.int .i8 d0.fKind, .bool d0.fBool, .int .i64 d0.fNum, S d0.fText, .slice A_1 d0.fList.length cap_1, .slice A_2 d0.fKeys.length cap_2]) f_72 (by kernel_rfl) (by kernel_rfl) rfl rfl (fun _ pq => X_loadN (cs := [.int .i8 d0.fKind, .bool d0.fBool, .int .i64 d0.fNum, S d0.fText, .slice A_1 d0.fList.length cap_1, .slice A_2 d0.fKeys.length cap_2]) rfl (ad := ⟨b_1, 0, none⟩) (by kernel_rfl) (by kernel_rfl) (fun j v h => pq.cell ((fzu (((hM_2.trans hM_3).trans hM_4).trans hM_5) hc_2) j v h))) (fun a_57 f_73 => ?_)
          refine M_eq (v := .agg #[.int .i8 d1.fKind, .bool d1.fBool, .int .i64 d1.fNum, S d1.fText, .slice A_3 d1.fList.length cap_3, .slice A_4 d1.fKeys.length cap_4]) f_73 (by kernel_rfl) (by kernel_rfl) rfl rfl (fun _ pq => X_loadN (cs := [.int .i8 d1.fKind, .bool d1.fBool, .int .i64 d1.fNum, S d1.fText, .slice A_3 d1.fList.length cap_3, .slice A_4 d1.fKeys.length cap_4]) rfl (ad := ⟨b_2, 0, none⟩) (by kernel_rfl) (by kernel_rfl) (fun j v h => pq.cell ((fzu ((hM_3.trans hM_4).trans hM_5) hc_4) j v h))) (fun a_58 f_74 => ?_)
          obtain ⟨x_13, hx_13, hF_36⟩ := bind_some' hF_35
          refine M_okv (v := .bool x_13) f_74 (by kernel_rfl) (by kernel_rfl) rfl rfl (fun _ => by kernel_rfl) (tree_Equal_ok n _ (GL.mono ((((hM_1.trans hM_2).trans hM_3).trans hM_4).trans hM_5) hG) _ d0 (T_api_Value.shutx (x := d0) (h_1.mono ((((hM_1.trans hM_2).trans hM_3).trans hM_4).trans hM_5)) (h_2.mono ((((hM_1.trans hM_2).trans hM_3).trans hM_4).trans hM_5))) _ d1 (T_api_Value.shutx (x := d1) (h_3.mono ((((hM_1.trans hM_2).trans hM_3).trans hM_4).trans hM_5)) (h_4.mono ((((hM_1.trans hM_2).trans hM_3).trans hM_4).trans hM_5))) x_13 hx_13) (fun a_59 f_75 => ?_)
          refine M_eq (v := .agg #[.int .i8 d0.fKind, .bool d0.fBool, .int .i64 d0.fNum, S d0.fText, .slice A_1 d0.fList.length cap_1, .slice A_2 d0.fKeys.length cap_2]) f_75 (by kernel_rfl) (by kernel_rfl) rfl rfl (fun _ pq => X_loadN (cs := [.int .i8 d0.fKind, .bool d0.fBool, .int .i64 d0.fNum, S d0.fText, .slice A_1 d0.fList.length cap_1, .slice A_2 d0.fKeys.length cap_2]) rfl (ad := ⟨b_1, 0, none⟩) (by kernel_rfl) (by kernel_rfl) (fun j v h => pq.cell ((fzu (((hM_2.trans hM_3).trans hM_4).trans hM_5) hc_2) j v h))) (fun a_60 f_76 => ?_)
          refine M_eq (v := .agg #[.int .i8 d1.fKind, .bool d1.fBool, .int .i64 d1.fNum, S d1.fText, .slice A_3 d1.fList.length cap_3, .slice A_4 d1.fKeys.length cap_4]) f_76 (by kernel_rfl) (by kernel_rfl) rfl rfl (fun _ pq => X_loadN (cs := [.int .i8 d1.fKind, .bool d1.fBool, .int .i64 d1.fNum, S d1.fText, .slice A_3 d1.fList.length cap_3, .slice A_4 d1.fKeys.length cap_4]) rfl (ad := ⟨b_2, 0, none⟩) (by kernel_rfl) (by kernel_rfl) (fun j v h => pq.cell ((fzu ((hM_3.trans hM_4).trans hM_5) hc_4) j v h))) (fun a_61 f_77 => ?_)
          obtain ⟨x_14, hx_14, hF_37⟩ := bind_some' hF_36
          refine M_okv (v := .bool x_14) f_77 (by kernel_rfl) (by kernel_rfl) rfl rfl (fun _ => by kernel_rfl) (tree_Less_ok n _ (GL.mono ((((hM_1.trans hM_2).trans hM_3).trans hM_4).trans hM_5) hG) _ d0 (T_api_Value.shutx (x := d0) (h_1.mono ((((hM_1.trans hM_2).trans hM_3).trans hM_4).trans hM_5)) (h_2.mono ((((hM_1.trans hM_2).trans hM_3).trans hM_4).trans hM_5))) _ d1 (T_api_Value.shutx (x := d1) (h_3.mono ((((hM_1.trans hM_2).trans hM_3).trans hM_4).trans hM_5)) (h_4.mono ((((hM_1.trans hM_2).trans hM_3).trans hM_4).trans hM_5))) x_14 hx_14) (fun a_62 f_78 => ?_)
          refine M_eq (v := .agg #[.int .i8 d1.fKind, .bool d1.fBool, .int .i64 d1.fNum, S d1.fText, .slice A_3 d1.fList.length cap_3, .slice A_4 d1.fKeys.length cap_4]) f_78 (by kernel_rfl) (by kernel_rfl) rfl rfl (fun _ pq => X_loadN (cs := [.int .i8 d1.fKind, .bool d1.fBool, .int .i64 d1.fNum, S d1.fText, .slice A_3 d1.fList.length cap_3, .slice A_4 d1.fKeys.length cap_4]) rfl (ad := ⟨b_2, 0, none⟩) (by kernel_rfl) (by kernel_rfl) (fun j v h => pq.cell ((fzu ((hM_3.trans hM_4).trans hM_5) hc_4) j v h))) (fun a_63 f_79 => ?_)
          refine M_eq (v := .agg #[.int .i8 d0.fKind, .bool d0.fBool, .int .i64 d0.fNum, S d0.fText, .slice A_1 d0.fList.length cap_1, .slice A_2 d0.fKeys.length cap_2]) f_79 (by kernel_rfl) (by kernel_rfl) rfl rfl (fun _ pq => X_loadN (cs := [.int .i8 d0.fKind, .bool d0.fBool, .int .i64 d0.fNum, S d0.fText, .slice A_1 d0.fList.length cap_1, .slice A_2 d0.fKeys.length cap_2]) rfl (ad := ⟨b_1, 0, none⟩) (by kernel_rfl) (by kernel_rfl) (fun j v h => pq.cell ((fzu (((hM_2.trans hM_3).trans hM_4).trans hM_5) hc_2) j v h))) (fun a_64 f_80 => ?_)
          obtain ⟨x_15, hx_15, hF_38⟩ := bind_some' hF_37
          refine M_okv (v := .bool x_15) f_80 (by kernel_rfl) (by kernel_rfl) rfl rfl (fun _ => by kernel_rfl) (tree_Less_ok n _ (GL.mono ((((hM_1.trans hM_2).trans hM_3).trans hM_4).trans hM_5) hG) _ d1 (T_api_Value.shutx (x := d1) (h_3.mono ((((hM_1.trans hM_2).trans hM_3).trans hM_4).trans hM_5)) (h_4.mono ((((hM_1.trans hM_2).trans hM_3).trans hM_4).trans hM_5))) _ d0 (T_api_Value.shutx (x := d0) (h_1.mono ((((hM_1.trans hM_2).trans hM_3).trans hM_4).trans hM_5)) (h_2.mono ((((hM_1.trans hM_2).trans hM_3).trans hM_4).trans hM_5))) x_15 hx_15) (fun a_65 f_81 => ?_)
          refine M_run default f_81 1 (by kernel_rfl) (fun _ => by kernel_rfl) (fun a_66 f_82 => ?_)
          refine M_fix (E := []) (fun w_23 p_23 => ?_)
          refine V_allocS (k := 3) (c := 3) f_82 p_23 (.cells #[.bool x_13, .bool x_14, .bool x_15] 4 (0, 0)) (by kernel_rfl) (fun _ => by kernel_rfl) (fun b_4 w_24 p_24 a_67 f_83 => ?_)
          refine W_end rfl ?_
          refine M_go (M1 := M_5) (E := [Ent.obj b_4 (.cells #[.bool x_13, .bool x_14, .bool x_15] 4 (0, 0))]) (Mem.le_refl _) p_24 ?_
          refine M_run default f_83 1 (by kernel_rfl) (fun _ => by kernel_rfl) (fun a_68 f_84 => ?_)
          refine M_end rfl (fun w_25 p_25 => ?_)
          refine T_n (wp_block ?_)
          have hr_1 : RepSeq M_5 ([(x_13), (x_14), (x_15)].map Dat.bool) [.bool x_13, .bool x_14, .bool x_15] := ⟨_, _, rfl, rfl, ⟨_, _, rfl, rfl, ⟨_, _, rfl, rfl, rfl⟩⟩⟩
          have p_26 : Hp w0 M_5 ((Ent.row 4 1 (.slice (some ⟨b_4, 0, none⟩) 3 3) [(x_13), (x_14), (x_15)].length [.bool x_13, .bool x_14, .bool x_15]) :: H) w_25 := p_25.objRow (n := 3) (cap := 3) (size := 1) (by decide) (by decide) rfl rfl rfl
          obtain ⟨b_5, hL_1, hF_39⟩ := bind_some' hF_38
          refine wp_mono (Q := fun e a w => (e = .exit 0 ∧ (∃ y_4 : Int, b_5 = y_4 ∧ ∃ M_8 : Mem, M_5.le M_8 ∧ Frm 140 [(3, .pointer (some (⟨b_1, 0, none⟩))), (4, .pointer (some (⟨b_2, 0, none⟩))), (5, .pointer (some (⟨b_3, 0, none⟩))), (10, .int .i64 y_4)] a ∧ Hp w0 M_8 (H) w))) (R_loop (n := 140) (w0 := w0) (M := M_5) (fun (x : Nat × (Int × List Bool × Int) × (Option Addr) × Nat × (List Value)) => match x with | (m_1, s_1, A_7, cap_7, cs_1) => [(3, .pointer (some (⟨b_1, 0, none⟩))), (4, .pointer (some (⟨b_2, 0, none⟩))), (5, .pointer (some (⟨b_3, 0, none⟩))), (10, .int .i64 s_1.1), (74, .slice A_7 s_1.2.1.length cap_7), (75, .int .i64 3), (76, .int .i64 s_1.2.2)]) (fun (x : Nat × (Int × List Bool × Int) × (Option Addr) × Nat × (List Value)) => match x with | (m_1, s_1, A_7, cap_7, cs_1) => ((Ent.row 4 1 (.slice A_7 s_1.2.1.length cap_7) s_1.2.1.length cs_1) :: H)) (fun (x : Nat × (Int × List Bool × Int) × (Option Addr) × Nat × (List Value)) (MM : Mem) => match x with | (m_1, s_1, A_7, cap_7, cs_1) => loopF (law03_TreeOrder_s1 n) m_1 s_1 = some b_5 ∧ RepSeq MM (s_1.2.1.map Dat.bool) cs_1) (fun (x : Nat × (Int × List Bool × Int) × (Option Addr) × Nat × (List Value)) => match x with | (m_1, s_1, A_7, cap_7, cs_1) => m_1) (n, ((0 : Int), [(x_13), (x_14), (x_15)], (0 : Int)), some ⟨b_4, 0, none⟩, 3, [.bool x_13, .bool x_14, .bool x_15]) (f_84.keep (ks := [3, 4, 5, 10, 74, 75, 76]) (by kernel_rfl)) p_26 ⟨hL_1, hr_1⟩ ?_) ?_
          · rintro ⟨m_1, s_1, A_7, cap_7, cs_1⟩ M_7 a_69 w_26 hM_7 I_1 f_85 p_27
            obtain ⟨I_1L, hr_2⟩ := I_1
            obtain ⟨m_2, r_1, rfl, hs_1, hn_1⟩ := loop_step I_1L
            unfold law03_TreeOrder_s1 at hs_1
            refine R_seq (R_reg ?_)
            refine V_run f_85 1 (by kernel_rfl) (fun a_70 f_86 => ?_)
            refine W_end rfl (T_n (R_seq ?_))
            refine R_cond f_86 (b := decide (s_1.2.2 < 3)) (by kernel_rfl) (by kernel_rfl) (fun h_17 => ?_) (fun h_17 => ?_)
            · have k_21 : s_1.2.2 < 3 := decide_eq_true_iff.1 h_17
              have hF_40 := cnd_t h_17 hs_1
              refine wp_skip (T_n (R_seq (wp_block (R_seq (R_reg ?_)))))
              obtain ⟨x_16, hx_16, hF_41⟩ := bind_some' hF_40
              obtain ⟨b_6, cap_8, hv_1, hcap_1⟩ := p_27.rowAddr 0 rfl (getI_pos hx_16)
              have f_87 := Frm.set f_86 74 (v := .slice A_7 s_1.2.1.length cap_7) (v' := .slice (some ⟨b_6, 0, none⟩) s_1.2.1.length cap_8) (by kernel_rfl) (hv_1)
              refine V_eq (v := .pointer (some ((⟨b_6, 0, none⟩ : Addr).add (s_1.2.2.toNat * 1)))) f_87 (by kernel_rfl) (X_indexAddr rfl (ad := ⟨b_6, 0, none⟩) (len := s_1.2.1.length) (cap := cap_8) (k := .i64) (i := s_1.2.2) (by kernel_rfl) (by kernel_rfl) (e := 4) (by kernel_rfl) (sz := 1) (by kernel_rfl) (getI_nn hx_16) (getI_lt hx_16)) (fun a_71 f_88 => ?_)
              have f_89 := Frm.set f_88 74 (v := .slice (some ⟨b_6, 0, none⟩) s_1.2.1.length cap_8) (v' := .slice A_7 s_1.2.1.length cap_7) (by kernel_rfl) (hv_1.symm)
              obtain ⟨c_1, hl_1, hr_3, hc_7⟩ := RepSeq.get s_1.2.2.toNat (szd_all szd_bool) hr_2 (getI_map hx_16)
              clear hl_1
              obtain rfl : c_1 = [.bool x_16] := hr_3
              refine V_eq (v := .bool x_16) f_89 (by kernel_rfl) (X_load1 (v := .bool x_16) rfl (ad := (⟨b_6, 0, none⟩ : Addr).add (s_1.2.2.toNat * 1)) (by kernel_rfl) (by kernel_rfl) (by simpa [Addr.add] using (fun j v h => row_at (p_27.rowCell 0 rfl hv_1) hc_7 j v h) 0 _ rfl)) (fun a_72 f_90 => ?_)
              refine V_run f_90 1 (by kernel_rfl) (fun a_73 f_91 => ?_)
              refine W_end rfl (T_n (R_seq (R_reg ?_)))
              refine V_run f_91 1 (by kernel_rfl) (fun a_74 f_92 => ?_)
              refine W_end rfl (T_n ?_)
              refine R_cond f_92 (b := x_16) (by kernel_rfl) (by kernel_rfl) (fun h_18 => ?_) (fun h_18 => ?_)
              · have hF_42 := cnd_t h_18 hF_41
                refine R_reg ?_
                refine V_run f_92 1 (by kernel_rfl) (fun a_75 f_93 => ?_)
                obtain ⟨g_1, hF_43⟩ := need_some hF_42
                refine V_run f_93 1 (by kernel_rfl) (fun a_76 f_94 => ?_)
                have f_95 := Frm.set f_94 82 (v := .int .i64 (IntKind.wrap .i64 (s_1.1 + 1))) (v' := .int .i64 (s_1.1 + 1)) (by kernel_rfl) (congrArg (Value.int .i64) (inR_wrap g_1))
                refine V_run f_95 1 (by kernel_rfl) (fun a_77 f_96 => ?_)
                refine W_end rfl (B_n (T_n (R_reg ?_)))
                obtain ⟨g_2, hF_44⟩ := need_some hF_43
                refine V_run f_96 1 (by kernel_rfl) (fun a_78 f_97 => ?_)
                have f_98 := Frm.set f_97 83 (v := .int .i64 (IntKind.wrap .i64 (s_1.2.2 + 1))) (v' := .int .i64 (s_1.2.2 + 1)) (by kernel_rfl) (congrArg (Value.int .i64) (inR_wrap g_2))
                refine V_run f_98 1 (by kernel_rfl) (fun a_79 f_99 => ?_)
                refine W_end rfl (T_n ?_)
                obtain rfl := Option.some.inj hF_44
                exact ⟨⟨m_2, (s_1.1 + 1, s_1.2.1, s_1.2.2 + 1), A_7, cap_7, cs_1⟩, Nat.lt_succ_self _, M_7, hM_7, ⟨hn_1, hr_2⟩, f_99.keep (ks := [3, 4, 5, 10, 74, 75, 76]) (by kernel_rfl), p_27⟩
              · have hF_45 := cnd_f h_18 hF_41
                refine wp_skip (B_n (T_n (R_reg ?_)))
                obtain ⟨g_3, hF_46⟩ := need_some hF_45
                refine V_run f_92 1 (by kernel_rfl) (fun a_80 f_100 => ?_)
                have f_101 := Frm.set f_100 83 (v := .int .i64 (IntKind.wrap .i64 (s_1.2.2 + 1))) (v' := .int .i64 (s_1.2.2 + 1)) (by kernel_rfl) (congrArg (Value.int .i64) (inR_wrap g_3))
                refine V_run f_101 1 (by kernel_rfl) (fun a_81 f_102 => ?_)
                refine W_end rfl (T_n ?_)
                obtain rfl := Option.some.inj hF_46
                exact ⟨⟨m_2, (s_1.1, s_1.2.1, s_1.2.2 + 1), A_7, cap_7, cs_1⟩, Nat.lt_succ_self _, M_7, hM_7, ⟨hn_1, hr_2⟩, f_102.keep (ks := [3, 4, 5, 10, 74, 75, 76]) (by kernel_rfl), p_27⟩
            · have k_24 : ¬ (s_1.2.2 < 3) := iff_f decide_eq_true_iff h_17
              have hF_47 := cnd_f h_17 hs_1
              refine wp_exit (T_x (T_x ?_))
              obtain rfl := Option.some.inj hF_47
              exact ⟨rfl, s_1.1, (Option.some.inj hn_1).symm, M_7, hM_7, f_86.keep (ks := [3, 4, 5, 10]) (by kernel_rfl), (p_27.dropN 1)⟩
          · rintro _ a_83 w_28 ⟨rfl, y_4, hq_, M_8, hM_8, f_103, p_28⟩
            subst b_5
            refine B_x (T_n (R_seq (R_seq ?_)))
            obtain ⟨j_4, hj_4, hF_48⟩ := bind_some' hF_39
            refine R_mid (fun a_98 w_35 => ∃ y_5 : Bool, j_4 = y_5 ∧ ∃ M_9 : Mem, M_8.le M_9 ∧ Frm 140 [(3, .pointer (some (⟨b_1, 0, none⟩))), (4, .pointer (some (⟨b_2, 0, none⟩))), (5, .pointer (some (⟨b_3, 0, none⟩))), (100, .bool y_5)] a_98 ∧ Hp w0 M_9 (H) w_35) ?_ ?_
            · refine R_draw p_28 (by kernel_rfl) (by kernel_rfl) ?_
              refine Q_run default f_103 3 (fun _ => by kernel_rfl) (fun a_84 f_104 => ?_)
              rcases Bool.eq_false_or_eq_true (!(decide (y_4 = 1))) with h_19 | h_19
              · have k_25 : ¬ (y_4 = 1) := (not_iff decide_eq_true_iff).1 h_19
                have hF_49 := cnd_t h_19 hj_4
                have f_105 := Frm.set f_104 86 (v := .bool (!(decide (y_4 = 1)))) (v' := .bool true) (by kernel_rfl) (congrArg Value.bool h_19)
                refine Q_run default f_105 14 (fun _ => by kernel_rfl) (fun a_85 f_106 => ?_)
                refine Q_end rfl ?_
                intro w_29 p_29
                refine T_n ?_
                exact ⟨(true), (Option.some.inj hF_49).symm, M_8, (Mem.le_refl _), f_106.keep (ks := [3, 4, 5, 100]) (by kernel_rfl), p_29⟩
              · have k_26 : ¬ (¬ (y_4 = 1)) := iff_f (not_iff decide_eq_true_iff) h_19
                have hF_50 := cnd_f h_19 hj_4
                have f_107 := Frm.set f_104 86 (v := .bool (!(decide (y_4 = 1)))) (v' := .bool false) (by kernel_rfl) (congrArg Value.bool h_19)
                refine QV_eq (v := .agg #[.int .i8 d0.fKind, .bool d0.fBool, .int .i64 d0.fNum, S d0.fText, .slice A_1 d0.fList.length cap_1, .slice A_2 d0.fKeys.length cap_2]) f_107 (by kernel_rfl) (fun _ pq => X_loadN (cs := [.int .i8 d0.fKind, .bool d0.fBool, .int .i64 d0.fNum, S d0.fText, .slice A_1 d0.fList.length cap_1, .slice A_2 d0.fKeys.length cap_2]) rfl (ad := ⟨b_1, 0, none⟩) (by kernel_rfl) (by kernel_rfl) (fun j v h => pq.cell ((fzu ((((hM_2.trans hM_3).trans hM_4).trans hM_5).trans hM_8) hc_2) j v h))) (fun a_86 f_108 => ?_)
                refine QV_eq (v := .agg #[.int .i8 d0.fKind, .bool d0.fBool, .int .i64 d0.fNum, S d0.fText, .slice A_1 d0.fList.length cap_1, .slice A_2 d0.fKeys.length cap_2]) f_108 (by kernel_rfl) (fun _ pq => X_loadN (cs := [.int .i8 d0.fKind, .bool d0.fBool, .int .i64 d0.fNum, S d0.fText, .slice A_1 d0.fList.length cap_1, .slice A_2 d0.fKeys.length cap_2]) rfl (ad := ⟨b_1, 0, none⟩) (by kernel_rfl) (by kernel_rfl) (fun j v h => pq.cell ((fzu ((((hM_2.trans hM_3).trans hM_4).trans hM_5).trans hM_8) hc_2) j v h))) (fun a_87 f_109 => ?_)
                obtain ⟨x_17, hx_17, hF_51⟩ := bind_some' hF_50
                refine QV_okv f_109 (tree_Equal_ok n _ (GL.mono (((((hM_1.trans hM_2).trans hM_3).trans hM_4).trans hM_5).trans hM_8) hG) _ d0 (T_api_Value.shutx (x := d0) (h_1.mono (((((hM_1.trans hM_2).trans hM_3).trans hM_4).trans hM_5).trans hM_8)) (h_2.mono (((((hM_1.trans hM_2).trans hM_3).trans hM_4).trans hM_5).trans hM_8))) _ d0 (T_api_Value.shutx (x := d0) (h_1.mono (((((hM_1.trans hM_2).trans hM_3).trans hM_4).trans hM_5).trans hM_8)) (h_2.mono (((((hM_1.trans hM_2).trans hM_3).trans hM_4).trans hM_5).trans hM_8))) x_17 hx_17) (by kernel_rfl) (fun _ => by kernel_rfl) (fun a_88 f_110 => ?_)
                refine Q_run default f_110 3 (fun _ => by kernel_rfl) (fun a_89 f_111 => ?_)
                rcases Bool.eq_false_or_eq_true (!x_17) with h_20 | h_20
                · have k_27 : (x_17) = false := by simpa using h_20
                  have hF_52 := cnd_t h_20 hF_51
                  have f_112 := Frm.set f_111 92 (v := .bool !x_17) (v' := .bool true) (by kernel_rfl) (congrArg Value.bool h_20)
                  refine Q_run default f_112 8 (fun _ => by kernel_rfl) (fun a_90 f_113 => ?_)
                  refine Q_end rfl ?_
                  intro w_31 p_31
                  refine T_n ?_
                  exact ⟨(true), (Option.some.inj hF_52).symm, M_8, (Mem.le_refl _), f_113.keep (ks := [3, 4, 5, 100]) (by kernel_rfl), p_31⟩
                · have k_28 : (x_17) = true := by simpa using h_20
                  have hF_53 := cnd_f h_20 hF_51
                  have f_114 := Frm.set f_111 92 (v := .bool !x_17) (v' := .bool false) (by kernel_rfl) (congrArg Value.bool h_20)
                  refine QV_eq (v := .agg #[.int .i8 d0.fKind, .bool d0.fBool, .int .i64 d0.fNum, S d0.fText, .slice A_1 d0.fList.length cap_1, .slice A_2 d0.fKeys.length cap_2]) f_114 (by kernel_rfl) (fun _ pq => X_loadN (cs := [.int .i8 d0.fKind, .bool d0.fBool, .int .i64 d0.fNum, S d0.fText, .slice A_1 d0.fList.length cap_1, .slice A_2 d0.fKeys.length cap_2]) rfl (ad := ⟨b_1, 0, none⟩) (by kernel_rfl) (by kernel_rfl) (fun j v h => pq.cell ((fzu ((((hM_2.trans hM_3).trans hM_4).trans hM_5).trans hM_8) hc_2) j v h))) (fun a_91 f_115 => ?_)
                  refine QV_eq (v := .agg #[.int .i8 d1.fKind, .bool d1.fBool, .int .i64 d1.fNum, S d1.fText, .slice A_3 d1.fList.length cap_3, .slice A_4 d1.fKeys.length cap_4]) f_115 (by kernel_rfl) (fun _ pq => X_loadN (cs := [.int .i8 d1.fKind, .bool d1.fBool, .int .i64 d1.fNum, S d1.fText, .slice A_3 d1.fList.length cap_3, .slice A_4 d1.fKeys.length cap_4]) rfl (ad := ⟨b_2, 0, none⟩) (by kernel_rfl) (by kernel_rfl) (fun j v h => pq.cell ((fzu (((hM_3.trans hM_4).trans hM_5).trans hM_8) hc_4) j v h))) (fun a_92 f_116 => ?_)
                  obtain ⟨x_18, hx_18, hF_54⟩ := bind_some' hF_53
                  refine QV_okv f_116 (tree_Equal_ok n _ (GL.mono (((((hM_1.trans hM_2).trans hM_3).trans hM_4).trans hM_5).trans hM_8) hG) _ d0 (T_api_Value.shutx (x := d0) (h_1.mono (((((hM_1.trans hM_2).trans hM_3).trans hM_4).trans hM_5).trans hM_8)) (h_2.mono (((((hM_1.trans hM_2).trans hM_3).trans hM_4).trans hM_5).trans hM_8))) _ d1 (T_api_Value.shutx (x := d1) (h_3.mono (((((hM_1.trans hM_2).trans hM_3).trans hM_4).trans hM_5).trans hM_8)) (h_4.mono (((((hM_1.trans hM_2).trans hM_3).trans hM_4).trans hM_5).trans hM_8))) x_18 hx_18) (by kernel_rfl) (fun _ => by kernel_rfl) (fun a_93 f_117 => ?_)
                  refine QV_eq (v := .agg #[.int .i8 d1.fKind, .bool d1.fBool, .int .i64 d1.fNum, S d1.fText, .slice A_3 d1.fList.length cap_3, .slice A_4 d1.fKeys.length cap_4]) f_117 (by kernel_rfl) (fun _ pq => X_loadN (cs := [.int .i8 d1.fKind, .bool d1.fBool, .int .i64 d1.fNum, S d1.fText, .slice A_3 d1.fList.length cap_3, .slice A_4 d1.fKeys.length cap_4]) rfl (ad := ⟨b_2, 0, none⟩) (by kernel_rfl) (by kernel_rfl) (fun j v h => pq.cell ((fzu (((hM_3.trans hM_4).trans hM_5).trans hM_8) hc_4) j v h))) (fun a_94 f_118 => ?_)
                  refine QV_eq (v := .agg #[.int .i8 d0.fKind, .bool d0.fBool, .int .i64 d0.fNum, S d0.fText, .slice A_1 d0.fList.length cap_1, .slice A_2 d0.fKeys.length cap_2]) f_118 (by kernel_rfl) (fun _ pq => X_loadN (cs := [.int .i8 d0.fKind, .bool d0.fBool, .int .i64 d0.fNum, S d0.fText, .slice A_1 d0.fList.length cap_1, .slice A_2 d0.fKeys.length cap_2]) rfl (ad := ⟨b_1, 0, none⟩) (by kernel_rfl) (by kernel_rfl) (fun j v h => pq.cell ((fzu ((((hM_2.trans hM_3).trans hM_4).trans hM_5).trans hM_8) hc_2) j v h))) (fun a_95 f_119 => ?_)
                  obtain ⟨x_19, hx_19, hF_55⟩ := bind_some' hF_54
                  refine QV_okv f_119 (tree_Equal_ok n _ (GL.mono (((((hM_1.trans hM_2).trans hM_3).trans hM_4).trans hM_5).trans hM_8) hG) _ d1 (T_api_Value.shutx (x := d1) (h_3.mono (((((hM_1.trans hM_2).trans hM_3).trans hM_4).trans hM_5).trans hM_8)) (h_4.mono (((((hM_1.trans hM_2).trans hM_3).trans hM_4).trans hM_5).trans hM_8))) _ d0 (T_api_Value.shutx (x := d0) (h_1.mono (((((hM_1.trans hM_2).trans hM_3).trans hM_4).trans hM_5).trans hM_8)) (h_2.mono (((((hM_1.trans hM_2).trans hM_3).trans hM_4).trans hM_5).trans hM_8))) x_19 hx_19) (by kernel_rfl) (fun _ => by kernel_rfl) (fun a_96 f_120 => ?_)
                  refine Q_run default f_120 2 (fun _ => by kernel_rfl) (fun a_97 f_121 => ?_)
                  refine Q_end rfl ?_
                  intro w_34 p_34
                  refine T_n ?_
                  exact ⟨(!(x_18 == x_19)), (Option.some.inj hF_55).symm, M_8, (Mem.le_refl _), f_121.keep (ks := [3, 4, 5, 100]) (by kernel_rfl), p_34⟩
            · rintro a_98 w_35 ⟨y_5, hq_4, M_9, hM_9, f_122, p_35⟩
              subst j_4
              refine T_n ?_
              refine R_cond f_122 (b := y_5) (by kernel_rfl) (by kernel_rfl) (fun h_21 => ?_) (fun h_21 => ?_)
              · have hF_56 := cnd_t h_21 hF_48
                refine R_seq (R_reg ?_)
                refine V_run f_122 1 (by kernel_rfl) (fun a_99 f_123 => ?_)
                refine W_end rfl (T_n (wp_ret (T_r ?_)))
                refine E_ret1 f_123 rfl (by kernel_rfl : Vc.look _ 6 = some (.bool false)) ?_
                obtain rfl := Option.some.inj hF_56
                exact ⟨_, rfl, M_9, ((((((hM_1.trans hM_2).trans hM_3).trans hM_4).trans hM_5).trans hM_8).trans hM_9), p_35, rfl⟩
              · have hF_57 := cnd_f h_21 hF_48
                refine wp_skip (T_n (R_seq (R_seq ?_)))
                obtain ⟨j_5, hj_5, hF_58⟩ := bind_some' hF_57
                refine R_mid (fun a_120 w_44 => ∃ y_6 : Bool, j_5 = y_6 ∧ ∃ M_10 : Mem, M_9.le M_10 ∧ Frm 140 [(3, .pointer (some (⟨b_1, 0, none⟩))), (4, .pointer (some (⟨b_2, 0, none⟩))), (5, .pointer (some (⟨b_3, 0, none⟩))), (121, .bool y_6)] a_120 ∧ Hp w0 M_10 (H) w_44) ?_ ?_
                · refine R_draw p_35 (by kernel_rfl) (by kernel_rfl) ?_
                  refine QV_eq (v := .agg #[.int .i8 d0.fKind, .bool d0.fBool, .int .i64 d0.fNum, S d0.fText, .slice A_1 d0.fList.length cap_1, .slice A_2 d0.fKeys.length cap_2]) f_122 (by kernel_rfl) (fun _ pq => X_loadN (cs := [.int .i8 d0.fKind, .bool d0.fBool, .int .i64 d0.fNum, S d0.fText, .slice A_1 d0.fList.length cap_1, .slice A_2 d0.fKeys.length cap_2]) rfl (ad := ⟨b_1, 0, none⟩) (by kernel_rfl) (by kernel_rfl) (fun j v h => pq.cell ((fzu (((((hM_2.trans hM_3).trans hM_4).trans hM_5).trans hM_8).trans hM_9) hc_2) j v h))) (fun a_100 f_124 => ?_)
                  refine QV_eq (v := .agg #[.int .i8 d1.fKind, .bool d1.fBool, .int .i64 d1.fNum, S d1.fText, .slice A_3 d1.fList.length cap_3, .slice A_4 d1.fKeys.length cap_4]) f_124 (by kernel_rfl) (fun _ pq => X_loadN (cs := [.int .i8 d1.fKind, .bool d1.fBool, .int .i64 d1.fNum, S d1.fText, .slice A_3 d1.fList.length cap_3, .slice A_4 d1.fKeys.length cap_4]) rfl (ad := ⟨b_2, 0, none⟩) (by kernel_rfl) (by kernel_rfl) (fun j v h => pq.cell ((fzu ((((hM_3.trans hM_4).trans hM_5).trans hM_8).trans hM_9) hc_4) j v h))) (fun a_101 f_125 => ?_)
                  obtain ⟨x_20, hx_20, hF_59⟩ := bind_some' hj_5
                  refine QV_okv f_125 (tree_Equal_ok n _ (GL.mono ((((((hM_1.trans hM_2).trans hM_3).trans hM_4).trans hM_5).trans hM_8).trans hM_9) hG) _ d0 (T_api_Value.shutx (x := d0) (h_1.mono ((((((hM_1.trans hM_2).trans hM_3).trans hM_4).trans hM_5).trans hM_8).trans hM_9)) (h_2.mono ((((((hM_1.trans hM_2).trans hM_3).trans hM_4).trans hM_5).trans hM_8).trans hM_9))) _ d1 (T_api_Value.shutx (x := d1) (h_3.mono ((((((hM_1.trans hM_2).trans hM_3).trans hM_4).trans hM_5).trans hM_8).trans hM_9)) (h_4.mono ((((((hM_1.trans hM_2).trans hM_3).trans hM_4).trans hM_5).trans hM_8).trans hM_9))) x_20 hx_20) (by kernel_rfl) (fun _ => by kernel_rfl) (fun a_102 f_126 => ?_)
                  refine Q_run default f_126 1 (fun _ => by kernel_rfl) (fun a_103 f_127 => ?_)
                  rcases Bool.eq_false_or_eq_true (x_20) with h_22 | h_22
                  · have hF_60 := cnd_t h_22 hF_59
                    have f_128 := Frm.set f_127 104 (v := .bool x_20) (v' := .bool true) (by kernel_rfl) (congrArg Value.bool h_22)
                    refine QV_eq (v := .agg #[.int .i8 d1.fKind, .bool d1.fBool, .int .i64 d1.fNum, S d1.fText, .slice A_3 d1.fList.length cap_3, .slice A_4 d1.fKeys.length cap_4]) f_128 (by kernel_rfl) (fun _ pq => X_loadN (cs := [.int .i8 d1.fKind, .bool d1.fBool, .int .i64 d1.fNum, S d1.fText, .slice A_3 d1.fList.length cap_3, .slice A_4 d1.fKeys.length cap_4]) rfl (ad := ⟨b_2, 0, none⟩) (by kernel_rfl) (by kernel_rfl) (fun j v h => pq.cell ((fzu ((((hM_3.trans hM_4).trans hM_5).trans hM_8).trans hM_9) hc_4) j v h))) (fun a_104 f_129 => ?_)
                    refine QV_eq (v := .agg #[.int .i8 d2.fKind, .bool d2.fBool, .int .i64 d2.fNum, S d2.fText, .slice A_5 d2.fList.length cap_5, .slice A_6 d2.fKeys.length cap_6]) f_129 (by kernel_rfl) (fun _ pq => X_loadN (cs := [.int .i8 d2.fKind, .bool d2.fBool, .int .i64 d2.fNum, S d2.fText, .slice A_5 d2.fList.length cap_5, .slice A_6 d2.fKeys.length cap_6]) rfl (ad := ⟨b_3, 0, none⟩) (by kernel_rfl) (by kernel_rfl) (fun j v h => pq.cell ((fzu (((hM_4.trans hM_5).trans hM_8).trans hM_9) hc_6) j v h))) (fun a_105 f_130 => ?_)
                    obtain ⟨x_21, hx_21, hF_61⟩ := bind_some' hF_60
                    refine QV_okv f_130 (tree_Equal_ok n _ (GL.mono ((((((hM_1.trans hM_2).trans hM_3).trans hM_4).trans hM_5).trans hM_8).trans hM_9) hG) _ d1 (T_api_Value.shutx (x := d1) (h_3.mono ((((((hM_1.trans hM_2).trans hM_3).trans hM_4).trans hM_5).trans hM_8).trans hM_9)) (h_4.mono ((((((hM_1.trans hM_2).trans hM_3).trans hM_4).trans hM_5).trans hM_8).trans hM_9))) _ d2 (T_api_Value.shutx (x := d2) (h_5.mono ((((((hM_1.trans hM_2).trans hM_3).trans hM_4).trans hM_5).trans hM_8).trans hM_9)) (h_6.mono ((((((hM_1.trans hM_2).trans hM_3).trans hM_4).trans hM_5).trans hM_8).trans hM_9))) x_21 hx_21) (by kernel_rfl) (fun _ => by kernel_rfl) (fun a_106 f_131 => ?_)
                    refine QV_eq (v := .agg #[.int .i8 d0.fKind, .bool d0.fBool, .int .i64 d0.fNum, S d0.fText, .slice A_1 d0.fList.length cap_1, .slice A_2 d0.fKeys.length cap_2]) f_131 (by kernel_rfl) (fun _ pq => X_loadN (cs := [.int .i8 d0.fKind, .bool d0.fBool, .int .i64 d0.fNum, S d0.fText, .slice A_1 d0.fList.length cap_1, .slice A_2 d0.fKeys.length cap_2]) rfl (ad := ⟨b_1, 0, none⟩) (by kernel_rfl) (by kernel_rfl) (fun j v h => pq.cell ((fzu (((((hM_2.trans hM_3).trans hM_4).trans hM_5).trans hM_8).trans hM_9) hc_2) j v h))) (fun a_107 f_132 => ?_)
                    refine QV_eq (v := .agg #[.int .i8 d2.fKind, .bool d2.fBool, .int .i64 d2.fNum, S d2.fText, .slice A_5 d2.fList.length cap_5, .slice A_6 d2.fKeys.length cap_6]) f_132 (by kernel_rfl) (fun _ pq => X_loadN (cs := [.int .i8 d2.fKind, .bool d2.fBool, .int .i64 d2.fNum, S d2.fText, .slice A_5 d2.fList.length cap_5, .slice A_6 d2.fKeys.length cap_6]) rfl (ad := ⟨b_3, 0, none⟩) (by kernel_rfl) (by kernel_rfl) (fun j v h => pq.cell ((fzu (((hM_4.trans hM_5).trans hM_8).trans hM_9) hc_6) j v h))) (fun a_108 f_133 => ?_)
                    obtain ⟨x_22, hx_22, hF_62⟩ := bind_some' hF_61
                    refine QV_okv f_133 (tree_Equal_ok n _ (GL.mono ((((((hM_1.trans hM_2).trans hM_3).trans hM_4).trans hM_5).trans hM_8).trans hM_9) hG) _ d0 (T_api_Value.shutx (x := d0) (h_1.mono ((((((hM_1.trans hM_2).trans hM_3).trans hM_4).trans hM_5).trans hM_8).trans hM_9)) (h_2.mono ((((((hM_1.trans hM_2).trans hM_3).trans hM_4).trans hM_5).trans hM_8).trans hM_9))) _ d2 (T_api_Value.shutx (x := d2) (h_5.mono ((((((hM_1.trans hM_2).trans hM_3).trans hM_4).trans hM_5).trans hM_8).trans hM_9)) (h_6.mono ((((((hM_1.trans hM_2).trans hM_3).trans hM_4).trans hM_5).trans hM_8).trans hM_9))) x_22 hx_22) (by kernel_rfl) (fun _ => by kernel_rfl) (fun a_109 f_134 => ?_)
                    refine Q_run default f_134 2 (fun _ => by kernel_rfl) (fun a_110 f_135 => ?_)
                    rcases Bool.eq_false_or_eq_true (!(x_21 == x_22)) with h_23 | h_23
                    · have k_32 : (x_21 == x_22) = false := by simpa using h_23
                      have hF_63 := cnd_t h_23 hF_62
                      have f_136 := Frm.set f_135 112 (v := .bool (!(x_21 == x_22))) (v' := .bool true) (by kernel_rfl) (congrArg Value.bool h_23)
                      refine Q_run default f_136 9 (fun _ => by kernel_rfl) (fun a_111 f_137 => ?_)
                      refine Q_end rfl ?_
                      intro w_39 p_39
                      refine T_n ?_
                      exact ⟨(true), (Option.some.inj hF_63).symm, M_9, (Mem.le_refl _), f_137.keep (ks := [3, 4, 5, 121]) (by kernel_rfl), p_39⟩
                    · have k_33 : (x_21 == x_22) = true := by simpa using h_23
                      have hF_64 := cnd_f h_23 hF_62
                      have f_138 := Frm.set f_135 112 (v := .bool (!(x_21 == x_22))) (v' := .bool false) (by kernel_rfl) (congrArg Value.bool h_23)
                      refine QV_eq (v := .agg #[.int .i8 d0.fKind, .bool d0.fBool, .int .i64 d0.fNum, S d0.fText, .slice A_1 d0.fList.length cap_1, .slice A_2 d0.fKeys.length cap_2]) f_138 (by kernel_rfl) (fun _ pq => X_loadN (cs := [.int .i8 d0.fKind, .bool d0.fBool, .int .i64 d0.fNum, S d0.fText, .slice A_1 d0.fList.length cap_1, .slice A_2 d0.fKeys.length cap_2]) rfl (ad := ⟨b_1, 0, none⟩) (by kernel_rfl) (by kernel_rfl) (fun j v h => pq.cell ((fzu (((((hM_2.trans hM_3).trans hM_4).trans hM_5).trans hM_8).trans hM_9) hc_2) j v h))) (fun a_112 f_139 => ?_)
                      refine QV_eq (v := .agg #[.int .i8 d2.fKind, .bool d2.fBool, .int .i64 d2.fNum, S d2.fText, .slice A_5 d2.fList.length cap_5, .slice A_6 d2.fKeys.length cap_6]) f_139 (by kernel_rfl) (fun _ pq => X_loadN (cs := [.int .i8 d2.fKind, .bool d2.fBool, .int .i64 d2.fNum, S d2.fText, .slice A_5 d2.fList.length cap_5, .slice A_6 d2.fKeys.length cap_6]) rfl (ad := ⟨b_3, 0, none⟩) (by kernel_rfl) (by kernel_rfl) (fun j v h => pq.cell ((fzu (((hM_4.trans hM_5).trans hM_8).trans hM_9) hc_6) j v h))) (fun a_113 f_140 => ?_)
                      obtain ⟨x_23, hx_23, hF_65⟩ := bind_some' hF_64
                      refine QV_okv f_140 (tree_Less_ok n _ (GL.mono ((((((hM_1.trans hM_2).trans hM_3).trans hM_4).trans hM_5).trans hM_8).trans hM_9) hG) _ d0 (T_api_Value.shutx (x := d0) (h_1.mono ((((((hM_1.trans hM_2).trans hM_3).trans hM_4).trans hM_5).trans hM_8).trans hM_9)) (h_2.mono ((((((hM_1.trans hM_2).trans hM_3).trans hM_4).trans hM_5).trans hM_8).trans hM_9))) _ d2 (T_api_Value.shutx (x := d2) (h_5.mono ((((((hM_1.trans hM_2).trans hM_3).trans hM_4).trans hM_5).trans hM_8).trans hM_9)) (h_6.mono ((((((hM_1.trans hM_2).trans hM_3).trans hM_4).trans hM_5).trans hM_8).trans hM_9))) x_23 hx_23) (by kernel_rfl) (fun _ => by kernel_rfl) (fun a_114 f_141 => ?_)
                      refine QV_eq (v := .agg #[.int .i8 d1.fKind, .bool d1.fBool, .int .i64 d1.fNum, S d1.fText, .slice A_3 d1.fList.length cap_3, .slice A_4 d1.fKeys.length cap_4]) f_141 (by kernel_rfl) (fun _ pq => X_loadN (cs := [.int .i8 d1.fKind, .bool d1.fBool, .int .i64 d1.fNum, S d1.fText, .slice A_3 d1.fList.length cap_3, .slice A_4 d1.fKeys.length cap_4]) rfl (ad := ⟨b_2, 0, none⟩) (by kernel_rfl) (by kernel_rfl) (fun j v h => pq.cell ((fzu ((((hM_3.trans hM_4).trans hM_5).trans hM_8).trans hM_9) hc_4) j v h))) (fun a_115 f_142 => ?_)
                      refine QV_eq (v := .agg #[.int .i8 d2.fKind, .bool d2.fBool, .int .i64 d2.fNum, S d2.fText, .slice A_5 d2.fList.length cap_5, .slice A_6 d2.fKeys.length cap_6]) f_142 (by kernel_rfl) (fun _ pq => X_loadN (cs := [.int .i8 d2.fKind, .bool d2.fBool, .int .i64 d2.fNum, S d2.fText, .slice A_5 d2.fList.length cap_5, .slice A_6 d2.fKeys.length cap_6]) rfl (ad := ⟨b_3, 0, none⟩) (by kernel_rfl) (by kernel_rfl) (fun j v h => pq.cell ((fzu (((hM_4.trans hM_5).trans hM_8).trans hM_9) hc_6) j v h))) (fun a_116 f_143 => ?_)
                      obtain ⟨x_24, hx_24, hF_66⟩ := bind_some' hF_65
                      refine QV_okv f_143 (tree_Less_ok n _ (GL.mono ((((((hM_1.trans hM_2).trans hM_3).trans hM_4).trans hM_5).trans hM_8).trans hM_9) hG) _ d1 (T_api_Value.shutx (x := d1) (h_3.mono ((((((hM_1.trans hM_2).trans hM_3).trans hM_4).trans hM_5).trans hM_8).trans hM_9)) (h_4.mono ((((((hM_1.trans hM_2).trans hM_3).trans hM_4).trans hM_5).trans hM_8).trans hM_9))) _ d2 (T_api_Value.shutx (x := d2) (h_5.mono ((((((hM_1.trans hM_2).trans hM_3).trans hM_4).trans hM_5).trans hM_8).trans hM_9)) (h_6.mono ((((((hM_1.trans hM_2).trans hM_3).trans hM_4).trans hM_5).trans hM_8).trans hM_9))) x_24 hx_24) (by kernel_rfl) (fun _ => by kernel_rfl) (fun a_117 f_144 => ?_)
                      refine Q_run default f_144 3 (fun _ => by kernel_rfl) (fun a_118 f_145 => ?_)
                      refine Q_end rfl ?_
                      intro w_42 p_42
                      refine T_n ?_
                      exact ⟨(!(x_23 == x_24)), (Option.some.inj hF_66).symm, M_9, (Mem.le_refl _), f_145.keep (ks := [3, 4, 5, 121]) (by kernel_rfl), p_42⟩
                  · have hF_67 := cnd_f h_22 hF_59
                    have f_146 := Frm.set f_127 104 (v := .bool x_20) (v' := .bool false) (by kernel_rfl) (congrArg Value.bool h_22)
                    refine Q_run default f_146 17 (fun _ => by kernel_rfl) (fun a_119 f_147 => ?_)
                    refine Q_end rfl ?_
                    intro w_43 p_43
                    refine T_n ?_
                    exact ⟨(false), (Option.some.inj hF_67).symm, M_9, (Mem.le_refl _), f_147.keep (ks := [3, 4, 5, 121]) (by kernel_rfl), p_43⟩
                · rintro a_120 w_44 ⟨y_6, hq_5, M_10, hM_10, f_148, p_44⟩
                  subst j_5
                  refine T_n ?_
                  refine R_cond f_148 (b := y_6) (by kernel_rfl) (by kernel_rfl) (fun h_24 => ?_) (fun h_24 => ?_)
                  · have hF_68 := cnd_t h_24 hF_58
                    refine R_seq (R_reg ?_)
                    refine V_run f_148 1 (by kernel_rfl) (fun a_121 f_149 => ?_)
                    refine W_end rfl (T_n (wp_ret (T_r ?_)))
                    refine E_ret1 f_149 rfl (by kernel_rfl : Vc.look _ 6 = some (.bool false)) ?_
                    obtain rfl := Option.some.inj hF_68
                    exact ⟨_, rfl, M_10, (((((((hM_1.trans hM_2).trans hM_3).trans hM_4).trans hM_5).trans hM_8).trans hM_9).trans hM_10), p_44, rfl⟩
                  · have hF_69 := cnd_f h_24 hF_58
                    refine wp_skip (T_n (R_seq (R_reg ?_)))
                    refine V_eq (v := .agg #[.int .i8 d0.fKind, .bool d0.fBool, .int .i64 d0.fNum, S d0.fText, .slice A_1 d0.fList.length cap_1, .slice A_2 d0.fKeys.length cap_2]) f_148 (by kernel_rfl) (X_loadN (cs := [.int .i8 d0.fKind, .bool d0.fBool, .int .i64 d0.fNum, S d0.fText, .slice A_1 d0.fList.length cap_1, .slice A_2 d0.fKeys.length cap_2]) rfl (ad := ⟨b_1, 0, none⟩) (by kernel_rfl) (by kernel_rfl) (fun j v h => p_44.cell ((fzu ((((((hM_2.trans hM_3).trans hM_4).trans hM_5).trans hM_8).trans hM_9).trans hM_10) hc_2) j v h))) (fun a_122 f_150 => ?_)
                    refine V_eq (v := .agg #[.int .i8 d1.fKind, .bool d1.fBool, .int .i64 d1.fNum, S d1.fText, .slice A_3 d1.fList.length cap_3, .slice A_4 d1.fKeys.length cap_4]) f_150 (by kernel_rfl) (X_loadN (cs := [.int .i8 d1.fKind, .bool d1.fBool, .int .i64 d1.fNum, S d1.fText, .slice A_3 d1.fList.length cap_3, .slice A_4 d1.fKeys.length cap_4]) rfl (ad := ⟨b_2, 0, none⟩) (by kernel_rfl) (by kernel_rfl) (fun j v h => p_44.cell ((fzu (((((hM_3.trans hM_4).trans hM_5).trans hM_8).trans hM_9).trans hM_10) hc_4) j v h))) (fun a_123 f_151 => ?_)
                    obtain ⟨x_25, hx_25, hF_70⟩ := bind_some' hF_69
                    refine V_okv f_151 p_44 (tree_Less_ok n _ (GL.mono (((((((hM_1.trans hM_2).trans hM_3).trans hM_4).trans hM_5).trans hM_8).trans hM_9).trans hM_10) hG) _ d0 (T_api_Value.shutx (x := d0) (h_1.mono (((((((hM_1.trans hM_2).trans hM_3).trans hM_4).trans hM_5).trans hM_8).trans hM_9).trans hM_10)) (h_2.mono (((((((hM_1.trans hM_2).trans hM_3).trans hM_4).trans hM_5).trans hM_8).trans hM_9).trans hM_10))) _ d1 (T_api_Value.shutx (x := d1) (h_3.mono (((((((hM_1.trans hM_2).trans hM_3).trans hM_4).trans hM_5).trans hM_8).trans hM_9).trans hM_10)) (h_4.mono (((((((hM_1.trans hM_2).trans hM_3).trans hM_4).trans hM_5).trans hM_8).trans hM_9).trans hM_10))) x_25 hx_25) (by kernel_rfl) (fun _ => by kernel_rfl) (fun w_45 p_45 a_124 f_152 => ?_)
                    refine V_run f_152 2 (by kernel_rfl) (fun a_125 f_153 => ?_)
                    rcases Bool.eq_false_or_eq_true (!x_25) with h_25 | h_25
                    · have k_37 : (x_25) = false := by simpa using h_25
                      have hF_71 := cnd_t h_25 hF_70
                      have f_154 := Frm.set f_153 126 (v := .bool !x_25) (v' := .bool true) (by kernel_rfl) (congrArg Value.bool h_25)
                      refine V_run f_154 11 (by kernel_rfl) (fun a_126 f_155 => ?_)
                      obtain ⟨x_26, hx_26, hF_72⟩ := bind_some' hF_71
                      refine V_okv f_155 p_45 (law03_wakes_ok n _ (GL.mono (((((((hM_1.trans hM_2).trans hM_3).trans hM_4).trans hM_5).trans hM_8).trans hM_9).trans hM_10) hG) x_26 hx_26) (by kernel_rfl) (fun _ => by kernel_rfl) (fun w_46 p_46 a_127 f_156 => ?_)
                      refine V_run f_156 2 (by kernel_rfl) (fun a_128 f_157 => ?_)
                      refine W_end rfl (T_n (wp_ret ?_))
                      refine E_ret1 f_157 rfl (by kernel_rfl : Vc.look _ 6 = some (.bool x_26)) ?_
                      obtain rfl := Option.some.inj hF_72
                      exact ⟨_, rfl, M_10, (((((((hM_1.trans hM_2).trans hM_3).trans hM_4).trans hM_5).trans hM_8).trans hM_9).trans hM_10), p_46, rfl⟩
                    · have k_38 : (x_25) = true := by simpa using h_25
                      have hF_73 := cnd_f h_25 hF_70
                      have f_158 := Frm.set f_153 126 (v := .bool !x_25) (v' := .bool false) (by kernel_rfl) (congrArg Value.bool h_25)
                      refine V_eq (v := .agg #[.int .i8 d1.fKind, .bool d1.fBool, .int .i64 d1.fNum, S d1.fText, .slice A_3 d1.fList.length cap_3, .slice A_4 d1.fKeys.length cap_4]) f_158 (by kernel_rfl) (X_loadN (cs := [.int .i8 d1.fKind, .bool d1.fBool, .int .i64 d1.fNum, S d1.fText, .slice A_3 d1.fList.length cap_3, .slice A_4 d1.fKeys.length cap_4]) rfl (ad := ⟨b_2, 0, none⟩) (by kernel_rfl) (by kernel_rfl) (fun j v h => p_45.cell ((fzu (((((hM_3.trans hM_4).trans hM_5).trans hM_8).trans hM_9).trans hM_10) hc_4) j v h))) (fun a_129 f_159 => ?_)
                      refine V_eq (v := .agg #[.int .i8 d2.fKind, .bool d2.fBool, .int .i64 d2.fNum, S d2.fText, .slice A_5 d2.fList.length cap_5, .slice A_6 d2.fKeys.length cap_6]) f_159 (by kernel_rfl) (X_loadN (cs := [.int .i8 d2.fKind, .bool d2.fBool, .int .i64 d2.fNum, S d2.fText, .slice A_5 d2.fList.length cap_5, .slice A_6 d2.fKeys.length cap_6]) rfl (ad := ⟨b_3, 0, none⟩) (by kernel_rfl) (by kernel_rfl) (fun j v h => p_45.cell ((fzu ((((hM_4.trans hM_5).trans hM_8).trans hM_9).trans hM_10) hc_6) j v h))) (fun a_130 f_160 => ?_)
                      obtain ⟨x_27, hx_27, hF_74⟩ := bind_some' hF_73
                      refine V_okv f_160 p_45 (tree_Less_ok n _ (GL.mono (((((((hM_1.trans hM_2).trans hM_3).trans hM_4).trans hM_5).trans hM_8).trans hM_9).trans hM_10) hG) _ d1 (T_api_Value.shutx (x := d1) (h_3.mono (((((((hM_1.trans hM_2).trans hM_3).trans hM_4).trans hM_5).trans hM_8).trans hM_9).trans hM_10)) (h_4.mono (((((((hM_1.trans hM_2).trans hM_3).trans hM_4).trans hM_5).trans hM_8).trans hM_9).trans hM_10))) _ d2 (T_api_Value.shutx (x := d2) (h_5.mono (((((((hM_1.trans hM_2).trans hM_3).trans hM_4).trans hM_5).trans hM_8).trans hM_9).trans hM_10)) (h_6.mono (((((((hM_1.trans hM_2).trans hM_3).trans hM_4).trans hM_5).trans hM_8).trans hM_9).trans hM_10))) x_27 hx_27) (by kernel_rfl) (fun _ => by kernel_rfl) (fun w_47 p_47 a_131 f_161 => ?_)
                      refine V_run f_161 3 (by kernel_rfl) (fun a_132 f_162 => ?_)
                      rcases Bool.eq_false_or_eq_true (!x_27) with h_26 | h_26
                      · have k_39 : (x_27) = false := by simpa using h_26
                        have hF_75 := cnd_t h_26 hF_74
                        have f_163 := Frm.set f_162 132 (v := .bool !x_27) (v' := .bool true) (by kernel_rfl) (congrArg Value.bool h_26)
                        refine V_run f_163 5 (by kernel_rfl) (fun a_133 f_164 => ?_)
                        obtain ⟨x_28, hx_28, hF_76⟩ := bind_some' hF_75
                        refine V_okv f_164 p_47 (law03_wakes_ok n _ (GL.mono (((((((hM_1.trans hM_2).trans hM_3).trans hM_4).trans hM_5).trans hM_8).trans hM_9).trans hM_10) hG) x_28 hx_28) (by kernel_rfl) (fun _ => by kernel_rfl) (fun w_48 p_48 a_134 f_165 => ?_)
                        refine V_run f_165 2 (by kernel_rfl) (fun a_135 f_166 => ?_)
                        refine W_end rfl (T_n (wp_ret ?_))
                        refine E_ret1 f_166 rfl (by kernel_rfl : Vc.look _ 6 = some (.bool x_28)) ?_
                        obtain rfl := Option.some.inj hF_76
                        exact ⟨_, rfl, M_10, (((((((hM_1.trans hM_2).trans hM_3).trans hM_4).trans hM_5).trans hM_8).trans hM_9).trans hM_10), p_48, rfl⟩
                      · have k_40 : (x_27) = true := by simpa using h_26
                        have hF_77 := cnd_f h_26 hF_74
                        have f_167 := Frm.set f_162 132 (v := .bool !x_27) (v' := .bool false) (by kernel_rfl) (congrArg Value.bool h_26)
                        refine V_eq (v := .agg #[.int .i8 d0.fKind, .bool d0.fBool, .int .i64 d0.fNum, S d0.fText, .slice A_1 d0.fList.length cap_1, .slice A_2 d0.fKeys.length cap_2]) f_167 (by kernel_rfl) (X_loadN (cs := [.int .i8 d0.fKind, .bool d0.fBool, .int .i64 d0.fNum, S d0.fText, .slice A_1 d0.fList.length cap_1, .slice A_2 d0.fKeys.length cap_2]) rfl (ad := ⟨b_1, 0, none⟩) (by kernel_rfl) (by kernel_rfl) (fun j v h => p_47.cell ((fzu ((((((hM_2.trans hM_3).trans hM_4).trans hM_5).trans hM_8).trans hM_9).trans hM_10) hc_2) j v h))) (fun a_136 f_168 => ?_)
                        refine V_eq (v := .agg #[.int .i8 d2.fKind, .bool d2.fBool, .int .i64 d2.fNum, S d2.fText, .slice A_5 d2.fList.length cap_5, .slice A_6 d2.fKeys.length cap_6]) f_168 (by kernel_rfl) (X_loadN (cs := [.int .i8 d2.fKind, .bool d2.fBool, .int .i64 d2.fNum, S d2.fText, .slice A_5 d2.fList.length cap_5, .slice A_6 d2.fKeys.length cap_6]) rfl (ad := ⟨b_3, 0, none⟩) (by kernel_rfl) (by kernel_rfl) (fun j v h => p_47.cell ((fzu ((((hM_4.trans hM_5).trans hM_8).trans hM_9).trans hM_10) hc_6) j v h))) (fun a_137 f_169 => ?_)
                        obtain ⟨x_29, hx_29, hF_78⟩ := bind_some' hF_77
                        refine V_okv f_169 p_47 (tree_Less_ok n _ (GL.mono (((((((hM_1.trans hM_2).trans hM_3).trans hM_4).trans hM_5).trans hM_8).trans hM_9).trans hM_10) hG) _ d0 (T_api_Value.shutx (x := d0) (h_1.mono (((((((hM_1.trans hM_2).trans hM_3).trans hM_4).trans hM_5).trans hM_8).trans hM_9).trans hM_10)) (h_2.mono (((((((hM_1.trans hM_2).trans hM_3).trans hM_4).trans hM_5).trans hM_8).trans hM_9).trans hM_10))) _ d2 (T_api_Value.shutx (x := d2) (h_5.mono (((((((hM_1.trans hM_2).trans hM_3).trans hM_4).trans hM_5).trans hM_8).trans hM_9).trans hM_10)) (h_6.mono (((((((hM_1.trans hM_2).trans hM_3).trans hM_4).trans hM_5).trans hM_8).trans hM_9).trans hM_10))) x_29 hx_29) (by kernel_rfl) (fun _ => by kernel_rfl) (fun w_49 p_49 a_138 f_170 => ?_)
                        refine V_run f_170 2 (by kernel_rfl) (fun a_139 f_171 => ?_)
                        rcases Bool.eq_false_or_eq_true (x_29) with h_27 | h_27
                        · have hF_79 := cnd_t h_27 hF_78
                          have f_172 := Frm.set f_171 137 (v := .bool x_29) (v' := .bool true) (by kernel_rfl) (congrArg Value.bool h_27)
                          obtain ⟨x_30, hx_30, hF_80⟩ := bind_some' hF_79
                          refine V_okv f_172 p_49 (law03_wakes_ok n _ (GL.mono (((((((hM_1.trans hM_2).trans hM_3).trans hM_4).trans hM_5).trans hM_8).trans hM_9).trans hM_10) hG) x_30 hx_30) (by kernel_rfl) (fun _ => by kernel_rfl) (fun w_50 p_50 a_140 f_173 => ?_)
                          refine V_run f_173 2 (by kernel_rfl) (fun a_141 f_174 => ?_)
                          refine W_end rfl (T_n (wp_ret ?_))
                          refine E_ret1 f_174 rfl (by kernel_rfl : Vc.look _ 6 = some (.bool x_30)) ?_
                          obtain rfl := Option.some.inj hF_80
                          exact ⟨_, rfl, M_10, (((((((hM_1.trans hM_2).trans hM_3).trans hM_4).trans hM_5).trans hM_8).trans hM_9).trans hM_10), p_50, rfl⟩
                        · have hF_81 := cnd_f h_27 hF_78
                          have f_175 := Frm.set f_171 137 (v := .bool x_29) (v' := .bool false) (by kernel_rfl) (congrArg Value.bool h_27)
                          refine V_run f_175 3 (by kernel_rfl) (fun a_142 f_176 => ?_)
                          refine W_end rfl (T_n (wp_ret ?_))
                          refine E_ret1 f_176 rfl (by kernel_rfl : Vc.look _ 6 = some (.bool false)) ?_
                          obtain rfl := Option.some.inj hF_81
                          exact ⟨_, rfl, M_10, (((((((hM_1.trans hM_2).trans hM_3).trans hM_4).trans hM_5).trans hM_8).trans hM_9).trans hM_10), p_49, rfl⟩
end Go.Proofs.YtekkifakjkhjiaaDoor
