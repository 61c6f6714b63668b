/-
  Printed by a program: of each function its shallow reading, and the proof that the function gives what the reading gives. No condition.
-/
import Derived.Test.YtekkifakjkhjiaaDoorQ5
import Derived.Test.YtekkifakjkhjiaaDoorQ2a
import Derived.Test.YtekkifakjkhjiaaDoorQ2b
import Derived.Test.YtekkifakjkhjiaaDoorQ2c
import Derived.Test.YtekkifakjkhjiaaDoorQ2d
import Derived.Test.YtekkifakjkhjiaaDoorQ2f
import Derived.Test.YtekkifakjkhjiaaDoorQ2h
import Derived.Test.YtekkifakjkhjiaaDoorQ2i
import Derived.Test.YtekkifakjkhjiaaDoorQ3a
import Derived.Test.YtekkifakjkhjiaaDoorQ4a
import Derived.Test.YtekkifakjkhjiaaDoorQ4e
import Derived.Test.YtekkifakjkhjiaaDoorQ4f
import Derived.Test.YtekkifakjkhjiaaDoorQ4g
set_option linter.unusedVariables false
set_option linter.unusedSimpArgs false
namespace Go.Proofs.YtekkifakjkhjiaaDoor
open Go Go.Vc Go.RowKit
def law03_TreeTells (n : Nat) (d0 : T_api_Value) (d1 : T_api_Value) (d2 : List UInt8) : Option Bool :=
  (((ref03_Great n d0).bind fun x_1 =>
    bif x_1 then
      (some ((true)))
    else
      (ref03_Great n d1).bind fun x_2 =>
      bif x_2 then
        (some ((true)))
      else
        some ((decide ((1000 : Int) < (d2.length : Int)))) : Option Bool)).bind fun y_1 =>
  bif y_1 then
    ((law03_wakes n).bind fun x_3 =>
    some ((x_3)))
  else
    (tree_Get n d0 d2).bind fun x_4 =>
    (ref03_Get n d0 d2).bind fun x_5 =>
    ((bif (!(x_4.2 == x_5.2)) then
        (some ((true)))
      else
        (ref03_Same n x_4.1 x_5.1).bind fun x_6 =>
        bif !x_6 then
          (some ((true)))
        else
          (tree_Check n d0).bind fun x_7 =>
          (ref03_Check n d0).bind fun x_8 =>
          bif (!(decide (x_7 = x_8))) then
            (some ((true)))
          else
            (tree_Depth n d0).bind fun x_9 =>
            (ref03_Depth n d0).bind fun x_10 =>
            bif (!(decide (x_9 = x_10))) then
              (some ((true)))
            else
              (tree_Count n d0).bind fun x_11 =>
              (ref03_Count n d0).bind fun x_12 =>
              some ((!(decide (x_11 = x_12)))) : Option Bool)).bind fun y_2 =>
    bif y_2 then
      (some ((false)))
    else
      (tree_Equal n d0 d1).bind fun x_13 =>
      (ref03_Equal n d0 d1).bind fun x_14 =>
      bif (x_13 == x_14) then
        ((tree_Less n d0 d1).bind fun x_15 =>
        (ref03_Less n d0 d1).bind fun x_16 =>
        bif (x_15 == x_16) then
          ((tree_Sorted n d0).bind fun x_17 =>
          (ref03_Sorted n d0).bind fun x_18 =>
          (ref03_Same n x_17 x_18).bind fun x_19 =>
          bif x_19 then
            ((tree_Text n d2).bind fun x_20 =>
            (ref03_Text n d2).bind fun x_21 =>
            (ref03_Same n x_20 x_21).bind fun x_22 =>
            bif x_22 then
              ((tree_Num n (d2.length : Int)).bind fun x_23 =>
              (ref03_Num n (d2.length : Int)).bind fun x_24 =>
              (ref03_Same n x_23 x_24).bind fun x_25 =>
              bif x_25 then
                ((law03_wakes n).bind fun x_26 =>
                some ((x_26)))
              else
                some ((false)))
            else
              some ((false)))
          else
            some ((false)))
        else
          some ((false)))
      else
        some ((false))
theorem law03_TreeTells_ok (n : Nat) (M : Mem) (hG : GL M) (c0 : List Value) (d0 : T_api_Value) (h0 : Rep M (emb_T_api_Value d0) c0) (c1 : List Value) (d1 : T_api_Value) (h1 : Rep M (emb_T_api_Value d1) c1) (d2 : List UInt8) (r : Bool) (hF : law03_TreeTells n d0 d1 d2 = some r) : Ok Tryd.prog M 8 [.agg c0.toArray, .agg c1.toArray, S d2] (fun _ v => v = .bool r) := by
  unfold law03_TreeTells at hF
  intro M1 hM0 w0 H w p0
  replace hG := GL.mono hM0 hG
  replace h0 := Rep.mono hM0 _ _ h0
  replace h1 := Rep.mono hM0 _ _ h1
  obtain ⟨A_1, cap_1, A_2, cap_2, rfl, h_1, h_2⟩ := T_api_Value.opn h0
  obtain ⟨A_3, cap_3, A_4, cap_4, rfl, h_3, h_4⟩ := T_api_Value.opn h1
  refine R_enter 107 Tryd.func8 rfl rfl (by simp) (fun a0 f0 => ?_)
  refine R_seq (R_reg ?_)
  refine V_box (cs := #[.int .i8 d0.fKind, .bool d0.fBool, .int .i64 d0.fNum, S d0.fText, .slice A_1 d0.fList.length cap_1, .slice A_2 d0.fKeys.length cap_2]) (T := 26) f0 p0 (by kernel_rfl) (fun _ => by kernel_rfl) (fun b_1 M_1 w_1 hM_1 hc_1 p_1 a_1 f_1 => ?_)
  have hc_2 := fz_box hc_1
  refine V_box (cs := #[.int .i8 d1.fKind, .bool d1.fBool, .int .i64 d1.fNum, S d1.fText, .slice A_3 d1.fList.length cap_3, .slice A_4 d1.fKeys.length cap_4]) (T := 26) f_1 p_1 (by kernel_rfl) (fun _ => by kernel_rfl) (fun b_2 M_2 w_2 hM_2 hc_3 p_2 a_2 f_2 => ?_)
  have hc_4 := fz_box hc_3
  refine V_run f_2 1 (by kernel_rfl) (fun a_3 f_3 => ?_)
  refine W_end rfl (T_n (R_seq (R_seq ?_)))
  obtain ⟨j_1, hj_1, hF_1⟩ := bind_some' hF
  refine R_mid (fun a_13 w_5 => ∃ y_1 : Bool, j_1 = y_1 ∧ ∃ M_3 : Mem, M_2.le M_3 ∧ Frm 107 [(2, S d2), (3, .pointer (some (⟨b_1, 0, none⟩))), (4, .pointer (some (⟨b_2, 0, none⟩))), (21, .bool y_1)] a_13 ∧ Hp w0 M_3 (H) w_5) ?_ ?_
  · refine R_reg ?_
    refine V_eq (v := .agg #[.int .i8 d0.fKind, .bool d0.fBool, .int .i64 d0.fNum, S d0.fText, .slice A_1 d0.fList.length cap_1, .slice A_2 d0.fKeys.length cap_2]) f_3 (by kernel_rfl) (X_loadN (cs := [.int .i8 d0.fKind, .bool d0.fBool, .int .i64 d0.fNum, S d0.fText, .slice A_1 d0.fList.length cap_1, .slice A_2 d0.fKeys.length cap_2]) rfl (ad := ⟨b_1, 0, none⟩) (by kernel_rfl) (by kernel_rfl) (fun j v h => p_2.cell ((fzu hM_2 hc_2) j v h))) (fun a_4 f_4 => ?_)
    obtain ⟨x_1, hx_1, hF_2⟩ := bind_some' hj_1
    refine V_okv f_4 p_2 (ref03_Great_ok n _ _ d0 (T_api_Value.shutx (x := d0) (h_1.mono (hM_1.trans hM_2)) (h_2.mono (hM_1.trans hM_2))) x_1 hx_1) (by kernel_rfl) (fun _ => by kernel_rfl) (fun w_3 p_3 a_5 f_5 => ?_)
    refine V_run f_5 1 (by kernel_rfl) (fun a_6 f_6 => ?_)
    rcases Bool.eq_false_or_eq_true (x_1) with h_5 | h_5
    · have hF_3 := cnd_t h_5 hF_2
      have f_7 := Frm.set f_6 13 (v := .bool x_1) (v' := .bool true) (by kernel_rfl) (congrArg Value.bool h_5)
      refine V_run f_7 8 (by kernel_rfl) (fun a_7 f_8 => ?_)
      refine W_end rfl (T_n ?_)
      exact ⟨(true), (Option.some.inj hF_3).symm, M_2, (Mem.le_refl _), f_8.keep (ks := [2, 3, 4, 21]) (by kernel_rfl), p_3⟩
    · have hF_4 := cnd_f h_5 hF_2
      have f_9 := Frm.set f_6 13 (v := .bool x_1) (v' := .bool false) (by kernel_rfl) (congrArg Value.bool h_5)
      refine V_eq (v := .agg #[.int .i8 d1.fKind, .bool d1.fBool, .int .i64 d1.fNum, S d1.fText, .slice A_3 d1.fList.length cap_3, .slice A_4 d1.fKeys.length cap_4]) f_9 (by kernel_rfl) (X_loadN (cs := [.int .i8 d1.fKind, .bool d1.fBool, .int .i64 d1.fNum, S d1.fText, .slice A_3 d1.fList.length cap_3, .slice A_4 d1.fKeys.length cap_4]) rfl (ad := ⟨b_2, 0, none⟩) (by kernel_rfl) (by kernel_rfl) (fun j v h => p_3.cell (hc_4 j v h))) (fun a_8 f_10 => ?_)
      obtain ⟨x_2, hx_2, hF_5⟩ := bind_some' hF_4
      refine V_okv f_10 p_3 (ref03_Great_ok n _ _ d1 (T_api_Value.shutx (x := d1) (h_3.mono (hM_1.trans hM_2)) (h_4.mono (hM_1.trans hM_2))) x_2 hx_2) (by kernel_rfl) (fun _ => by kernel_rfl) (fun w_4 p_4 a_9 f_11 => ?_)
      refine V_run f_11 2 (by kernel_rfl) (fun a_10 f_12 => ?_)
      rcases Bool.eq_false_or_eq_true (x_2) with h_6 | h_6
      · have hF_6 := cnd_t h_6 hF_5
        have f_13 := Frm.set f_12 17 (v := .bool x_2) (v' := .bool true) (by kernel_rfl) (congrArg Value.bool h_6)
        refine V_run f_13 4 (by kernel_rfl) (fun a_11 f_14 => ?_)
        refine W_end rfl (T_n ?_)
        exact ⟨(true), (Option.some.inj hF_6).symm, M_2, (Mem.le_refl _), f_14.keep (ks := [2, 3, 4, 21]) (by kernel_rfl), p_4⟩
      · have hF_7 := cnd_f h_6 hF_5
        have f_15 := Frm.set f_12 17 (v := .bool x_2) (v' := .bool false) (by kernel_rfl) (congrArg Value.bool h_6)
        refine V_run f_15 4 (by kernel_rfl) (fun a_12 f_16 => ?_)
        refine W_end rfl (T_n ?_)
        exact ⟨(decide ((1000 : Int) < (d2.length : Int))), (Option.some.inj hF_7).symm, M_2, (Mem.le_refl _), f_16.keep (ks := [2, 3, 4, 21]) (by kernel_rfl), p_4⟩
  · rintro a_13 w_5 ⟨y_1, hq_1, M_3, hM_3, f_17, p_5⟩
    subst j_1
    refine T_n ?_
    refine R_cond f_17 (b := y_1) (by kernel_rfl) (by kernel_rfl) (fun h_7 => ?_) (fun h_7 => ?_)
    · have hF_8 := cnd_t h_7 hF_1
      refine R_seq (R_reg ?_)
      obtain ⟨x_3, hx_3, hF_9⟩ := bind_some' hF_8
      refine V_okv f_17 p_5 (law03_wakes_ok n _ (GL.mono ((hM_1.trans hM_2).trans hM_3) hG) x_3 hx_3) (by kernel_rfl) (fun _ => by kernel_rfl) (fun w_6 p_6 a_14 f_18 => ?_)
      refine V_run f_18 1 (by kernel_rfl) (fun a_15 f_19 => ?_)
      refine W_end rfl (T_n (wp_ret (T_r ?_)))
      refine E_ret1 f_19 rfl (by kernel_rfl : Vc.look _ 6 = some (.bool x_3)) ?_
      obtain rfl := Option.some.inj hF_9
      exact ⟨_, rfl, M_3, ((hM_1.trans hM_2).trans hM_3), p_6, rfl⟩
    · have hF_10 := cnd_f h_7 hF_1
      refine wp_skip (T_n (R_seq (R_reg ?_)))
      refine V_eq (v := .agg #[.int .i8 d0.fKind, .bool d0.fBool, .int .i64 d0.fNum, S d0.fText, .slice A_1 d0.fList.length cap_1, .slice A_2 d0.fKeys.length cap_2]) f_17 (by kernel_rfl) (X_loadN (cs := [.int .i8 d0.fKind, .bool d0.fBool, .int .i64 d0.fNum, S d0.fText, .slice A_1 d0.fList.length cap_1, .slice A_2 d0.fKeys.length cap_2]) rfl (ad := ⟨b_1, 0, none⟩) (by kernel_rfl) (by kernel_rfl) (fun j v h => p_5.cell ((fzu (hM_2.trans hM_3) hc_2) j v h))) (fun a_16 f_20 => ?_)
      refine V_run f_20 1 (by kernel_rfl) (fun a_17 f_21 => ?_)
      obtain ⟨x_4, hx_4, hF_11⟩ := bind_some' hF_10
      refine V_ok f_21 p_5 (tree_Get_ok n _ (GL.mono ((hM_1.trans hM_2).trans hM_3) hG) _ d0 (T_api_Value.shutx (x := d0) (h_1.mono ((hM_1.trans hM_2).trans hM_3)) (h_2.mono ((hM_1.trans hM_2).trans hM_3))) d2 x_4 hx_4) (by kernel_rfl) (fun _ => by kernel_rfl) (fun u_1 M_4 w_7 hM_4 p_7 q_1 a_18 f_22 => ?_)
      obtain ⟨c_1, rfl, hr_1⟩ := q_1
      obtain ⟨A_5, cap_5, A_6, cap_6, rfl, h_8, h_9⟩ := T_api_Value.opn hr_1
      refine V_run f_22 3 (by kernel_rfl) (fun a_19 f_23 => ?_)
      refine V_alloc f_23 p_7 (.cells #[.int .i8 0, .bool false, .int .i64 0, S [], .slice none 0 0, .slice none 0 0] 26 (0, 0)) (by kernel_rfl) (fun _ => by kernel_rfl) (fun b_3 w_8 p_8 a_20 f_24 => ?_)
      refine W_storeN (vs := [.int .i8 x_4.1.fKind, .bool x_4.1.fBool, .int .i64 x_4.1.fNum, S x_4.1.fText, .slice A_5 x_4.1.fList.length cap_5, .slice A_6 x_4.1.fKeys.length cap_6]) (j := 0) f_24 p_8 (by kernel_rfl) (by kernel_rfl) rfl rfl (by kernel_rfl) (by kernel_rfl) (by simp [Value.oneCell', S]) (by kernel_rfl) (by simp) (by decide) (cs' := #[.int .i8 x_4.1.fKind, .bool x_4.1.fBool, .int .i64 x_4.1.fNum, S x_4.1.fText, .slice A_5 x_4.1.fList.length cap_5, .slice A_6 x_4.1.fKeys.length cap_6]) rfl (fun w_9 p_9 a_21 f_25 => ?_)
      refine V_run f_25 1 (by kernel_rfl) (fun a_22 f_26 => ?_)
      refine W_end rfl (T_n (R_seq (R_reg ?_)))
      refine V_eq (v := .agg #[.int .i8 d0.fKind, .bool d0.fBool, .int .i64 d0.fNum, S d0.fText, .slice A_1 d0.fList.length cap_1, .slice A_2 d0.fKeys.length cap_2]) f_26 (by kernel_rfl) (X_loadN (cs := [.int .i8 d0.fKind, .bool d0.fBool, .int .i64 d0.fNum, S d0.fText, .slice A_1 d0.fList.length cap_1, .slice A_2 d0.fKeys.length cap_2]) rfl (ad := ⟨b_1, 0, none⟩) (by kernel_rfl) (by kernel_rfl) (fun j v h => p_9.cell ((fzu ((hM_2.trans hM_3).trans hM_4) hc_2) j v h))) (fun a_23 f_27 => ?_)
      refine V_run f_27 1 (by kernel_rfl) (fun a_24 f_28 => ?_)
      obtain ⟨x_5, hx_5, hF_12⟩ := bind_some' hF_11
      refine V_ok f_28 p_9 (ref03_Get_ok n _ _ d0 (T_api_Value.shutx (x := d0) (h_1.mono (((hM_1.trans hM_2).trans hM_3).trans hM_4)) (h_2.mono (((hM_1.trans hM_2).trans hM_3).trans hM_4))) d2 x_5 hx_5) (by kernel_rfl) (fun _ => by kernel_rfl) (fun u_2 M_5 w_10 hM_5 p_10 q_2 a_25 f_29 => ?_)
      obtain ⟨c_2, rfl, hr_2⟩ := q_2
      obtain ⟨A_7, cap_7, A_8, cap_8, rfl, h_10, h_11⟩ := T_api_Value.opn hr_2
      refine V_run f_29 3 (by kernel_rfl) (fun a_26 f_30 => ?_)
      refine V_alloc f_30 p_10 (.cells #[.int .i8 0, .bool false, .int .i64 0, S [], .slice none 0 0, .slice none 0 0] 26 (0, 0)) (by kernel_rfl) (fun _ => by kernel_rfl) (fun b_4 w_11 p_11 a_27 f_31 => ?_)
      refine W_storeN (vs := [.int .i8 x_5.1.fKind, .bool x_5.1.fBool, .int .i64 x_5.1.fNum, S x_5.1.fText, .slice A_7 x_5.1.fList.length cap_7, .slice A_8 x_5.1.fKeys.length cap_8]) (j := 0) f_31 p_11 (by kernel_rfl) (by kernel_rfl) rfl rfl (by kernel_rfl) (by kernel_rfl) (by simp [Value.oneCell', S]) (by kernel_rfl) (by simp) (by decide) (cs' := #[.int .i8 x_5.1.fKind, .bool x_5.1.fBool, .int .i64 x_5.1.fNum, S x_5.1.fText, .slice A_7 x_5.1.fList.length cap_7, .slice A_8 x_5.1.fKeys.length cap_8]) rfl (fun w_12 p_12 a_28 f_32 => ?_)
      refine V_run f_32 1 (by kernel_rfl) (fun a_29 f_33 => ?_)
      refine W_end rfl (T_n (R_seq (R_seq ?_)))
      obtain ⟨j_2, hj_2, hF_13⟩ := bind_some' hF_12
      refine R_mid (fun a_54 w_25 => ∃ y_2 : Bool, j_2 = y_2 ∧ ∃ M_6 : Mem, M_5.le M_6 ∧ Frm 107 [(2, S d2), (3, .pointer (some (⟨b_1, 0, none⟩))), (4, .pointer (some (⟨b_2, 0, none⟩))), (64, .bool y_2)] a_54 ∧ Hp w0 M_6 ((Ent.obj b_4 (.cells #[.int .i8 x_5.1.fKind, .bool x_5.1.fBool, .int .i64 x_5.1.fNum, S x_5.1.fText, .slice A_7 x_5.1.fList.length cap_7, .slice A_8 x_5.1.fKeys.length cap_8] 26 (0, 0))) :: (Ent.obj b_3 (.cells #[.int .i8 x_4.1.fKind, .bool x_4.1.fBool, .int .i64 x_4.1.fNum, S x_4.1.fText, .slice A_5 x_4.1.fList.length cap_5, .slice A_6 x_4.1.fKeys.length cap_6] 26 (0, 0))) :: H) w_25) ?_ ?_
      · refine R_draw p_12 (by kernel_rfl) (by kernel_rfl) ?_
        refine Q_run default f_33 4 (fun _ => by kernel_rfl) (fun a_30 f_34 => ?_)
        rcases Bool.eq_false_or_eq_true (!(x_4.2 == x_5.2)) with h_12 | h_12
        · have k_7 : (x_4.2 == x_5.2) = false := by simpa using h_12
          have hF_14 := cnd_t h_12 hj_2
          have f_35 := Frm.set f_34 38 (v := .bool (!(x_4.2 == x_5.2))) (v' := .bool true) (by kernel_rfl) (congrArg Value.bool h_12)
          refine Q_run default f_35 26 (fun _ => by kernel_rfl) (fun a_31 f_36 => ?_)
          refine Q_end rfl ?_
          intro w_13 p_13
          refine T_n ?_
          exact ⟨(true), (Option.some.inj hF_14).symm, M_5, (Mem.le_refl _), f_36.keep (ks := [2, 3, 4, 64]) (by kernel_rfl), p_13⟩
        · have k_8 : (x_4.2 == x_5.2) = true := by simpa using h_12
          have hF_15 := cnd_f h_12 hj_2
          have f_37 := Frm.set f_34 38 (v := .bool (!(x_4.2 == x_5.2))) (v' := .bool false) (by kernel_rfl) (congrArg Value.bool h_12)
          refine QV_eq (v := .agg #[.int .i8 x_4.1.fKind, .bool x_4.1.fBool, .int .i64 x_4.1.fNum, S x_4.1.fText, .slice A_5 x_4.1.fList.length cap_5, .slice A_6 x_4.1.fKeys.length cap_6]) f_37 (by kernel_rfl) (fun _ pq => X_loadN (cs := [.int .i8 x_4.1.fKind, .bool x_4.1.fBool, .int .i64 x_4.1.fNum, S x_4.1.fText, .slice A_5 x_4.1.fList.length cap_5, .slice A_6 x_4.1.fKeys.length cap_6]) rfl (ad := ⟨b_3, 0, none⟩) (by kernel_rfl) (by kernel_rfl) (own_cells (pq.ownCell 1 rfl) 0 rfl)) (fun a_32 f_38 => ?_)
          refine QV_eq (v := .agg #[.int .i8 x_5.1.fKind, .bool x_5.1.fBool, .int .i64 x_5.1.fNum, S x_5.1.fText, .slice A_7 x_5.1.fList.length cap_7, .slice A_8 x_5.1.fKeys.length cap_8]) f_38 (by kernel_rfl) (fun _ pq => X_loadN (cs := [.int .i8 x_5.1.fKind, .bool x_5.1.fBool, .int .i64 x_5.1.fNum, S x_5.1.fText, .slice A_7 x_5.1.fList.length cap_7, .slice A_8 x_5.1.fKeys.length cap_8]) rfl (ad := ⟨b_4, 0, none⟩) (by kernel_rfl) (by kernel_rfl) (own_cells (pq.ownCell 0 rfl) 0 rfl)) (fun a_33 f_39 => ?_)
          obtain ⟨x_6, hx_6, hF_16⟩ := bind_some' hF_15
          refine QV_okv f_39 (ref03_Same_ok n _ _ x_4.1 (T_api_Value.shutx (x := x_4.1) (h_8.mono hM_5) (h_9.mono hM_5)) _ x_5.1 (T_api_Value.shutx (x := x_5.1) h_10 h_11) x_6 hx_6) (by kernel_rfl) (fun _ => by kernel_rfl) (fun a_34 f_40 => ?_)
          refine Q_run default f_40 3 (fun _ => by kernel_rfl) (fun a_35 f_41 => ?_)
          rcases Bool.eq_false_or_eq_true (!x_6) with h_13 | h_13
          · have k_9 : (x_6) = false := by simpa using h_13
            have hF_17 := cnd_t h_13 hF_16
            have f_42 := Frm.set f_41 44 (v := .bool !x_6) (v' := .bool true) (by kernel_rfl) (congrArg Value.bool h_13)
            refine Q_run default f_42 20 (fun _ => by kernel_rfl) (fun a_36 f_43 => ?_)
            refine Q_end rfl ?_
            intro w_15 p_15
            refine T_n ?_
            exact ⟨(true), (Option.some.inj hF_17).symm, M_5, (Mem.le_refl _), f_43.keep (ks := [2, 3, 4, 64]) (by kernel_rfl), p_15⟩
          · have k_10 : (x_6) = true := by simpa using h_13
            have hF_18 := cnd_f h_13 hF_16
            have f_44 := Frm.set f_41 44 (v := .bool !x_6) (v' := .bool false) (by kernel_rfl) (congrArg Value.bool h_13)
            refine QV_eq (v := .agg #[.int .i8 d0.fKind, .bool d0.fBool, .int .i64 d0.fNum, S d0.fText, .slice A_1 d0.fList.length cap_1, .slice A_2 d0.fKeys.length cap_2]) f_44 (by kernel_rfl) (fun _ pq => X_loadN (cs := [.int .i8 d0.fKind, .bool d0.fBool, .int .i64 d0.fNum, S d0.fText, .slice A_1 d0.fList.length cap_1, .slice A_2 d0.fKeys.length cap_2]) rfl (ad := ⟨b_1, 0, none⟩) (by kernel_rfl) (by kernel_rfl) (fun j v h => pq.cell ((fzu (((hM_2.trans hM_3).trans hM_4).trans hM_5) hc_2) j v h))) (fun a_37 f_45 => ?_)
            obtain ⟨x_7, hx_7, hF_19⟩ := bind_some' hF_18
            refine QV_okv f_45 (tree_Check_ok n _ (GL.mono ((((hM_1.trans hM_2).trans hM_3).trans hM_4).trans hM_5) hG) _ d0 (T_api_Value.shutx (x := d0) (h_1.mono ((((hM_1.trans hM_2).trans hM_3).trans hM_4).trans hM_5)) (h_2.mono ((((hM_1.trans hM_2).trans hM_3).trans hM_4).trans hM_5))) x_7 hx_7) (by kernel_rfl) (fun _ => by kernel_rfl) (fun a_38 f_46 => ?_)
            refine QV_eq (v := .agg #[.int .i8 d0.fKind, .bool d0.fBool, .int .i64 d0.fNum, S d0.fText, .slice A_1 d0.fList.length cap_1, .slice A_2 d0.fKeys.length cap_2]) f_46 (by kernel_rfl) (fun _ pq => X_loadN (cs := [.int .i8 d0.fKind, .bool d0.fBool, .int .i64 d0.fNum, S d0.fText, .slice A_1 d0.fList.length cap_1, .slice A_2 d0.fKeys.length cap_2]) rfl (ad := ⟨b_1, 0, none⟩) (by kernel_rfl) (by kernel_rfl) (fun j v h => pq.cell ((fzu (((hM_2.trans hM_3).trans hM_4).trans hM_5) hc_2) j v h))) (fun a_39 f_47 => ?_)
            obtain ⟨x_8, hx_8, hF_20⟩ := bind_some' hF_19
            refine QV_okv f_47 (ref03_Check_ok n _ _ d0 (T_api_Value.shutx (x := d0) (h_1.mono ((((hM_1.trans hM_2).trans hM_3).trans hM_4).trans hM_5)) (h_2.mono ((((hM_1.trans hM_2).trans hM_3).trans hM_4).trans hM_5))) x_8 hx_8) (by kernel_rfl) (fun _ => by kernel_rfl) (fun a_40 f_48 => ?_)
            refine Q_run default f_48 3 (fun _ => by kernel_rfl) (fun a_41 f_49 => ?_)
            rcases Bool.eq_false_or_eq_true (!(decide (x_7 = x_8))) with h_14 | h_14
            · have k_11 : ¬ (x_7 = x_8) := (not_iff decide_eq_true_iff).1 h_14
              have hF_21 := cnd_t h_14 hF_20
              have f_50 := Frm.set f_49 51 (v := .bool (!(decide (x_7 = x_8)))) (v' := .bool true) (by kernel_rfl) (congrArg Value.bool h_14)
              refine Q_run default f_50 13 (fun _ => by kernel_rfl) (fun a_42 f_51 => ?_)
              refine Q_end rfl ?_
              intro w_18 p_18
              refine T_n ?_
              exact ⟨(true), (Option.some.inj hF_21).symm, M_5, (Mem.le_refl _), f_51.keep (ks := [2, 3, 4, 64]) (by kernel_rfl), p_18⟩
            · have k_12 : ¬ (¬ (x_7 = x_8)) := iff_f (not_iff decide_eq_true_iff) h_14
              have hF_22 := cnd_f h_14 hF_20
              have f_52 := Frm.set f_49 51 (v := .bool (!(decide (x_7 = x_8)))) (v' := .bool false) (by kernel_rfl) (congrArg Value.bool h_14)
              refine QV_eq (v := .agg #[.int .i8 d0.fKind, .bool d0.fBool, .int .i64 d0.fNum, S d0.fText, .slice A_1 d0.fList.length cap_1, .slice A_2 d0.fKeys.length cap_2]) f_52 (by kernel_rfl) (fun _ pq => X_loadN (cs := [.int .i8 d0.fKind, .bool d0.fBool, .int .i64 d0.fNum, S d0.fText, .slice A_1 d0.fList.length cap_1, .slice A_2 d0.fKeys.length cap_2]) rfl (ad := ⟨b_1, 0, none⟩) (by kernel_rfl) (by kernel_rfl) (fun j v h => pq.cell ((fzu (((hM_2.trans hM_3).trans hM_4).trans hM_5) hc_2) j v h))) (fun a_43 f_53 => ?_)
              obtain ⟨x_9, hx_9, hF_23⟩ := bind_some' hF_22
              refine QV_okv f_53 (tree_Depth_ok n _ _ d0 (T_api_Value.shutx (x := d0) (h_1.mono ((((hM_1.trans hM_2).trans hM_3).trans hM_4).trans hM_5)) (h_2.mono ((((hM_1.trans hM_2).trans hM_3).trans hM_4).trans hM_5))) x_9 hx_9) (by kernel_rfl) (fun _ => by kernel_rfl) (fun a_44 f_54 => ?_)
              refine QV_eq (v := .agg #[.int .i8 d0.fKind, .bool d0.fBool, .int .i64 d0.fNum, S d0.fText, .slice A_1 d0.fList.length cap_1, .slice A_2 d0.fKeys.length cap_2]) f_54 (by kernel_rfl) (fun _ pq => X_loadN (cs := [.int .i8 d0.fKind, .bool d0.fBool, .int .i64 d0.fNum, S d0.fText, .slice A_1 d0.fList.length cap_1, .slice A_2 d0.fKeys.length cap_2]) rfl (ad := ⟨b_1, 0, none⟩) (by kernel_rfl) (by kernel_rfl) (fun j v h => pq.cell ((fzu (((hM_2.trans hM_3).trans hM_4).trans hM_5) hc_2) j v h))) (fun a_45 f_55 => ?_)
              obtain ⟨x_10, hx_10, hF_24⟩ := bind_some' hF_23
              refine QV_okv f_55 (ref03_Depth_ok n _ _ d0 (T_api_Value.shutx (x := d0) (h_1.mono ((((hM_1.trans hM_2).trans hM_3).trans hM_4).trans hM_5)) (h_2.mono ((((hM_1.trans hM_2).trans hM_3).trans hM_4).trans hM_5))) x_10 hx_10) (by kernel_rfl) (fun _ => by kernel_rfl) (fun a_46 f_56 => ?_)
              refine Q_run default f_56 3 (fun _ => by kernel_rfl) (fun a_47 f_57 => ?_)
              rcases Bool.eq_false_or_eq_true (!(decide (x_9 = x_10))) with h_15 | h_15
              · have k_13 : ¬ (x_9 = x_10) := (not_iff decide_eq_true_iff).1 h_15
                have hF_25 := cnd_t h_15 hF_24
                have f_58 := Frm.set f_57 58 (v := .bool (!(decide (x_9 = x_10)))) (v' := .bool true) (by kernel_rfl) (congrArg Value.bool h_15)
                refine Q_run default f_58 6 (fun _ => by kernel_rfl) (fun a_48 f_59 => ?_)
                refine Q_end rfl ?_
                intro w_21 p_21
                refine T_n ?_
                exact ⟨(true), (Option.some.inj hF_25).symm, M_5, (Mem.le_refl _), f_59.keep (ks := [2, 3, 4, 64]) (by kernel_rfl), p_21⟩
              · have k_14 : ¬ (¬ (x_9 = x_10)) := iff_f (not_iff decide_eq_true_iff) h_15
                have hF_26 := cnd_f h_15 hF_24
                have f_60 := Frm.set f_57 58 (v := .bool (!(decide (x_9 = x_10)))) (v' := .bool false) (by kernel_rfl) (congrArg Value.bool h_15)
                refine QV_eq (v := .agg #[.int .i8 d0.fKind, .bool d0.fBool, .int .i64 d0.fNum, S d0.fText, .slice A_1 d0.fList.length cap_1, .slice A_2 d0.fKeys.length cap_2]) f_60 (by kernel_rfl) (fun _ pq => X_loadN (cs := [.int .i8 d0.fKind, .bool d0.fBool, .int .i64 d0.fNum, S d0.fText, .slice A_1 d0.fList.length cap_1, .slice A_2 d0.fKeys.length cap_2]) rfl (ad := ⟨b_1, 0, none⟩) (by kernel_rfl) (by kernel_rfl) (fun j v h => pq.cell ((fzu (((hM_2.trans hM_3).trans hM_4).trans hM_5) hc_2) j v h))) (fun a_49 f_61 => ?_)
                obtain ⟨x_11, hx_11, hF_27⟩ := bind_some' hF_26
                refine QV_okv f_61 (tree_Count_ok n _ _ d0 (T_api_Value.shutx (x := d0) (h_1.mono ((((hM_1.trans hM_2).trans hM_3).trans hM_4).trans hM_5)) (h_2.mono ((((hM_1.trans hM_2).trans hM_3).trans hM_4).trans hM_5))) x_11 hx_11) (by kernel_rfl) (fun _ => by kernel_rfl) (fun a_50 f_62 => ?_)
                refine QV_eq (v := .agg #[.int .i8 d0.fKind, .bool d0.fBool, .int .i64 d0.fNum, S d0.fText, .slice A_1 d0.fList.length cap_1, .slice A_2 d0.fKeys.length cap_2]) f_62 (by kernel_rfl) (fun _ pq => X_loadN (cs := [.int .i8 d0.fKind, .bool d0.fBool, .int .i64 d0.fNum, S d0.fText, .slice A_1 d0.fList.length cap_1, .slice A_2 d0.fKeys.length cap_2]) rfl (ad := ⟨b_1, 0, none⟩) (by kernel_rfl) (by kernel_rfl) (fun j v h => pq.cell ((fzu (((hM_2.trans hM_3).trans hM_4).trans hM_5) hc_2) j v h))) (fun a_51 f_63 => ?_)
                obtain ⟨x_12, hx_12, hF_28⟩ := bind_some' hF_27
                refine QV_okv f_63 (ref03_Count_ok n _ _ d0 (T_api_Value.shutx (x := d0) (h_1.mono ((((hM_1.trans hM_2).trans hM_3).trans hM_4).trans hM_5)) (h_2.mono ((((hM_1.trans hM_2).trans hM_3).trans hM_4).trans hM_5))) x_12 hx_12) (by kernel_rfl) (fun _ => by kernel_rfl) (fun a_52 f_64 => ?_)
                refine Q_run default f_64 2 (fun _ => by kernel_rfl) (fun a_53 f_65 => ?_)
                refine Q_end rfl ?_
                intro w_24 p_24
                refine T_n ?_
                exact ⟨(!(decide (x_11 = x_12))), (Option.some.inj hF_28).symm, M_5, (Mem.le_refl _), f_65.keep (ks := [2, 3, 4, 64]) (by kernel_rfl), p_24⟩
      · rintro a_54 w_25 ⟨y_2, hq_2, M_6, hM_6, f_66, p_25⟩
        subst j_2
        refine T_n ?_
        refine R_cond f_66 (b := y_2) (by kernel_rfl) (by kernel_rfl) (fun h_16 => ?_) (fun h_16 => ?_)
        · have hF_29 := cnd_t h_16 hF_13
          refine R_seq (R_reg ?_)
          refine V_run f_66 1 (by kernel_rfl) (fun a_55 f_67 => ?_)
          refine W_end rfl (T_n (wp_ret (T_r ?_)))
          refine E_ret1 f_67 rfl (by kernel_rfl : Vc.look _ 6 = some (.bool false)) ?_
          obtain rfl := Option.some.inj hF_29
          exact ⟨_, rfl, M_6, (((((hM_1.trans hM_2).trans hM_3).trans hM_4).trans hM_5).trans hM_6), (p_25.dropN 2), rfl⟩
        · have hF_30 := cnd_f h_16 hF_13
          refine wp_skip (T_n (R_seq ?_))
          refine R_mix (E := []) (Hr := ((Ent.obj b_4 (.cells #[.int .i8 x_5.1.fKind, .bool x_5.1.fBool, .int .i64 x_5.1.fNum, S x_5.1.fText, .slice A_7 x_5.1.fList.length cap_7, .slice A_8 x_5.1.fKeys.length cap_8] 26 (0, 0))) :: (Ent.obj b_3 (.cells #[.int .i8 x_4.1.fKind, .bool x_4.1.fBool, .int .i64 x_4.1.fNum, S x_4.1.fText, .slice A_5 x_4.1.fList.length cap_5, .slice A_6 x_4.1.fKeys.length cap_6] 26 (0, 0))) :: H)) [(0, true), (1, true), (2, true), (3, true), (4, true), (5, true), (6, true), (7, true), (8, true), (9, true), (10, true), (11, true), (12, true), (13, true), (14, true), (15, true), (16, true), (17, true), (19, true), (18, false), (20, false), (21, false), (22, true), (23, true), (24, true), (26, true), (25, false), (27, false), (28, false), (29, true), (30, true), (31, true), (32, true), (34, true), (35, true), (33, false), (36, false), (37, false), (38, true), (39, true), (40, false), (41, true), (42, true)] p_25 (by kernel_rfl) (by kernel_rfl) rfl (by kernel_rfl) ?_
          refine M_eq (v := .agg #[.int .i8 d0.fKind, .bool d0.fBool, .int .i64 d0.fNum, S d0.fText, .slice A_1 d0.fList.length cap_1, .slice A_2 d0.fKeys.length cap_2]) f_66 (by kernel_rfl) (by kernel_rfl) rfl rfl (fun _ pq => X_loadN (cs := [.int .i8 d0.fKind, .bool d0.fBool, .int .i64 d0.fNum, S d0.fText, .slice A_1 d0.fList.length cap_1, .slice A_2 d0.fKeys.length cap_2]) rfl (ad := ⟨b_1, 0, none⟩) (by kernel_rfl) (by kernel_rfl) (fun j v h => pq.cell ((fzu ((((hM_2.trans hM_3).trans hM_4).trans hM_5).trans hM_6) hc_2) j v h))) (fun a_56 f_68 => ?_)
          refine M_eq (v := .agg #[.int .i8 d1.fKind, .bool d1.fBool, .int .i64 d1.fNum, S d1.fText, .slice A_3 d1.fList.length cap_3, .slice A_4 d1.fKeys.length cap_4]) f_68 (by kernel_rfl) (by kernel_rfl) rfl rfl (fun _ pq => X_loadN (cs := [.int .i8 d1.fKind, .bool d1.fBool, .int .i64 d1.fNum, S d1.fText, .slice A_3 d1.fList.length cap_3, .slice A_4 d1.fKeys.length cap_4]) rfl (ad := ⟨b_2, 0, none⟩) (by kernel_rfl) (by kernel_rfl) (fun j v h => pq.cell ((fzu (((hM_3.trans hM_4).trans hM_5).trans hM_6) hc_4) j v h))) (fun a_57 f_69 => ?_)
          obtain ⟨x_13, hx_13, hF_31⟩ := bind_some' hF_30
          refine M_okv (v := .bool x_13) f_69 (by kernel_rfl) (by kernel_rfl) rfl rfl (fun _ => by kernel_rfl) (tree_Equal_ok n _ (GL.mono (((((hM_1.trans hM_2).trans hM_3).trans hM_4).trans hM_5).trans hM_6) hG) _ d0 (T_api_Value.shutx (x := d0) (h_1.mono (((((hM_1.trans hM_2).trans hM_3).trans hM_4).trans hM_5).trans hM_6)) (h_2.mono (((((hM_1.trans hM_2).trans hM_3).trans hM_4).trans hM_5).trans hM_6))) _ d1 (T_api_Value.shutx (x := d1) (h_3.mono (((((hM_1.trans hM_2).trans hM_3).trans hM_4).trans hM_5).trans hM_6)) (h_4.mono (((((hM_1.trans hM_2).trans hM_3).trans hM_4).trans hM_5).trans hM_6))) x_13 hx_13) (fun a_58 f_70 => ?_)
          refine M_eq (v := .agg #[.int .i8 d0.fKind, .bool d0.fBool, .int .i64 d0.fNum, S d0.fText, .slice A_1 d0.fList.length cap_1, .slice A_2 d0.fKeys.length cap_2]) f_70 (by kernel_rfl) (by kernel_rfl) rfl rfl (fun _ pq => X_loadN (cs := [.int .i8 d0.fKind, .bool d0.fBool, .int .i64 d0.fNum, S d0.fText, .slice A_1 d0.fList.length cap_1, .slice A_2 d0.fKeys.length cap_2]) rfl (ad := ⟨b_1, 0, none⟩) (by kernel_rfl) (by kernel_rfl) (fun j v h => pq.cell ((fzu ((((hM_2.trans hM_3).trans hM_4).trans hM_5).trans hM_6) hc_2) j v h))) (fun a_59 f_71 => ?_)
          refine M_eq (v := .agg #[.int .i8 d1.fKind, .bool d1.fBool, .int .i64 d1.fNum, S d1.fText, .slice A_3 d1.fList.length cap_3, .slice A_4 d1.fKeys.length cap_4]) f_71 (by kernel_rfl) (by kernel_rfl) rfl rfl (fun _ pq => X_loadN (cs := [.int .i8 d1.fKind, .bool d1.fBool, .int .i64 d1.fNum, S d1.fText, .slice A_3 d1.fList.length cap_3, .slice A_4 d1.fKeys.length cap_4]) rfl (ad := ⟨b_2, 0, none⟩) (by kernel_rfl) (by kernel_rfl) (fun j v h => pq.cell ((fzu (((hM_3.trans hM_4).trans hM_5).trans hM_6) hc_4) j v h))) (fun a_60 f_72 => ?_)
          obtain ⟨x_14, hx_14, hF_32⟩ := bind_some' hF_31
          refine M_okv (v := .bool x_14) f_72 (by kernel_rfl) (by kernel_rfl) rfl rfl (fun _ => by kernel_rfl) (ref03_Equal_ok n _ _ d0 (T_api_Value.shutx (x := d0) (h_1.mono (((((hM_1.trans hM_2).trans hM_3).trans hM_4).trans hM_5).trans hM_6)) (h_2.mono (((((hM_1.trans hM_2).trans hM_3).trans hM_4).trans hM_5).trans hM_6))) _ d1 (T_api_Value.shutx (x := d1) (h_3.mono (((((hM_1.trans hM_2).trans hM_3).trans hM_4).trans hM_5).trans hM_6)) (h_4.mono (((((hM_1.trans hM_2).trans hM_3).trans hM_4).trans hM_5).trans hM_6))) x_14 hx_14) (fun a_61 f_73 => ?_)
          refine M_run default f_73 2 (by kernel_rfl) (fun _ => by kernel_rfl) (fun a_62 f_74 => ?_)
          rcases Bool.eq_false_or_eq_true (x_13 == x_14) with h_17 | h_17
          · have hF_33 := cnd_t h_17 hF_32
            have f_75 := Frm.set f_74 72 (v := .bool (x_13 == x_14)) (v' := .bool true) (by kernel_rfl) (congrArg Value.bool h_17)
            refine M_eq (v := .agg #[.int .i8 d0.fKind, .bool d0.fBool, .int .i64 d0.fNum, S d0.fText, .slice A_1 d0.fList.length cap_1, .slice A_2 d0.fKeys.length cap_2]) f_75 (by kernel_rfl) (by kernel_rfl) rfl rfl (fun _ pq => X_loadN (cs := [.int .i8 d0.fKind, .bool d0.fBool, .int .i64 d0.fNum, S d0.fText, .slice A_1 d0.fList.length cap_1, .slice A_2 d0.fKeys.length cap_2]) rfl (ad := ⟨b_1, 0, none⟩) (by kernel_rfl) (by kernel_rfl) (fun j v h => pq.cell ((fzu ((((hM_2.trans hM_3).trans hM_4).trans hM_5).trans hM_6) hc_2) j v h))) (fun a_63 f_76 => ?_)
            refine M_eq (v := .agg #[.int .i8 d1.fKind, .bool d1.fBool, .int .i64 d1.fNum, S d1.fText, .slice A_3 d1.fList.length cap_3, .slice A_4 d1.fKeys.length cap_4]) f_76 (by kernel_rfl) (by kernel_rfl) rfl rfl (fun _ pq => X_loadN (cs := [.int .i8 d1.fKind, .bool d1.fBool, .int .i64 d1.fNum, S d1.fText, .slice A_3 d1.fList.length cap_3, .slice A_4 d1.fKeys.length cap_4]) rfl (ad := ⟨b_2, 0, none⟩) (by kernel_rfl) (by kernel_rfl) (fun j v h => pq.cell ((fzu (((hM_3.trans hM_4).trans hM_5).trans hM_6) hc_4) j v h))) (fun a_64 f_77 => ?_)
            obtain ⟨x_15, hx_15, hF_34⟩ := bind_some' hF_33
            refine M_okv (v := .bool x_15) f_77 (by kernel_rfl) (by kernel_rfl) rfl rfl (fun _ => by kernel_rfl) (tree_Less_ok n _ (GL.mono (((((hM_1.trans hM_2).trans hM_3).trans hM_4).trans hM_5).trans hM_6) hG) _ d0 (T_api_Value.shutx (x := d0) (h_1.mono (((((hM_1.trans hM_2).trans hM_3).trans hM_4).trans hM_5).trans hM_6)) (h_2.mono (((((hM_1.trans hM_2).trans hM_3).trans hM_4).trans hM_5).trans hM_6))) _ d1 (T_api_Value.shutx (x := d1) (h_3.mono (((((hM_1.trans hM_2).trans hM_3).trans hM_4).trans hM_5).trans hM_6)) (h_4.mono (((((hM_1.trans hM_2).trans hM_3).trans hM_4).trans hM_5).trans hM_6))) x_15 hx_15) (fun a_65 f_78 => ?_)
            refine M_eq (v := .agg #[.int .i8 d0.fKind, .bool d0.fBool, .int .i64 d0.fNum, S d0.fText, .slice A_1 d0.fList.length cap_1, .slice A_2 d0.fKeys.length cap_2]) f_78 (by kernel_rfl) (by kernel_rfl) rfl rfl (fun _ pq => X_loadN (cs := [.int .i8 d0.fKind, .bool d0.fBool, .int .i64 d0.fNum, S d0.fText, .slice A_1 d0.fList.length cap_1, .slice A_2 d0.fKeys.length cap_2]) rfl (ad := ⟨b_1, 0, none⟩) (by kernel_rfl) (by kernel_rfl) (fun j v h => pq.cell ((fzu ((((hM_2.trans hM_3).trans hM_4).trans hM_5).trans hM_6) hc_2) j v h))) (fun a_66 f_79 => ?_)
            refine M_eq (v := .agg #[.int .i8 d1.fKind, .bool d1.fBool, .int .i64 d1.fNum, S d1.fText, .slice A_3 d1.fList.length cap_3, .slice A_4 d1.fKeys.length cap_4]) f_79 (by kernel_rfl) (by kernel_rfl) rfl rfl (fun _ pq => X_loadN (cs := [.int .i8 d1.fKind, .bool d1.fBool, .int .i64 d1.fNum, S d1.fText, .slice A_3 d1.fList.length cap_3, .slice A_4 d1.fKeys.length cap_4]) rfl (ad := ⟨b_2, 0, none⟩) (by kernel_rfl) (by kernel_rfl) (fun j v h => pq.cell ((fzu (((hM_3.trans hM_4).trans hM_5).trans hM_6) hc_4) j v h))) (fun a_67 f_80 => ?_)
            obtain ⟨x_16, hx_16, hF_35⟩ := bind_some' hF_34
            refine M_okv (v := .bool x_16) f_80 (by kernel_rfl) (by kernel_rfl) rfl rfl (fun _ => by kernel_rfl) (ref03_Less_ok n _ _ d0 (T_api_Value.shutx (x := d0) (h_1.mono (((((hM_1.trans hM_2).trans hM_3).trans hM_4).trans hM_5).trans hM_6)) (h_2.mono (((((hM_1.trans hM_2).trans hM_3).trans hM_4).trans hM_5).trans hM_6))) _ d1 (T_api_Value.shutx (x := d1) (h_3.mono (((((hM_1.trans hM_2).trans hM_3).trans hM_4).trans hM_5).trans hM_6)) (h_4.mono (((((hM_1.trans hM_2).trans hM_3).trans hM_4).trans hM_5).trans hM_6))) x_16 hx_16) (fun a_68 f_81 => ?_)
            refine M_run default f_81 3 (by kernel_rfl) (fun _ => by kernel_rfl) (fun a_69 f_82 => ?_)
            rcases Bool.eq_false_or_eq_true (x_15 == x_16) with h_18 | h_18
            · have hF_36 := cnd_t h_18 hF_35
              have f_83 := Frm.set f_82 81 (v := .bool (x_15 == x_16)) (v' := .bool true) (by kernel_rfl) (congrArg Value.bool h_18)
              refine M_eq (v := .agg #[.int .i8 d0.fKind, .bool d0.fBool, .int .i64 d0.fNum, S d0.fText, .slice A_1 d0.fList.length cap_1, .slice A_2 d0.fKeys.length cap_2]) f_83 (by kernel_rfl) (by kernel_rfl) rfl rfl (fun _ pq => X_loadN (cs := [.int .i8 d0.fKind, .bool d0.fBool, .int .i64 d0.fNum, S d0.fText, .slice A_1 d0.fList.length cap_1, .slice A_2 d0.fKeys.length cap_2]) rfl (ad := ⟨b_1, 0, none⟩) (by kernel_rfl) (by kernel_rfl) (fun j v h => pq.cell ((fzu ((((hM_2.trans hM_3).trans hM_4).trans hM_5).trans hM_6) hc_2) j v h))) (fun a_70 f_84 => ?_)
              refine M_eq (v := .agg #[.int .i8 d0.fKind, .bool d0.fBool, .int .i64 d0.fNum, S d0.fText, .slice A_1 d0.fList.length cap_1, .slice A_2 d0.fKeys.length cap_2]) f_84 (by kernel_rfl) (by kernel_rfl) rfl rfl (fun _ pq => X_loadN (cs := [.int .i8 d0.fKind, .bool d0.fBool, .int .i64 d0.fNum, S d0.fText, .slice A_1 d0.fList.length cap_1, .slice A_2 d0.fKeys.length cap_2]) rfl (ad := ⟨b_1, 0, none⟩) (by kernel_rfl) (by kernel_rfl) (fun j v h => pq.cell ((fzu ((((hM_2.trans hM_3).trans hM_4).trans hM_5).trans hM_6) hc_2) j v h))) (fun a_71 f_85 => ?_)
              refine M_fix (E := []) (fun w_30 p_30 => ?_)
              obtain ⟨x_17, hx_17, hF_37⟩ := bind_some' hF_36
              refine V_ok f_85 p_30 (tree_Sorted_ok n _ (GL.mono (((((hM_1.trans hM_2).trans hM_3).trans hM_4).trans hM_5).trans hM_6) hG) _ d0 (T_api_Value.shutx (x := d0) (h_1.mono (((((hM_1.trans hM_2).trans hM_3).trans hM_4).trans hM_5).trans hM_6)) (h_2.mono (((((hM_1.trans hM_2).trans hM_3).trans hM_4).trans hM_5).trans hM_6))) x_17 hx_17) (by kernel_rfl) (fun _ => by kernel_rfl) (fun u_3 M_7 w_31 hM_7 p_31 q_3 a_72 f_86 => ?_)
              obtain ⟨c_3, rfl, hr_3⟩ := q_3
              obtain ⟨A_9, cap_9, A_10, cap_10, rfl, h_19, h_20⟩ := T_api_Value.opn hr_3
              refine W_end rfl ?_
              refine M_go (M1 := M_7) (E := []) hM_7 p_31 ?_
              refine M_fix (E := []) (fun w_32 p_32 => ?_)
              obtain ⟨x_18, hx_18, hF_38⟩ := bind_some' hF_37
              refine V_ok f_86 p_32 (ref03_Sorted_ok n _ _ d0 (T_api_Value.shutx (x := d0) (h_1.mono ((((((hM_1.trans hM_2).trans hM_3).trans hM_4).trans hM_5).trans hM_6).trans hM_7)) (h_2.mono ((((((hM_1.trans hM_2).trans hM_3).trans hM_4).trans hM_5).trans hM_6).trans hM_7))) x_18 hx_18) (by kernel_rfl) (fun _ => by kernel_rfl) (fun u_4 M_8 w_33 hM_8 p_33 q_4 a_73 f_87 => ?_)
              obtain ⟨c_4, rfl, hr_4⟩ := q_4
              obtain ⟨A_11, cap_11, A_12, cap_12, rfl, h_21, h_22⟩ := T_api_Value.opn hr_4
              refine W_end rfl ?_
              refine M_go (M1 := M_8) (E := []) (hM_7.trans hM_8) p_33 ?_
              refine M_fix (E := []) (fun w_34 p_34 => ?_)
              obtain ⟨x_19, hx_19, hF_39⟩ := bind_some' hF_38
              refine V_okv f_87 p_34 (ref03_Same_ok n _ _ x_17 (T_api_Value.shutx (x := x_17) (h_19.mono hM_8) (h_20.mono hM_8)) _ x_18 (T_api_Value.shutx (x := x_18) h_21 h_22) x_19 hx_19) (by kernel_rfl) (fun _ => by kernel_rfl) (fun w_35 p_35 a_74 f_88 => ?_)
              refine W_end rfl ?_
              refine M_go (M1 := M_8) (E := []) (hM_7.trans hM_8) p_35 ?_
              refine M_run default f_88 2 (by kernel_rfl) (fun _ => by kernel_rfl) (fun a_75 f_89 => ?_)
              rcases Bool.eq_false_or_eq_true (x_19) with h_23 | h_23
              · have hF_40 := cnd_t h_23 hF_39
                have f_90 := Frm.set f_89 88 (v := .bool x_19) (v' := .bool true) (by kernel_rfl) (congrArg Value.bool h_23)
                refine M_run default f_90 2 (by kernel_rfl) (fun _ => by kernel_rfl) (fun a_76 f_91 => ?_)
                refine M_fix (E := []) (fun w_36 p_36 => ?_)
                obtain ⟨x_20, hx_20, hF_41⟩ := bind_some' hF_40
                refine V_ok f_91 p_36 (tree_Text_ok n _ d2 x_20 hx_20) (by kernel_rfl) (fun _ => by kernel_rfl) (fun u_5 M_9 w_37 hM_9 p_37 q_5 a_77 f_92 => ?_)
                obtain ⟨c_5, rfl, hr_5⟩ := q_5
                obtain ⟨A_13, cap_13, A_14, cap_14, rfl, h_24, h_25⟩ := T_api_Value.opn hr_5
                refine W_end rfl ?_
                refine M_go (M1 := M_9) (E := []) ((hM_7.trans hM_8).trans hM_9) p_37 ?_
                refine M_fix (E := []) (fun w_38 p_38 => ?_)
                obtain ⟨x_21, hx_21, hF_42⟩ := bind_some' hF_41
                refine V_ok f_92 p_38 (ref03_Text_ok n _ d2 x_21 hx_21) (by kernel_rfl) (fun _ => by kernel_rfl) (fun u_6 M_10 w_39 hM_10 p_39 q_6 a_78 f_93 => ?_)
                obtain ⟨c_6, rfl, hr_6⟩ := q_6
                obtain ⟨A_15, cap_15, A_16, cap_16, rfl, h_26, h_27⟩ := T_api_Value.opn hr_6
                refine W_end rfl ?_
                refine M_go (M1 := M_10) (E := []) (((hM_7.trans hM_8).trans hM_9).trans hM_10) p_39 ?_
                refine M_fix (E := []) (fun w_40 p_40 => ?_)
                obtain ⟨x_22, hx_22, hF_43⟩ := bind_some' hF_42
                refine V_okv f_93 p_40 (ref03_Same_ok n _ _ x_20 (T_api_Value.shutx (x := x_20) (h_24.mono hM_10) (h_25.mono hM_10)) _ x_21 (T_api_Value.shutx (x := x_21) h_26 h_27) x_22 hx_22) (by kernel_rfl) (fun _ => by kernel_rfl) (fun w_41 p_41 a_79 f_94 => ?_)
                refine W_end rfl ?_
                refine M_go (M1 := M_10) (E := []) (((hM_7.trans hM_8).trans hM_9).trans hM_10) p_41 ?_
                refine M_run default f_94 2 (by kernel_rfl) (fun _ => by kernel_rfl) (fun a_80 f_95 => ?_)
                rcases Bool.eq_false_or_eq_true (x_22) with h_28 | h_28
                · have hF_44 := cnd_t h_28 hF_43
                  have f_96 := Frm.set f_95 95 (v := .bool x_22) (v' := .bool true) (by kernel_rfl) (congrArg Value.bool h_28)
                  refine M_run default f_96 4 (by kernel_rfl) (fun _ => by kernel_rfl) (fun a_81 f_97 => ?_)
                  refine M_fix (E := []) (fun w_42 p_42 => ?_)
                  obtain ⟨x_23, hx_23, hF_45⟩ := bind_some' hF_44
                  refine V_ok f_97 p_42 (tree_Num_ok n _ (d2.length : Int) x_23 hx_23) (by kernel_rfl) (fun _ => by kernel_rfl) (fun u_7 M_11 w_43 hM_11 p_43 q_7 a_82 f_98 => ?_)
                  obtain ⟨c_7, rfl, hr_7⟩ := q_7
                  obtain ⟨A_17, cap_17, A_18, cap_18, rfl, h_29, h_30⟩ := T_api_Value.opn hr_7
                  refine W_end rfl ?_
                  refine M_go (M1 := M_11) (E := []) ((((hM_7.trans hM_8).trans hM_9).trans hM_10).trans hM_11) p_43 ?_
                  refine M_fix (E := []) (fun w_44 p_44 => ?_)
                  obtain ⟨x_24, hx_24, hF_46⟩ := bind_some' hF_45
                  refine V_ok f_98 p_44 (ref03_Num_ok n _ (d2.length : Int) x_24 hx_24) (by kernel_rfl) (fun _ => by kernel_rfl) (fun u_8 M_12 w_45 hM_12 p_45 q_8 a_83 f_99 => ?_)
                  obtain ⟨c_8, rfl, hr_8⟩ := q_8
                  obtain ⟨A_19, cap_19, A_20, cap_20, rfl, h_31, h_32⟩ := T_api_Value.opn hr_8
                  refine W_end rfl ?_
                  refine M_go (M1 := M_12) (E := []) (((((hM_7.trans hM_8).trans hM_9).trans hM_10).trans hM_11).trans hM_12) p_45 ?_
                  refine M_fix (E := []) (fun w_46 p_46 => ?_)
                  obtain ⟨x_25, hx_25, hF_47⟩ := bind_some' hF_46
                  refine V_okv f_99 p_46 (ref03_Same_ok n _ _ x_23 (T_api_Value.shutx (x := x_23) (h_29.mono hM_12) (h_30.mono hM_12)) _ x_24 (T_api_Value.shutx (x := x_24) h_31 h_32) x_25 hx_25) (by kernel_rfl) (fun _ => by kernel_rfl) (fun w_47 p_47 a_84 f_100 => ?_)
                  refine W_end rfl ?_
                  refine M_go (M1 := M_12) (E := []) (((((hM_7.trans hM_8).trans hM_9).trans hM_10).trans hM_11).trans hM_12) p_47 ?_
                  refine M_run default f_100 2 (by kernel_rfl) (fun _ => by kernel_rfl) (fun a_85 f_101 => ?_)
                  refine M_fix (E := []) (fun w_48 p_48 => ?_)
                  rcases Bool.eq_false_or_eq_true (x_25) with h_33 | h_33
                  · have hF_48 := cnd_t h_33 hF_47
                    have f_102 := Frm.set f_101 104 (v := .bool x_25) (v' := .bool true) (by kernel_rfl) (congrArg Value.bool h_33)
                    obtain ⟨x_26, hx_26, hF_49⟩ := bind_some' hF_48
                    refine V_okv f_102 p_48 (law03_wakes_ok n _ (GL.mono (((((((((((hM_1.trans hM_2).trans hM_3).trans hM_4).trans hM_5).trans hM_6).trans hM_7).trans hM_8).trans hM_9).trans hM_10).trans hM_11).trans hM_12) hG) x_26 hx_26) (by kernel_rfl) (fun _ => by kernel_rfl) (fun w_49 p_49 a_86 f_103 => ?_)
                    refine W_end rfl ?_
                    refine M_go (M1 := M_12) (E := []) (((((hM_7.trans hM_8).trans hM_9).trans hM_10).trans hM_11).trans hM_12) p_49 ?_
                    refine M_run default f_103 2 (by kernel_rfl) (fun _ => by kernel_rfl) (fun a_87 f_104 => ?_)
                    refine M_end rfl (fun w_50 p_50 => ?_)
                    refine T_n (wp_ret ?_)
                    refine E_ret1 f_104 rfl (by kernel_rfl : Vc.look _ 6 = some (.bool x_26)) ?_
                    obtain rfl := Option.some.inj hF_49
                    exact ⟨_, rfl, M_12, (((((((((((hM_1.trans hM_2).trans hM_3).trans hM_4).trans hM_5).trans hM_6).trans hM_7).trans hM_8).trans hM_9).trans hM_10).trans hM_11).trans hM_12), (p_50.dropN 2), rfl⟩
                  · have hF_50 := cnd_f h_33 hF_47
                    have f_105 := Frm.set f_101 104 (v := .bool x_25) (v' := .bool false) (by kernel_rfl) (congrArg Value.bool h_33)
                    refine V_run f_105 1 (by kernel_rfl) (fun a_88 f_106 => ?_)
                    refine W_end rfl ?_
                    refine M_go (M1 := M_12) (E := []) (((((hM_7.trans hM_8).trans hM_9).trans hM_10).trans hM_11).trans hM_12) p_48 ?_
                    refine M_run default f_106 2 (by kernel_rfl) (fun _ => by kernel_rfl) (fun a_89 f_107 => ?_)
                    refine M_end rfl (fun w_51 p_51 => ?_)
                    refine T_n (wp_ret ?_)
                    refine E_ret1 f_107 rfl (by kernel_rfl : Vc.look _ 6 = some (.bool false)) ?_
                    obtain rfl := Option.some.inj hF_50
                    exact ⟨_, rfl, M_12, (((((((((((hM_1.trans hM_2).trans hM_3).trans hM_4).trans hM_5).trans hM_6).trans hM_7).trans hM_8).trans hM_9).trans hM_10).trans hM_11).trans hM_12), (p_51.dropN 2), rfl⟩
                · have hF_51 := cnd_f h_28 hF_43
                  have f_108 := Frm.set f_95 95 (v := .bool x_22) (v' := .bool false) (by kernel_rfl) (congrArg Value.bool h_28)
                  refine M_run default f_108 4 (by kernel_rfl) (fun _ => by kernel_rfl) (fun a_90 f_109 => ?_)
                  refine M_fix (E := []) (fun w_52 p_52 => ?_)
                  refine V_run f_109 1 (by kernel_rfl) (fun a_91 f_110 => ?_)
                  refine W_end rfl ?_
                  refine M_go (M1 := M_10) (E := []) (((hM_7.trans hM_8).trans hM_9).trans hM_10) p_52 ?_
                  refine M_fix (E := []) (fun w_53 p_53 => ?_)
                  refine V_run f_110 1 (by kernel_rfl) (fun a_92 f_111 => ?_)
                  refine W_end rfl ?_
                  refine M_go (M1 := M_10) (E := []) (((hM_7.trans hM_8).trans hM_9).trans hM_10) p_53 ?_
                  refine M_fix (E := []) (fun w_54 p_54 => ?_)
                  refine V_run f_111 1 (by kernel_rfl) (fun a_93 f_112 => ?_)
                  refine W_end rfl ?_
                  refine M_go (M1 := M_10) (E := []) (((hM_7.trans hM_8).trans hM_9).trans hM_10) p_54 ?_
                  refine M_run default f_112 2 (by kernel_rfl) (fun _ => by kernel_rfl) (fun a_94 f_113 => ?_)
                  refine M_fix (E := []) (fun w_55 p_55 => ?_)
                  refine V_run f_113 1 (by kernel_rfl) (fun a_95 f_114 => ?_)
                  refine W_end rfl ?_
                  refine M_go (M1 := M_10) (E := []) (((hM_7.trans hM_8).trans hM_9).trans hM_10) p_55 ?_
                  refine M_run default f_114 2 (by kernel_rfl) (fun _ => by kernel_rfl) (fun a_96 f_115 => ?_)
                  refine M_end rfl (fun w_56 p_56 => ?_)
                  refine T_n (wp_ret ?_)
                  refine E_ret1 f_115 rfl (by kernel_rfl : Vc.look _ 6 = some (.bool false)) ?_
                  obtain rfl := Option.some.inj hF_51
                  exact ⟨_, rfl, M_10, (((((((((hM_1.trans hM_2).trans hM_3).trans hM_4).trans hM_5).trans hM_6).trans hM_7).trans hM_8).trans hM_9).trans hM_10), (p_56.dropN 2), rfl⟩
              · have hF_52 := cnd_f h_23 hF_39
                have f_116 := Frm.set f_89 88 (v := .bool x_19) (v' := .bool false) (by kernel_rfl) (congrArg Value.bool h_23)
                refine M_run default f_116 2 (by kernel_rfl) (fun _ => by kernel_rfl) (fun a_97 f_117 => ?_)
                refine M_fix (E := []) (fun w_57 p_57 => ?_)
                refine V_run f_117 1 (by kernel_rfl) (fun a_98 f_118 => ?_)
                refine W_end rfl ?_
                refine M_go (M1 := M_8) (E := []) (hM_7.trans hM_8) p_57 ?_
                refine M_fix (E := []) (fun w_58 p_58 => ?_)
                refine V_run f_118 1 (by kernel_rfl) (fun a_99 f_119 => ?_)
                refine W_end rfl ?_
                refine M_go (M1 := M_8) (E := []) (hM_7.trans hM_8) p_58 ?_
                refine M_fix (E := []) (fun w_59 p_59 => ?_)
                refine V_run f_119 1 (by kernel_rfl) (fun a_100 f_120 => ?_)
                refine W_end rfl ?_
                refine M_go (M1 := M_8) (E := []) (hM_7.trans hM_8) p_59 ?_
                refine M_run default f_120 6 (by kernel_rfl) (fun _ => by kernel_rfl) (fun a_101 f_121 => ?_)
                refine M_fix (E := []) (fun w_60 p_60 => ?_)
                refine V_run f_121 1 (by kernel_rfl) (fun a_102 f_122 => ?_)
                refine W_end rfl ?_
                refine M_go (M1 := M_8) (E := []) (hM_7.trans hM_8) p_60 ?_
                refine M_fix (E := []) (fun w_61 p_61 => ?_)
                refine V_run f_122 1 (by kernel_rfl) (fun a_103 f_123 => ?_)
                refine W_end rfl ?_
                refine M_go (M1 := M_8) (E := []) (hM_7.trans hM_8) p_61 ?_
                refine M_fix (E := []) (fun w_62 p_62 => ?_)
                refine V_run f_123 1 (by kernel_rfl) (fun a_104 f_124 => ?_)
                refine W_end rfl ?_
                refine M_go (M1 := M_8) (E := []) (hM_7.trans hM_8) p_62 ?_
                refine M_run default f_124 2 (by kernel_rfl) (fun _ => by kernel_rfl) (fun a_105 f_125 => ?_)
                refine M_fix (E := []) (fun w_63 p_63 => ?_)
                refine V_run f_125 1 (by kernel_rfl) (fun a_106 f_126 => ?_)
                refine W_end rfl ?_
                refine M_go (M1 := M_8) (E := []) (hM_7.trans hM_8) p_63 ?_
                refine M_run default f_126 2 (by kernel_rfl) (fun _ => by kernel_rfl) (fun a_107 f_127 => ?_)
                refine M_end rfl (fun w_64 p_64 => ?_)
                refine T_n (wp_ret ?_)
                refine E_ret1 f_127 rfl (by kernel_rfl : Vc.look _ 6 = some (.bool false)) ?_
                obtain rfl := Option.some.inj hF_52
                exact ⟨_, rfl, M_8, (((((((hM_1.trans hM_2).trans hM_3).trans hM_4).trans hM_5).trans hM_6).trans hM_7).trans hM_8), (p_64.dropN 2), rfl⟩
            · have hF_53 := cnd_f h_18 hF_35
              have f_128 := Frm.set f_82 81 (v := .bool (x_15 == x_16)) (v' := .bool false) (by kernel_rfl) (congrArg Value.bool h_18)
              refine M_run default f_128 2 (by kernel_rfl) (fun _ => by kernel_rfl) (fun a_108 f_129 => ?_)
              refine M_fix (E := []) (fun w_65 p_65 => ?_)
              refine V_run f_129 1 (by kernel_rfl) (fun a_109 f_130 => ?_)
              refine W_end rfl ?_
              refine M_go (M1 := M_6) (E := []) (Mem.le_refl _) p_65 ?_
              refine M_fix (E := []) (fun w_66 p_66 => ?_)
              refine V_run f_130 1 (by kernel_rfl) (fun a_110 f_131 => ?_)
              refine W_end rfl ?_
              refine M_go (M1 := M_6) (E := []) (Mem.le_refl _) p_66 ?_
              refine M_fix (E := []) (fun w_67 p_67 => ?_)
              refine V_run f_131 1 (by kernel_rfl) (fun a_111 f_132 => ?_)
              refine W_end rfl ?_
              refine M_go (M1 := M_6) (E := []) (Mem.le_refl _) p_67 ?_
              refine M_run default f_132 4 (by kernel_rfl) (fun _ => by kernel_rfl) (fun a_112 f_133 => ?_)
              refine M_fix (E := []) (fun w_68 p_68 => ?_)
              refine V_run f_133 1 (by kernel_rfl) (fun a_113 f_134 => ?_)
              refine W_end rfl ?_
              refine M_go (M1 := M_6) (E := []) (Mem.le_refl _) p_68 ?_
              refine M_fix (E := []) (fun w_69 p_69 => ?_)
              refine V_run f_134 1 (by kernel_rfl) (fun a_114 f_135 => ?_)
              refine W_end rfl ?_
              refine M_go (M1 := M_6) (E := []) (Mem.le_refl _) p_69 ?_
              refine M_fix (E := []) (fun w_70 p_70 => ?_)
              refine V_run f_135 1 (by kernel_rfl) (fun a_115 f_136 => ?_)
              refine W_end rfl ?_
              refine M_go (M1 := M_6) (E := []) (Mem.le_refl _) p_70 ?_
              refine M_run default f_136 6 (by kernel_rfl) (fun _ => by kernel_rfl) (fun a_116 f_137 => ?_)
              refine M_fix (E := []) (fun w_71 p_71 => ?_)
              refine V_run f_137 1 (by kernel_rfl) (fun a_117 f_138 => ?_)
              refine W_end rfl ?_
              refine M_go (M1 := M_6) (E := []) (Mem.le_refl _) p_71 ?_
              refine M_fix (E := []) (fun w_72 p_72 => ?_)
              refine V_run f_138 1 (by kernel_rfl) (fun a_118 f_139 => ?_)
              refine W_end rfl ?_
              refine M_go (M1 := M_6) (E := []) (Mem.le_refl _) p_72 ?_
              refine M_fix (E := []) (fun w_73 p_73 => ?_)
              refine V_run f_139 1 (by kernel_rfl) (fun a_119 f_140 => ?_)
              refine W_end rfl ?_
              refine M_go (M1 := M_6) (E := []) (Mem.le_refl _) p_73 ?_
              refine M_run default f_140 2 (by kernel_rfl) (fun _ => by kernel_rfl) (fun a_120 f_141 => ?_)
              refine M_fix (E := []) (fun w_74 p_74 => ?_)
              refine V_run f_141 1 (by kernel_rfl) (fun a_121 f_142 => ?_)
              refine W_end rfl ?_
              refine M_go (M1 := M_6) (E := []) (Mem.le_refl _) p_74 ?_
              refine M_run default f_142 2 (by kernel_rfl) (fun _ => by kernel_rfl) (fun a_122 f_143 => ?_)
              refine M_end rfl (fun w_75 p_75 => ?_)
              refine T_n (wp_ret ?_)
              refine E_ret1 f_143 rfl (by kernel_rfl : Vc.look _ 6 = some (.bool false)) ?_
              obtain rfl := Option.some.inj hF_53
              exact ⟨_, rfl, M_6, (((((hM_1.trans hM_2).trans hM_3).trans hM_4).trans hM_5).trans hM_6), (p_75.dropN 2), rfl⟩
          · have hF_54 := cnd_f h_17 hF_32
            have f_144 := Frm.set f_74 72 (v := .bool (x_13 == x_14)) (v' := .bool false) (by kernel_rfl) (congrArg Value.bool h_17)
            refine M_run default f_144 11 (by kernel_rfl) (fun _ => by kernel_rfl) (fun a_123 f_145 => ?_)
            refine M_fix (E := []) (fun w_76 p_76 => ?_)
            refine V_run f_145 1 (by kernel_rfl) (fun a_124 f_146 => ?_)
            refine W_end rfl ?_
            refine M_go (M1 := M_6) (E := []) (Mem.le_refl _) p_76 ?_
            refine M_fix (E := []) (fun w_77 p_77 => ?_)
            refine V_run f_146 1 (by kernel_rfl) (fun a_125 f_147 => ?_)
            refine W_end rfl ?_
            refine M_go (M1 := M_6) (E := []) (Mem.le_refl _) p_77 ?_
            refine M_fix (E := []) (fun w_78 p_78 => ?_)
            refine V_run f_147 1 (by kernel_rfl) (fun a_126 f_148 => ?_)
            refine W_end rfl ?_
            refine M_go (M1 := M_6) (E := []) (Mem.le_refl _) p_78 ?_
            refine M_run default f_148 4 (by kernel_rfl) (fun _ => by kernel_rfl) (fun a_127 f_149 => ?_)
            refine M_fix (E := []) (fun w_79 p_79 => ?_)
            refine V_run f_149 1 (by kernel_rfl) (fun a_128 f_150 => ?_)
            refine W_end rfl ?_
            refine M_go (M1 := M_6) (E := []) (Mem.le_refl _) p_79 ?_
            refine M_fix (E := []) (fun w_80 p_80 => ?_)
            refine V_run f_150 1 (by kernel_rfl) (fun a_129 f_151 => ?_)
            refine W_end rfl ?_
            refine M_go (M1 := M_6) (E := []) (Mem.le_refl _) p_80 ?_
            refine M_fix (E := []) (fun w_81 p_81 => ?_)
            refine V_run f_151 1 (by kernel_rfl) (fun a_130 f_152 => ?_)
            refine W_end rfl ?_
            refine M_go (M1 := M_6) (E := []) (Mem.le_refl _) p_81 ?_
            refine M_run default f_152 6 (by kernel_rfl) (fun _ => by kernel_rfl) (fun a_131 f_153 => ?_)
            refine M_fix (E := []) (fun w_82 p_82 => ?_)
            refine V_run f_153 1 (by kernel_rfl) (fun a_132 f_154 => ?_)
            refine W_end rfl ?_
            refine M_go (M1 := M_6) (E := []) (Mem.le_refl _) p_82 ?_
            refine M_fix (E := []) (fun w_83 p_83 => ?_)
            refine V_run f_154 1 (by kernel_rfl) (fun a_133 f_155 => ?_)
            refine W_end rfl ?_
            refine M_go (M1 := M_6) (E := []) (Mem.le_refl _) p_83 ?_
            refine M_fix (E := []) (fun w_84 p_84 => ?_)
            refine V_run f_155 1 (by kernel_rfl) (fun a_134 f_156 => ?_)
            refine W_end rfl ?_
            refine M_go (M1 := M_6) (E := []) (Mem.le_refl _) p_84 ?_
            refine M_run default f_156 2 (by kernel_rfl) (fun _ => by kernel_rfl) (fun a_135 f_157 => ?_)
            refine M_fix (E := []) (fun w_85 p_85 => ?_)
            refine V_run f_157 1 (by kernel_rfl) (fun a_136 f_158 => ?_)
            refine W_end rfl ?_
            refine M_go (M1 := M_6) (E := []) (Mem.le_refl _) p_85 ?_
            refine M_run default f_158 2 (by kernel_rfl) (fun _ => by kernel_rfl) (fun a_137 f_159 => ?_)
            refine M_end rfl (fun w_86 p_86 => ?_)
            refine T_n (wp_ret ?_)
            refine E_ret1 f_159 rfl (by kernel_rfl : Vc.look _ 6 = some (.bool false)) ?_
            obtain rfl := Option.some.inj hF_54
            exact ⟨_, rfl, M_6, (((((hM_1.trans hM_2).trans hM_3).trans hM_4).trans hM_5).trans hM_6), (p_86.dropN 2), rfl⟩
end Go.Proofs.YtekkifakjkhjiaaDoor
