/-
  Printed by a program: of each function its shallow reading, and the proof that the function gives what the reading gives. No condition.
-/
import Derived.Test.YtekkifakjkhjiaaDoorQ4d
set_option linter.unusedVariables false
set_option linter.unusedSimpArgs false
namespace Go.Proofs.YtekkifakjkhjiaaDoor
open Go Go.Vc Go.RowKit
def tree_Less (n : Nat) (d0 : T_api_Value) (d1 : T_api_Value) : Option Bool :=
  (tree_both n d0 d1).bind fun x_1 =>
  bif x_1.2 then
    (some ((decide (x_1.1 < 0))))
  else
    some ((false))
theorem tree_Less_ok (n : Nat) (M : Mem) (hG : GL M) (c0 : List Value) (d0 : T_api_Value) (h0 : Rep M (emb_T_api_Value d0) c0) (c1 : List Value) (d1 : T_api_Value) (h1 : Rep M (emb_T_api_Value d1) c1) (r : Bool) (hF : tree_Less n d0 d1 = some r) : Ok Tryd.prog M 20 [.agg c0.toArray, .agg c1.toArray] (fun _ v => v = .bool r) := by
  unfold tree_Less at hF
  intro M1 hM0 w0 H w p0
  replace hG := GL.mono hM0 hG
  replace h0 := Rep.mono hM0 _ _ h0
  replace h1 := Rep.mono hM0 _ _ h1
  obtain ⟨A_1, cap_1, A_2, cap_2, rfl, h_1, h_2⟩ := T_api_Value.opn h0
  obtain ⟨A_3, cap_3, A_4, cap_4, rfl, h_3, h_4⟩ := T_api_Value.opn h1
  refine R_enter 18 Tryd.func20 rfl rfl (by simp) (fun a0 f0 => ?_)
  refine R_seq (R_reg ?_)
  refine V_box (cs := #[.int .i8 d0.fKind, .bool d0.fBool, .int .i64 d0.fNum, S d0.fText, .slice A_1 d0.fList.length cap_1, .slice A_2 d0.fKeys.length cap_2]) (T := 26) f0 p0 (by kernel_rfl) (fun _ => by kernel_rfl) (fun b_1 M_1 w_1 hM_1 hc_1 p_1 a_1 f_1 => ?_)
  have hc_2 := fz_box hc_1
  refine V_box (cs := #[.int .i8 d1.fKind, .bool d1.fBool, .int .i64 d1.fNum, S d1.fText, .slice A_3 d1.fList.length cap_3, .slice A_4 d1.fKeys.length cap_4]) (T := 26) f_1 p_1 (by kernel_rfl) (fun _ => by kernel_rfl) (fun b_2 M_2 w_2 hM_2 hc_3 p_2 a_2 f_2 => ?_)
  have hc_4 := fz_box hc_3
  refine V_run f_2 1 (by kernel_rfl) (fun a_3 f_3 => ?_)
  refine W_end rfl (T_n (R_seq (R_reg ?_)))
  refine V_eq (v := .agg #[.int .i8 d0.fKind, .bool d0.fBool, .int .i64 d0.fNum, S d0.fText, .slice A_1 d0.fList.length cap_1, .slice A_2 d0.fKeys.length cap_2]) f_3 (by kernel_rfl) (X_loadN (cs := [.int .i8 d0.fKind, .bool d0.fBool, .int .i64 d0.fNum, S d0.fText, .slice A_1 d0.fList.length cap_1, .slice A_2 d0.fKeys.length cap_2]) rfl (ad := ⟨b_1, 0, none⟩) (by kernel_rfl) (by kernel_rfl) (fun j v h => p_2.cell ((fzu hM_2 hc_2) j v h))) (fun a_4 f_4 => ?_)
  refine V_eq (v := .agg #[.int .i8 d1.fKind, .bool d1.fBool, .int .i64 d1.fNum, S d1.fText, .slice A_3 d1.fList.length cap_3, .slice A_4 d1.fKeys.length cap_4]) f_4 (by kernel_rfl) (X_loadN (cs := [.int .i8 d1.fKind, .bool d1.fBool, .int .i64 d1.fNum, S d1.fText, .slice A_3 d1.fList.length cap_3, .slice A_4 d1.fKeys.length cap_4]) rfl (ad := ⟨b_2, 0, none⟩) (by kernel_rfl) (by kernel_rfl) (fun j v h => p_2.cell (hc_4 j v h))) (fun a_5 f_5 => ?_)
  obtain ⟨x_1, hx_1, hF_1⟩ := bind_some' hF
  refine V_okv f_5 p_2 (tree_both_ok n _ (GL.mono (hM_1.trans hM_2) hG) _ d0 (T_api_Value.shutx (x := d0) (h_1.mono (hM_1.trans hM_2)) (h_2.mono (hM_1.trans hM_2))) _ d1 (T_api_Value.shutx (x := d1) (h_3.mono (hM_1.trans hM_2)) (h_4.mono (hM_1.trans hM_2))) x_1 hx_1) (by kernel_rfl) (fun _ => by kernel_rfl) (fun w_3 p_3 a_6 f_6 => ?_)
  refine V_run f_6 5 (by kernel_rfl) (fun a_7 f_7 => ?_)
  refine W_end rfl (T_n (R_seq (R_reg ?_)))
  refine V_run f_7 2 (by kernel_rfl) (fun a_8 f_8 => ?_)
  rcases Bool.eq_false_or_eq_true (x_1.2) with h_5 | h_5
  · have hF_2 := cnd_t h_5 hF_1
    have f_9 := Frm.set f_8 14 (v := .bool x_1.2) (v' := .bool true) (by kernel_rfl) (congrArg Value.bool h_5)
    refine V_run f_9 4 (by kernel_rfl) (fun a_9 f_10 => ?_)
    refine W_end rfl (T_n (wp_ret ?_))
    refine E_ret1 f_10 rfl (by kernel_rfl : Vc.look _ 4 = some (.bool (decide (x_1.1 < 0)))) ?_
    obtain rfl := Option.some.inj hF_2
    exact ⟨_, rfl, M_2, (hM_1.trans hM_2), p_3, rfl⟩
  · have hF_3 := cnd_f h_5 hF_1
    have f_11 := Frm.set f_8 14 (v := .bool x_1.2) (v' := .bool false) (by kernel_rfl) (congrArg Value.bool h_5)
    refine V_run f_11 4 (by kernel_rfl) (fun a_10 f_12 => ?_)
    refine W_end rfl (T_n (wp_ret ?_))
    refine E_ret1 f_12 rfl (by kernel_rfl : Vc.look _ 4 = some (.bool false)) ?_
    obtain rfl := Option.some.inj hF_3
    exact ⟨_, rfl, M_2, (hM_1.trans hM_2), p_3, rfl⟩
end Go.Proofs.YtekkifakjkhjiaaDoor
