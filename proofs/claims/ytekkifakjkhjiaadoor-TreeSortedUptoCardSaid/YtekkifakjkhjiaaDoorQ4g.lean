/-
  Printed by a program: of each function its shallow reading, and the proof that the function gives what the reading gives. No condition.
-/
import Derived.Test.YtekkifakjkhjiaaDoorQ4b
import Derived.Test.YtekkifakjkhjiaaDoorQ4i
set_option linter.unusedVariables false
set_option linter.unusedSimpArgs false
namespace Go.Proofs.YtekkifakjkhjiaaDoor
open Go Go.Vc Go.RowKit
def tree_Sorted (n : Nat) (d0 : T_api_Value) : Option T_api_Value :=
  (tree_Check n d0).bind fun x_1 =>
  bif (!(decide (x_1 = 0))) then
    (some (d0))
  else
    (tree_sorted n d0).bind fun x_2 =>
    some (x_2)
theorem tree_Sorted_ok (n : Nat) (M : Mem) (hG : GL M) (c0 : List Value) (d0 : T_api_Value) (h0 : Rep M (emb_T_api_Value d0) c0) (r : T_api_Value) (hF : tree_Sorted n d0 = some r) : Ok Tryd.prog M 23 [.agg c0.toArray] (fun M' v => ∃ (c0 : List Value), v = .agg c0.toArray ∧ Rep M' (emb_T_api_Value r) c0) := by
  unfold tree_Sorted at hF
  intro M1 hM0 w0 H w p0
  replace hG := GL.mono hM0 hG
  replace h0 := Rep.mono hM0 _ _ h0
  obtain ⟨A_1, cap_1, A_2, cap_2, rfl, h_1, h_2⟩ := T_api_Value.opn h0
  refine R_enter 8 Tryd.func23 rfl rfl (by simp) (fun a0 f0 => ?_)
  refine R_seq (R_reg ?_)
  refine V_box (cs := #[.int .i8 d0.fKind, .bool d0.fBool, .int .i64 d0.fNum, S d0.fText, .slice A_1 d0.fList.length cap_1, .slice A_2 d0.fKeys.length cap_2]) (T := 26) f0 p0 (by kernel_rfl) (fun _ => by kernel_rfl) (fun b_1 M_1 w_1 hM_1 hc_1 p_1 a_1 f_1 => ?_)
  have hc_2 := fz_box hc_1
  refine V_alloc f_1 p_1 (.cells #[.int .i8 0, .bool false, .int .i64 0, S [], .slice none 0 0, .slice none 0 0] 26 (0, 0)) (by kernel_rfl) (fun _ => by kernel_rfl) (fun b_2 w_2 p_2 a_2 f_2 => ?_)
  refine W_end rfl (T_n (R_seq (R_seq (R_reg ?_))))
  refine V_eq (v := .agg #[.int .i8 d0.fKind, .bool d0.fBool, .int .i64 d0.fNum, S d0.fText, .slice A_1 d0.fList.length cap_1, .slice A_2 d0.fKeys.length cap_2]) f_2 (by kernel_rfl) (X_loadN (cs := [.int .i8 d0.fKind, .bool d0.fBool, .int .i64 d0.fNum, S d0.fText, .slice A_1 d0.fList.length cap_1, .slice A_2 d0.fKeys.length cap_2]) rfl (ad := ⟨b_1, 0, none⟩) (by kernel_rfl) (by kernel_rfl) (fun j v h => p_2.cell (hc_2 j v h))) (fun a_3 f_3 => ?_)
  obtain ⟨x_1, hx_1, hF_1⟩ := bind_some' hF
  refine V_okv f_3 p_2 (tree_Check_ok n _ (GL.mono hM_1 hG) _ d0 (T_api_Value.shutx (x := d0) (h_1.mono hM_1) (h_2.mono hM_1)) x_1 hx_1) (by kernel_rfl) (fun _ => by kernel_rfl) (fun w_3 p_3 a_4 f_4 => ?_)
  refine V_run f_4 1 (by kernel_rfl) (fun a_5 f_5 => ?_)
  refine W_end rfl (T_n ?_)
  refine R_cond f_5 (b := !(decide (x_1 = 0))) (by kernel_rfl) (by kernel_rfl) (fun h_3 => ?_) (fun h_3 => ?_)
  · have k_1 : ¬ (x_1 = 0) := (not_iff decide_eq_true_iff).1 h_3
    have hF_2 := cnd_t h_3 hF_1
    refine R_seq (R_reg ?_)
    refine V_eq (v := .agg #[.int .i8 d0.fKind, .bool d0.fBool, .int .i64 d0.fNum, S d0.fText, .slice A_1 d0.fList.length cap_1, .slice A_2 d0.fKeys.length cap_2]) f_5 (by kernel_rfl) (X_loadN (cs := [.int .i8 d0.fKind, .bool d0.fBool, .int .i64 d0.fNum, S d0.fText, .slice A_1 d0.fList.length cap_1, .slice A_2 d0.fKeys.length cap_2]) rfl (ad := ⟨b_1, 0, none⟩) (by kernel_rfl) (by kernel_rfl) (fun j v h => p_3.cell (hc_2 j v h))) (fun a_6 f_6 => ?_)
    refine W_storeN (vs := [.int .i8 d0.fKind, .bool d0.fBool, .int .i64 d0.fNum, S d0.fText, .slice A_1 d0.fList.length cap_1, .slice A_2 d0.fKeys.length cap_2]) (j := 0) f_6 p_3 (by kernel_rfl) (by kernel_rfl) rfl rfl (by kernel_rfl) (by kernel_rfl) (by simp [Value.oneCell', S]) (by kernel_rfl) (by simp) (by decide) (cs' := #[.int .i8 d0.fKind, .bool d0.fBool, .int .i64 d0.fNum, S d0.fText, .slice A_1 d0.fList.length cap_1, .slice A_2 d0.fKeys.length cap_2]) rfl (fun w_4 p_4 a_7 f_7 => ?_)
    refine W_end rfl (T_n (wp_ret (T_r ?_)))
    refine E_rv1 f_7 rfl (Rv.cellN (cs := [.int .i8 d0.fKind, .bool d0.fBool, .int .i64 d0.fNum, S d0.fText, .slice A_1 d0.fList.length cap_1, .slice A_2 d0.fKeys.length cap_2]) (ad := ⟨b_2, 0, none⟩) f_7 (by kernel_rfl) (by kernel_rfl) (own_cells (p_4.ownCell 0 rfl) 0 rfl)) ?_
    obtain rfl := Option.some.inj hF_2
    exact ⟨_, rfl, M_1, hM_1, (p_4.dropN 1), ⟨[.int .i8 d0.fKind, .bool d0.fBool, .int .i64 d0.fNum, S d0.fText, .slice A_1 d0.fList.length cap_1, .slice A_2 d0.fKeys.length cap_2], rfl, (T_api_Value.shutx (x := d0) (h_1.mono hM_1) (h_2.mono hM_1))⟩⟩
  · have k_2 : ¬ (¬ (x_1 = 0)) := iff_f (not_iff decide_eq_true_iff) h_3
    have hF_3 := cnd_f h_3 hF_1
    refine wp_skip (T_n (R_seq (R_reg ?_)))
    obtain ⟨x_2, hx_2, hF_4⟩ := bind_some' hF_3
    refine V_ok f_5 p_3 (tree_sorted_ok n _ (GL.mono hM_1 hG) (⟨b_1, 0, none⟩) [.int .i8 d0.fKind, .bool d0.fBool, .int .i64 d0.fNum, S d0.fText, .slice A_1 d0.fList.length cap_1, .slice A_2 d0.fKeys.length cap_2] d0 (T_api_Value.shutx (x := d0) (h_1.mono hM_1) (h_2.mono hM_1)) (fz_at (hc_2) 0 rfl) x_2 hx_2) (by kernel_rfl) (fun _ => by kernel_rfl) (fun u_1 M_2 w_5 hM_2 p_5 q_1 a_8 f_8 => ?_)
    obtain ⟨c_1, rfl, hr_1⟩ := q_1
    obtain ⟨A_3, cap_3, A_4, cap_4, rfl, h_4, h_5⟩ := T_api_Value.opn hr_1
    refine W_storeN (vs := [.int .i8 x_2.fKind, .bool x_2.fBool, .int .i64 x_2.fNum, S x_2.fText, .slice A_3 x_2.fList.length cap_3, .slice A_4 x_2.fKeys.length cap_4]) (j := 0) f_8 p_5 (by kernel_rfl) (by kernel_rfl) rfl rfl (by kernel_rfl) (by kernel_rfl) (by simp [Value.oneCell', S]) (by kernel_rfl) (by simp) (by decide) (cs' := #[.int .i8 x_2.fKind, .bool x_2.fBool, .int .i64 x_2.fNum, S x_2.fText, .slice A_3 x_2.fList.length cap_3, .slice A_4 x_2.fKeys.length cap_4]) rfl (fun w_6 p_6 a_9 f_9 => ?_)
    refine W_end rfl (T_n (wp_ret ?_))
    refine E_rv1 f_9 rfl (Rv.cellN (cs := [.int .i8 x_2.fKind, .bool x_2.fBool, .int .i64 x_2.fNum, S x_2.fText, .slice A_3 x_2.fList.length cap_3, .slice A_4 x_2.fKeys.length cap_4]) (ad := ⟨b_2, 0, none⟩) f_9 (by kernel_rfl) (by kernel_rfl) (own_cells (p_6.ownCell 0 rfl) 0 rfl)) ?_
    obtain rfl := Option.some.inj hF_4
    exact ⟨_, rfl, M_2, (hM_1.trans hM_2), (p_6.dropN 1), ⟨[.int .i8 x_2.fKind, .bool x_2.fBool, .int .i64 x_2.fNum, S x_2.fText, .slice A_3 x_2.fList.length cap_3, .slice A_4 x_2.fKeys.length cap_4], rfl, (T_api_Value.shutx (x := x_2) h_4 h_5)⟩⟩
end Go.Proofs.YtekkifakjkhjiaaDoor
