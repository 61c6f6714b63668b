/-
  Printed by a program: of each function its shallow reading, and the proof that the function gives what the reading gives. No condition.
-/
import Derived.Test.YtekkifakjkhjiaaDoorQ4b
import Derived.Test.YtekkifakjkhjiaaDoorQ3e
set_option linter.unusedVariables false
set_option linter.unusedSimpArgs false
namespace Go.Proofs.YtekkifakjkhjiaaDoor
open Go Go.Vc Go.RowKit
def tree_Get (n : Nat) (d0 : T_api_Value) (d1 : List UInt8) : Option (T_api_Value × Bool) :=
  (slices_Indexstring_string n d0.fKeys d1).bind fun x_1 =>
  ((bif (!(decide (d0.fKind = 5))) then
      (some ((true)))
    else
      bif (!(decide (((d0.fKeys.length : Nat) : Int) = ((d0.fList.length : Nat) : Int)))) then
        (some ((true)))
      else
        some ((decide (x_1 < 0))) : Option Bool)).bind fun y_1 =>
  bif y_1 then
    (some ((z_T_api_Value, (false))))
  else
    (getI d0.fList x_1).bind fun x_2 =>
    some ((x_2, (true)))
theorem tree_Get_ok (n : Nat) (M : Mem) (hG : GL M) (c0 : List Value) (d0 : T_api_Value) (h0 : Rep M (emb_T_api_Value d0) c0) (d1 : List UInt8) (r : T_api_Value × Bool) (hF : tree_Get n d0 d1 = some r) : Ok Tryd.prog M 24 [.agg c0.toArray, S d1] (fun M' v => ∃ (c0 : List Value), v = .tuple #[.agg c0.toArray, .bool r.2] ∧ Rep M' (emb_T_api_Value r.1) c0) := by
  unfold tree_Get at hF
  intro M1 hM0 w0 H w p0
  replace hG := GL.mono hM0 hG
  replace h0 := Rep.mono hM0 _ _ h0
  obtain ⟨A_1, cap_1, A_2, cap_2, rfl, h_1, h_2⟩ := T_api_Value.opn h0
  refine R_enter 33 Tryd.func24 rfl rfl (by simp) (fun a0 f0 => ?_)
  refine R_seq (R_reg ?_)
  refine V_box (cs := #[.int .i8 d0.fKind, .bool d0.fBool, .int .i64 d0.fNum, S d0.fText, .slice A_1 d0.fList.length cap_1, .slice A_2 d0.fKeys.length cap_2]) (T := 26) f0 p0 (by kernel_rfl) (fun _ => by kernel_rfl) (fun b_1 M_1 w_1 hM_1 hc_1 p_1 a_1 f_1 => ?_)
  have hc_2 := fz_box hc_1
  refine V_alloc f_1 p_1 (.cells #[.int .i8 0, .bool false, .int .i64 0, S [], .slice none 0 0, .slice none 0 0] 26 (0, 0)) (by kernel_rfl) (fun _ => by kernel_rfl) (fun b_2 w_2 p_2 a_2 f_2 => ?_)
  refine V_run f_2 1 (by kernel_rfl) (fun a_3 f_3 => ?_)
  refine W_end rfl (T_n (R_seq (R_reg ?_)))
  refine V_run f_3 1 (by kernel_rfl) (fun a_4 f_4 => ?_)
  refine V_ld f_4 p_2 hc_2 5 rfl (by kernel_rfl) (by kernel_rfl) (fun a_5 f_5 => ?_)
  refine V_run f_5 1 (by kernel_rfl) (fun a_6 f_6 => ?_)
  obtain ⟨x_1, hx_1, hF_1⟩ := bind_some' hF
  refine V_okv f_6 p_2 (slices_Indexstring_string_ok n _ A_2 cap_2 d0.fKeys (h_2.mono hM_1) d1 x_1 hx_1) (by kernel_rfl) (fun _ => by kernel_rfl) (fun w_3 p_3 a_7 f_7 => ?_)
  refine V_run f_7 1 (by kernel_rfl) (fun a_8 f_8 => ?_)
  refine W_end rfl (T_n (R_seq (R_seq ?_)))
  obtain ⟨j_1, hj_1, hF_2⟩ := bind_some' hF_1
  refine R_mid (fun a_20 w_4 => ∃ y_1 : Bool, j_1 = y_1 ∧ ∃ M_2 : Mem, M_1.le M_2 ∧ Frm 33 [(2, .pointer (some (⟨b_1, 0, none⟩))), (4, .pointer (some (⟨b_2, 0, none⟩))), (6, .int .i64 x_1), (26, .bool y_1)] a_20 ∧ Hp w0 M_2 ((Ent.obj b_2 (.cells #[.int .i8 0, .bool false, .int .i64 0, S [], .slice none 0 0, .slice none 0 0] 26 (0, 0))) :: H) w_4) ?_ ?_
  · refine R_reg ?_
    refine V_run f_8 1 (by kernel_rfl) (fun a_9 f_9 => ?_)
    refine V_ld f_9 p_3 hc_2 0 rfl (by kernel_rfl) (by kernel_rfl) (fun a_10 f_10 => ?_)
    refine V_run f_10 2 (by kernel_rfl) (fun a_11 f_11 => ?_)
    rcases Bool.eq_false_or_eq_true (!(decide (d0.fKind = 5))) with h_3 | h_3
    · have k_1 : ¬ (d0.fKind = 5) := (not_iff decide_eq_true_iff).1 h_3
      have hF_3 := cnd_t h_3 hj_1
      have f_12 := Frm.set f_11 14 (v := .bool (!(decide (d0.fKind = 5)))) (v' := .bool true) (by kernel_rfl) (congrArg Value.bool h_3)
      refine V_run f_12 12 (by kernel_rfl) (fun a_12 f_13 => ?_)
      refine W_end rfl (T_n ?_)
      exact ⟨(true), (Option.some.inj hF_3).symm, M_1, (Mem.le_refl _), f_13.keep (ks := [2, 4, 6, 26]) (by kernel_rfl), p_3⟩
    · have k_2 : ¬ (¬ (d0.fKind = 5)) := iff_f (not_iff decide_eq_true_iff) h_3
      have hF_4 := cnd_f h_3 hj_1
      have f_14 := Frm.set f_11 14 (v := .bool (!(decide (d0.fKind = 5)))) (v' := .bool false) (by kernel_rfl) (congrArg Value.bool h_3)
      refine V_run f_14 1 (by kernel_rfl) (fun a_13 f_15 => ?_)
      refine V_ld f_15 p_3 hc_2 5 rfl (by kernel_rfl) (by kernel_rfl) (fun a_14 f_16 => ?_)
      refine V_run f_16 2 (by kernel_rfl) (fun a_15 f_17 => ?_)
      refine V_ld f_17 p_3 hc_2 4 rfl (by kernel_rfl) (by kernel_rfl) (fun a_16 f_18 => ?_)
      refine V_run f_18 4 (by kernel_rfl) (fun a_17 f_19 => ?_)
      rcases Bool.eq_false_or_eq_true (!(decide (((d0.fKeys.length : Nat) : Int) = ((d0.fList.length : Nat) : Int)))) with h_4 | h_4
      · have k_3 : ¬ (((d0.fKeys.length : Nat) : Int) = ((d0.fList.length : Nat) : Int)) := (not_iff decide_eq_true_iff).1 h_4
        have hF_5 := cnd_t h_4 hF_4
        have f_20 := Frm.set f_19 23 (v := .bool (!(decide (((d0.fKeys.length : Nat) : Int) = ((d0.fList.length : Nat) : Int))))) (v' := .bool true) (by kernel_rfl) (congrArg Value.bool h_4)
        refine V_run f_20 3 (by kernel_rfl) (fun a_18 f_21 => ?_)
        refine W_end rfl (T_n ?_)
        exact ⟨(true), (Option.some.inj hF_5).symm, M_1, (Mem.le_refl _), f_21.keep (ks := [2, 4, 6, 26]) (by kernel_rfl), p_3⟩
      · have k_4 : ¬ (¬ (((d0.fKeys.length : Nat) : Int) = ((d0.fList.length : Nat) : Int))) := iff_f (not_iff decide_eq_true_iff) h_4
        have hF_6 := cnd_f h_4 hF_4
        have f_22 := Frm.set f_19 23 (v := .bool (!(decide (((d0.fKeys.length : Nat) : Int) = ((d0.fList.length : Nat) : Int))))) (v' := .bool false) (by kernel_rfl) (congrArg Value.bool h_4)
        refine V_run f_22 3 (by kernel_rfl) (fun a_19 f_23 => ?_)
        refine W_end rfl (T_n ?_)
        exact ⟨(decide (x_1 < 0)), (Option.some.inj hF_6).symm, M_1, (Mem.le_refl _), f_23.keep (ks := [2, 4, 6, 26]) (by kernel_rfl), p_3⟩
  · rintro a_20 w_4 ⟨y_1, hq_1, M_2, hM_2, f_24, p_4⟩
    subst j_1
    refine T_n ?_
    refine R_cond f_24 (b := y_1) (by kernel_rfl) (by kernel_rfl) (fun h_5 => ?_) (fun h_5 => ?_)
    · have hF_7 := cnd_t h_5 hF_2
      refine R_seq (R_reg ?_)
      refine V_run f_24 1 (by kernel_rfl) (fun a_21 f_25 => ?_)
      refine W_storeN (vs := [.int .i8 0, .bool false, .int .i64 0, S [], .slice none 0 0, .slice none 0 0]) (j := 0) f_25 p_4 (by kernel_rfl) (by kernel_rfl) rfl rfl (by kernel_rfl) (by kernel_rfl) (by simp [Value.oneCell', S]) (by kernel_rfl) (by simp) (by decide) (cs' := #[.int .i8 0, .bool false, .int .i64 0, S [], .slice none 0 0, .slice none 0 0]) rfl (fun w_5 p_5 a_22 f_26 => ?_)
      refine V_run f_26 1 (by kernel_rfl) (fun a_23 f_27 => ?_)
      refine W_end rfl (T_n (wp_ret (T_r ?_)))
      refine E_rv2 f_27 rfl (Rv.cellN (cs := [.int .i8 0, .bool false, .int .i64 0, S [], .slice none 0 0, .slice none 0 0]) (ad := ⟨b_2, 0, none⟩) f_27 (by kernel_rfl) (by kernel_rfl) (own_cells (p_5.ownCell 0 rfl) 0 rfl)) (Rv.slot (v := .bool false) f_27 (by kernel_rfl)) ?_
      obtain rfl := Option.some.inj hF_7
      exact ⟨_, rfl, M_2, (hM_1.trans hM_2), (p_5.dropN 1), ⟨[.int .i8 0, .bool false, .int .i64 0, S [], .slice none 0 0, .slice none 0 0], rfl, (T_api_Value.shut Sli.nil Sli.nil)⟩⟩
    · have hF_8 := cnd_f h_5 hF_2
      refine wp_skip (T_n (R_seq (R_reg ?_)))
      refine V_run f_24 1 (by kernel_rfl) (fun a_24 f_28 => ?_)
      refine V_ld f_28 p_4 (fzu hM_2 hc_2) 4 rfl (by kernel_rfl) (by kernel_rfl) (fun a_25 f_29 => ?_)
      refine V_run f_29 1 (by kernel_rfl) (fun a_26 f_30 => ?_)
      obtain ⟨x_2, hx_2, hF_9⟩ := bind_some' hF_8
      obtain ⟨ad_1, c_1, e_1, hl_1, hr_1, hc_3⟩ := Sli.at_ (h_1.mono (hM_1.trans hM_2)) hx_2
      clear hl_1
      obtain ⟨A_3, cap_3, A_4, cap_4, rfl, h_6, h_7⟩ := T_api_Value.opn hr_1
      refine V_eq (v := .pointer (some (ad_1.add (x_1.toNat * 6)))) f_30 (by kernel_rfl) (X_indexAddrA e_1 rfl (len := d0.fList.length) (cap := cap_1) (k := .i64) (i := x_1) (by kernel_rfl) (by kernel_rfl) (e := 26) (by kernel_rfl) (sz := 6) (by kernel_rfl) (getI_nn hx_2) (getI_lt hx_2)) (fun a_27 f_31 => ?_)
      refine V_eq (v := .agg #[.int .i8 x_2.fKind, .bool x_2.fBool, .int .i64 x_2.fNum, S x_2.fText, .slice A_3 x_2.fList.length cap_3, .slice A_4 x_2.fKeys.length cap_4]) f_31 (by kernel_rfl) (X_loadN (cs := [.int .i8 x_2.fKind, .bool x_2.fBool, .int .i64 x_2.fNum, S x_2.fText, .slice A_3 x_2.fList.length cap_3, .slice A_4 x_2.fKeys.length cap_4]) rfl (ad := ad_1.add (x_1.toNat * 6)) (by kernel_rfl) (by kernel_rfl) (fun j v h => p_4.cell (hc_3 j v h))) (fun a_28 f_32 => ?_)
      refine W_storeN (vs := [.int .i8 x_2.fKind, .bool x_2.fBool, .int .i64 x_2.fNum, S x_2.fText, .slice A_3 x_2.fList.length cap_3, .slice A_4 x_2.fKeys.length cap_4]) (j := 0) f_32 p_4 (by kernel_rfl) (by kernel_rfl) rfl rfl (by kernel_rfl) (by kernel_rfl) (by simp [Value.oneCell', S]) (by kernel_rfl) (by simp) (by decide) (cs' := #[.int .i8 x_2.fKind, .bool x_2.fBool, .int .i64 x_2.fNum, S x_2.fText, .slice A_3 x_2.fList.length cap_3, .slice A_4 x_2.fKeys.length cap_4]) rfl (fun w_6 p_6 a_29 f_33 => ?_)
      refine V_run f_33 1 (by kernel_rfl) (fun a_30 f_34 => ?_)
      refine W_end rfl (T_n (wp_ret ?_))
      refine E_rv2 f_34 rfl (Rv.cellN (cs := [.int .i8 x_2.fKind, .bool x_2.fBool, .int .i64 x_2.fNum, S x_2.fText, .slice A_3 x_2.fList.length cap_3, .slice A_4 x_2.fKeys.length cap_4]) (ad := ⟨b_2, 0, none⟩) f_34 (by kernel_rfl) (by kernel_rfl) (own_cells (p_6.ownCell 0 rfl) 0 rfl)) (Rv.slot (v := .bool true) f_34 (by kernel_rfl)) ?_
      obtain rfl := Option.some.inj hF_9
      exact ⟨_, rfl, M_2, (hM_1.trans hM_2), (p_6.dropN 1), ⟨[.int .i8 x_2.fKind, .bool x_2.fBool, .int .i64 x_2.fNum, S x_2.fText, .slice A_3 x_2.fList.length cap_3, .slice A_4 x_2.fKeys.length cap_4], rfl, (T_api_Value.shutx (x := x_2) h_6 h_7)⟩⟩
end Go.Proofs.YtekkifakjkhjiaaDoor
