/-
  Printed by a program: of each function its shallow reading, and the proof that the function gives what the reading gives. No condition.
-/
import Derived.Test.YtekkifakjkhjiaaDoorQ5
import Derived.Test.YtekkifakjkhjiaaDoorQ2a
import Derived.Test.YtekkifakjkhjiaaDoorQ2b
import Derived.Test.YtekkifakjkhjiaaDoorQ2e
set_option linter.unusedVariables false
set_option linter.unusedSimpArgs false
namespace Go.Proofs.YtekkifakjkhjiaaDoor
open Go Go.Vc Go.RowKit
def law03_TreeGet_s1 (n : Nat) (d0 : T_api_Value) (d1 : List UInt8) (x_3 : T_api_Value × Bool) (s_1 : Bool × Int) : Option (Lp (Bool × Int) (Sum Unit Bool)) :=
    bif (decide (s_1.2 < ((d0.fKeys.length : Nat) : Int))) then
      ((getI d0.fKeys s_1.2).bind fun x_7 =>
      (tree_Get n d0 x_7).bind fun x_8 =>
      ((bif !x_8.2 then
          (some ((true)))
        else
          (getI d0.fList s_1.2).bind fun x_9 =>
          (ref03_Same n x_8.1 x_9).bind fun x_10 =>
          some ((!x_10)) : Option Bool)).bind fun y_4 =>
      bif y_4 then
        (some (.br (.inl ())))
      else
        bif (decide (x_7 = d1)) then
          ((getI d0.fList s_1.2).bind fun x_11 =>
          (ref03_Same n (⟨x_3.1.fKind, (x_3.1.fBool), x_3.1.fNum, x_3.1.fText, x_3.1.fList, x_3.1.fKeys⟩ : T_api_Value) x_11).bind fun x_12 =>
          bif !x_12 then
            (some (.br (.inl ())))
          else
            need (inR .i64 (s_1.2 + 1)) <|
            some (.nx ((true), s_1.2 + 1)))
        else
          need (inR .i64 (s_1.2 + 1)) <|
          some (.nx ((s_1.1), s_1.2 + 1)))
    else
      some (.br (.inr (s_1.1)))
def law03_TreeGet (n : Nat) (d0 : T_api_Value) (d1 : List UInt8) : Option Bool :=
  (((ref03_Great n d0).bind fun x_1 =>
    bif x_1 then
      (some ((true)))
    else
      some ((decide ((1000 : Int) < (d1.length : Int)))) : Option Bool)).bind fun y_1 =>
  bif y_1 then
    ((law03_wakes n).bind fun x_2 =>
    some ((x_2)))
  else
    (tree_Get n d0 d1).bind fun x_3 =>
    ((bif (!(decide (d0.fKind = 5))) then
        (some ((true)))
      else
        (ref03_Check n d0).bind fun x_4 =>
        some ((!(decide (x_4 = 0)))) : Option Bool)).bind fun y_2 =>
    bif y_2 then
      (((bif (decide (d0.fKind = 5)) then
          ((law03_wakes n).bind fun x_5 =>
          some ((x_5)))
        else
          bif !x_3.2 then
            ((law03_wakes n).bind fun x_6 =>
            some ((x_6)))
          else
            some ((false)) : Option Bool)).bind fun y_3 =>
      some ((y_3)))
    else
      (loopF (law03_TreeGet_s1 n d0 d1 x_3) n ((false), (0 : Int))).bind fun b_3 =>
      (match b_3 with 
      | .inl y_5 => some ((false)) 
      | .inr y_6 => bif (x_3.2 == y_6) then
          ((law03_wakes n).bind fun x_13 =>
          some ((x_13)))
        else
          some ((false)))
theorem law03_TreeGet_ok (n : Nat) (M : Mem) (hG : GL M) (c0 : List Value) (d0 : T_api_Value) (h0 : Rep M (emb_T_api_Value d0) c0) (d1 : List UInt8) (r : Bool) (hF : law03_TreeGet n d0 d1 = some r) : Ok Tryd.prog M 7 [.agg c0.toArray, S d1] (fun _ v => v = .bool r) := by
  unfold law03_TreeGet at hF
  intro M1 hM0 w0 H w p0
  replace hG := GL.mono hM0 hG
  replace h0 := Rep.mono hM0 _ _ h0
  obtain ⟨A_1, cap_1, A_2, cap_2, rfl, h_1, h_2⟩ := T_api_Value.opn h0
  refine R_enter 88 Tryd.func7 rfl rfl (by simp) (fun a0 f0 => ?_)
  refine R_seq (R_reg ?_)
  refine V_box (cs := #[.int .i8 d0.fKind, .bool d0.fBool, .int .i64 d0.fNum, S d0.fText, .slice A_1 d0.fList.length cap_1, .slice A_2 d0.fKeys.length cap_2]) (T := 26) f0 p0 (by kernel_rfl) (fun _ => by kernel_rfl) (fun b_1 M_1 w_1 hM_1 hc_1 p_1 a_1 f_1 => ?_)
  have hc_2 := fz_box hc_1
  refine V_run f_1 1 (by kernel_rfl) (fun a_2 f_2 => ?_)
  refine W_end rfl (T_n (R_seq (R_seq ?_)))
  obtain ⟨j_1, hj_1, hF_1⟩ := bind_some' hF
  refine R_mid (fun a_8 w_3 => ∃ y_1 : Bool, j_1 = y_1 ∧ ∃ M_2 : Mem, M_1.le M_2 ∧ Frm 88 [(1, S d1), (2, .pointer (some (⟨b_1, 0, none⟩))), (18, .bool y_1)] a_8 ∧ Hp w0 M_2 (H) w_3) ?_ ?_
  · refine R_reg ?_
    refine V_eq (v := .agg #[.int .i8 d0.fKind, .bool d0.fBool, .int .i64 d0.fNum, S d0.fText, .slice A_1 d0.fList.length cap_1, .slice A_2 d0.fKeys.length cap_2]) f_2 (by kernel_rfl) (X_loadN (cs := [.int .i8 d0.fKind, .bool d0.fBool, .int .i64 d0.fNum, S d0.fText, .slice A_1 d0.fList.length cap_1, .slice A_2 d0.fKeys.length cap_2]) rfl (ad := ⟨b_1, 0, none⟩) (by kernel_rfl) (by kernel_rfl) (fun j v h => p_1.cell (hc_2 j v h))) (fun a_3 f_3 => ?_)
    obtain ⟨x_1, hx_1, hF_2⟩ := bind_some' hj_1
    refine V_okv f_3 p_1 (ref03_Great_ok n _ _ d0 (T_api_Value.shutx (x := d0) (h_1.mono hM_1) (h_2.mono hM_1)) x_1 hx_1) (by kernel_rfl) (fun _ => by kernel_rfl) (fun w_2 p_2 a_4 f_4 => ?_)
    refine V_run f_4 1 (by kernel_rfl) (fun a_5 f_5 => ?_)
    rcases Bool.eq_false_or_eq_true (x_1) with h_3 | h_3
    · have hF_3 := cnd_t h_3 hF_2
      have f_6 := Frm.set f_5 14 (v := .bool x_1) (v' := .bool true) (by kernel_rfl) (congrArg Value.bool h_3)
      refine V_run f_6 4 (by kernel_rfl) (fun a_6 f_7 => ?_)
      refine W_end rfl (T_n ?_)
      exact ⟨(true), (Option.some.inj hF_3).symm, M_1, (Mem.le_refl _), f_7.keep (ks := [1, 2, 18]) (by kernel_rfl), p_2⟩
    · have hF_4 := cnd_f h_3 hF_2
      have f_8 := Frm.set f_5 14 (v := .bool x_1) (v' := .bool false) (by kernel_rfl) (congrArg Value.bool h_3)
      refine V_run f_8 4 (by kernel_rfl) (fun a_7 f_9 => ?_)
      refine W_end rfl (T_n ?_)
      exact ⟨(decide ((1000 : Int) < (d1.length : Int))), (Option.some.inj hF_4).symm, M_1, (Mem.le_refl _), f_9.keep (ks := [1, 2, 18]) (by kernel_rfl), p_2⟩
  · rintro a_8 w_3 ⟨y_1, hq_1, M_2, hM_2, f_10, p_3⟩
    subst j_1
    refine T_n ?_
    refine R_cond f_10 (b := y_1) (by kernel_rfl) (by kernel_rfl) (fun h_4 => ?_) (fun h_4 => ?_)
    · have hF_5 := cnd_t h_4 hF_1
      refine R_seq (R_reg ?_)
      obtain ⟨x_2, hx_2, hF_6⟩ := bind_some' hF_5
      refine V_okv f_10 p_3 (law03_wakes_ok n _ (GL.mono (hM_1.trans hM_2) hG) x_2 hx_2) (by kernel_rfl) (fun _ => by kernel_rfl) (fun w_4 p_4 a_9 f_11 => ?_)
      refine V_run f_11 1 (by kernel_rfl) (fun a_10 f_12 => ?_)
      refine W_end rfl (T_n (wp_ret (T_r ?_)))
      refine E_ret1 f_12 rfl (by kernel_rfl : Vc.look _ 4 = some (.bool x_2)) ?_
      obtain rfl := Option.some.inj hF_6
      exact ⟨_, rfl, M_2, (hM_1.trans hM_2), p_4, rfl⟩
    · have hF_7 := cnd_f h_4 hF_1
      refine wp_skip (T_n (R_seq (R_reg ?_)))
      refine V_eq (v := .agg #[.int .i8 d0.fKind, .bool d0.fBool, .int .i64 d0.fNum, S d0.fText, .slice A_1 d0.fList.length cap_1, .slice A_2 d0.fKeys.length cap_2]) f_10 (by kernel_rfl) (X_loadN (cs := [.int .i8 d0.fKind, .bool d0.fBool, .int .i64 d0.fNum, S d0.fText, .slice A_1 d0.fList.length cap_1, .slice A_2 d0.fKeys.length cap_2]) rfl (ad := ⟨b_1, 0, none⟩) (by kernel_rfl) (by kernel_rfl) (fun j v h => p_3.cell ((fzu hM_2 hc_2) j v h))) (fun a_11 f_13 => ?_)
      refine V_run f_13 1 (by kernel_rfl) (fun a_12 f_14 => ?_)
      obtain ⟨x_3, hx_3, hF_8⟩ := bind_some' hF_7
      refine V_ok f_14 p_3 (tree_Get_ok n _ (GL.mono (hM_1.trans hM_2) hG) _ d0 (T_api_Value.shutx (x := d0) (h_1.mono (hM_1.trans hM_2)) (h_2.mono (hM_1.trans hM_2))) d1 x_3 hx_3) (by kernel_rfl) (fun _ => by kernel_rfl) (fun u_1 M_3 w_5 hM_3 p_5 q_1 a_13 f_15 => ?_)
      obtain ⟨c_1, rfl, hr_1⟩ := q_1
      obtain ⟨A_3, cap_3, A_4, cap_4, rfl, h_5, h_6⟩ := T_api_Value.opn hr_1
      refine V_run f_15 3 (by kernel_rfl) (fun a_14 f_16 => ?_)
      refine V_alloc f_16 p_5 (.cells #[.int .i8 0, .bool false, .int .i64 0, S [], .slice none 0 0, .slice none 0 0] 26 (0, 0)) (by kernel_rfl) (fun _ => by kernel_rfl) (fun b_2 w_6 p_6 a_15 f_17 => ?_)
      refine W_storeN (vs := [.int .i8 x_3.1.fKind, .bool x_3.1.fBool, .int .i64 x_3.1.fNum, S x_3.1.fText, .slice A_3 x_3.1.fList.length cap_3, .slice A_4 x_3.1.fKeys.length cap_4]) (j := 0) f_17 p_6 (by kernel_rfl) (by kernel_rfl) rfl rfl (by kernel_rfl) (by kernel_rfl) (by simp [Value.oneCell', S]) (by kernel_rfl) (by simp) (by decide) (cs' := #[.int .i8 x_3.1.fKind, .bool x_3.1.fBool, .int .i64 x_3.1.fNum, S x_3.1.fText, .slice A_3 x_3.1.fList.length cap_3, .slice A_4 x_3.1.fKeys.length cap_4]) rfl (fun w_7 p_7 a_16 f_18 => ?_)
      refine V_run f_18 1 (by kernel_rfl) (fun a_17 f_19 => ?_)
      refine W_end rfl (T_n (R_seq (R_seq ?_)))
      obtain ⟨j_2, hj_2, hF_9⟩ := bind_some' hF_8
      refine R_mid (fun a_25 w_9 => ∃ y_2 : Bool, j_2 = y_2 ∧ ∃ M_4 : Mem, M_3.le M_4 ∧ Frm 88 [(1, S d1), (2, .pointer (some (⟨b_1, 0, none⟩))), (5, .pointer (some (⟨b_2, 0, none⟩))), (6, .bool x_3.2), (33, .bool y_2)] a_25 ∧ Hp w0 M_4 ((Ent.obj b_2 (.cells #[.int .i8 x_3.1.fKind, .bool x_3.1.fBool, .int .i64 x_3.1.fNum, S x_3.1.fText, .slice A_3 x_3.1.fList.length cap_3, .slice A_4 x_3.1.fKeys.length cap_4] 26 (0, 0))) :: H) w_9) ?_ ?_
      · refine R_reg ?_
        refine V_run f_19 1 (by kernel_rfl) (fun a_18 f_20 => ?_)
        refine V_ld f_20 p_7 (fzu (hM_2.trans hM_3) hc_2) 0 rfl (by kernel_rfl) (by kernel_rfl) (fun a_19 f_21 => ?_)
        refine V_run f_21 2 (by kernel_rfl) (fun a_20 f_22 => ?_)
        rcases Bool.eq_false_or_eq_true (!(decide (d0.fKind = 5))) with h_7 | h_7
        · have k_5 : ¬ (d0.fKind = 5) := (not_iff decide_eq_true_iff).1 h_7
          have hF_10 := cnd_t h_7 hj_2
          have f_23 := Frm.set f_22 29 (v := .bool (!(decide (d0.fKind = 5)))) (v' := .bool true) (by kernel_rfl) (congrArg Value.bool h_7)
          refine V_run f_23 4 (by kernel_rfl) (fun a_21 f_24 => ?_)
          refine W_end rfl (T_n ?_)
          exact ⟨(true), (Option.some.inj hF_10).symm, M_3, (Mem.le_refl _), f_24.keep (ks := [1, 2, 5, 6, 33]) (by kernel_rfl), p_7⟩
        · have k_6 : ¬ (¬ (d0.fKind = 5)) := iff_f (not_iff decide_eq_true_iff) h_7
          have hF_11 := cnd_f h_7 hj_2
          have f_25 := Frm.set f_22 29 (v := .bool (!(decide (d0.fKind = 5)))) (v' := .bool false) (by kernel_rfl) (congrArg Value.bool h_7)
          refine V_eq (v := .agg #[.int .i8 d0.fKind, .bool d0.fBool, .int .i64 d0.fNum, S d0.fText, .slice A_1 d0.fList.length cap_1, .slice A_2 d0.fKeys.length cap_2]) f_25 (by kernel_rfl) (X_loadN (cs := [.int .i8 d0.fKind, .bool d0.fBool, .int .i64 d0.fNum, S d0.fText, .slice A_1 d0.fList.length cap_1, .slice A_2 d0.fKeys.length cap_2]) rfl (ad := ⟨b_1, 0, none⟩) (by kernel_rfl) (by kernel_rfl) (fun j v h => p_7.cell ((fzu (hM_2.trans hM_3) hc_2) j v h))) (fun a_22 f_26 => ?_)
          obtain ⟨x_4, hx_4, hF_12⟩ := bind_some' hF_11
          refine V_okv f_26 p_7 (ref03_Check_ok n _ _ d0 (T_api_Value.shutx (x := d0) (h_1.mono ((hM_1.trans hM_2).trans hM_3)) (h_2.mono ((hM_1.trans hM_2).trans hM_3))) x_4 hx_4) (by kernel_rfl) (fun _ => by kernel_rfl) (fun w_8 p_8 a_23 f_27 => ?_)
          refine V_run f_27 2 (by kernel_rfl) (fun a_24 f_28 => ?_)
          refine W_end rfl (T_n ?_)
          exact ⟨(!(decide (x_4 = 0))), (Option.some.inj hF_12).symm, M_3, (Mem.le_refl _), f_28.keep (ks := [1, 2, 5, 6, 33]) (by kernel_rfl), p_8⟩
      · rintro a_25 w_9 ⟨y_2, hq_2, M_4, hM_4, f_29, p_9⟩
        subst j_2
        refine T_n ?_
        refine R_cond f_29 (b := y_2) (by kernel_rfl) (by kernel_rfl) (fun h_8 => ?_) (fun h_8 => ?_)
        · have hF_13 := cnd_t h_8 hF_9
          refine R_seq ?_
          obtain ⟨j_3, hj_3, hF_14⟩ := bind_some' hF_13
          refine R_mid (fun a_36 w_12 => ∃ y_3 : Bool, j_3 = y_3 ∧ ∃ M_5 : Mem, M_4.le M_5 ∧ Frm 88 [(4, .bool y_3)] a_36 ∧ Hp w0 M_5 ((Ent.obj b_2 (.cells #[.int .i8 x_3.1.fKind, .bool x_3.1.fBool, .int .i64 x_3.1.fNum, S x_3.1.fText, .slice A_3 x_3.1.fList.length cap_3, .slice A_4 x_3.1.fKeys.length cap_4] 26 (0, 0))) :: H) w_12) ?_ ?_
          · refine R_reg ?_
            refine V_run f_29 1 (by kernel_rfl) (fun a_26 f_30 => ?_)
            refine V_ld f_30 p_9 (fzu ((hM_2.trans hM_3).trans hM_4) hc_2) 0 rfl (by kernel_rfl) (by kernel_rfl) (fun a_27 f_31 => ?_)
            refine V_run f_31 2 (by kernel_rfl) (fun a_28 f_32 => ?_)
            rcases Bool.eq_false_or_eq_true (decide (d0.fKind = 5)) with h_9 | h_9
            · have k_8 : d0.fKind = 5 := decide_eq_true_iff.1 h_9
              have hF_15 := cnd_t h_9 hj_3
              have f_33 := Frm.set f_32 37 (v := .bool (decide (d0.fKind = 5))) (v' := .bool true) (by kernel_rfl) (congrArg Value.bool h_9)
              refine V_run f_33 4 (by kernel_rfl) (fun a_29 f_34 => ?_)
              obtain ⟨x_5, hx_5, hF_16⟩ := bind_some' hF_15
              refine V_okv f_34 p_9 (law03_wakes_ok n _ (GL.mono (((hM_1.trans hM_2).trans hM_3).trans hM_4) hG) x_5 hx_5) (by kernel_rfl) (fun _ => by kernel_rfl) (fun w_10 p_10 a_30 f_35 => ?_)
              refine V_run f_35 2 (by kernel_rfl) (fun a_31 f_36 => ?_)
              refine W_end rfl (T_n ?_)
              exact ⟨(x_5), (Option.some.inj hF_16).symm, M_4, (Mem.le_refl _), f_36.keep (ks := [4]) (by kernel_rfl), p_10⟩
            · have k_9 : ¬ (d0.fKind = 5) := iff_f decide_eq_true_iff h_9
              have hF_17 := cnd_f h_9 hj_3
              have f_37 := Frm.set f_32 37 (v := .bool (decide (d0.fKind = 5))) (v' := .bool false) (by kernel_rfl) (congrArg Value.bool h_9)
              refine V_run f_37 4 (by kernel_rfl) (fun a_32 f_38 => ?_)
              rcases Bool.eq_false_or_eq_true (!x_3.2) with h_10 | h_10
              · have k_10 : (x_3.2) = false := by simpa using h_10
                have hF_18 := cnd_t h_10 hF_17
                have f_39 := Frm.set f_38 41 (v := .bool !x_3.2) (v' := .bool true) (by kernel_rfl) (congrArg Value.bool h_10)
                obtain ⟨x_6, hx_6, hF_19⟩ := bind_some' hF_18
                refine V_okv f_39 p_9 (law03_wakes_ok n _ (GL.mono (((hM_1.trans hM_2).trans hM_3).trans hM_4) hG) x_6 hx_6) (by kernel_rfl) (fun _ => by kernel_rfl) (fun w_11 p_11 a_33 f_40 => ?_)
                refine V_run f_40 2 (by kernel_rfl) (fun a_34 f_41 => ?_)
                refine W_end rfl (T_n ?_)
                exact ⟨(x_6), (Option.some.inj hF_19).symm, M_4, (Mem.le_refl _), f_41.keep (ks := [4]) (by kernel_rfl), p_11⟩
              · have k_11 : (x_3.2) = true := by simpa using h_10
                have hF_20 := cnd_f h_10 hF_17
                have f_42 := Frm.set f_38 41 (v := .bool !x_3.2) (v' := .bool false) (by kernel_rfl) (congrArg Value.bool h_10)
                refine V_run f_42 3 (by kernel_rfl) (fun a_35 f_43 => ?_)
                refine W_end rfl (T_n ?_)
                exact ⟨(false), (Option.some.inj hF_20).symm, M_4, (Mem.le_refl _), f_43.keep (ks := [4]) (by kernel_rfl), p_9⟩
          · rintro a_36 w_12 ⟨y_3, hq_3, M_5, hM_5, f_44, p_12⟩
            subst j_3
            refine T_n (wp_ret (T_r ?_))
            refine E_ret1 f_44 rfl (by kernel_rfl : Vc.look _ 4 = some (.bool y_3)) ?_
            obtain rfl := Option.some.inj hF_14
            exact ⟨_, rfl, M_5, ((((hM_1.trans hM_2).trans hM_3).trans hM_4).trans hM_5), (p_12.dropN 1), rfl⟩
        · have hF_21 := cnd_f h_8 hF_9
          refine wp_skip (T_n (R_seq (R_reg ?_)))
          refine V_run f_29 1 (by kernel_rfl) (fun a_37 f_45 => ?_)
          refine W_end rfl (T_n (R_seq (R_seq (R_reg ?_))))
          refine V_run f_45 1 (by kernel_rfl) (fun a_38 f_46 => ?_)
          refine V_ld f_46 p_9 (fzu ((hM_2.trans hM_3).trans hM_4) hc_2) 5 rfl (by kernel_rfl) (by kernel_rfl) (fun a_39 f_47 => ?_)
          refine V_run f_47 2 (by kernel_rfl) (fun a_40 f_48 => ?_)
          refine W_end rfl (T_n (wp_block ?_))
          obtain ⟨b_3, hL_1, hF_22⟩ := bind_some' hF_21
          refine wp_mono (Q := fun e a w => (e = .ret ∧ (∃ y_5 : Unit, b_3 = .inl y_5 ∧ ∃ M_9 : Mem, M_4.le M_9 ∧ Frm 88 [(4, .bool false)] a ∧ Hp w0 M_9 ((Ent.obj b_2 (.cells #[.int .i8 x_3.1.fKind, .bool x_3.1.fBool, .int .i64 x_3.1.fNum, S x_3.1.fText, .slice A_3 x_3.1.fList.length cap_3, .slice A_4 x_3.1.fKeys.length cap_4] 26 (0, 0))) :: H) w)) ∨ (e = .exit 0 ∧ (∃ y_6 : Bool, b_3 = .inr y_6 ∧ ∃ M_10 : Mem, M_4.le M_10 ∧ Frm 88 [(6, .bool x_3.2), (7, .bool y_6)] a ∧ Hp w0 M_10 ((Ent.obj b_2 (.cells #[.int .i8 x_3.1.fKind, .bool x_3.1.fBool, .int .i64 x_3.1.fNum, S x_3.1.fText, .slice A_3 x_3.1.fList.length cap_3, .slice A_4 x_3.1.fKeys.length cap_4] 26 (0, 0))) :: H) w))) (R_loop (n := 88) (w0 := w0) (M := M_4) (fun (x : Nat × (Bool × Int)) => match x with | (m_1, s_1) => [(1, S d1), (2, .pointer (some (⟨b_1, 0, none⟩))), (5, .pointer (some (⟨b_2, 0, none⟩))), (6, .bool x_3.2), (7, .bool s_1.1), (45, .slice A_2 d0.fKeys.length cap_2), (46, .int .i64 ((d0.fKeys.length : Nat) : Int)), (47, .int .i64 s_1.2)]) (fun (x : Nat × (Bool × Int)) => match x with | (m_1, s_1) => ((Ent.obj b_2 (.cells #[.int .i8 x_3.1.fKind, .bool x_3.1.fBool, .int .i64 x_3.1.fNum, S x_3.1.fText, .slice A_3 x_3.1.fList.length cap_3, .slice A_4 x_3.1.fKeys.length cap_4] 26 (0, 0))) :: H)) (fun (x : Nat × (Bool × Int)) (MM : Mem) => match x with | (m_1, s_1) => loopF (law03_TreeGet_s1 n d0 d1 x_3) m_1 s_1 = some b_3) (fun (x : Nat × (Bool × Int)) => match x with | (m_1, s_1) => m_1) (n, ((false), (0 : Int))) (f_48.keep (ks := [1, 2, 5, 6, 7, 45, 46, 47]) (by kernel_rfl)) p_9 hL_1 ?_) ?_
          · rintro ⟨m_1, s_1⟩ M_6 a_41 w_13 hM_6 I_1 f_49 p_13
            have I_1L := I_1
            obtain ⟨m_2, r_1, rfl, hs_1, hn_1⟩ := loop_step I_1L
            unfold law03_TreeGet_s1 at hs_1
            refine R_seq (R_reg ?_)
            refine V_run f_49 1 (by kernel_rfl) (fun a_42 f_50 => ?_)
            refine W_end rfl (T_n (R_seq ?_))
            refine R_cond f_50 (b := decide (s_1.2 < ((d0.fKeys.length : Nat) : Int))) (by kernel_rfl) (by kernel_rfl) (fun h_11 => ?_) (fun h_11 => ?_)
            · have k_13 : s_1.2 < ((d0.fKeys.length : Nat) : Int) := decide_eq_true_iff.1 h_11
              have hF_23 := cnd_t h_11 hs_1
              refine wp_skip (T_n (R_seq (wp_block (R_seq (R_reg ?_)))))
              refine V_run f_50 1 (by kernel_rfl) (fun a_43 f_51 => ?_)
              obtain ⟨x_7, hx_7, hF_24⟩ := bind_some' hF_23
              obtain ⟨ad_1, c_2, e_1, hl_1, hr_2, hc_3⟩ := Sli.at_ (h_2.mono ((((hM_1.trans hM_2).trans hM_3).trans hM_4).trans hM_6)) hx_7
              clear hl_1
              obtain rfl : c_2 = [S x_7] := hr_2
              refine V_eq (v := .pointer (some (ad_1.add (s_1.2.toNat * 1)))) f_51 (by kernel_rfl) (X_indexAddrA e_1 rfl (len := d0.fKeys.length) (cap := cap_2) (k := .i64) (i := s_1.2) (by kernel_rfl) (by kernel_rfl) (e := 9) (by kernel_rfl) (sz := 1) (by kernel_rfl) (getI_nn hx_7) (getI_lt hx_7)) (fun a_44 f_52 => ?_)
              refine V_ld f_52 p_13 hc_3 0 rfl (by kernel_rfl) (by kernel_rfl) (fun a_45 f_53 => ?_)
              refine V_run f_53 2 (by kernel_rfl) (fun a_46 f_54 => ?_)
              refine W_end rfl (T_n (R_seq (R_reg ?_)))
              refine V_eq (v := .agg #[.int .i8 d0.fKind, .bool d0.fBool, .int .i64 d0.fNum, S d0.fText, .slice A_1 d0.fList.length cap_1, .slice A_2 d0.fKeys.length cap_2]) f_54 (by kernel_rfl) (X_loadN (cs := [.int .i8 d0.fKind, .bool d0.fBool, .int .i64 d0.fNum, S d0.fText, .slice A_1 d0.fList.length cap_1, .slice A_2 d0.fKeys.length cap_2]) rfl (ad := ⟨b_1, 0, none⟩) (by kernel_rfl) (by kernel_rfl) (fun j v h => p_13.cell ((fzu (((hM_2.trans hM_3).trans hM_4).trans hM_6) hc_2) j v h))) (fun a_47 f_55 => ?_)
              refine V_run f_55 1 (by kernel_rfl) (fun a_48 f_56 => ?_)
              obtain ⟨x_8, hx_8, hF_25⟩ := bind_some' hF_24
              refine V_ok f_56 p_13 (tree_Get_ok n _ (GL.mono ((((hM_1.trans hM_2).trans hM_3).trans hM_4).trans hM_6) hG) _ d0 (T_api_Value.shutx (x := d0) (h_1.mono ((((hM_1.trans hM_2).trans hM_3).trans hM_4).trans hM_6)) (h_2.mono ((((hM_1.trans hM_2).trans hM_3).trans hM_4).trans hM_6))) x_7 x_8 hx_8) (by kernel_rfl) (fun _ => by kernel_rfl) (fun u_2 M_7 w_14 hM_7 p_14 q_2 a_49 f_57 => ?_)
              obtain ⟨c_3, rfl, hr_3⟩ := q_2
              obtain ⟨A_5, cap_5, A_6, cap_6, rfl, h_12, h_13⟩ := T_api_Value.opn hr_3
              refine V_run f_57 3 (by kernel_rfl) (fun a_50 f_58 => ?_)
              refine V_alloc f_58 p_14 (.cells #[.int .i8 0, .bool false, .int .i64 0, S [], .slice none 0 0, .slice none 0 0] 26 (0, 0)) (by kernel_rfl) (fun _ => by kernel_rfl) (fun b_4 w_15 p_15 a_51 f_59 => ?_)
              refine W_storeN (vs := [.int .i8 x_8.1.fKind, .bool x_8.1.fBool, .int .i64 x_8.1.fNum, S x_8.1.fText, .slice A_5 x_8.1.fList.length cap_5, .slice A_6 x_8.1.fKeys.length cap_6]) (j := 0) f_59 p_15 (by kernel_rfl) (by kernel_rfl) rfl rfl (by kernel_rfl) (by kernel_rfl) (by simp [Value.oneCell', S]) (by kernel_rfl) (by simp) (by decide) (cs' := #[.int .i8 x_8.1.fKind, .bool x_8.1.fBool, .int .i64 x_8.1.fNum, S x_8.1.fText, .slice A_5 x_8.1.fList.length cap_5, .slice A_6 x_8.1.fKeys.length cap_6]) rfl (fun w_16 p_16 a_52 f_60 => ?_)
              refine V_run f_60 1 (by kernel_rfl) (fun a_53 f_61 => ?_)
              refine W_end rfl (T_n (R_seq (R_seq ?_)))
              obtain ⟨j_4, hj_4, hF_26⟩ := bind_some' hF_25
              refine R_mid (fun a_64 w_20 => ∃ y_4 : Bool, j_4 = y_4 ∧ ∃ M_8 : Mem, M_7.le M_8 ∧ Frm 88 [(1, S d1), (2, .pointer (some (⟨b_1, 0, none⟩))), (5, .pointer (some (⟨b_2, 0, none⟩))), (6, .bool x_3.2), (7, .bool s_1.1), (8, .int .i64 s_1.2), (9, S x_7), (45, .slice A_2 d0.fKeys.length cap_2), (46, .int .i64 ((d0.fKeys.length : Nat) : Int)), (47, .int .i64 s_1.2), (69, .bool y_4)] a_64 ∧ Hp w0 M_8 ((Ent.obj b_4 (.cells #[.int .i8 x_8.1.fKind, .bool x_8.1.fBool, .int .i64 x_8.1.fNum, S x_8.1.fText, .slice A_5 x_8.1.fList.length cap_5, .slice A_6 x_8.1.fKeys.length cap_6] 26 (0, 0))) :: (Ent.obj b_2 (.cells #[.int .i8 x_3.1.fKind, .bool x_3.1.fBool, .int .i64 x_3.1.fNum, S x_3.1.fText, .slice A_3 x_3.1.fList.length cap_3, .slice A_4 x_3.1.fKeys.length cap_4] 26 (0, 0))) :: H) w_20) ?_ ?_
              · refine R_draw p_16 (by kernel_rfl) (by kernel_rfl) ?_
                refine Q_run default f_61 3 (fun _ => by kernel_rfl) (fun a_54 f_62 => ?_)
                rcases Bool.eq_false_or_eq_true (!x_8.2) with h_14 | h_14
                · have k_14 : (x_8.2) = false := by simpa using h_14
                  have hF_27 := cnd_t h_14 hj_4
                  have f_63 := Frm.set f_62 60 (v := .bool !x_8.2) (v' := .bool true) (by kernel_rfl) (congrArg Value.bool h_14)
                  refine Q_run default f_63 9 (fun _ => by kernel_rfl) (fun a_55 f_64 => ?_)
                  refine Q_end rfl ?_
                  intro w_17 p_17
                  refine T_n ?_
                  exact ⟨(true), (Option.some.inj hF_27).symm, M_7, (Mem.le_refl _), f_64.keep (ks := [1, 2, 5, 6, 7, 8, 9, 45, 46, 47, 69]) (by kernel_rfl), p_17⟩
                · have k_15 : (x_8.2) = true := by simpa using h_14
                  have hF_28 := cnd_f h_14 hj_4
                  have f_65 := Frm.set f_62 60 (v := .bool !x_8.2) (v' := .bool false) (by kernel_rfl) (congrArg Value.bool h_14)
                  refine QV_eq (v := .agg #[.int .i8 x_8.1.fKind, .bool x_8.1.fBool, .int .i64 x_8.1.fNum, S x_8.1.fText, .slice A_5 x_8.1.fList.length cap_5, .slice A_6 x_8.1.fKeys.length cap_6]) f_65 (by kernel_rfl) (fun _ pq => X_loadN (cs := [.int .i8 x_8.1.fKind, .bool x_8.1.fBool, .int .i64 x_8.1.fNum, S x_8.1.fText, .slice A_5 x_8.1.fList.length cap_5, .slice A_6 x_8.1.fKeys.length cap_6]) rfl (ad := ⟨b_4, 0, none⟩) (by kernel_rfl) (by kernel_rfl) (own_cells (pq.ownCell 0 rfl) 0 rfl)) (fun a_56 f_66 => ?_)
                  refine Q_run default f_66 1 (fun _ => by kernel_rfl) (fun a_57 f_67 => ?_)
                  refine Q_ld f_67 (fzu ((((hM_2.trans hM_3).trans hM_4).trans hM_6).trans hM_7) hc_2) 4 rfl (by kernel_rfl) (by kernel_rfl) (fun a_58 f_68 => ?_)
                  refine Q_run default f_68 1 (fun _ => by kernel_rfl) (fun a_59 f_69 => ?_)
                  obtain ⟨x_9, hx_9, hF_29⟩ := bind_some' hF_28
                  obtain ⟨ad_2, c_4, e_2, hl_2, hr_4, hc_4⟩ := Sli.at_ (h_1.mono (((((hM_1.trans hM_2).trans hM_3).trans hM_4).trans hM_6).trans hM_7)) hx_9
                  clear hl_2
                  obtain ⟨A_7, cap_7, A_8, cap_8, rfl, h_15, h_16⟩ := T_api_Value.opn hr_4
                  refine QV_eq (v := .pointer (some (ad_2.add (s_1.2.toNat * 6)))) f_69 (by kernel_rfl) (fun _ pq => X_indexAddrA e_2 rfl (len := d0.fList.length) (cap := cap_1) (k := .i64) (i := s_1.2) (by kernel_rfl) (by kernel_rfl) (e := 26) (by kernel_rfl) (sz := 6) (by kernel_rfl) (getI_nn hx_9) (getI_lt hx_9)) (fun a_60 f_70 => ?_)
                  refine QV_eq (v := .agg #[.int .i8 x_9.fKind, .bool x_9.fBool, .int .i64 x_9.fNum, S x_9.fText, .slice A_7 x_9.fList.length cap_7, .slice A_8 x_9.fKeys.length cap_8]) f_70 (by kernel_rfl) (fun _ pq => X_loadN (cs := [.int .i8 x_9.fKind, .bool x_9.fBool, .int .i64 x_9.fNum, S x_9.fText, .slice A_7 x_9.fList.length cap_7, .slice A_8 x_9.fKeys.length cap_8]) rfl (ad := ad_2.add (s_1.2.toNat * 6)) (by kernel_rfl) (by kernel_rfl) (fun j v h => pq.cell (hc_4 j v h))) (fun a_61 f_71 => ?_)
                  obtain ⟨x_10, hx_10, hF_30⟩ := bind_some' hF_29
                  refine QV_okv f_71 (ref03_Same_ok n _ _ x_8.1 (T_api_Value.shutx (x := x_8.1) h_12 h_13) _ x_9 (T_api_Value.shutx (x := x_9) h_15 h_16) x_10 hx_10) (by kernel_rfl) (fun _ => by kernel_rfl) (fun a_62 f_72 => ?_)
                  refine Q_run default f_72 2 (fun _ => by kernel_rfl) (fun a_63 f_73 => ?_)
                  refine Q_end rfl ?_
                  intro w_19 p_19
                  refine T_n ?_
                  exact ⟨(!x_10), (Option.some.inj hF_30).symm, M_7, (Mem.le_refl _), f_73.keep (ks := [1, 2, 5, 6, 7, 8, 9, 45, 46, 47, 69]) (by kernel_rfl), p_19⟩
              · rintro a_64 w_20 ⟨y_4, hq_4, M_8, hM_8, f_74, p_20⟩
                subst j_4
                refine T_n ?_
                refine R_cond f_74 (b := y_4) (by kernel_rfl) (by kernel_rfl) (fun h_17 => ?_) (fun h_17 => ?_)
                · have hF_31 := cnd_t h_17 hF_26
                  refine R_seq (R_reg ?_)
                  refine V_run f_74 1 (by kernel_rfl) (fun a_65 f_75 => ?_)
                  refine W_end rfl (T_n (wp_ret (T_r (B_r (T_r (T_r ?_))))))
                  obtain rfl := Option.some.inj hF_31
                  exact .inl ⟨rfl, (), (Option.some.inj hn_1).symm, M_8, ((hM_6.trans hM_7).trans hM_8), f_75.keep (ks := [4]) (by kernel_rfl), (p_20.dropN 1)⟩
                · have hF_32 := cnd_f h_17 hF_26
                  refine wp_skip (T_n (R_seq (R_reg ?_)))
                  refine V_run f_74 2 (by kernel_rfl) (fun a_66 f_76 => ?_)
                  refine V_eq (v := .bool (decide (x_7 = d1))) f_76 (by kernel_rfl) (X_streq rfl (l := x_7) (m := d1) (by kernel_rfl) (by kernel_rfl)) (fun a_67 f_77 => ?_)
                  refine W_end rfl (T_n ?_)
                  refine R_cond f_77 (b := decide (x_7 = d1)) (by kernel_rfl) (by kernel_rfl) (fun h_18 => ?_) (fun h_18 => ?_)
                  · have k_18 : x_7 = d1 := decide_eq_true_iff.1 h_18
                    have hF_33 := cnd_t h_18 hF_32
                    refine R_seq (R_reg ?_)
                    refine V_run f_77 1 (by kernel_rfl) (fun a_68 f_78 => ?_)
                    refine W_end rfl (T_n (R_seq ?_))
                    refine R_draw p_20 (by kernel_rfl) (by kernel_rfl) ?_
                    refine QV_eq (v := .agg #[.int .i8 x_3.1.fKind, .bool x_3.1.fBool, .int .i64 x_3.1.fNum, S x_3.1.fText, .slice A_3 x_3.1.fList.length cap_3, .slice A_4 x_3.1.fKeys.length cap_4]) f_78 (by kernel_rfl) (fun _ pq => X_loadN (cs := [.int .i8 x_3.1.fKind, .bool x_3.1.fBool, .int .i64 x_3.1.fNum, S x_3.1.fText, .slice A_3 x_3.1.fList.length cap_3, .slice A_4 x_3.1.fKeys.length cap_4]) rfl (ad := ⟨b_2, 0, none⟩) (by kernel_rfl) (by kernel_rfl) (own_cells (pq.ownCell 1 rfl) 0 rfl)) (fun a_69 f_79 => ?_)
                    refine Q_run default f_79 1 (fun _ => by kernel_rfl) (fun a_70 f_80 => ?_)
                    refine Q_ld f_80 (fzu (((((hM_2.trans hM_3).trans hM_4).trans hM_6).trans hM_7).trans hM_8) hc_2) 4 rfl (by kernel_rfl) (by kernel_rfl) (fun a_71 f_81 => ?_)
                    refine Q_run default f_81 1 (fun _ => by kernel_rfl) (fun a_72 f_82 => ?_)
                    obtain ⟨x_11, hx_11, hF_34⟩ := bind_some' hF_33
                    obtain ⟨ad_3, c_5, e_3, hl_3, hr_5, hc_5⟩ := Sli.at_ (h_1.mono ((((((hM_1.trans hM_2).trans hM_3).trans hM_4).trans hM_6).trans hM_7).trans hM_8)) hx_11
                    clear hl_3
                    obtain ⟨A_9, cap_9, A_10, cap_10, rfl, h_19, h_20⟩ := T_api_Value.opn hr_5
                    refine QV_eq (v := .pointer (some (ad_3.add (s_1.2.toNat * 6)))) f_82 (by kernel_rfl) (fun _ pq => X_indexAddrA e_3 rfl (len := d0.fList.length) (cap := cap_1) (k := .i64) (i := s_1.2) (by kernel_rfl) (by kernel_rfl) (e := 26) (by kernel_rfl) (sz := 6) (by kernel_rfl) (getI_nn hx_11) (getI_lt hx_11)) (fun a_73 f_83 => ?_)
                    refine QV_eq (v := .agg #[.int .i8 x_11.fKind, .bool x_11.fBool, .int .i64 x_11.fNum, S x_11.fText, .slice A_9 x_11.fList.length cap_9, .slice A_10 x_11.fKeys.length cap_10]) f_83 (by kernel_rfl) (fun _ pq => X_loadN (cs := [.int .i8 x_11.fKind, .bool x_11.fBool, .int .i64 x_11.fNum, S x_11.fText, .slice A_9 x_11.fList.length cap_9, .slice A_10 x_11.fKeys.length cap_10]) rfl (ad := ad_3.add (s_1.2.toNat * 6)) (by kernel_rfl) (by kernel_rfl) (fun j v h => pq.cell (hc_5 j v h))) (fun a_74 f_84 => ?_)
                    obtain ⟨x_12, hx_12, hF_35⟩ := bind_some' hF_34
                    refine QV_okv f_84 (ref03_Same_ok n _ _ (⟨x_3.1.fKind, (x_3.1.fBool), x_3.1.fNum, x_3.1.fText, x_3.1.fList, x_3.1.fKeys⟩ : T_api_Value) (T_api_Value.shut (h_5.mono (((hM_4.trans hM_6).trans hM_7).trans hM_8)) (h_6.mono (((hM_4.trans hM_6).trans hM_7).trans hM_8))) _ x_11 (T_api_Value.shutx (x := x_11) h_19 h_20) x_12 hx_12) (by kernel_rfl) (fun _ => by kernel_rfl) (fun a_75 f_85 => ?_)
                    refine Q_run default f_85 1 (fun _ => by kernel_rfl) (fun a_76 f_86 => ?_)
                    refine Q_end rfl ?_
                    intro w_22 p_22
                    refine T_n ?_
                    refine R_cond f_86 (b := !x_12) (by kernel_rfl) (by kernel_rfl) (fun h_21 => ?_) (fun h_21 => ?_)
                    · have k_19 : (x_12) = false := by simpa using h_21
                      have hF_36 := cnd_t h_21 hF_35
                      refine R_seq (R_reg ?_)
                      refine V_run f_86 1 (by kernel_rfl) (fun a_77 f_87 => ?_)
                      refine W_end rfl (T_n (wp_ret (B_r (T_r (T_r ?_)))))
                      obtain rfl := Option.some.inj hF_36
                      exact .inl ⟨rfl, (), (Option.some.inj hn_1).symm, M_8, ((hM_6.trans hM_7).trans hM_8), f_87.keep (ks := [4]) (by kernel_rfl), (p_22.dropN 1)⟩
                    · have k_20 : (x_12) = true := by simpa using h_21
                      have hF_37 := cnd_f h_21 hF_35
                      refine wp_skip (B_n (T_n (R_reg ?_)))
                      obtain ⟨g_1, hF_38⟩ := need_some hF_37
                      refine V_run f_86 1 (by kernel_rfl) (fun a_78 f_88 => ?_)
                      have f_89 := Frm.set f_88 81 (v := .int .i64 (IntKind.wrap .i64 (s_1.2 + 1))) (v' := .int .i64 (s_1.2 + 1)) (by kernel_rfl) (congrArg (Value.int .i64) (inR_wrap g_1))
                      refine V_run f_89 1 (by kernel_rfl) (fun a_79 f_90 => ?_)
                      refine W_end rfl (T_n ?_)
                      obtain rfl := Option.some.inj hF_38
                      exact ⟨⟨m_2, ((true), s_1.2 + 1)⟩, Nat.lt_succ_self _, M_8, ((hM_6.trans hM_7).trans hM_8), hn_1, f_90.keep (ks := [1, 2, 5, 6, 7, 45, 46, 47]) (by kernel_rfl), (p_22.dropN 1)⟩
                  · have k_21 : ¬ (x_7 = d1) := iff_f decide_eq_true_iff h_18
                    have hF_39 := cnd_f h_18 hF_32
                    refine wp_skip (B_n (T_n (R_reg ?_)))
                    obtain ⟨g_2, hF_40⟩ := need_some hF_39
                    refine V_run f_77 1 (by kernel_rfl) (fun a_80 f_91 => ?_)
                    have f_92 := Frm.set f_91 81 (v := .int .i64 (IntKind.wrap .i64 (s_1.2 + 1))) (v' := .int .i64 (s_1.2 + 1)) (by kernel_rfl) (congrArg (Value.int .i64) (inR_wrap g_2))
                    refine V_run f_92 1 (by kernel_rfl) (fun a_81 f_93 => ?_)
                    refine W_end rfl (T_n ?_)
                    obtain rfl := Option.some.inj hF_40
                    exact ⟨⟨m_2, ((s_1.1), s_1.2 + 1)⟩, Nat.lt_succ_self _, M_8, ((hM_6.trans hM_7).trans hM_8), hn_1, f_93.keep (ks := [1, 2, 5, 6, 7, 45, 46, 47]) (by kernel_rfl), (p_20.dropN 1)⟩
            · have k_22 : ¬ (s_1.2 < ((d0.fKeys.length : Nat) : Int)) := iff_f decide_eq_true_iff h_11
              have hF_41 := cnd_f h_11 hs_1
              refine wp_exit (T_x (T_x ?_))
              obtain rfl := Option.some.inj hF_41
              exact .inr ⟨rfl, (s_1.1), (Option.some.inj hn_1).symm, M_6, hM_6, f_50.keep (ks := [6, 7]) (by kernel_rfl), p_13⟩
          · rintro _ a_84 w_25 (⟨rfl, y_5, rfl, M_9, hM_9, f_94, p_23⟩ | ⟨rfl, y_6, rfl, M_10, hM_10, f_95, p_24⟩)
            · refine B_r (T_r ?_)
              refine E_ret1 f_94 rfl (by kernel_rfl : Vc.look _ 4 = some (.bool false)) ?_
              obtain rfl := Option.some.inj hF_22
              exact ⟨_, rfl, M_9, ((((hM_1.trans hM_2).trans hM_3).trans hM_4).trans hM_9), (p_23.dropN 1), rfl⟩
            · refine B_x (T_n (R_seq (R_reg ?_)))
              refine V_run f_95 4 (by kernel_rfl) (fun a_85 f_96 => ?_)
              rcases Bool.eq_false_or_eq_true (x_3.2 == y_6) with h_22 | h_22
              · have hF_42 := cnd_t h_22 hF_22
                have f_97 := Frm.set f_96 85 (v := .bool (x_3.2 == y_6)) (v' := .bool true) (by kernel_rfl) (congrArg Value.bool h_22)
                obtain ⟨x_13, hx_13, hF_43⟩ := bind_some' hF_42
                refine V_okv f_97 p_24 (law03_wakes_ok n _ (GL.mono ((((hM_1.trans hM_2).trans hM_3).trans hM_4).trans hM_10) hG) x_13 hx_13) (by kernel_rfl) (fun _ => by kernel_rfl) (fun w_26 p_25 a_86 f_98 => ?_)
                refine V_run f_98 2 (by kernel_rfl) (fun a_87 f_99 => ?_)
                refine W_end rfl (T_n (wp_ret ?_))
                refine E_ret1 f_99 rfl (by kernel_rfl : Vc.look _ 4 = some (.bool x_13)) ?_
                obtain rfl := Option.some.inj hF_43
                exact ⟨_, rfl, M_10, ((((hM_1.trans hM_2).trans hM_3).trans hM_4).trans hM_10), (p_25.dropN 1), rfl⟩
              · have hF_44 := cnd_f h_22 hF_22
                have f_100 := Frm.set f_96 85 (v := .bool (x_3.2 == y_6)) (v' := .bool false) (by kernel_rfl) (congrArg Value.bool h_22)
                refine V_run f_100 3 (by kernel_rfl) (fun a_88 f_101 => ?_)
                refine W_end rfl (T_n (wp_ret ?_))
                refine E_ret1 f_101 rfl (by kernel_rfl : Vc.look _ 4 = some (.bool false)) ?_
                obtain rfl := Option.some.inj hF_44
                exact ⟨_, rfl, M_10, ((((hM_1.trans hM_2).trans hM_3).trans hM_4).trans hM_10), (p_24.dropN 1), rfl⟩
end Go.Proofs.YtekkifakjkhjiaaDoor
