/-
  Printed by a program: of each function its shallow reading, and the proof that the function gives what the reading gives. No condition.
-/
import Derived.Test.YtalifkcchfkgmaaDoorQ1
set_option linter.unusedVariables false
set_option linter.unusedSimpArgs false
namespace Go.Proofs.YtalifkcchfkgmaaDoor
open Go Go.Vc Go.RowKit
def ref03_weight_s1 (n : Nat) (d0 : T_api_Value) (s_1 : Int × Int) : Option (Lp (Int × Int) Int) :=
    bif (decide (s_1.2 < ((d0.fKeys.length : Nat) : Int))) then
      ((getI d0.fKeys s_1.2).bind fun x_1 =>
      need (inR .i64 (s_1.1 + (min (x_1.length : Int) (10000 : Int)))) <|
      need (inR .i64 (s_1.2 + 1)) <|
      some (.nx (s_1.1 + (min (x_1.length : Int) (10000 : Int)), s_1.2 + 1)))
    else
      some (.br s_1.1)
def ref03_weight_s2 (n : Nat) (rec_ref03_weight : T_api_Value → Int → Option Int) (d0 : T_api_Value) (d1 : Int) (s_2 : Int × Int) : Option (Lp (Int × Int) Int) :=
    ((bif (decide (s_2.2 < ((d0.fList.length : Nat) : Int))) then
        (some ((decide (s_2.1 ≤ 10000))))
      else
        some ((false)) : Option Bool)).bind fun y_3 =>
    bif y_3 then
      ((getI d0.fList s_2.2).bind fun x_2 =>
      need (inR .i64 (d1 - 1)) <|
      (rec_ref03_weight x_2 (d1 - 1)).bind fun x_3 =>
      need (inR .i64 (s_2.1 + x_3)) <|
      need (inR .i64 (s_2.2 + 1)) <|
      some (.nx (s_2.1 + x_3, s_2.2 + 1)))
    else
      some (.br s_2.1)
def ref03_weight_b (n : Nat) (rec_ref03_weight : T_api_Value → Int → Option Int) (d0 : T_api_Value) (d1 : Int) : Option Int :=
  ((bif (decide (d1 = 0)) then
      (some ((true)))
    else
      bif (decide ((3000 : Int) < ((d0.fList.length : Nat) : Int))) then
        (some ((true)))
      else
        some ((decide ((3000 : Int) < ((d0.fKeys.length : Nat) : Int)))) : Option Bool)).bind fun y_1 =>
  bif y_1 then
    (some ((10000 : Int)))
  else
    need (inR .i64 ((1 : Int) + (min (d0.fText.length : Int) (10000 : Int)))) <|
    (loopF (ref03_weight_s1 n d0) n ((1 : Int) + (min (d0.fText.length : Int) (10000 : Int)), (0 : Int))).bind fun y_2 =>
    (loopF (ref03_weight_s2 n rec_ref03_weight d0 d1) n (y_2, (0 : Int))).bind fun y_4 =>
    some (y_4)
set_option maxHeartbeats 2000000 in
theorem ref03_weight_b_ok (n : Nat) (rec_ref03_weight : T_api_Value → Int → Option Int) (hrec_ref03_weight : ∀ (M : Mem) (c0 : List Value) (d0 : T_api_Value) (h0 : Rep M (emb_T_api_Value d0) c0) (d1 : Int) (r : Int) (hF : rec_ref03_weight d0 d1 = some r), Ok Tryd.prog M 44 [.agg c0.toArray, .int .i64 d1] (fun _ v => v = .int .i64 r)) (M : Mem) (c0 : List Value) (d0 : T_api_Value) (h0 : Rep M (emb_T_api_Value d0) c0) (d1 : Int) (r : Int) (hF : ref03_weight_b n rec_ref03_weight d0 d1 = some r) : Ok Tryd.prog M 44 [.agg c0.toArray, .int .i64 d1] (fun _ v => v = .int .i64 r) := by
  unfold ref03_weight_b at hF
  intro M1 hM0 w0 H w p0
  replace h0 := Rep.mono hM0 _ _ h0
  obtain ⟨A_1, cap_1, A_2, cap_2, rfl, h_1, h_2⟩ := T_api_Value.opn h0
  refine R_enter 65 Tryd.func44 rfl rfl (by simp) (fun a0 f0 => ?_)
  refine R_seq (R_reg ?_)
  refine V_box (cs := #[.int .i8 d0.fKind, .bool d0.fBool, .int .i64 d0.fNum, S d0.fText, .slice A_1 d0.fList.length cap_1, .slice A_2 d0.fKeys.length cap_2]) (T := 33) f0 p0 (by kernel_rfl) (fun _ => by kernel_rfl) (fun b_1 M_1 w_1 hM_1 hc_1 p_1 a_1 f_1 => ?_)
  have hc_2 := fz_box hc_1
  refine V_run f_1 1 (by kernel_rfl) (fun a_2 f_2 => ?_)
  refine W_end rfl (T_n (R_seq (R_seq ?_)))
  obtain ⟨j_1, hj_1, hF_1⟩ := bind_some' hF
  refine R_mid (fun a_12 w_2 => ∃ y_1 : Bool, j_1 = y_1 ∧ ∃ M_2 : Mem, M_1.le M_2 ∧ Frm 65 [(1, .int .i64 d1), (2, .pointer (some (⟨b_1, 0, none⟩))), (21, .bool y_1)] a_12 ∧ Hp w0 M_2 (H) w_2) ?_ ?_
  · refine R_reg ?_
    refine V_run f_2 3 (by kernel_rfl) (fun a_3 f_3 => ?_)
    rcases Bool.eq_false_or_eq_true (decide (d1 = 0)) with h_3 | h_3
    · have k_1 : d1 = 0 := decide_eq_true_iff.1 h_3
      have hF_2 := cnd_t h_3 hj_1
      have f_4 := Frm.set f_3 10 (v := .bool (decide (d1 = 0))) (v' := .bool true) (by kernel_rfl) (congrArg Value.bool h_3)
      refine V_run f_4 11 (by kernel_rfl) (fun a_4 f_5 => ?_)
      refine W_end rfl (T_n ?_)
      exact ⟨(true), (Option.some.inj hF_2).symm, M_1, (Mem.le_refl _), f_5.keep (ks := [1, 2, 21]) (by kernel_rfl), p_1⟩
    · have k_2 : ¬ (d1 = 0) := iff_f decide_eq_true_iff h_3
      have hF_3 := cnd_f h_3 hj_1
      have f_6 := Frm.set f_3 10 (v := .bool (decide (d1 = 0))) (v' := .bool false) (by kernel_rfl) (congrArg Value.bool h_3)
      refine V_run f_6 1 (by kernel_rfl) (fun a_5 f_7 => ?_)
      refine V_ld f_7 p_1 hc_2 4 rfl (by kernel_rfl) (by kernel_rfl) (fun a_6 f_8 => ?_)
      refine V_run f_8 4 (by kernel_rfl) (fun a_7 f_9 => ?_)
      rcases Bool.eq_false_or_eq_true (decide ((3000 : Int) < ((d0.fList.length : Nat) : Int))) with h_4 | h_4
      · have k_3 : (3000 : Int) < ((d0.fList.length : Nat) : Int) := decide_eq_true_iff.1 h_4
        have hF_4 := cnd_t h_4 hF_3
        have f_10 := Frm.set f_9 16 (v := .bool (decide ((3000 : Int) < ((d0.fList.length : Nat) : Int)))) (v' := .bool true) (by kernel_rfl) (congrArg Value.bool h_4)
        refine V_run f_10 5 (by kernel_rfl) (fun a_8 f_11 => ?_)
        refine W_end rfl (T_n ?_)
        exact ⟨(true), (Option.some.inj hF_4).symm, M_1, (Mem.le_refl _), f_11.keep (ks := [1, 2, 21]) (by kernel_rfl), p_1⟩
      · have k_4 : ¬ ((3000 : Int) < ((d0.fList.length : Nat) : Int)) := iff_f decide_eq_true_iff h_4
        have hF_5 := cnd_f h_4 hF_3
        have f_12 := Frm.set f_9 16 (v := .bool (decide ((3000 : Int) < ((d0.fList.length : Nat) : Int)))) (v' := .bool false) (by kernel_rfl) (congrArg Value.bool h_4)
        refine V_run f_12 1 (by kernel_rfl) (fun a_9 f_13 => ?_)
        refine V_ld f_13 p_1 hc_2 5 rfl (by kernel_rfl) (by kernel_rfl) (fun a_10 f_14 => ?_)
        refine V_run f_14 3 (by kernel_rfl) (fun a_11 f_15 => ?_)
        refine W_end rfl (T_n ?_)
        exact ⟨(decide ((3000 : Int) < ((d0.fKeys.length : Nat) : Int))), (Option.some.inj hF_5).symm, M_1, (Mem.le_refl _), f_15.keep (ks := [1, 2, 21]) (by kernel_rfl), p_1⟩
  · rintro a_12 w_2 ⟨y_1, hq_1, M_2, hM_2, f_16, p_2⟩
    subst j_1
    refine T_n ?_
    refine R_cond f_16 (b := y_1) (by kernel_rfl) (by kernel_rfl) (fun h_5 => ?_) (fun h_5 => ?_)
    · have hF_6 := cnd_t h_5 hF_1
      refine R_seq (R_reg ?_)
      refine V_run f_16 1 (by kernel_rfl) (fun a_13 f_17 => ?_)
      refine W_end rfl (T_n (wp_ret (T_r ?_)))
      refine E_ret1 f_17 rfl (by kernel_rfl : Vc.look _ 4 = some (.int .i64 10000)) ?_
      obtain rfl := Option.some.inj hF_6
      exact ⟨_, rfl, M_2, (hM_1.trans hM_2), p_2, rfl⟩
    · have hF_7 := cnd_f h_5 hF_1
      refine wp_skip (T_n (R_seq (R_reg ?_)))
      refine V_run f_16 1 (by kernel_rfl) (fun a_14 f_18 => ?_)
      refine V_ld f_18 p_2 (fzu hM_2 hc_2) 3 rfl (by kernel_rfl) (by kernel_rfl) (fun a_15 f_19 => ?_)
      refine V_run f_19 1 (by kernel_rfl) (fun a_16 f_20 => ?_)
      refine V_eq (v := .int .i64 (min (d0.fText.length : Int) (10000 : Int))) f_20 (by kernel_rfl) (X_min (k := .i64) (a := (d0.fText.length : Int)) (b := (10000 : Int)) rfl (by kernel_rfl) (by kernel_rfl)) (fun a_17 f_21 => ?_)
      obtain ⟨g_1, hF_8⟩ := need_some hF_7
      refine V_run f_21 1 (by kernel_rfl) (fun a_18 f_22 => ?_)
      have f_23 := Frm.set f_22 26 (v := .int .i64 (IntKind.wrap .i64 ((1 : Int) + (min (d0.fText.length : Int) (10000 : Int))))) (v' := .int .i64 ((1 : Int) + (min (d0.fText.length : Int) (10000 : Int)))) (by kernel_rfl) (congrArg (Value.int .i64) (inR_wrap g_1))
      refine V_run f_23 1 (by kernel_rfl) (fun a_19 f_24 => ?_)
      refine W_end rfl (T_n (R_seq (R_seq (R_reg ?_))))
      refine V_run f_24 1 (by kernel_rfl) (fun a_20 f_25 => ?_)
      refine W_end rfl (T_n (wp_block ?_))
      obtain ⟨b_2, hL_1, hF_9⟩ := bind_some' hF_8
      refine wp_mono (Q := fun e a w => (e = .exit 0 ∧ (∃ y_2 : Int, b_2 = y_2 ∧ ∃ M_4 : Mem, M_2.le M_4 ∧ Frm 65 [(1, .int .i64 d1), (2, .pointer (some (⟨b_1, 0, none⟩))), (5, .int .i64 y_2)] a ∧ Hp w0 M_4 (H) w))) (R_loop (n := 65) (w0 := w0) (M := M_2) (fun (x : Nat × (Int × Int)) => match x with | (m_1, s_1) => [(1, .int .i64 d1), (2, .pointer (some (⟨b_1, 0, none⟩))), (5, .int .i64 s_1.1), (6, .int .i64 s_1.2)]) (fun (x : Nat × (Int × Int)) => match x with | (m_1, s_1) => (H)) (fun (x : Nat × (Int × Int)) (MM : Mem) => match x with | (m_1, s_1) => loopF (ref03_weight_s1 n d0) m_1 s_1 = some b_2) (fun (x : Nat × (Int × Int)) => match x with | (m_1, s_1) => m_1) (n, ((1 : Int) + (min (d0.fText.length : Int) (10000 : Int)), (0 : Int))) (f_25.keep (ks := [1, 2, 5, 6]) (by kernel_rfl)) p_2 hL_1 ?_) ?_
      · rintro ⟨m_1, s_1⟩ M_3 a_21 w_3 hM_3 I_1 f_26 p_3
        have I_1L := I_1
        obtain ⟨m_2, r_1, rfl, hs_1, hn_1⟩ := loop_step I_1L
        unfold ref03_weight_s1 at hs_1
        refine R_seq (R_seq (R_reg ?_))
        refine V_run f_26 2 (by kernel_rfl) (fun a_22 f_27 => ?_)
        refine V_ld f_27 p_3 (fzu (hM_2.trans hM_3) hc_2) 5 rfl (by kernel_rfl) (by kernel_rfl) (fun a_23 f_28 => ?_)
        refine V_run f_28 2 (by kernel_rfl) (fun a_24 f_29 => ?_)
        refine W_end rfl (T_n ?_)
        refine R_cond f_29 (b := decide (s_1.2 < ((d0.fKeys.length : Nat) : Int))) (by kernel_rfl) (by kernel_rfl) (fun h_6 => ?_) (fun h_6 => ?_)
        · have k_7 : s_1.2 < ((d0.fKeys.length : Nat) : Int) := decide_eq_true_iff.1 h_6
          have hF_10 := cnd_t h_6 hs_1
          refine wp_skip (T_n (R_seq (wp_block (R_reg ?_))))
          refine V_run f_29 2 (by kernel_rfl) (fun a_25 f_30 => ?_)
          refine V_ld f_30 p_3 (fzu (hM_2.trans hM_3) hc_2) 5 rfl (by kernel_rfl) (by kernel_rfl) (fun a_26 f_31 => ?_)
          refine V_run f_31 1 (by kernel_rfl) (fun a_27 f_32 => ?_)
          obtain ⟨x_1, hx_1, hF_11⟩ := bind_some' hF_10
          obtain ⟨ad_1, c_1, e_1, hl_1, hr_1, hc_3⟩ := Sli.at_ (h_2.mono ((hM_1.trans hM_2).trans hM_3)) hx_1
          clear hl_1
          obtain rfl : c_1 = [S x_1] := hr_1
          refine V_eq (v := .pointer (some (ad_1.add (s_1.2.toNat * 1)))) f_32 (by kernel_rfl) (X_indexAddrA e_1 rfl (len := d0.fKeys.length) (cap := cap_2) (k := .i64) (i := s_1.2) (by kernel_rfl) (by kernel_rfl) (e := 9) (by kernel_rfl) (sz := 1) (by kernel_rfl) (getI_nn hx_1) (getI_lt hx_1)) (fun a_28 f_33 => ?_)
          refine V_ld f_33 p_3 hc_3 0 rfl (by kernel_rfl) (by kernel_rfl) (fun a_29 f_34 => ?_)
          refine V_run f_34 1 (by kernel_rfl) (fun a_30 f_35 => ?_)
          refine V_eq (v := .int .i64 (min (x_1.length : Int) (10000 : Int))) f_35 (by kernel_rfl) (X_min (k := .i64) (a := (x_1.length : Int)) (b := (10000 : Int)) rfl (by kernel_rfl) (by kernel_rfl)) (fun a_31 f_36 => ?_)
          obtain ⟨g_2, hF_12⟩ := need_some hF_11
          refine V_run f_36 1 (by kernel_rfl) (fun a_32 f_37 => ?_)
          have f_38 := Frm.set f_37 42 (v := .int .i64 (IntKind.wrap .i64 (s_1.1 + (min (x_1.length : Int) (10000 : Int))))) (v' := .int .i64 (s_1.1 + (min (x_1.length : Int) (10000 : Int)))) (by kernel_rfl) (congrArg (Value.int .i64) (inR_wrap g_2))
          refine V_run f_38 1 (by kernel_rfl) (fun a_33 f_39 => ?_)
          refine W_end rfl (B_n (T_n (R_reg ?_)))
          refine V_run f_39 1 (by kernel_rfl) (fun a_34 f_40 => ?_)
          obtain ⟨g_3, hF_13⟩ := need_some hF_12
          refine V_run f_40 1 (by kernel_rfl) (fun a_35 f_41 => ?_)
          have f_42 := Frm.set f_41 33 (v := .int .i64 (IntKind.wrap .i64 (s_1.2 + 1))) (v' := .int .i64 (s_1.2 + 1)) (by kernel_rfl) (congrArg (Value.int .i64) (inR_wrap g_3))
          refine V_run f_42 1 (by kernel_rfl) (fun a_36 f_43 => ?_)
          refine W_end rfl (T_n ?_)
          obtain rfl := Option.some.inj hF_13
          exact ⟨⟨m_2, (s_1.1 + (min (x_1.length : Int) (10000 : Int)), s_1.2 + 1)⟩, Nat.lt_succ_self _, M_3, hM_3, hn_1, f_43.keep (ks := [1, 2, 5, 6]) (by kernel_rfl), p_3⟩
        · have k_8 : ¬ (s_1.2 < ((d0.fKeys.length : Nat) : Int)) := iff_f decide_eq_true_iff h_6
          have hF_14 := cnd_f h_6 hs_1
          refine wp_exit (T_x (T_x ?_))
          obtain rfl := Option.some.inj hF_14
          exact ⟨rfl, s_1.1, (Option.some.inj hn_1).symm, M_3, hM_3, f_29.keep (ks := [1, 2, 5]) (by kernel_rfl), p_3⟩
      · rintro _ a_38 w_5 ⟨rfl, y_2, hq_, M_4, hM_4, f_44, p_4⟩
        subst b_2
        refine B_x (T_n (R_seq (R_seq (R_reg ?_))))
        refine V_run f_44 1 (by kernel_rfl) (fun a_39 f_45 => ?_)
        refine W_end rfl (T_n (wp_block ?_))
        obtain ⟨b_3, hL_2, hF_15⟩ := bind_some' hF_9
        refine wp_mono (Q := fun e a w => (e = .exit 2 ∧ (∃ y_4 : Int, b_3 = y_4 ∧ ∃ M_7 : Mem, M_4.le M_7 ∧ Frm 65 [(5, .int .i64 y_4)] a ∧ Hp w0 M_7 (H) w))) (R_loop (n := 65) (w0 := w0) (M := M_4) (fun (x : Nat × (Int × Int)) => match x with | (m_3, s_2) => [(1, .int .i64 d1), (2, .pointer (some (⟨b_1, 0, none⟩))), (5, .int .i64 s_2.1), (7, .int .i64 s_2.2)]) (fun (x : Nat × (Int × Int)) => match x with | (m_3, s_2) => (H)) (fun (x : Nat × (Int × Int)) (MM : Mem) => match x with | (m_3, s_2) => loopF (ref03_weight_s2 n rec_ref03_weight d0 d1) m_3 s_2 = some b_3) (fun (x : Nat × (Int × Int)) => match x with | (m_3, s_2) => m_3) (n, (y_2, (0 : Int))) (f_45.keep (ks := [1, 2, 5, 7]) (by kernel_rfl)) p_4 hL_2 ?_) ?_
        · rintro ⟨m_3, s_2⟩ M_5 a_40 w_6 hM_5 I_2 f_46 p_5
          have I_2L := I_2
          obtain ⟨m_4, r_2, rfl, hs_2, hn_2⟩ := loop_step I_2L
          unfold ref03_weight_s2 at hs_2
          refine R_seq (R_seq ?_)
          obtain ⟨j_2, hj_2, hF_16⟩ := bind_some' hs_2
          refine R_mid (fun a_46 w_7 => ∃ y_3 : Bool, j_2 = y_3 ∧ ∃ M_6 : Mem, M_5.le M_6 ∧ Frm 65 [(1, .int .i64 d1), (2, .pointer (some (⟨b_1, 0, none⟩))), (5, .int .i64 s_2.1), (7, .int .i64 s_2.2), (51, .bool y_3)] a_46 ∧ Hp w0 M_6 (H) w_7) ?_ ?_
          · refine R_reg ?_
            refine V_run f_46 2 (by kernel_rfl) (fun a_41 f_47 => ?_)
            refine V_ld f_47 p_5 (fzu ((hM_2.trans hM_4).trans hM_5) hc_2) 4 rfl (by kernel_rfl) (by kernel_rfl) (fun a_42 f_48 => ?_)
            refine V_run f_48 3 (by kernel_rfl) (fun a_43 f_49 => ?_)
            rcases Bool.eq_false_or_eq_true (decide (s_2.2 < ((d0.fList.length : Nat) : Int))) with h_7 | h_7
            · have k_9 : s_2.2 < ((d0.fList.length : Nat) : Int) := decide_eq_true_iff.1 h_7
              have hF_17 := cnd_t h_7 hj_2
              have f_50 := Frm.set f_49 48 (v := .bool (decide (s_2.2 < ((d0.fList.length : Nat) : Int)))) (v' := .bool true) (by kernel_rfl) (congrArg Value.bool h_7)
              refine V_run f_50 3 (by kernel_rfl) (fun a_44 f_51 => ?_)
              refine W_end rfl (T_n ?_)
              exact ⟨(decide (s_2.1 ≤ 10000)), (Option.some.inj hF_17).symm, M_5, (Mem.le_refl _), f_51.keep (ks := [1, 2, 5, 7, 51]) (by kernel_rfl), p_5⟩
            · have k_10 : ¬ (s_2.2 < ((d0.fList.length : Nat) : Int)) := iff_f decide_eq_true_iff h_7
              have hF_18 := cnd_f h_7 hj_2
              have f_52 := Frm.set f_49 48 (v := .bool (decide (s_2.2 < ((d0.fList.length : Nat) : Int)))) (v' := .bool false) (by kernel_rfl) (congrArg Value.bool h_7)
              refine V_run f_52 3 (by kernel_rfl) (fun a_45 f_53 => ?_)
              refine W_end rfl (T_n ?_)
              exact ⟨(false), (Option.some.inj hF_18).symm, M_5, (Mem.le_refl _), f_53.keep (ks := [1, 2, 5, 7, 51]) (by kernel_rfl), p_5⟩
          · rintro a_46 w_7 ⟨y_3, hq_2, M_6, hM_6, f_54, p_6⟩
            subst j_2
            refine T_n ?_
            refine R_cond f_54 (b := y_3) (by kernel_rfl) (by kernel_rfl) (fun h_8 => ?_) (fun h_8 => ?_)
            · have hF_19 := cnd_t h_8 hF_16
              refine wp_skip (T_n (R_seq (wp_block (R_reg ?_))))
              refine V_run f_54 2 (by kernel_rfl) (fun a_47 f_55 => ?_)
              refine V_ld f_55 p_6 (fzu (((hM_2.trans hM_4).trans hM_5).trans hM_6) hc_2) 4 rfl (by kernel_rfl) (by kernel_rfl) (fun a_48 f_56 => ?_)
              refine V_run f_56 1 (by kernel_rfl) (fun a_49 f_57 => ?_)
              obtain ⟨x_2, hx_2, hF_20⟩ := bind_some' hF_19
              obtain ⟨ad_2, c_2, e_2, hl_2, hr_2, hc_4⟩ := Sli.at_ (h_1.mono ((((hM_1.trans hM_2).trans hM_4).trans hM_5).trans hM_6)) hx_2
              clear hl_2
              obtain ⟨A_3, cap_3, A_4, cap_4, rfl, h_9, h_10⟩ := T_api_Value.opn hr_2
              refine V_eq (v := .pointer (some (ad_2.add (s_2.2.toNat * 6)))) f_57 (by kernel_rfl) (X_indexAddrA e_2 rfl (len := d0.fList.length) (cap := cap_1) (k := .i64) (i := s_2.2) (by kernel_rfl) (by kernel_rfl) (e := 33) (by kernel_rfl) (sz := 6) (by kernel_rfl) (getI_nn hx_2) (getI_lt hx_2)) (fun a_50 f_58 => ?_)
              refine V_eq (v := .agg #[.int .i8 x_2.fKind, .bool x_2.fBool, .int .i64 x_2.fNum, S x_2.fText, .slice A_3 x_2.fList.length cap_3, .slice A_4 x_2.fKeys.length cap_4]) f_58 (by kernel_rfl) (X_loadN (cs := [.int .i8 x_2.fKind, .bool x_2.fBool, .int .i64 x_2.fNum, S x_2.fText, .slice A_3 x_2.fList.length cap_3, .slice A_4 x_2.fKeys.length cap_4]) rfl (ad := ad_2.add (s_2.2.toNat * 6)) (by kernel_rfl) (by kernel_rfl) (fun j v h => p_6.cell (hc_4 j v h))) (fun a_51 f_59 => ?_)
              refine V_run f_59 1 (by kernel_rfl) (fun a_52 f_60 => ?_)
              obtain ⟨g_4, hF_21⟩ := need_some hF_20
              refine V_run f_60 1 (by kernel_rfl) (fun a_53 f_61 => ?_)
              have f_62 := Frm.set f_61 61 (v := .int .i64 (IntKind.wrap .i64 (d1 - 1))) (v' := .int .i64 (d1 - 1)) (by kernel_rfl) (congrArg (Value.int .i64) (inR_wrap g_4))
              obtain ⟨x_3, hx_3, hF_22⟩ := bind_some' hF_21
              refine V_okv f_62 p_6 (hrec_ref03_weight _ _ x_2 (T_api_Value.shutx (x := x_2) h_9 h_10) (d1 - 1) x_3 hx_3) (by kernel_rfl) (fun _ => by kernel_rfl) (fun w_8 p_7 a_54 f_63 => ?_)
              obtain ⟨g_5, hF_23⟩ := need_some hF_22
              refine V_run f_63 1 (by kernel_rfl) (fun a_55 f_64 => ?_)
              have f_65 := Frm.set f_64 63 (v := .int .i64 (IntKind.wrap .i64 (s_2.1 + x_3))) (v' := .int .i64 (s_2.1 + x_3)) (by kernel_rfl) (congrArg (Value.int .i64) (inR_wrap g_5))
              refine V_run f_65 1 (by kernel_rfl) (fun a_56 f_66 => ?_)
              refine W_end rfl (B_n (T_n (R_reg ?_)))
              refine V_run f_66 1 (by kernel_rfl) (fun a_57 f_67 => ?_)
              obtain ⟨g_6, hF_24⟩ := need_some hF_23
              refine V_run f_67 1 (by kernel_rfl) (fun a_58 f_68 => ?_)
              have f_69 := Frm.set f_68 53 (v := .int .i64 (IntKind.wrap .i64 (s_2.2 + 1))) (v' := .int .i64 (s_2.2 + 1)) (by kernel_rfl) (congrArg (Value.int .i64) (inR_wrap g_6))
              refine V_run f_69 1 (by kernel_rfl) (fun a_59 f_70 => ?_)
              refine W_end rfl (T_n ?_)
              obtain rfl := Option.some.inj hF_24
              exact ⟨⟨m_4, (s_2.1 + x_3, s_2.2 + 1)⟩, Nat.lt_succ_self _, M_6, (hM_5.trans hM_6), hn_2, f_70.keep (ks := [1, 2, 5, 7]) (by kernel_rfl), p_7⟩
            · have hF_25 := cnd_f h_8 hF_16
              refine wp_exit (T_x (T_x ?_))
              obtain rfl := Option.some.inj hF_25
              exact ⟨rfl, s_2.1, (Option.some.inj hn_2).symm, M_6, (hM_5.trans hM_6), f_54.keep (ks := [5]) (by kernel_rfl), p_6⟩
        · rintro _ a_61 w_10 ⟨rfl, y_4, hq_, M_7, hM_7, f_71, p_8⟩
          subst b_3
          refine B_x (T_n (R_seq (R_reg ?_)))
          refine V_run f_71 2 (by kernel_rfl) (fun a_62 f_72 => ?_)
          refine W_end rfl (T_n (wp_ret ?_))
          refine E_ret1 f_72 rfl (by kernel_rfl : Vc.look _ 4 = some (.int .i64 y_4)) ?_
          obtain rfl := Option.some.inj hF_15
          exact ⟨_, rfl, M_7, (((hM_1.trans hM_2).trans hM_4).trans hM_7), p_8, rfl⟩
def ref03_weight_k (n : Nat) : Nat → T_api_Value → Int → Option Int
  | 0 => fun _ _ => none
  | k + 1 => ref03_weight_b n (ref03_weight_k n k)
def ref03_weight (n : Nat) (d0 : T_api_Value) (d1 : Int) : Option Int := ref03_weight_k n n d0 d1
theorem ref03_weight_ok (n : Nat) (M : Mem) (c0 : List Value) (d0 : T_api_Value) (h0 : Rep M (emb_T_api_Value d0) c0) (d1 : Int) (r : Int) (hF : ref03_weight n d0 d1 = some r) : Ok Tryd.prog M 44 [.agg c0.toArray, .int .i64 d1] (fun _ v => v = .int .i64 r) := by
  have key : ∀ (k : Nat) (M : Mem) (c0 : List Value) (d0 : T_api_Value) (h0 : Rep M (emb_T_api_Value d0) c0) (d1 : Int) (r : Int) (hF : ref03_weight_k n k d0 d1 = some r), Ok Tryd.prog M 44 [.agg c0.toArray, .int .i64 d1] (fun _ v => v = .int .i64 r) := by
    intro k
    induction k with
    | zero => intro M c0 d0 h0 d1 r hF; simp [ref03_weight_k] at hF
    | succ k ih => intro M c0 d0 h0 d1 r hF; exact ref03_weight_b_ok n (ref03_weight_k n k) ih M c0 d0 h0 d1 r hF
  exact key n M c0 d0 h0 d1 r hF

def ref03_Great (n : Nat) (d0 : T_api_Value) : Option Bool :=
  (ref03_weight n d0 (30 : Int)).bind fun x_1 =>
  some ((decide ((5000 : Int) < x_1)))
theorem ref03_Great_ok (n : Nat) (M : Mem) (c0 : List Value) (d0 : T_api_Value) (h0 : Rep M (emb_T_api_Value d0) c0) (r : Bool) (hF : ref03_Great n d0 = some r) : Ok Tryd.prog M 20 [.agg c0.toArray] (fun _ v => v = .bool r) := by
  unfold ref03_Great at hF
  intro M1 hM0 w0 H w p0
  replace h0 := Rep.mono hM0 _ _ h0
  obtain ⟨A_1, cap_1, A_2, cap_2, rfl, h_1, h_2⟩ := T_api_Value.opn h0
  refine R_enter 6 Tryd.func20 rfl rfl (by simp) (fun a0 f0 => ?_)
  refine R_seq (R_reg ?_)
  refine V_box (cs := #[.int .i8 d0.fKind, .bool d0.fBool, .int .i64 d0.fNum, S d0.fText, .slice A_1 d0.fList.length cap_1, .slice A_2 d0.fKeys.length cap_2]) (T := 33) f0 p0 (by kernel_rfl) (fun _ => by kernel_rfl) (fun b_1 M_1 w_1 hM_1 hc_1 p_1 a_1 f_1 => ?_)
  have hc_2 := fz_box hc_1
  refine V_run f_1 1 (by kernel_rfl) (fun a_2 f_2 => ?_)
  refine W_end rfl (T_n (R_seq (R_reg ?_)))
  refine V_eq (v := .agg #[.int .i8 d0.fKind, .bool d0.fBool, .int .i64 d0.fNum, S d0.fText, .slice A_1 d0.fList.length cap_1, .slice A_2 d0.fKeys.length cap_2]) f_2 (by kernel_rfl) (X_loadN (cs := [.int .i8 d0.fKind, .bool d0.fBool, .int .i64 d0.fNum, S d0.fText, .slice A_1 d0.fList.length cap_1, .slice A_2 d0.fKeys.length cap_2]) rfl (ad := ⟨b_1, 0, none⟩) (by kernel_rfl) (by kernel_rfl) (fun j v h => p_1.cell (hc_2 j v h))) (fun a_3 f_3 => ?_)
  obtain ⟨x_1, hx_1, hF_1⟩ := bind_some' hF
  refine V_okv f_3 p_1 (ref03_weight_ok n _ _ d0 (T_api_Value.shutx (x := d0) (h_1.mono hM_1) (h_2.mono hM_1)) (30 : Int) x_1 hx_1) (by kernel_rfl) (fun _ => by kernel_rfl) (fun w_2 p_2 a_4 f_4 => ?_)
  refine V_run f_4 2 (by kernel_rfl) (fun a_5 f_5 => ?_)
  refine W_end rfl (T_n (wp_ret ?_))
  refine E_ret1 f_5 rfl (by kernel_rfl : Vc.look _ 2 = some (.bool (decide ((5000 : Int) < x_1)))) ?_
  obtain rfl := Option.some.inj hF_1
  exact ⟨_, rfl, M_1, hM_1, p_2, rfl⟩
end Go.Proofs.YtalifkcchfkgmaaDoor
