/-
  Printed by a program: of each function its shallow reading, and the proof that the function gives what the reading gives. No condition.
-/
import Derived.Test.YtekkifakjkhjiaaDoorQ1
import Derived.Test.YtekkifakjkhjiaaDoorTy
import Derived.Test.YtekkifakjkhjiaaDoorRows
import Derived.Test.YtekkifakjkhjiaaDoorVkF
set_option linter.unusedVariables false
set_option linter.unusedSimpArgs false
namespace Go.Proofs.YtekkifakjkhjiaaDoor
open Go Go.Vc Go.RowKit
def ref03_compare_s1 (n : Nat) (rec_ref03_compare : T_api_Value → T_api_Value → Option Int) (d0 : T_api_Value) (d1 : T_api_Value) (s_1 : Int) : Option (Lp Int (Sum Int Unit)) :=
    ((bif (decide (s_1 < ((d0.fList.length : Nat) : Int))) then
        (some ((decide (s_1 < ((d1.fList.length : Nat) : Int)))))
      else
        some ((false)) : Option Bool)).bind fun y_1 =>
    bif y_1 then
      (((bif (decide (d0.fKind = 5)) then
          ((getI d0.fKeys s_1).bind fun x_1 =>
          (getI d1.fKeys s_1).bind fun x_2 =>
          some ((!(decide (x_1 = x_2)))))
        else
          some ((false)) : Option Bool)).bind fun y_2 =>
      bif y_2 then
        ((getI d0.fKeys s_1).bind fun x_3 =>
        (getI d1.fKeys s_1).bind fun x_4 =>
        bif (Op.bytesLess x_3 x_4) then
          (some (.br (.inl (-1 : Int))))
        else
          some (.br (.inl (1 : Int))))
      else
        (getI d0.fList s_1).bind fun x_5 =>
        (getI d1.fList s_1).bind fun x_6 =>
        (rec_ref03_compare x_5 x_6).bind fun x_7 =>
        bif (!(decide (x_7 = 0))) then
          (some (.br (.inl x_7)))
        else
          need (inR .i64 (s_1 + 1)) <|
          some (.nx (s_1 + 1)))
    else
      some (.br (.inr ()))
def ref03_compare_b (n : Nat) (rec_ref03_compare : T_api_Value → T_api_Value → Option Int) (d0 : T_api_Value) (d1 : T_api_Value) : Option Int :=
  bif (!(decide (d0.fKind = d1.fKind))) then
    (bif (decide (d0.fKind < d1.fKind)) then
      (some ((-1 : Int)))
    else
      some ((1 : Int)))
  else
    bif (!(d0.fBool == d1.fBool)) then
      (bif d1.fBool then
        (some ((-1 : Int)))
      else
        some ((1 : Int)))
    else
      bif (!(decide (d0.fNum = d1.fNum))) then
        (bif (decide (d0.fNum < d1.fNum)) then
          (some ((-1 : Int)))
        else
          some ((1 : Int)))
      else
        bif (!(decide (d0.fText = d1.fText))) then
          (bif (Op.bytesLess d0.fText d1.fText) then
            (some ((-1 : Int)))
          else
            some ((1 : Int)))
        else
          (loopF (ref03_compare_s1 n rec_ref03_compare d0 d1) n (0 : Int)).bind fun b_3 =>
          (match b_3 with 
          | .inl y_3 => some (y_3) 
          | .inr y_4 => bif (!(decide (((d0.fList.length : Nat) : Int) = ((d1.fList.length : Nat) : Int)))) then
              (bif (decide (((d0.fList.length : Nat) : Int) < ((d1.fList.length : Nat) : Int))) then
                (some ((-1 : Int)))
              else
                some ((1 : Int)))
            else
              some ((0 : Int)))
set_option maxHeartbeats 2000000 in
theorem ref03_compare_b_ok (n : Nat) (rec_ref03_compare : T_api_Value → T_api_Value → Option Int) (hrec_ref03_compare : ∀ (M : Mem) (c0 : List Value) (d0 : T_api_Value) (h0 : Rep M (emb_T_api_Value d0) c0) (c1 : List Value) (d1 : T_api_Value) (h1 : Rep M (emb_T_api_Value d1) c1) (r : Int) (hF : rec_ref03_compare d0 d1 = some r), Ok Tryd.prog M 50 [.agg c0.toArray, .agg c1.toArray] (fun _ v => v = .int .i64 r)) (M : Mem) (c0 : List Value) (d0 : T_api_Value) (h0 : Rep M (emb_T_api_Value d0) c0) (c1 : List Value) (d1 : T_api_Value) (h1 : Rep M (emb_T_api_Value d1) c1) (r : Int) (hF : ref03_compare_b n rec_ref03_compare d0 d1 = some r) : Ok Tryd.prog M 50 [.agg c0.toArray, .agg c1.toArray] (fun _ v => v = .int .i64 r) := by
  unfold ref03_compare_b at hF
  intro M1 hM0 w0 H w p0
  replace h0 := Rep.mono hM0 _ _ h0
  replace h1 := Rep.mono hM0 _ _ h1
  obtain ⟨A_1, cap_1, A_2, cap_2, rfl, h_1, h_2⟩ := T_api_Value.opn h0
  obtain ⟨A_3, cap_3, A_4, cap_4, rfl, h_3, h_4⟩ := T_api_Value.opn h1
  refine R_enter 113 Tryd.func50 rfl rfl (by simp) (fun a0 f0 => ?_)
  refine R_seq (R_reg ?_)
  refine V_box (cs := #[.int .i8 d0.fKind, .bool d0.fBool, .int .i64 d0.fNum, S d0.fText, .slice A_1 d0.fList.length cap_1, .slice A_2 d0.fKeys.length cap_2]) (T := 26) f0 p0 (by kernel_rfl) (fun _ => by kernel_rfl) (fun b_1 M_1 w_1 hM_1 hc_1 p_1 a_1 f_1 => ?_)
  have hc_2 := fz_box hc_1
  refine V_box (cs := #[.int .i8 d1.fKind, .bool d1.fBool, .int .i64 d1.fNum, S d1.fText, .slice A_3 d1.fList.length cap_3, .slice A_4 d1.fKeys.length cap_4]) (T := 26) f_1 p_1 (by kernel_rfl) (fun _ => by kernel_rfl) (fun b_2 M_2 w_2 hM_2 hc_3 p_2 a_2 f_2 => ?_)
  have hc_4 := fz_box hc_3
  refine V_run f_2 1 (by kernel_rfl) (fun a_3 f_3 => ?_)
  refine W_end rfl (T_n (R_seq (R_seq (R_reg ?_))))
  refine V_run f_3 1 (by kernel_rfl) (fun a_4 f_4 => ?_)
  refine V_ld f_4 p_2 (fzu hM_2 hc_2) 0 rfl (by kernel_rfl) (by kernel_rfl) (fun a_5 f_5 => ?_)
  refine V_run f_5 1 (by kernel_rfl) (fun a_6 f_6 => ?_)
  refine V_ld f_6 p_2 hc_4 0 rfl (by kernel_rfl) (by kernel_rfl) (fun a_7 f_7 => ?_)
  refine V_run f_7 1 (by kernel_rfl) (fun a_8 f_8 => ?_)
  refine W_end rfl (T_n ?_)
  refine R_cond f_8 (b := !(decide (d0.fKind = d1.fKind))) (by kernel_rfl) (by kernel_rfl) (fun h_5 => ?_) (fun h_5 => ?_)
  · have k_1 : ¬ (d0.fKind = d1.fKind) := (not_iff decide_eq_true_iff).1 h_5
    have hF_1 := cnd_t h_5 hF
    refine R_seq (R_seq (R_reg ?_))
    refine V_run f_8 1 (by kernel_rfl) (fun a_9 f_9 => ?_)
    refine V_ld f_9 p_2 (fzu hM_2 hc_2) 0 rfl (by kernel_rfl) (by kernel_rfl) (fun a_10 f_10 => ?_)
    refine V_run f_10 1 (by kernel_rfl) (fun a_11 f_11 => ?_)
    refine V_ld f_11 p_2 hc_4 0 rfl (by kernel_rfl) (by kernel_rfl) (fun a_12 f_12 => ?_)
    refine V_run f_12 1 (by kernel_rfl) (fun a_13 f_13 => ?_)
    refine W_end rfl (T_n ?_)
    refine R_cond f_13 (b := decide (d0.fKind < d1.fKind)) (by kernel_rfl) (by kernel_rfl) (fun h_6 => ?_) (fun h_6 => ?_)
    · have k_2 : d0.fKind < d1.fKind := decide_eq_true_iff.1 h_6
      have hF_2 := cnd_t h_6 hF_1
      refine R_seq (R_reg ?_)
      refine V_run f_13 1 (by kernel_rfl) (fun a_14 f_14 => ?_)
      refine W_end rfl (T_n (wp_ret (T_r (T_r ?_))))
      refine E_ret1 f_14 rfl (by kernel_rfl : Vc.look _ 4 = some (.int .i64 (-1))) ?_
      obtain rfl := Option.some.inj hF_2
      exact ⟨_, rfl, M_2, (hM_1.trans hM_2), p_2, rfl⟩
    · have k_3 : ¬ (d0.fKind < d1.fKind) := iff_f decide_eq_true_iff h_6
      have hF_3 := cnd_f h_6 hF_1
      refine wp_skip (T_n (R_seq (R_reg ?_)))
      refine V_run f_13 1 (by kernel_rfl) (fun a_15 f_15 => ?_)
      refine W_end rfl (T_n (wp_ret (T_r ?_)))
      refine E_ret1 f_15 rfl (by kernel_rfl : Vc.look _ 4 = some (.int .i64 1)) ?_
      obtain rfl := Option.some.inj hF_3
      exact ⟨_, rfl, M_2, (hM_1.trans hM_2), p_2, rfl⟩
  · have k_4 : ¬ (¬ (d0.fKind = d1.fKind)) := iff_f (not_iff decide_eq_true_iff) h_5
    have hF_4 := cnd_f h_5 hF
    refine wp_skip (T_n (R_seq (R_seq (R_reg ?_))))
    refine V_run f_8 1 (by kernel_rfl) (fun a_16 f_16 => ?_)
    refine V_ld f_16 p_2 (fzu hM_2 hc_2) 1 rfl (by kernel_rfl) (by kernel_rfl) (fun a_17 f_17 => ?_)
    refine V_run f_17 1 (by kernel_rfl) (fun a_18 f_18 => ?_)
    refine V_ld f_18 p_2 hc_4 1 rfl (by kernel_rfl) (by kernel_rfl) (fun a_19 f_19 => ?_)
    refine V_run f_19 1 (by kernel_rfl) (fun a_20 f_20 => ?_)
    refine W_end rfl (T_n ?_)
    refine R_cond f_20 (b := !(d0.fBool == d1.fBool)) (by kernel_rfl) (by kernel_rfl) (fun h_7 => ?_) (fun h_7 => ?_)
    · have k_5 : (d0.fBool == d1.fBool) = false := by simpa using h_7
      have hF_5 := cnd_t h_7 hF_4
      refine R_seq (R_seq (R_reg ?_))
      refine V_run f_20 1 (by kernel_rfl) (fun a_21 f_21 => ?_)
      refine V_ld f_21 p_2 hc_4 1 rfl (by kernel_rfl) (by kernel_rfl) (fun a_22 f_22 => ?_)
      refine W_end rfl (T_n ?_)
      refine R_cond f_22 (b := d1.fBool) (by kernel_rfl) (by kernel_rfl) (fun h_8 => ?_) (fun h_8 => ?_)
      · have hF_6 := cnd_t h_8 hF_5
        refine R_seq (R_reg ?_)
        refine V_run f_22 1 (by kernel_rfl) (fun a_23 f_23 => ?_)
        refine W_end rfl (T_n (wp_ret (T_r (T_r ?_))))
        refine E_ret1 f_23 rfl (by kernel_rfl : Vc.look _ 4 = some (.int .i64 (-1))) ?_
        obtain rfl := Option.some.inj hF_6
        exact ⟨_, rfl, M_2, (hM_1.trans hM_2), p_2, rfl⟩
      · have hF_7 := cnd_f h_8 hF_5
        refine wp_skip (T_n (R_seq (R_reg ?_)))
        refine V_run f_22 1 (by kernel_rfl) (fun a_24 f_24 => ?_)
        refine W_end rfl (T_n (wp_ret (T_r ?_)))
        refine E_ret1 f_24 rfl (by kernel_rfl : Vc.look _ 4 = some (.int .i64 1)) ?_
        obtain rfl := Option.some.inj hF_7
        exact ⟨_, rfl, M_2, (hM_1.trans hM_2), p_2, rfl⟩
    · have k_8 : (d0.fBool == d1.fBool) = true := by simpa using h_7
      have hF_8 := cnd_f h_7 hF_4
      refine wp_skip (T_n (R_seq (R_seq (R_reg ?_))))
      refine V_run f_20 1 (by kernel_rfl) (fun a_25 f_25 => ?_)
      refine V_ld f_25 p_2 (fzu hM_2 hc_2) 2 rfl (by kernel_rfl) (by kernel_rfl) (fun a_26 f_26 => ?_)
      refine V_run f_26 1 (by kernel_rfl) (fun a_27 f_27 => ?_)
      refine V_ld f_27 p_2 hc_4 2 rfl (by kernel_rfl) (by kernel_rfl) (fun a_28 f_28 => ?_)
      refine V_run f_28 1 (by kernel_rfl) (fun a_29 f_29 => ?_)
      refine W_end rfl (T_n ?_)
      refine R_cond f_29 (b := !(decide (d0.fNum = d1.fNum))) (by kernel_rfl) (by kernel_rfl) (fun h_9 => ?_) (fun h_9 => ?_)
      · have k_9 : ¬ (d0.fNum = d1.fNum) := (not_iff decide_eq_true_iff).1 h_9
        have hF_9 := cnd_t h_9 hF_8
        refine R_seq (R_seq (R_reg ?_))
        refine V_run f_29 1 (by kernel_rfl) (fun a_30 f_30 => ?_)
        refine V_ld f_30 p_2 (fzu hM_2 hc_2) 2 rfl (by kernel_rfl) (by kernel_rfl) (fun a_31 f_31 => ?_)
        refine V_run f_31 1 (by kernel_rfl) (fun a_32 f_32 => ?_)
        refine V_ld f_32 p_2 hc_4 2 rfl (by kernel_rfl) (by kernel_rfl) (fun a_33 f_33 => ?_)
        refine V_run f_33 1 (by kernel_rfl) (fun a_34 f_34 => ?_)
        refine W_end rfl (T_n ?_)
        refine R_cond f_34 (b := decide (d0.fNum < d1.fNum)) (by kernel_rfl) (by kernel_rfl) (fun h_10 => ?_) (fun h_10 => ?_)
        · have k_10 : d0.fNum < d1.fNum := decide_eq_true_iff.1 h_10
          have hF_10 := cnd_t h_10 hF_9
          refine R_seq (R_reg ?_)
          refine V_run f_34 1 (by kernel_rfl) (fun a_35 f_35 => ?_)
          refine W_end rfl (T_n (wp_ret (T_r (T_r ?_))))
          refine E_ret1 f_35 rfl (by kernel_rfl : Vc.look _ 4 = some (.int .i64 (-1))) ?_
          obtain rfl := Option.some.inj hF_10
          exact ⟨_, rfl, M_2, (hM_1.trans hM_2), p_2, rfl⟩
        · have k_11 : ¬ (d0.fNum < d1.fNum) := iff_f decide_eq_true_iff h_10
          have hF_11 := cnd_f h_10 hF_9
          refine wp_skip (T_n (R_seq (R_reg ?_)))
          refine V_run f_34 1 (by kernel_rfl) (fun a_36 f_36 => ?_)
          refine W_end rfl (T_n (wp_ret (T_r ?_)))
          refine E_ret1 f_36 rfl (by kernel_rfl : Vc.look _ 4 = some (.int .i64 1)) ?_
          obtain rfl := Option.some.inj hF_11
          exact ⟨_, rfl, M_2, (hM_1.trans hM_2), p_2, rfl⟩
      · have k_12 : ¬ (¬ (d0.fNum = d1.fNum)) := iff_f (not_iff decide_eq_true_iff) h_9
        have hF_12 := cnd_f h_9 hF_8
        refine wp_skip (T_n (R_seq (R_seq (R_reg ?_))))
        refine V_run f_29 1 (by kernel_rfl) (fun a_37 f_37 => ?_)
        refine V_ld f_37 p_2 (fzu hM_2 hc_2) 3 rfl (by kernel_rfl) (by kernel_rfl) (fun a_38 f_38 => ?_)
        refine V_run f_38 1 (by kernel_rfl) (fun a_39 f_39 => ?_)
        refine V_ld f_39 p_2 hc_4 3 rfl (by kernel_rfl) (by kernel_rfl) (fun a_40 f_40 => ?_)
        refine V_eq (v := .bool (!(decide (d0.fText = d1.fText)))) f_40 (by kernel_rfl) (X_strne rfl (l := d0.fText) (m := d1.fText) (by kernel_rfl) (by kernel_rfl)) (fun a_41 f_41 => ?_)
        refine W_end rfl (T_n ?_)
        refine R_cond f_41 (b := !(decide (d0.fText = d1.fText))) (by kernel_rfl) (by kernel_rfl) (fun h_11 => ?_) (fun h_11 => ?_)
        · have k_13 : ¬ (d0.fText = d1.fText) := (not_iff decide_eq_true_iff).1 h_11
          have hF_13 := cnd_t h_11 hF_12
          refine R_seq (R_seq (R_reg ?_))
          refine V_run f_41 1 (by kernel_rfl) (fun a_42 f_42 => ?_)
          refine V_ld f_42 p_2 (fzu hM_2 hc_2) 3 rfl (by kernel_rfl) (by kernel_rfl) (fun a_43 f_43 => ?_)
          refine V_run f_43 1 (by kernel_rfl) (fun a_44 f_44 => ?_)
          refine V_ld f_44 p_2 hc_4 3 rfl (by kernel_rfl) (by kernel_rfl) (fun a_45 f_45 => ?_)
          refine V_eq (v := .bool (Op.bytesLess d0.fText d1.fText)) f_45 (by kernel_rfl) (X_strlt rfl (l := d0.fText) (m := d1.fText) (by kernel_rfl) (by kernel_rfl)) (fun a_46 f_46 => ?_)
          refine W_end rfl (T_n ?_)
          refine R_cond f_46 (b := Op.bytesLess d0.fText d1.fText) (by kernel_rfl) (by kernel_rfl) (fun h_12 => ?_) (fun h_12 => ?_)
          · have hF_14 := cnd_t h_12 hF_13
            refine R_seq (R_reg ?_)
            refine V_run f_46 1 (by kernel_rfl) (fun a_47 f_47 => ?_)
            refine W_end rfl (T_n (wp_ret (T_r (T_r ?_))))
            refine E_ret1 f_47 rfl (by kernel_rfl : Vc.look _ 4 = some (.int .i64 (-1))) ?_
            obtain rfl := Option.some.inj hF_14
            exact ⟨_, rfl, M_2, (hM_1.trans hM_2), p_2, rfl⟩
          · have hF_15 := cnd_f h_12 hF_13
            refine wp_skip (T_n (R_seq (R_reg ?_)))
            refine V_run f_46 1 (by kernel_rfl) (fun a_48 f_48 => ?_)
            refine W_end rfl (T_n (wp_ret (T_r ?_)))
            refine E_ret1 f_48 rfl (by kernel_rfl : Vc.look _ 4 = some (.int .i64 1)) ?_
            obtain rfl := Option.some.inj hF_15
            exact ⟨_, rfl, M_2, (hM_1.trans hM_2), p_2, rfl⟩
        · have k_16 : ¬ (¬ (d0.fText = d1.fText)) := iff_f (not_iff decide_eq_true_iff) h_11
          have hF_16 := cnd_f h_11 hF_12
          refine wp_skip (T_n (R_seq (R_seq (R_reg ?_))))
          refine V_run f_41 1 (by kernel_rfl) (fun a_49 f_49 => ?_)
          refine W_end rfl (T_n (wp_block ?_))
          obtain ⟨b_3, hL_1, hF_17⟩ := bind_some' hF_16
          refine wp_mono (Q := fun e a w => (e = .ret ∧ (∃ y_3 : Int, b_3 = .inl y_3 ∧ ∃ M_6 : Mem, M_2.le M_6 ∧ Frm 113 [(4, .int .i64 y_3)] a ∧ Hp w0 M_6 (H) w)) ∨ (e = .exit 0 ∧ (∃ y_4 : Unit, b_3 = .inr y_4 ∧ ∃ M_7 : Mem, M_2.le M_7 ∧ Frm 113 [(2, .pointer (some (⟨b_1, 0, none⟩))), (3, .pointer (some (⟨b_2, 0, none⟩)))] a ∧ Hp w0 M_7 (H) w))) (R_loop (n := 113) (w0 := w0) (M := M_2) (fun (x : Nat × Int) => match x with | (m_1, s_1) => [(2, .pointer (some (⟨b_1, 0, none⟩))), (3, .pointer (some (⟨b_2, 0, none⟩))), (5, .int .i64 s_1)]) (fun (x : Nat × Int) => match x with | (m_1, s_1) => (H)) (fun (x : Nat × Int) (MM : Mem) => match x with | (m_1, s_1) => loopF (ref03_compare_s1 n rec_ref03_compare d0 d1) m_1 s_1 = some b_3) (fun (x : Nat × Int) => match x with | (m_1, s_1) => m_1) (n, (0 : Int)) (f_49.keep (ks := [2, 3, 5]) (by kernel_rfl)) p_2 hL_1 ?_) ?_
          · rintro ⟨m_1, s_1⟩ M_3 a_50 w_3 hM_3 I_1 f_50 p_3
            have I_1L := I_1
            obtain ⟨m_2, r_1, rfl, hs_1, hn_1⟩ := loop_step I_1L
            unfold ref03_compare_s1 at hs_1
            refine R_seq (R_seq ?_)
            obtain ⟨j_1, hj_1, hF_18⟩ := bind_some' hs_1
            refine R_mid (fun a_58 w_4 => ∃ y_1 : Bool, j_1 = y_1 ∧ ∃ M_4 : Mem, M_3.le M_4 ∧ Frm 113 [(2, .pointer (some (⟨b_1, 0, none⟩))), (3, .pointer (some (⟨b_2, 0, none⟩))), (5, .int .i64 s_1), (55, .bool y_1)] a_58 ∧ Hp w0 M_4 (H) w_4) ?_ ?_
            · refine R_reg ?_
              refine V_run f_50 2 (by kernel_rfl) (fun a_51 f_51 => ?_)
              refine V_ld f_51 p_3 (fzu (hM_2.trans hM_3) hc_2) 4 rfl (by kernel_rfl) (by kernel_rfl) (fun a_52 f_52 => ?_)
              refine V_run f_52 3 (by kernel_rfl) (fun a_53 f_53 => ?_)
              rcases Bool.eq_false_or_eq_true (decide (s_1 < ((d0.fList.length : Nat) : Int))) with h_13 | h_13
              · have k_17 : s_1 < ((d0.fList.length : Nat) : Int) := decide_eq_true_iff.1 h_13
                have hF_19 := cnd_t h_13 hj_1
                have f_54 := Frm.set f_53 49 (v := .bool (decide (s_1 < ((d0.fList.length : Nat) : Int)))) (v' := .bool true) (by kernel_rfl) (congrArg Value.bool h_13)
                refine V_run f_54 2 (by kernel_rfl) (fun a_54 f_55 => ?_)
                refine V_ld f_55 p_3 (fzu hM_3 hc_4) 4 rfl (by kernel_rfl) (by kernel_rfl) (fun a_55 f_56 => ?_)
                refine V_run f_56 3 (by kernel_rfl) (fun a_56 f_57 => ?_)
                refine W_end rfl (T_n ?_)
                exact ⟨(decide (s_1 < ((d1.fList.length : Nat) : Int))), (Option.some.inj hF_19).symm, M_3, (Mem.le_refl _), f_57.keep (ks := [2, 3, 5, 55]) (by kernel_rfl), p_3⟩
              · have k_18 : ¬ (s_1 < ((d0.fList.length : Nat) : Int)) := iff_f decide_eq_true_iff h_13
                have hF_20 := cnd_f h_13 hj_1
                have f_58 := Frm.set f_53 49 (v := .bool (decide (s_1 < ((d0.fList.length : Nat) : Int)))) (v' := .bool false) (by kernel_rfl) (congrArg Value.bool h_13)
                refine V_run f_58 6 (by kernel_rfl) (fun a_57 f_59 => ?_)
                refine W_end rfl (T_n ?_)
                exact ⟨(false), (Option.some.inj hF_20).symm, M_3, (Mem.le_refl _), f_59.keep (ks := [2, 3, 5, 55]) (by kernel_rfl), p_3⟩
            · rintro a_58 w_4 ⟨y_1, hq_1, M_4, hM_4, f_60, p_4⟩
              subst j_1
              refine T_n ?_
              refine R_cond f_60 (b := y_1) (by kernel_rfl) (by kernel_rfl) (fun h_14 => ?_) (fun h_14 => ?_)
              · have hF_21 := cnd_t h_14 hF_18
                refine wp_skip (T_n (R_seq (wp_block (R_seq (R_seq ?_)))))
                obtain ⟨j_2, hj_2, hF_22⟩ := bind_some' hF_21
                refine R_mid (fun a_75 w_7 => ∃ y_2 : Bool, j_2 = y_2 ∧ ∃ M_5 : Mem, M_4.le M_5 ∧ Frm 113 [(2, .pointer (some (⟨b_1, 0, none⟩))), (3, .pointer (some (⟨b_2, 0, none⟩))), (5, .int .i64 s_1), (73, .bool y_2)] a_75 ∧ Hp w0 M_5 (H) w_7) ?_ ?_
                · refine R_draw p_4 (by kernel_rfl) (by kernel_rfl) ?_
                  refine Q_run default f_60 1 (fun _ => by kernel_rfl) (fun a_59 f_61 => ?_)
                  refine Q_ld f_61 (fzu ((hM_2.trans hM_3).trans hM_4) hc_2) 0 rfl (by kernel_rfl) (by kernel_rfl) (fun a_60 f_62 => ?_)
                  refine Q_run default f_62 2 (fun _ => by kernel_rfl) (fun a_61 f_63 => ?_)
                  rcases Bool.eq_false_or_eq_true (decide (d0.fKind = 5)) with h_15 | h_15
                  · have k_20 : d0.fKind = 5 := decide_eq_true_iff.1 h_15
                    have hF_23 := cnd_t h_15 hj_2
                    have f_64 := Frm.set f_63 61 (v := .bool (decide (d0.fKind = 5))) (v' := .bool true) (by kernel_rfl) (congrArg Value.bool h_15)
                    refine Q_run default f_64 1 (fun _ => by kernel_rfl) (fun a_62 f_65 => ?_)
                    refine Q_ld f_65 (fzu ((hM_2.trans hM_3).trans hM_4) hc_2) 5 rfl (by kernel_rfl) (by kernel_rfl) (fun a_63 f_66 => ?_)
                    refine Q_run default f_66 1 (fun _ => by kernel_rfl) (fun a_64 f_67 => ?_)
                    obtain ⟨x_1, hx_1, hF_24⟩ := bind_some' hF_23
                    obtain ⟨ad_1, c_1, e_1, hl_1, hr_1, hc_5⟩ := Sli.at_ (h_2.mono (((hM_1.trans hM_2).trans hM_3).trans hM_4)) hx_1
                    clear hl_1
                    obtain rfl : c_1 = [S x_1] := hr_1
                    refine QV_eq (v := .pointer (some (ad_1.add (s_1.toNat * 1)))) f_67 (by kernel_rfl) (fun _ pq => X_indexAddrA e_1 rfl (len := d0.fKeys.length) (cap := cap_2) (k := .i64) (i := s_1) (by kernel_rfl) (by kernel_rfl) (e := 9) (by kernel_rfl) (sz := 1) (by kernel_rfl) (getI_nn hx_1) (getI_lt hx_1)) (fun a_65 f_68 => ?_)
                    refine Q_ld f_68 hc_5 0 rfl (by kernel_rfl) (by kernel_rfl) (fun a_66 f_69 => ?_)
                    refine Q_run default f_69 1 (fun _ => by kernel_rfl) (fun a_67 f_70 => ?_)
                    refine Q_ld f_70 (fzu (hM_3.trans hM_4) hc_4) 5 rfl (by kernel_rfl) (by kernel_rfl) (fun a_68 f_71 => ?_)
                    refine Q_run default f_71 1 (fun _ => by kernel_rfl) (fun a_69 f_72 => ?_)
                    obtain ⟨x_2, hx_2, hF_25⟩ := bind_some' hF_24
                    obtain ⟨ad_2, c_2, e_2, hl_2, hr_2, hc_6⟩ := Sli.at_ (h_4.mono (((hM_1.trans hM_2).trans hM_3).trans hM_4)) hx_2
                    clear hl_2
                    obtain rfl : c_2 = [S x_2] := hr_2
                    refine QV_eq (v := .pointer (some (ad_2.add (s_1.toNat * 1)))) f_72 (by kernel_rfl) (fun _ pq => X_indexAddrA e_2 rfl (len := d1.fKeys.length) (cap := cap_4) (k := .i64) (i := s_1) (by kernel_rfl) (by kernel_rfl) (e := 9) (by kernel_rfl) (sz := 1) (by kernel_rfl) (getI_nn hx_2) (getI_lt hx_2)) (fun a_70 f_73 => ?_)
                    refine Q_ld f_73 hc_6 0 rfl (by kernel_rfl) (by kernel_rfl) (fun a_71 f_74 => ?_)
                    refine QV_eq (v := .bool (!(decide (x_1 = x_2)))) f_74 (by kernel_rfl) (fun _ pq => X_strne rfl (l := x_1) (m := x_2) (by kernel_rfl) (by kernel_rfl)) (fun a_72 f_75 => ?_)
                    refine Q_run default f_75 1 (fun _ => by kernel_rfl) (fun a_73 f_76 => ?_)
                    refine Q_end rfl ?_
                    intro w_5 p_5
                    refine T_n ?_
                    exact ⟨(!(decide (x_1 = x_2))), (Option.some.inj hF_25).symm, M_4, (Mem.le_refl _), f_76.keep (ks := [2, 3, 5, 73]) (by kernel_rfl), p_5⟩
                  · have k_21 : ¬ (d0.fKind = 5) := iff_f decide_eq_true_iff h_15
                    have hF_26 := cnd_f h_15 hj_2
                    have f_77 := Frm.set f_63 61 (v := .bool (decide (d0.fKind = 5))) (v' := .bool false) (by kernel_rfl) (congrArg Value.bool h_15)
                    refine Q_run default f_77 12 (fun _ => by kernel_rfl) (fun a_74 f_78 => ?_)
                    refine Q_end rfl ?_
                    intro w_6 p_6
                    refine T_n ?_
                    exact ⟨(false), (Option.some.inj hF_26).symm, M_4, (Mem.le_refl _), f_78.keep (ks := [2, 3, 5, 73]) (by kernel_rfl), p_6⟩
                · rintro a_75 w_7 ⟨y_2, hq_2, M_5, hM_5, f_79, p_7⟩
                  subst j_2
                  refine T_n ?_
                  refine R_cond f_79 (b := y_2) (by kernel_rfl) (by kernel_rfl) (fun h_16 => ?_) (fun h_16 => ?_)
                  · have hF_27 := cnd_t h_16 hF_22
                    refine R_seq (R_seq ?_)
                    refine R_draw p_7 (by kernel_rfl) (by kernel_rfl) ?_
                    refine Q_run default f_79 1 (fun _ => by kernel_rfl) (fun a_76 f_80 => ?_)
                    refine Q_ld f_80 (fzu (((hM_2.trans hM_3).trans hM_4).trans hM_5) hc_2) 5 rfl (by kernel_rfl) (by kernel_rfl) (fun a_77 f_81 => ?_)
                    refine Q_run default f_81 1 (fun _ => by kernel_rfl) (fun a_78 f_82 => ?_)
                    obtain ⟨x_3, hx_3, hF_28⟩ := bind_some' hF_27
                    obtain ⟨ad_3, c_3, e_3, hl_3, hr_3, hc_7⟩ := Sli.at_ (h_2.mono ((((hM_1.trans hM_2).trans hM_3).trans hM_4).trans hM_5)) hx_3
                    clear hl_3
                    obtain rfl : c_3 = [S x_3] := hr_3
                    refine QV_eq (v := .pointer (some (ad_3.add (s_1.toNat * 1)))) f_82 (by kernel_rfl) (fun _ pq => X_indexAddrA e_3 rfl (len := d0.fKeys.length) (cap := cap_2) (k := .i64) (i := s_1) (by kernel_rfl) (by kernel_rfl) (e := 9) (by kernel_rfl) (sz := 1) (by kernel_rfl) (getI_nn hx_3) (getI_lt hx_3)) (fun a_79 f_83 => ?_)
                    refine Q_ld f_83 hc_7 0 rfl (by kernel_rfl) (by kernel_rfl) (fun a_80 f_84 => ?_)
                    refine Q_run default f_84 1 (fun _ => by kernel_rfl) (fun a_81 f_85 => ?_)
                    refine Q_ld f_85 (fzu ((hM_3.trans hM_4).trans hM_5) hc_4) 5 rfl (by kernel_rfl) (by kernel_rfl) (fun a_82 f_86 => ?_)
                    refine Q_run default f_86 1 (fun _ => by kernel_rfl) (fun a_83 f_87 => ?_)
                    obtain ⟨x_4, hx_4, hF_29⟩ := bind_some' hF_28
                    obtain ⟨ad_4, c_4, e_4, hl_4, hr_4, hc_8⟩ := Sli.at_ (h_4.mono ((((hM_1.trans hM_2).trans hM_3).trans hM_4).trans hM_5)) hx_4
                    clear hl_4
                    obtain rfl : c_4 = [S x_4] := hr_4
                    refine QV_eq (v := .pointer (some (ad_4.add (s_1.toNat * 1)))) f_87 (by kernel_rfl) (fun _ pq => X_indexAddrA e_4 rfl (len := d1.fKeys.length) (cap := cap_4) (k := .i64) (i := s_1) (by kernel_rfl) (by kernel_rfl) (e := 9) (by kernel_rfl) (sz := 1) (by kernel_rfl) (getI_nn hx_4) (getI_lt hx_4)) (fun a_84 f_88 => ?_)
                    refine Q_ld f_88 hc_8 0 rfl (by kernel_rfl) (by kernel_rfl) (fun a_85 f_89 => ?_)
                    refine QV_eq (v := .bool (Op.bytesLess x_3 x_4)) f_89 (by kernel_rfl) (fun _ pq => X_strlt rfl (l := x_3) (m := x_4) (by kernel_rfl) (by kernel_rfl)) (fun a_86 f_90 => ?_)
                    refine Q_end rfl ?_
                    intro w_8 p_8
                    refine T_n ?_
                    refine R_cond f_90 (b := Op.bytesLess x_3 x_4) (by kernel_rfl) (by kernel_rfl) (fun h_17 => ?_) (fun h_17 => ?_)
                    · have hF_30 := cnd_t h_17 hF_29
                      refine R_seq (R_reg ?_)
                      refine V_run f_90 1 (by kernel_rfl) (fun a_87 f_91 => ?_)
                      refine W_end rfl (T_n (wp_ret (T_r (T_r (B_r (T_r (T_r ?_)))))))
                      obtain rfl := Option.some.inj hF_30
                      exact .inl ⟨rfl, (-1 : Int), (Option.some.inj hn_1).symm, M_5, ((hM_3.trans hM_4).trans hM_5), f_91.keep (ks := [4]) (by kernel_rfl), p_8⟩
                    · have hF_31 := cnd_f h_17 hF_29
                      refine wp_skip (T_n (R_seq (R_reg ?_)))
                      refine V_run f_90 1 (by kernel_rfl) (fun a_88 f_92 => ?_)
                      refine W_end rfl (T_n (wp_ret (T_r (B_r (T_r (T_r ?_))))))
                      obtain rfl := Option.some.inj hF_31
                      exact .inl ⟨rfl, (1 : Int), (Option.some.inj hn_1).symm, M_5, ((hM_3.trans hM_4).trans hM_5), f_92.keep (ks := [4]) (by kernel_rfl), p_8⟩
                  · have hF_32 := cnd_f h_16 hF_22
                    refine wp_skip (T_n (R_seq ?_))
                    refine R_draw p_7 (by kernel_rfl) (by kernel_rfl) ?_
                    refine Q_run default f_79 1 (fun _ => by kernel_rfl) (fun a_89 f_93 => ?_)
                    refine Q_ld f_93 (fzu (((hM_2.trans hM_3).trans hM_4).trans hM_5) hc_2) 4 rfl (by kernel_rfl) (by kernel_rfl) (fun a_90 f_94 => ?_)
                    refine Q_run default f_94 1 (fun _ => by kernel_rfl) (fun a_91 f_95 => ?_)
                    obtain ⟨x_5, hx_5, hF_33⟩ := bind_some' hF_32
                    obtain ⟨ad_5, c_5, e_5, hl_5, hr_5, hc_9⟩ := Sli.at_ (h_1.mono ((((hM_1.trans hM_2).trans hM_3).trans hM_4).trans hM_5)) hx_5
                    clear hl_5
                    obtain ⟨A_5, cap_5, A_6, cap_6, rfl, h_18, h_19⟩ := T_api_Value.opn hr_5
                    refine QV_eq (v := .pointer (some (ad_5.add (s_1.toNat * 6)))) f_95 (by kernel_rfl) (fun _ pq => X_indexAddrA e_5 rfl (len := d0.fList.length) (cap := cap_1) (k := .i64) (i := s_1) (by kernel_rfl) (by kernel_rfl) (e := 26) (by kernel_rfl) (sz := 6) (by kernel_rfl) (getI_nn hx_5) (getI_lt hx_5)) (fun a_92 f_96 => ?_)
                    refine QV_eq (v := .agg #[.int .i8 x_5.fKind, .bool x_5.fBool, .int .i64 x_5.fNum, S x_5.fText, .slice A_5 x_5.fList.length cap_5, .slice A_6 x_5.fKeys.length cap_6]) f_96 (by kernel_rfl) (fun _ pq => X_loadN (cs := [.int .i8 x_5.fKind, .bool x_5.fBool, .int .i64 x_5.fNum, S x_5.fText, .slice A_5 x_5.fList.length cap_5, .slice A_6 x_5.fKeys.length cap_6]) rfl (ad := ad_5.add (s_1.toNat * 6)) (by kernel_rfl) (by kernel_rfl) (fun j v h => pq.cell (hc_9 j v h))) (fun a_93 f_97 => ?_)
                    refine Q_run default f_97 1 (fun _ => by kernel_rfl) (fun a_94 f_98 => ?_)
                    refine Q_ld f_98 (fzu ((hM_3.trans hM_4).trans hM_5) hc_4) 4 rfl (by kernel_rfl) (by kernel_rfl) (fun a_95 f_99 => ?_)
                    refine Q_run default f_99 1 (fun _ => by kernel_rfl) (fun a_96 f_100 => ?_)
                    obtain ⟨x_6, hx_6, hF_34⟩ := bind_some' hF_33
                    obtain ⟨ad_6, c_6, e_6, hl_6, hr_6, hc_10⟩ := Sli.at_ (h_3.mono ((((hM_1.trans hM_2).trans hM_3).trans hM_4).trans hM_5)) hx_6
                    clear hl_6
                    obtain ⟨A_7, cap_7, A_8, cap_8, rfl, h_20, h_21⟩ := T_api_Value.opn hr_6
                    refine QV_eq (v := .pointer (some (ad_6.add (s_1.toNat * 6)))) f_100 (by kernel_rfl) (fun _ pq => X_indexAddrA e_6 rfl (len := d1.fList.length) (cap := cap_3) (k := .i64) (i := s_1) (by kernel_rfl) (by kernel_rfl) (e := 26) (by kernel_rfl) (sz := 6) (by kernel_rfl) (getI_nn hx_6) (getI_lt hx_6)) (fun a_97 f_101 => ?_)
                    refine QV_eq (v := .agg #[.int .i8 x_6.fKind, .bool x_6.fBool, .int .i64 x_6.fNum, S x_6.fText, .slice A_7 x_6.fList.length cap_7, .slice A_8 x_6.fKeys.length cap_8]) f_101 (by kernel_rfl) (fun _ pq => X_loadN (cs := [.int .i8 x_6.fKind, .bool x_6.fBool, .int .i64 x_6.fNum, S x_6.fText, .slice A_7 x_6.fList.length cap_7, .slice A_8 x_6.fKeys.length cap_8]) rfl (ad := ad_6.add (s_1.toNat * 6)) (by kernel_rfl) (by kernel_rfl) (fun j v h => pq.cell (hc_10 j v h))) (fun a_98 f_102 => ?_)
                    obtain ⟨x_7, hx_7, hF_35⟩ := bind_some' hF_34
                    refine QV_okv f_102 (hrec_ref03_compare _ _ x_5 (T_api_Value.shutx (x := x_5) h_18 h_19) _ x_6 (T_api_Value.shutx (x := x_6) h_20 h_21) x_7 hx_7) (by kernel_rfl) (fun _ => by kernel_rfl) (fun a_99 f_103 => ?_)
                    refine Q_run default f_103 1 (fun _ => by kernel_rfl) (fun a_100 f_104 => ?_)
                    refine Q_end rfl ?_
                    intro w_10 p_10
                    refine T_n (R_seq (R_reg ?_))
                    refine V_run f_104 2 (by kernel_rfl) (fun a_101 f_105 => ?_)
                    refine W_end rfl (T_n ?_)
                    refine R_cond f_105 (b := !(decide (x_7 = 0))) (by kernel_rfl) (by kernel_rfl) (fun h_22 => ?_) (fun h_22 => ?_)
                    · have k_26 : ¬ (x_7 = 0) := (not_iff decide_eq_true_iff).1 h_22
                      have hF_36 := cnd_t h_22 hF_35
                      refine R_seq (R_reg ?_)
                      refine V_run f_105 2 (by kernel_rfl) (fun a_102 f_106 => ?_)
                      refine W_end rfl (T_n (wp_ret (B_r (T_r (T_r ?_)))))
                      obtain rfl := Option.some.inj hF_36
                      exact .inl ⟨rfl, x_7, (Option.some.inj hn_1).symm, M_5, ((hM_3.trans hM_4).trans hM_5), f_106.keep (ks := [4]) (by kernel_rfl), p_10⟩
                    · have k_27 : ¬ (¬ (x_7 = 0)) := iff_f (not_iff decide_eq_true_iff) h_22
                      have hF_37 := cnd_f h_22 hF_35
                      refine wp_skip (B_n (T_n (R_reg ?_)))
                      refine V_run f_105 1 (by kernel_rfl) (fun a_103 f_107 => ?_)
                      obtain ⟨g_1, hF_38⟩ := need_some hF_37
                      refine V_run f_107 1 (by kernel_rfl) (fun a_104 f_108 => ?_)
                      have f_109 := Frm.set f_108 57 (v := .int .i64 (IntKind.wrap .i64 (s_1 + 1))) (v' := .int .i64 (s_1 + 1)) (by kernel_rfl) (congrArg (Value.int .i64) (inR_wrap g_1))
                      refine V_run f_109 1 (by kernel_rfl) (fun a_105 f_110 => ?_)
                      refine W_end rfl (T_n ?_)
                      obtain rfl := Option.some.inj hF_38
                      exact ⟨⟨m_2, s_1 + 1⟩, Nat.lt_succ_self _, M_5, ((hM_3.trans hM_4).trans hM_5), hn_1, f_110.keep (ks := [2, 3, 5]) (by kernel_rfl), p_10⟩
              · have hF_39 := cnd_f h_14 hF_18
                refine wp_exit (T_x (T_x ?_))
                obtain rfl := Option.some.inj hF_39
                exact .inr ⟨rfl, (), (Option.some.inj hn_1).symm, M_4, (hM_3.trans hM_4), f_60.keep (ks := [2, 3]) (by kernel_rfl), p_4⟩
          · rintro _ a_108 w_13 (⟨rfl, y_3, rfl, M_6, hM_6, f_111, p_11⟩ | ⟨rfl, y_4, rfl, M_7, hM_7, f_112, p_12⟩)
            · refine B_r (T_r ?_)
              refine E_ret1 f_111 rfl (by kernel_rfl : Vc.look _ 4 = some (.int .i64 y_3)) ?_
              obtain rfl := Option.some.inj hF_17
              exact ⟨_, rfl, M_6, ((hM_1.trans hM_2).trans hM_6), p_11, rfl⟩
            · refine B_x (T_n (R_seq (R_seq (R_reg ?_))))
              refine V_run f_112 1 (by kernel_rfl) (fun a_109 f_113 => ?_)
              refine V_ld f_113 p_12 (fzu (hM_2.trans hM_7) hc_2) 4 rfl (by kernel_rfl) (by kernel_rfl) (fun a_110 f_114 => ?_)
              refine V_run f_114 2 (by kernel_rfl) (fun a_111 f_115 => ?_)
              refine V_ld f_115 p_12 (fzu hM_7 hc_4) 4 rfl (by kernel_rfl) (by kernel_rfl) (fun a_112 f_116 => ?_)
              refine V_run f_116 2 (by kernel_rfl) (fun a_113 f_117 => ?_)
              refine W_end rfl (T_n ?_)
              refine R_cond f_117 (b := !(decide (((d0.fList.length : Nat) : Int) = ((d1.fList.length : Nat) : Int)))) (by kernel_rfl) (by kernel_rfl) (fun h_23 => ?_) (fun h_23 => ?_)
              · have k_29 : ¬ (((d0.fList.length : Nat) : Int) = ((d1.fList.length : Nat) : Int)) := (not_iff decide_eq_true_iff).1 h_23
                have hF_40 := cnd_t h_23 hF_17
                refine R_seq (R_seq (R_reg ?_))
                refine V_run f_117 1 (by kernel_rfl) (fun a_114 f_118 => ?_)
                refine V_ld f_118 p_12 (fzu (hM_2.trans hM_7) hc_2) 4 rfl (by kernel_rfl) (by kernel_rfl) (fun a_115 f_119 => ?_)
                refine V_run f_119 2 (by kernel_rfl) (fun a_116 f_120 => ?_)
                refine V_ld f_120 p_12 (fzu hM_7 hc_4) 4 rfl (by kernel_rfl) (by kernel_rfl) (fun a_117 f_121 => ?_)
                refine V_run f_121 2 (by kernel_rfl) (fun a_118 f_122 => ?_)
                refine W_end rfl (T_n ?_)
                refine R_cond f_122 (b := decide (((d0.fList.length : Nat) : Int) < ((d1.fList.length : Nat) : Int))) (by kernel_rfl) (by kernel_rfl) (fun h_24 => ?_) (fun h_24 => ?_)
                · have k_30 : ((d0.fList.length : Nat) : Int) < ((d1.fList.length : Nat) : Int) := decide_eq_true_iff.1 h_24
                  have hF_41 := cnd_t h_24 hF_40
                  refine R_seq (R_reg ?_)
                  refine V_run f_122 1 (by kernel_rfl) (fun a_119 f_123 => ?_)
                  refine W_end rfl (T_n (wp_ret (T_r (T_r ?_))))
                  refine E_ret1 f_123 rfl (by kernel_rfl : Vc.look _ 4 = some (.int .i64 (-1))) ?_
                  obtain rfl := Option.some.inj hF_41
                  exact ⟨_, rfl, M_7, ((hM_1.trans hM_2).trans hM_7), p_12, rfl⟩
                · have k_31 : ¬ (((d0.fList.length : Nat) : Int) < ((d1.fList.length : Nat) : Int)) := iff_f decide_eq_true_iff h_24
                  have hF_42 := cnd_f h_24 hF_40
                  refine wp_skip (T_n (R_seq (R_reg ?_)))
                  refine V_run f_122 1 (by kernel_rfl) (fun a_120 f_124 => ?_)
                  refine W_end rfl (T_n (wp_ret (T_r ?_)))
                  refine E_ret1 f_124 rfl (by kernel_rfl : Vc.look _ 4 = some (.int .i64 1)) ?_
                  obtain rfl := Option.some.inj hF_42
                  exact ⟨_, rfl, M_7, ((hM_1.trans hM_2).trans hM_7), p_12, rfl⟩
              · have k_32 : ¬ (¬ (((d0.fList.length : Nat) : Int) = ((d1.fList.length : Nat) : Int))) := iff_f (not_iff decide_eq_true_iff) h_23
                have hF_43 := cnd_f h_23 hF_17
                refine wp_skip (T_n (R_seq (R_reg ?_)))
                refine V_run f_117 1 (by kernel_rfl) (fun a_121 f_125 => ?_)
                refine W_end rfl (T_n (wp_ret ?_))
                refine E_ret1 f_125 rfl (by kernel_rfl : Vc.look _ 4 = some (.int .i64 0)) ?_
                obtain rfl := Option.some.inj hF_43
                exact ⟨_, rfl, M_7, ((hM_1.trans hM_2).trans hM_7), p_12, rfl⟩
def ref03_compare_k (n : Nat) : Nat → T_api_Value → T_api_Value → Option Int
  | 0 => fun _ _ => none
  | k + 1 => ref03_compare_b n (ref03_compare_k n k)
def ref03_compare (n : Nat) (d0 : T_api_Value) (d1 : T_api_Value) : Option Int := ref03_compare_k n n d0 d1
theorem ref03_compare_ok (n : Nat) (M : Mem) (c0 : List Value) (d0 : T_api_Value) (h0 : Rep M (emb_T_api_Value d0) c0) (c1 : List Value) (d1 : T_api_Value) (h1 : Rep M (emb_T_api_Value d1) c1) (r : Int) (hF : ref03_compare n d0 d1 = some r) : Ok Tryd.prog M 50 [.agg c0.toArray, .agg c1.toArray] (fun _ v => v = .int .i64 r) := by
  have key : ∀ (k : Nat) (M : Mem) (c0 : List Value) (d0 : T_api_Value) (h0 : Rep M (emb_T_api_Value d0) c0) (c1 : List Value) (d1 : T_api_Value) (h1 : Rep M (emb_T_api_Value d1) c1) (r : Int) (hF : ref03_compare_k n k d0 d1 = some r), Ok Tryd.prog M 50 [.agg c0.toArray, .agg c1.toArray] (fun _ v => v = .int .i64 r) := by
    intro k
    induction k with
    | zero => intro M c0 d0 h0 c1 d1 h1 r hF; simp [ref03_compare_k] at hF
    | succ k ih => intro M c0 d0 h0 c1 d1 h1 r hF; exact ref03_compare_b_ok n (ref03_compare_k n k) ih M c0 d0 h0 c1 d1 h1 r hF
  exact key n M c0 d0 h0 c1 d1 h1 r hF
end Go.Proofs.YtekkifakjkhjiaaDoor
