/-
  Printed by a program: of each function its shallow reading, and the proof that the function gives what the reading gives. No condition.
-/
import Derived.Test.YtekkifakjkhjiaaDoorQ1
import Derived.Test.YtekkifakjkhjiaaDoorTy
import Derived.Test.YtekkifakjkhjiaaDoorRows
import Derived.Test.YtekkifakjkhjiaaDoorVkF
set_option linter.unusedVariables false
set_option linter.unusedSimpArgs false
namespace Go.Proofs.YtekkifakjkhjiaaDoor
open Go Go.Vc Go.RowKit
def ref03_Same_s1 (n : Nat) (d0 : T_api_Value) (d1 : T_api_Value) (s_1 : Int) : Option (Lp Int (Sum Unit Unit)) :=
    bif (decide (s_1 < ((d0.fKeys.length : Nat) : Int))) then
      ((getI d0.fKeys s_1).bind fun x_1 =>
      (getI d1.fKeys s_1).bind fun x_2 =>
      bif (!(decide (x_1 = x_2))) then
        (some (.br (.inl ())))
      else
        need (inR .i64 (s_1 + 1)) <|
        some (.nx (s_1 + 1)))
    else
      some (.br (.inr ()))
def ref03_Same_s2 (n : Nat) (rec_ref03_Same : T_api_Value → T_api_Value → Option Bool) (d0 : T_api_Value) (d1 : T_api_Value) (s_2 : Int) : Option (Lp Int (Sum Unit Unit)) :=
    bif (decide (s_2 < ((d0.fList.length : Nat) : Int))) then
      ((getI d0.fList s_2).bind fun x_3 =>
      (getI d1.fList s_2).bind fun x_4 =>
      (rec_ref03_Same x_3 x_4).bind fun x_5 =>
      bif !x_5 then
        (some (.br (.inl ())))
      else
        need (inR .i64 (s_2 + 1)) <|
        some (.nx (s_2 + 1)))
    else
      some (.br (.inr ()))
def ref03_Same_b (n : Nat) (rec_ref03_Same : T_api_Value → T_api_Value → Option Bool) (d0 : T_api_Value) (d1 : T_api_Value) : Option Bool :=
  ((bif (!(decide (d0.fKind = d1.fKind))) then
      (some ((true)))
    else
      bif (!(d0.fBool == d1.fBool)) then
        (some ((true)))
      else
        bif (!(decide (d0.fNum = d1.fNum))) then
          (some ((true)))
        else
          bif (!(decide (d0.fText = d1.fText))) then
            (some ((true)))
          else
            bif (!(decide (((d0.fList.length : Nat) : Int) = ((d1.fList.length : Nat) : Int)))) then
              (some ((true)))
            else
              some ((!(decide (((d0.fKeys.length : Nat) : Int) = ((d1.fKeys.length : Nat) : Int))))) : Option Bool)).bind fun y_1 =>
  bif y_1 then
    (some ((false)))
  else
    (loopF (ref03_Same_s1 n d0 d1) n (0 : Int)).bind fun b_3 =>
    (match b_3 with 
    | .inl y_2 => some ((false)) 
    | .inr y_3 => (loopF (ref03_Same_s2 n rec_ref03_Same d0 d1) n (0 : Int)).bind fun b_4 =>
      (match b_4 with 
      | .inl y_4 => some ((false)) 
      | .inr y_5 => some ((true))))
theorem ref03_Same_b_ok (n : Nat) (rec_ref03_Same : T_api_Value → T_api_Value → Option Bool) (hrec_ref03_Same : ∀ (M : Mem) (c0 : List Value) (d0 : T_api_Value) (h0 : Rep M (emb_T_api_Value d0) c0) (c1 : List Value) (d1 : T_api_Value) (h1 : Rep M (emb_T_api_Value d1) c1) (r : Bool) (hF : rec_ref03_Same d0 d1 = some r), Ok Tryd.prog M 17 [.agg c0.toArray, .agg c1.toArray] (fun _ v => v = .bool r)) (M : Mem) (c0 : List Value) (d0 : T_api_Value) (h0 : Rep M (emb_T_api_Value d0) c0) (c1 : List Value) (d1 : T_api_Value) (h1 : Rep M (emb_T_api_Value d1) c1) (r : Bool) (hF : ref03_Same_b n rec_ref03_Same d0 d1 = some r) : Ok Tryd.prog M 17 [.agg c0.toArray, .agg c1.toArray] (fun _ v => v = .bool r) := by
  unfold ref03_Same_b at hF
  intro M1 hM0 w0 H w p0
  replace h0 := Rep.mono hM0 _ _ h0
  replace h1 := Rep.mono hM0 _ _ h1
  obtain ⟨A_1, cap_1, A_2, cap_2, rfl, h_1, h_2⟩ := T_api_Value.opn h0
  obtain ⟨A_3, cap_3, A_4, cap_4, rfl, h_3, h_4⟩ := T_api_Value.opn h1
  refine R_enter 88 Tryd.func17 rfl rfl (by simp) (fun a0 f0 => ?_)
  refine R_seq (R_reg ?_)
  refine V_box (cs := #[.int .i8 d0.fKind, .bool d0.fBool, .int .i64 d0.fNum, S d0.fText, .slice A_1 d0.fList.length cap_1, .slice A_2 d0.fKeys.length cap_2]) (T := 26) f0 p0 (by kernel_rfl) (fun _ => by kernel_rfl) (fun b_1 M_1 w_1 hM_1 hc_1 p_1 a_1 f_1 => ?_)
  have hc_2 := fz_box hc_1
  refine V_box (cs := #[.int .i8 d1.fKind, .bool d1.fBool, .int .i64 d1.fNum, S d1.fText, .slice A_3 d1.fList.length cap_3, .slice A_4 d1.fKeys.length cap_4]) (T := 26) f_1 p_1 (by kernel_rfl) (fun _ => by kernel_rfl) (fun b_2 M_2 w_2 hM_2 hc_3 p_2 a_2 f_2 => ?_)
  have hc_4 := fz_box hc_3
  refine V_run f_2 1 (by kernel_rfl) (fun a_3 f_3 => ?_)
  refine W_end rfl (T_n (R_seq (R_seq ?_)))
  obtain ⟨j_1, hj_1, hF_1⟩ := bind_some' hF
  refine R_mid (fun a_40 w_3 => ∃ y_1 : Bool, j_1 = y_1 ∧ ∃ M_3 : Mem, M_2.le M_3 ∧ Frm 88 [(2, .pointer (some (⟨b_1, 0, none⟩))), (3, .pointer (some (⟨b_2, 0, none⟩))), (50, .bool y_1)] a_40 ∧ Hp w0 M_3 (H) w_3) ?_ ?_
  · refine R_reg ?_
    refine V_run f_3 1 (by kernel_rfl) (fun a_4 f_4 => ?_)
    refine V_ld f_4 p_2 (fzu hM_2 hc_2) 0 rfl (by kernel_rfl) (by kernel_rfl) (fun a_5 f_5 => ?_)
    refine V_run f_5 1 (by kernel_rfl) (fun a_6 f_6 => ?_)
    refine V_ld f_6 p_2 hc_4 0 rfl (by kernel_rfl) (by kernel_rfl) (fun a_7 f_7 => ?_)
    refine V_run f_7 2 (by kernel_rfl) (fun a_8 f_8 => ?_)
    rcases Bool.eq_false_or_eq_true (!(decide (d0.fKind = d1.fKind))) with h_5 | h_5
    · have k_1 : ¬ (d0.fKind = d1.fKind) := (not_iff decide_eq_true_iff).1 h_5
      have hF_2 := cnd_t h_5 hj_1
      have f_9 := Frm.set f_8 12 (v := .bool (!(decide (d0.fKind = d1.fKind)))) (v' := .bool true) (by kernel_rfl) (congrArg Value.bool h_5)
      refine V_run f_9 38 (by kernel_rfl) (fun a_9 f_10 => ?_)
      refine W_end rfl (T_n ?_)
      exact ⟨(true), (Option.some.inj hF_2).symm, M_2, (Mem.le_refl _), f_10.keep (ks := [2, 3, 50]) (by kernel_rfl), p_2⟩
    · have k_2 : ¬ (¬ (d0.fKind = d1.fKind)) := iff_f (not_iff decide_eq_true_iff) h_5
      have hF_3 := cnd_f h_5 hj_1
      have f_11 := Frm.set f_8 12 (v := .bool (!(decide (d0.fKind = d1.fKind)))) (v' := .bool false) (by kernel_rfl) (congrArg Value.bool h_5)
      refine V_run f_11 1 (by kernel_rfl) (fun a_10 f_12 => ?_)
      refine V_ld f_12 p_2 (fzu hM_2 hc_2) 1 rfl (by kernel_rfl) (by kernel_rfl) (fun a_11 f_13 => ?_)
      refine V_run f_13 1 (by kernel_rfl) (fun a_12 f_14 => ?_)
      refine V_ld f_14 p_2 hc_4 1 rfl (by kernel_rfl) (by kernel_rfl) (fun a_13 f_15 => ?_)
      refine V_run f_15 3 (by kernel_rfl) (fun a_14 f_16 => ?_)
      rcases Bool.eq_false_or_eq_true (!(d0.fBool == d1.fBool)) with h_6 | h_6
      · have k_3 : (d0.fBool == d1.fBool) = false := by simpa using h_6
        have hF_4 := cnd_t h_6 hF_3
        have f_17 := Frm.set f_16 19 (v := .bool (!(d0.fBool == d1.fBool))) (v' := .bool true) (by kernel_rfl) (congrArg Value.bool h_6)
        refine V_run f_17 31 (by kernel_rfl) (fun a_15 f_18 => ?_)
        refine W_end rfl (T_n ?_)
        exact ⟨(true), (Option.some.inj hF_4).symm, M_2, (Mem.le_refl _), f_18.keep (ks := [2, 3, 50]) (by kernel_rfl), p_2⟩
      · have k_4 : (d0.fBool == d1.fBool) = true := by simpa using h_6
        have hF_5 := cnd_f h_6 hF_3
        have f_19 := Frm.set f_16 19 (v := .bool (!(d0.fBool == d1.fBool))) (v' := .bool false) (by kernel_rfl) (congrArg Value.bool h_6)
        refine V_run f_19 1 (by kernel_rfl) (fun a_16 f_20 => ?_)
        refine V_ld f_20 p_2 (fzu hM_2 hc_2) 2 rfl (by kernel_rfl) (by kernel_rfl) (fun a_17 f_21 => ?_)
        refine V_run f_21 1 (by kernel_rfl) (fun a_18 f_22 => ?_)
        refine V_ld f_22 p_2 hc_4 2 rfl (by kernel_rfl) (by kernel_rfl) (fun a_19 f_23 => ?_)
        refine V_run f_23 3 (by kernel_rfl) (fun a_20 f_24 => ?_)
        rcases Bool.eq_false_or_eq_true (!(decide (d0.fNum = d1.fNum))) with h_7 | h_7
        · have k_5 : ¬ (d0.fNum = d1.fNum) := (not_iff decide_eq_true_iff).1 h_7
          have hF_6 := cnd_t h_7 hF_5
          have f_25 := Frm.set f_24 26 (v := .bool (!(decide (d0.fNum = d1.fNum)))) (v' := .bool true) (by kernel_rfl) (congrArg Value.bool h_7)
          refine V_run f_25 24 (by kernel_rfl) (fun a_21 f_26 => ?_)
          refine W_end rfl (T_n ?_)
          exact ⟨(true), (Option.some.inj hF_6).symm, M_2, (Mem.le_refl _), f_26.keep (ks := [2, 3, 50]) (by kernel_rfl), p_2⟩
        · have k_6 : ¬ (¬ (d0.fNum = d1.fNum)) := iff_f (not_iff decide_eq_true_iff) h_7
          have hF_7 := cnd_f h_7 hF_5
          have f_27 := Frm.set f_24 26 (v := .bool (!(decide (d0.fNum = d1.fNum)))) (v' := .bool false) (by kernel_rfl) (congrArg Value.bool h_7)
          refine V_run f_27 1 (by kernel_rfl) (fun a_22 f_28 => ?_)
          refine V_ld f_28 p_2 (fzu hM_2 hc_2) 3 rfl (by kernel_rfl) (by kernel_rfl) (fun a_23 f_29 => ?_)
          refine V_run f_29 1 (by kernel_rfl) (fun a_24 f_30 => ?_)
          refine V_ld f_30 p_2 hc_4 3 rfl (by kernel_rfl) (by kernel_rfl) (fun a_25 f_31 => ?_)
          refine V_eq (v := .bool (!(decide (d0.fText = d1.fText)))) f_31 (by kernel_rfl) (X_strne rfl (l := d0.fText) (m := d1.fText) (by kernel_rfl) (by kernel_rfl)) (fun a_26 f_32 => ?_)
          refine V_run f_32 2 (by kernel_rfl) (fun a_27 f_33 => ?_)
          rcases Bool.eq_false_or_eq_true (!(decide (d0.fText = d1.fText))) with h_8 | h_8
          · have k_7 : ¬ (d0.fText = d1.fText) := (not_iff decide_eq_true_iff).1 h_8
            have hF_8 := cnd_t h_8 hF_7
            have f_34 := Frm.set f_33 33 (v := .bool (!(decide (d0.fText = d1.fText)))) (v' := .bool true) (by kernel_rfl) (congrArg Value.bool h_8)
            refine V_run f_34 17 (by kernel_rfl) (fun a_28 f_35 => ?_)
            refine W_end rfl (T_n ?_)
            exact ⟨(true), (Option.some.inj hF_8).symm, M_2, (Mem.le_refl _), f_35.keep (ks := [2, 3, 50]) (by kernel_rfl), p_2⟩
          · have k_8 : ¬ (¬ (d0.fText = d1.fText)) := iff_f (not_iff decide_eq_true_iff) h_8
            have hF_9 := cnd_f h_8 hF_7
            have f_36 := Frm.set f_33 33 (v := .bool (!(decide (d0.fText = d1.fText)))) (v' := .bool false) (by kernel_rfl) (congrArg Value.bool h_8)
            refine V_run f_36 1 (by kernel_rfl) (fun a_29 f_37 => ?_)
            refine V_ld f_37 p_2 (fzu hM_2 hc_2) 4 rfl (by kernel_rfl) (by kernel_rfl) (fun a_30 f_38 => ?_)
            refine V_run f_38 2 (by kernel_rfl) (fun a_31 f_39 => ?_)
            refine V_ld f_39 p_2 hc_4 4 rfl (by kernel_rfl) (by kernel_rfl) (fun a_32 f_40 => ?_)
            refine V_run f_40 4 (by kernel_rfl) (fun a_33 f_41 => ?_)
            rcases Bool.eq_false_or_eq_true (!(decide (((d0.fList.length : Nat) : Int) = ((d1.fList.length : Nat) : Int)))) with h_9 | h_9
            · have k_9 : ¬ (((d0.fList.length : Nat) : Int) = ((d1.fList.length : Nat) : Int)) := (not_iff decide_eq_true_iff).1 h_9
              have hF_10 := cnd_t h_9 hF_9
              have f_42 := Frm.set f_41 42 (v := .bool (!(decide (((d0.fList.length : Nat) : Int) = ((d1.fList.length : Nat) : Int))))) (v' := .bool true) (by kernel_rfl) (congrArg Value.bool h_9)
              refine V_run f_42 8 (by kernel_rfl) (fun a_34 f_43 => ?_)
              refine W_end rfl (T_n ?_)
              exact ⟨(true), (Option.some.inj hF_10).symm, M_2, (Mem.le_refl _), f_43.keep (ks := [2, 3, 50]) (by kernel_rfl), p_2⟩
            · have k_10 : ¬ (¬ (((d0.fList.length : Nat) : Int) = ((d1.fList.length : Nat) : Int))) := iff_f (not_iff decide_eq_true_iff) h_9
              have hF_11 := cnd_f h_9 hF_9
              have f_44 := Frm.set f_41 42 (v := .bool (!(decide (((d0.fList.length : Nat) : Int) = ((d1.fList.length : Nat) : Int))))) (v' := .bool false) (by kernel_rfl) (congrArg Value.bool h_9)
              refine V_run f_44 1 (by kernel_rfl) (fun a_35 f_45 => ?_)
              refine V_ld f_45 p_2 (fzu hM_2 hc_2) 5 rfl (by kernel_rfl) (by kernel_rfl) (fun a_36 f_46 => ?_)
              refine V_run f_46 2 (by kernel_rfl) (fun a_37 f_47 => ?_)
              refine V_ld f_47 p_2 hc_4 5 rfl (by kernel_rfl) (by kernel_rfl) (fun a_38 f_48 => ?_)
              refine V_run f_48 3 (by kernel_rfl) (fun a_39 f_49 => ?_)
              refine W_end rfl (T_n ?_)
              exact ⟨(!(decide (((d0.fKeys.length : Nat) : Int) = ((d1.fKeys.length : Nat) : Int)))), (Option.some.inj hF_11).symm, M_2, (Mem.le_refl _), f_49.keep (ks := [2, 3, 50]) (by kernel_rfl), p_2⟩
  · rintro a_40 w_3 ⟨y_1, hq_1, M_3, hM_3, f_50, p_3⟩
    subst j_1
    refine T_n ?_
    refine R_cond f_50 (b := y_1) (by kernel_rfl) (by kernel_rfl) (fun h_10 => ?_) (fun h_10 => ?_)
    · have hF_12 := cnd_t h_10 hF_1
      refine R_seq (R_reg ?_)
      refine V_run f_50 1 (by kernel_rfl) (fun a_41 f_51 => ?_)
      refine W_end rfl (T_n (wp_ret (T_r ?_)))
      refine E_ret1 f_51 rfl (by kernel_rfl : Vc.look _ 4 = some (.bool false)) ?_
      obtain rfl := Option.some.inj hF_12
      exact ⟨_, rfl, M_3, ((hM_1.trans hM_2).trans hM_3), p_3, rfl⟩
    · have hF_13 := cnd_f h_10 hF_1
      refine wp_skip (T_n (R_seq (R_seq (R_reg ?_))))
      refine V_run f_50 1 (by kernel_rfl) (fun a_42 f_52 => ?_)
      refine W_end rfl (T_n (wp_block ?_))
      obtain ⟨b_3, hL_1, hF_14⟩ := bind_some' hF_13
      refine wp_mono (Q := fun e a w => (e = .ret ∧ (∃ y_2 : Unit, b_3 = .inl y_2 ∧ ∃ M_5 : Mem, M_3.le M_5 ∧ Frm 88 [(4, .bool false)] a ∧ Hp w0 M_5 (H) w)) ∨ (e = .exit 0 ∧ (∃ y_3 : Unit, b_3 = .inr y_3 ∧ ∃ M_6 : Mem, M_3.le M_6 ∧ Frm 88 [(2, .pointer (some (⟨b_1, 0, none⟩))), (3, .pointer (some (⟨b_2, 0, none⟩)))] a ∧ Hp w0 M_6 (H) w))) (R_loop (n := 88) (w0 := w0) (M := M_3) (fun (x : Nat × Int) => match x with | (m_1, s_1) => [(2, .pointer (some (⟨b_1, 0, none⟩))), (3, .pointer (some (⟨b_2, 0, none⟩))), (5, .int .i64 s_1)]) (fun (x : Nat × Int) => match x with | (m_1, s_1) => (H)) (fun (x : Nat × Int) (MM : Mem) => match x with | (m_1, s_1) => loopF (ref03_Same_s1 n d0 d1) m_1 s_1 = some b_3) (fun (x : Nat × Int) => match x with | (m_1, s_1) => m_1) (n, (0 : Int)) (f_52.keep (ks := [2, 3, 5]) (by kernel_rfl)) p_3 hL_1 ?_) ?_
      · rintro ⟨m_1, s_1⟩ M_4 a_43 w_4 hM_4 I_1 f_53 p_4
        have I_1L := I_1
        obtain ⟨m_2, r_1, rfl, hs_1, hn_1⟩ := loop_step I_1L
        unfold ref03_Same_s1 at hs_1
        refine R_seq (R_seq (R_reg ?_))
        refine V_run f_53 2 (by kernel_rfl) (fun a_44 f_54 => ?_)
        refine V_ld f_54 p_4 (fzu ((hM_2.trans hM_3).trans hM_4) hc_2) 5 rfl (by kernel_rfl) (by kernel_rfl) (fun a_45 f_55 => ?_)
        refine V_run f_55 2 (by kernel_rfl) (fun a_46 f_56 => ?_)
        refine W_end rfl (T_n ?_)
        refine R_cond f_56 (b := decide (s_1 < ((d0.fKeys.length : Nat) : Int))) (by kernel_rfl) (by kernel_rfl) (fun h_11 => ?_) (fun h_11 => ?_)
        · have k_13 : s_1 < ((d0.fKeys.length : Nat) : Int) := decide_eq_true_iff.1 h_11
          have hF_15 := cnd_t h_11 hs_1
          refine wp_skip (T_n (R_seq (wp_block (R_seq ?_))))
          refine R_draw p_4 (by kernel_rfl) (by kernel_rfl) ?_
          refine Q_run default f_56 1 (fun _ => by kernel_rfl) (fun a_47 f_57 => ?_)
          refine Q_ld f_57 (fzu ((hM_2.trans hM_3).trans hM_4) hc_2) 5 rfl (by kernel_rfl) (by kernel_rfl) (fun a_48 f_58 => ?_)
          refine Q_run default f_58 1 (fun _ => by kernel_rfl) (fun a_49 f_59 => ?_)
          obtain ⟨x_1, hx_1, hF_16⟩ := bind_some' hF_15
          obtain ⟨ad_1, c_1, e_1, hl_1, hr_1, hc_5⟩ := Sli.at_ (h_2.mono (((hM_1.trans hM_2).trans hM_3).trans hM_4)) hx_1
          clear hl_1
          obtain rfl : c_1 = [S x_1] := hr_1
          refine QV_eq (v := .pointer (some (ad_1.add (s_1.toNat * 1)))) f_59 (by kernel_rfl) (fun _ pq => X_indexAddrA e_1 rfl (len := d0.fKeys.length) (cap := cap_2) (k := .i64) (i := s_1) (by kernel_rfl) (by kernel_rfl) (e := 9) (by kernel_rfl) (sz := 1) (by kernel_rfl) (getI_nn hx_1) (getI_lt hx_1)) (fun a_50 f_60 => ?_)
          refine Q_ld f_60 hc_5 0 rfl (by kernel_rfl) (by kernel_rfl) (fun a_51 f_61 => ?_)
          refine Q_run default f_61 1 (fun _ => by kernel_rfl) (fun a_52 f_62 => ?_)
          refine Q_ld f_62 (fzu (hM_3.trans hM_4) hc_4) 5 rfl (by kernel_rfl) (by kernel_rfl) (fun a_53 f_63 => ?_)
          refine Q_run default f_63 1 (fun _ => by kernel_rfl) (fun a_54 f_64 => ?_)
          obtain ⟨x_2, hx_2, hF_17⟩ := bind_some' hF_16
          obtain ⟨ad_2, c_2, e_2, hl_2, hr_2, hc_6⟩ := Sli.at_ (h_4.mono (((hM_1.trans hM_2).trans hM_3).trans hM_4)) hx_2
          clear hl_2
          obtain rfl : c_2 = [S x_2] := hr_2
          refine QV_eq (v := .pointer (some (ad_2.add (s_1.toNat * 1)))) f_64 (by kernel_rfl) (fun _ pq => X_indexAddrA e_2 rfl (len := d1.fKeys.length) (cap := cap_4) (k := .i64) (i := s_1) (by kernel_rfl) (by kernel_rfl) (e := 9) (by kernel_rfl) (sz := 1) (by kernel_rfl) (getI_nn hx_2) (getI_lt hx_2)) (fun a_55 f_65 => ?_)
          refine Q_ld f_65 hc_6 0 rfl (by kernel_rfl) (by kernel_rfl) (fun a_56 f_66 => ?_)
          refine QV_eq (v := .bool (!(decide (x_1 = x_2)))) f_66 (by kernel_rfl) (fun _ pq => X_strne rfl (l := x_1) (m := x_2) (by kernel_rfl) (by kernel_rfl)) (fun a_57 f_67 => ?_)
          refine Q_end rfl ?_
          intro w_5 p_5
          refine T_n ?_
          refine R_cond f_67 (b := !(decide (x_1 = x_2))) (by kernel_rfl) (by kernel_rfl) (fun h_12 => ?_) (fun h_12 => ?_)
          · have k_14 : ¬ (x_1 = x_2) := (not_iff decide_eq_true_iff).1 h_12
            have hF_18 := cnd_t h_12 hF_17
            refine R_seq (R_reg ?_)
            refine V_run f_67 1 (by kernel_rfl) (fun a_58 f_68 => ?_)
            refine W_end rfl (T_n (wp_ret (B_r (T_r (T_r ?_)))))
            obtain rfl := Option.some.inj hF_18
            exact .inl ⟨rfl, (), (Option.some.inj hn_1).symm, M_4, hM_4, f_68.keep (ks := [4]) (by kernel_rfl), p_5⟩
          · have k_15 : ¬ (¬ (x_1 = x_2)) := iff_f (not_iff decide_eq_true_iff) h_12
            have hF_19 := cnd_f h_12 hF_17
            refine wp_skip (B_n (T_n (R_reg ?_)))
            refine V_run f_67 1 (by kernel_rfl) (fun a_59 f_69 => ?_)
            obtain ⟨g_1, hF_20⟩ := need_some hF_19
            refine V_run f_69 1 (by kernel_rfl) (fun a_60 f_70 => ?_)
            have f_71 := Frm.set f_70 57 (v := .int .i64 (IntKind.wrap .i64 (s_1 + 1))) (v' := .int .i64 (s_1 + 1)) (by kernel_rfl) (congrArg (Value.int .i64) (inR_wrap g_1))
            refine V_run f_71 1 (by kernel_rfl) (fun a_61 f_72 => ?_)
            refine W_end rfl (T_n ?_)
            obtain rfl := Option.some.inj hF_20
            exact ⟨⟨m_2, s_1 + 1⟩, Nat.lt_succ_self _, M_4, hM_4, hn_1, f_72.keep (ks := [2, 3, 5]) (by kernel_rfl), p_5⟩
        · have k_16 : ¬ (s_1 < ((d0.fKeys.length : Nat) : Int)) := iff_f decide_eq_true_iff h_11
          have hF_21 := cnd_f h_11 hs_1
          refine wp_exit (T_x (T_x ?_))
          obtain rfl := Option.some.inj hF_21
          exact .inr ⟨rfl, (), (Option.some.inj hn_1).symm, M_4, hM_4, f_56.keep (ks := [2, 3]) (by kernel_rfl), p_4⟩
      · rintro _ a_64 w_8 (⟨rfl, y_2, rfl, M_5, hM_5, f_73, p_6⟩ | ⟨rfl, y_3, rfl, M_6, hM_6, f_74, p_7⟩)
        · refine B_r (T_r ?_)
          refine E_ret1 f_73 rfl (by kernel_rfl : Vc.look _ 4 = some (.bool false)) ?_
          obtain rfl := Option.some.inj hF_14
          exact ⟨_, rfl, M_5, (((hM_1.trans hM_2).trans hM_3).trans hM_5), p_6, rfl⟩
        · refine B_x (T_n (R_seq (R_seq (R_reg ?_))))
          refine V_run f_74 1 (by kernel_rfl) (fun a_65 f_75 => ?_)
          refine W_end rfl (T_n (wp_block ?_))
          obtain ⟨b_4, hL_2, hF_22⟩ := bind_some' hF_14
          refine wp_mono (Q := fun e a w => (e = .ret ∧ (∃ y_4 : Unit, b_4 = .inl y_4 ∧ ∃ M_8 : Mem, M_6.le M_8 ∧ Frm 88 [(4, .bool false)] a ∧ Hp w0 M_8 (H) w)) ∨ (e = .exit 2 ∧ (∃ y_5 : Unit, b_4 = .inr y_5 ∧ ∃ M_9 : Mem, M_6.le M_9 ∧ Frm 88 [] a ∧ Hp w0 M_9 (H) w))) (R_loop (n := 88) (w0 := w0) (M := M_6) (fun (x : Nat × Int) => match x with | (m_3, s_2) => [(2, .pointer (some (⟨b_1, 0, none⟩))), (3, .pointer (some (⟨b_2, 0, none⟩))), (6, .int .i64 s_2)]) (fun (x : Nat × Int) => match x with | (m_3, s_2) => (H)) (fun (x : Nat × Int) (MM : Mem) => match x with | (m_3, s_2) => loopF (ref03_Same_s2 n rec_ref03_Same d0 d1) m_3 s_2 = some b_4) (fun (x : Nat × Int) => match x with | (m_3, s_2) => m_3) (n, (0 : Int)) (f_75.keep (ks := [2, 3, 6]) (by kernel_rfl)) p_7 hL_2 ?_) ?_
          · rintro ⟨m_3, s_2⟩ M_7 a_66 w_9 hM_7 I_2 f_76 p_8
            have I_2L := I_2
            obtain ⟨m_4, r_2, rfl, hs_2, hn_2⟩ := loop_step I_2L
            unfold ref03_Same_s2 at hs_2
            refine R_seq (R_seq (R_reg ?_))
            refine V_run f_76 2 (by kernel_rfl) (fun a_67 f_77 => ?_)
            refine V_ld f_77 p_8 (fzu (((hM_2.trans hM_3).trans hM_6).trans hM_7) hc_2) 4 rfl (by kernel_rfl) (by kernel_rfl) (fun a_68 f_78 => ?_)
            refine V_run f_78 2 (by kernel_rfl) (fun a_69 f_79 => ?_)
            refine W_end rfl (T_n ?_)
            refine R_cond f_79 (b := decide (s_2 < ((d0.fList.length : Nat) : Int))) (by kernel_rfl) (by kernel_rfl) (fun h_13 => ?_) (fun h_13 => ?_)
            · have k_17 : s_2 < ((d0.fList.length : Nat) : Int) := decide_eq_true_iff.1 h_13
              have hF_23 := cnd_t h_13 hs_2
              refine wp_skip (T_n (R_seq (wp_block (R_seq ?_))))
              refine R_draw p_8 (by kernel_rfl) (by kernel_rfl) ?_
              refine Q_run default f_79 1 (fun _ => by kernel_rfl) (fun a_70 f_80 => ?_)
              refine Q_ld f_80 (fzu (((hM_2.trans hM_3).trans hM_6).trans hM_7) hc_2) 4 rfl (by kernel_rfl) (by kernel_rfl) (fun a_71 f_81 => ?_)
              refine Q_run default f_81 1 (fun _ => by kernel_rfl) (fun a_72 f_82 => ?_)
              obtain ⟨x_3, hx_3, hF_24⟩ := bind_some' hF_23
              obtain ⟨ad_3, c_3, e_3, hl_3, hr_3, hc_7⟩ := Sli.at_ (h_1.mono ((((hM_1.trans hM_2).trans hM_3).trans hM_6).trans hM_7)) hx_3
              clear hl_3
              obtain ⟨A_5, cap_5, A_6, cap_6, rfl, h_14, h_15⟩ := T_api_Value.opn hr_3
              refine QV_eq (v := .pointer (some (ad_3.add (s_2.toNat * 6)))) f_82 (by kernel_rfl) (fun _ pq => X_indexAddrA e_3 rfl (len := d0.fList.length) (cap := cap_1) (k := .i64) (i := s_2) (by kernel_rfl) (by kernel_rfl) (e := 26) (by kernel_rfl) (sz := 6) (by kernel_rfl) (getI_nn hx_3) (getI_lt hx_3)) (fun a_73 f_83 => ?_)
              refine QV_eq (v := .agg #[.int .i8 x_3.fKind, .bool x_3.fBool, .int .i64 x_3.fNum, S x_3.fText, .slice A_5 x_3.fList.length cap_5, .slice A_6 x_3.fKeys.length cap_6]) f_83 (by kernel_rfl) (fun _ pq => X_loadN (cs := [.int .i8 x_3.fKind, .bool x_3.fBool, .int .i64 x_3.fNum, S x_3.fText, .slice A_5 x_3.fList.length cap_5, .slice A_6 x_3.fKeys.length cap_6]) rfl (ad := ad_3.add (s_2.toNat * 6)) (by kernel_rfl) (by kernel_rfl) (fun j v h => pq.cell (hc_7 j v h))) (fun a_74 f_84 => ?_)
              refine Q_run default f_84 1 (fun _ => by kernel_rfl) (fun a_75 f_85 => ?_)
              refine Q_ld f_85 (fzu ((hM_3.trans hM_6).trans hM_7) hc_4) 4 rfl (by kernel_rfl) (by kernel_rfl) (fun a_76 f_86 => ?_)
              refine Q_run default f_86 1 (fun _ => by kernel_rfl) (fun a_77 f_87 => ?_)
              obtain ⟨x_4, hx_4, hF_25⟩ := bind_some' hF_24
              obtain ⟨ad_4, c_4, e_4, hl_4, hr_4, hc_8⟩ := Sli.at_ (h_3.mono ((((hM_1.trans hM_2).trans hM_3).trans hM_6).trans hM_7)) hx_4
              clear hl_4
              obtain ⟨A_7, cap_7, A_8, cap_8, rfl, h_16, h_17⟩ := T_api_Value.opn hr_4
              refine QV_eq (v := .pointer (some (ad_4.add (s_2.toNat * 6)))) f_87 (by kernel_rfl) (fun _ pq => X_indexAddrA e_4 rfl (len := d1.fList.length) (cap := cap_3) (k := .i64) (i := s_2) (by kernel_rfl) (by kernel_rfl) (e := 26) (by kernel_rfl) (sz := 6) (by kernel_rfl) (getI_nn hx_4) (getI_lt hx_4)) (fun a_78 f_88 => ?_)
              refine QV_eq (v := .agg #[.int .i8 x_4.fKind, .bool x_4.fBool, .int .i64 x_4.fNum, S x_4.fText, .slice A_7 x_4.fList.length cap_7, .slice A_8 x_4.fKeys.length cap_8]) f_88 (by kernel_rfl) (fun _ pq => X_loadN (cs := [.int .i8 x_4.fKind, .bool x_4.fBool, .int .i64 x_4.fNum, S x_4.fText, .slice A_7 x_4.fList.length cap_7, .slice A_8 x_4.fKeys.length cap_8]) rfl (ad := ad_4.add (s_2.toNat * 6)) (by kernel_rfl) (by kernel_rfl) (fun j v h => pq.cell (hc_8 j v h))) (fun a_79 f_89 => ?_)
              obtain ⟨x_5, hx_5, hF_26⟩ := bind_some' hF_25
              refine QV_okv f_89 (hrec_ref03_Same _ _ x_3 (T_api_Value.shutx (x := x_3) h_14 h_15) _ x_4 (T_api_Value.shutx (x := x_4) h_16 h_17) x_5 hx_5) (by kernel_rfl) (fun _ => by kernel_rfl) (fun a_80 f_90 => ?_)
              refine Q_run default f_90 1 (fun _ => by kernel_rfl) (fun a_81 f_91 => ?_)
              refine Q_end rfl ?_
              intro w_11 p_10
              refine T_n ?_
              refine R_cond f_91 (b := !x_5) (by kernel_rfl) (by kernel_rfl) (fun h_18 => ?_) (fun h_18 => ?_)
              · have k_18 : (x_5) = false := by simpa using h_18
                have hF_27 := cnd_t h_18 hF_26
                refine R_seq (R_reg ?_)
                refine V_run f_91 1 (by kernel_rfl) (fun a_82 f_92 => ?_)
                refine W_end rfl (T_n (wp_ret (B_r (T_r (T_r ?_)))))
                obtain rfl := Option.some.inj hF_27
                exact .inl ⟨rfl, (), (Option.some.inj hn_2).symm, M_7, hM_7, f_92.keep (ks := [4]) (by kernel_rfl), p_10⟩
              · have k_19 : (x_5) = true := by simpa using h_18
                have hF_28 := cnd_f h_18 hF_26
                refine wp_skip (B_n (T_n (R_reg ?_)))
                refine V_run f_91 1 (by kernel_rfl) (fun a_83 f_93 => ?_)
                obtain ⟨g_2, hF_29⟩ := need_some hF_28
                refine V_run f_93 1 (by kernel_rfl) (fun a_84 f_94 => ?_)
                have f_95 := Frm.set f_94 75 (v := .int .i64 (IntKind.wrap .i64 (s_2 + 1))) (v' := .int .i64 (s_2 + 1)) (by kernel_rfl) (congrArg (Value.int .i64) (inR_wrap g_2))
                refine V_run f_95 1 (by kernel_rfl) (fun a_85 f_96 => ?_)
                refine W_end rfl (T_n ?_)
                obtain rfl := Option.some.inj hF_29
                exact ⟨⟨m_4, s_2 + 1⟩, Nat.lt_succ_self _, M_7, hM_7, hn_2, f_96.keep (ks := [2, 3, 6]) (by kernel_rfl), p_10⟩
            · have k_20 : ¬ (s_2 < ((d0.fList.length : Nat) : Int)) := iff_f decide_eq_true_iff h_13
              have hF_30 := cnd_f h_13 hs_2
              refine wp_exit (T_x (T_x ?_))
              obtain rfl := Option.some.inj hF_30
              exact .inr ⟨rfl, (), (Option.some.inj hn_2).symm, M_7, hM_7, f_79.keep (ks := []) (by kernel_rfl), p_8⟩
          · rintro _ a_88 w_14 (⟨rfl, y_4, rfl, M_8, hM_8, f_97, p_11⟩ | ⟨rfl, y_5, rfl, M_9, hM_9, f_98, p_12⟩)
            · refine B_r (T_r ?_)
              refine E_ret1 f_97 rfl (by kernel_rfl : Vc.look _ 4 = some (.bool false)) ?_
              obtain rfl := Option.some.inj hF_22
              exact ⟨_, rfl, M_8, ((((hM_1.trans hM_2).trans hM_3).trans hM_6).trans hM_8), p_11, rfl⟩
            · refine B_x (T_n (R_seq (R_reg ?_)))
              refine V_run f_98 1 (by kernel_rfl) (fun a_89 f_99 => ?_)
              refine W_end rfl (T_n (wp_ret ?_))
              refine E_ret1 f_99 rfl (by kernel_rfl : Vc.look _ 4 = some (.bool true)) ?_
              obtain rfl := Option.some.inj hF_22
              exact ⟨_, rfl, M_9, ((((hM_1.trans hM_2).trans hM_3).trans hM_6).trans hM_9), p_12, rfl⟩
def ref03_Same_k (n : Nat) : Nat → T_api_Value → T_api_Value → Option Bool
  | 0 => fun _ _ => none
  | k + 1 => ref03_Same_b n (ref03_Same_k n k)
def ref03_Same (n : Nat) (d0 : T_api_Value) (d1 : T_api_Value) : Option Bool := ref03_Same_k n n d0 d1
theorem ref03_Same_ok (n : Nat) (M : Mem) (c0 : List Value) (d0 : T_api_Value) (h0 : Rep M (emb_T_api_Value d0) c0) (c1 : List Value) (d1 : T_api_Value) (h1 : Rep M (emb_T_api_Value d1) c1) (r : Bool) (hF : ref03_Same n d0 d1 = some r) : Ok Tryd.prog M 17 [.agg c0.toArray, .agg c1.toArray] (fun _ v => v = .bool r) := by
  have key : ∀ (k : Nat) (M : Mem) (c0 : List Value) (d0 : T_api_Value) (h0 : Rep M (emb_T_api_Value d0) c0) (c1 : List Value) (d1 : T_api_Value) (h1 : Rep M (emb_T_api_Value d1) c1) (r : Bool) (hF : ref03_Same_k n k d0 d1 = some r), Ok Tryd.prog M 17 [.agg c0.toArray, .agg c1.toArray] (fun _ v => v = .bool r) := by
    intro k
    induction k with
    | zero => intro M c0 d0 h0 c1 d1 h1 r hF; simp [ref03_Same_k] at hF
    | succ k ih => intro M c0 d0 h0 c1 d1 h1 r hF; exact ref03_Same_b_ok n (ref03_Same_k n k) ih M c0 d0 h0 c1 d1 h1 r hF
  exact key n M c0 d0 h0 c1 d1 h1 r hF
end Go.Proofs.YtekkifakjkhjiaaDoor
