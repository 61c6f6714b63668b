/-
  Printed by a program: of each function its shallow reading, and the proof that the function gives what the reading gives. No condition.
-/
import Derived.Test.YtalifkcchfkgmaaDoorQ2a
import Derived.Test.YtalifkcchfkgmaaDoorHd
set_option linter.unusedVariables false
set_option linter.unusedSimpArgs false
namespace Go.Proofs.YtalifkcchfkgmaaDoor
open Go Go.Vc Go.RowKit
def ref09_Great_s1 (n : Nat) (d0 : List T_api_Given) (s_1 : Int) : Option (Lp Int (Sum Unit Unit)) :=
    bif (decide (s_1 < ((d0.length : Nat) : Int))) then
      ((getI d0 s_1).bind fun x_1 =>
      bif (decide ((200 : Int) < (x_1.fName.length : Int))) then
        (some (.br (.inl ())))
      else
        (getI d0 s_1).bind fun x_2 =>
        (ref03_Great n (⟨x_2.fV.fKind, (x_2.fV.fBool), x_2.fV.fNum, x_2.fV.fText, x_2.fV.fList, x_2.fV.fKeys⟩ : T_api_Value)).bind fun x_3 =>
        bif x_3 then
          (some (.br (.inl ())))
        else
          need (inR .i64 (s_1 + 1)) <|
          some (.nx (s_1 + 1)))
    else
      some (.br (.inr ()))
def ref09_Great (n : Nat) (d0 : List T_api_Given) : Option Bool :=
  bif (decide ((60 : Int) < ((d0.length : Nat) : Int))) then
    (some ((true)))
  else
    (loopF (ref09_Great_s1 n d0) n (0 : Int)).bind fun b_1 =>
    (match b_1 with 
    | .inl y_1 => some ((true)) 
    | .inr y_2 => some ((false)))
set_option maxHeartbeats 2000000 in
theorem ref09_Great_ok (n : Nat) (M : Mem) (hG : GL M) (A0 : Option Addr) (cap0 : Nat) (d0 : List T_api_Given) (h0 : Sli M 8 emb_T_api_Given A0 cap0 d0) (r : Bool) (hF : ref09_Great n d0 = some r) : Ok Tryd.prog M 19 [.slice A0 d0.length cap0] (fun _ v => v = .bool r) := by
  unfold ref09_Great at hF
  intro M1 hM0 w0 H w p0
  replace hG := GL.mono hM0 hG
  replace h0 := h0.mono hM0
  refine R_enter 28 Tryd.func19 rfl rfl (by simp) (fun a0 f0 => ?_)
  refine R_seq (R_reg ?_)
  refine V_run f0 1 (by kernel_rfl) (fun a_1 f_1 => ?_)
  refine W_end rfl (T_n (R_seq (R_seq (R_reg ?_))))
  refine V_run f_1 3 (by kernel_rfl) (fun a_2 f_2 => ?_)
  refine W_end rfl (T_n ?_)
  refine R_cond f_2 (b := decide ((60 : Int) < ((d0.length : Nat) : Int))) (by kernel_rfl) (by kernel_rfl) (fun h_1 => ?_) (fun h_1 => ?_)
  · have k_1 : (60 : Int) < ((d0.length : Nat) : Int) := decide_eq_true_iff.1 h_1
    have hF_1 := cnd_t h_1 hF
    refine R_seq (R_reg ?_)
    refine V_run f_2 1 (by kernel_rfl) (fun a_3 f_3 => ?_)
    refine W_end rfl (T_n (wp_ret (T_r ?_)))
    refine E_ret1 f_3 rfl (by kernel_rfl : Vc.look _ 2 = some (.bool true)) ?_
    obtain rfl := Option.some.inj hF_1
    exact ⟨_, rfl, M1, (Mem.le_refl _), p0, rfl⟩
  · have k_2 : ¬ ((60 : Int) < ((d0.length : Nat) : Int)) := iff_f decide_eq_true_iff h_1
    have hF_2 := cnd_f h_1 hF
    refine wp_skip (T_n (R_seq (R_seq (R_reg ?_))))
    refine V_run f_2 1 (by kernel_rfl) (fun a_4 f_4 => ?_)
    refine W_end rfl (T_n (wp_block ?_))
    obtain ⟨b_1, hL_1, hF_3⟩ := bind_some' hF_2
    refine wp_mono (Q := fun e a w => (e = .ret ∧ (∃ y_1 : Unit, b_1 = .inl y_1 ∧ ∃ M_2 : Mem, M1.le M_2 ∧ Frm 28 [(2, .bool true)] a ∧ Hp w0 M_2 (H) w)) ∨ (e = .exit 0 ∧ (∃ y_2 : Unit, b_1 = .inr y_2 ∧ ∃ M_3 : Mem, M1.le M_3 ∧ Frm 28 [] a ∧ Hp w0 M_3 (H) w))) (R_loop (n := 28) (w0 := w0) (M := M1) (fun (x : Nat × Int) => match x with | (m_1, s_1) => [(0, .slice A0 d0.length cap0), (3, .int .i64 s_1)]) (fun (x : Nat × Int) => match x with | (m_1, s_1) => (H)) (fun (x : Nat × Int) (MM : Mem) => match x with | (m_1, s_1) => loopF (ref09_Great_s1 n d0) m_1 s_1 = some b_1) (fun (x : Nat × Int) => match x with | (m_1, s_1) => m_1) (n, (0 : Int)) (f_4.keep (ks := [0, 3]) (by kernel_rfl)) p0 hL_1 ?_) ?_
    · rintro ⟨m_1, s_1⟩ M_1 a_5 w_1 hM_1 I_1 f_5 p_1
      have I_1L := I_1
      obtain ⟨m_2, r_1, rfl, hs_1, hn_1⟩ := loop_step I_1L
      unfold ref09_Great_s1 at hs_1
      refine R_seq (R_seq (R_reg ?_))
      refine V_run f_5 4 (by kernel_rfl) (fun a_6 f_6 => ?_)
      refine W_end rfl (T_n ?_)
      refine R_cond f_6 (b := decide (s_1 < ((d0.length : Nat) : Int))) (by kernel_rfl) (by kernel_rfl) (fun h_2 => ?_) (fun h_2 => ?_)
      · have k_3 : s_1 < ((d0.length : Nat) : Int) := decide_eq_true_iff.1 h_2
        have hF_4 := cnd_t h_2 hs_1
        refine wp_skip (T_n (R_seq (wp_block (R_seq (R_reg ?_)))))
        refine V_run f_6 2 (by kernel_rfl) (fun a_7 f_7 => ?_)
        obtain ⟨x_1, hx_1, hF_5⟩ := bind_some' hF_4
        obtain ⟨ad_1, c_1, e_1, hl_1, hr_1, hc_1⟩ := Sli.at_ (h0.mono hM_1) hx_1
        clear hl_1
        obtain ⟨A_1, cap_1, A_2, cap_2, rfl, h_3, h_4⟩ := T_api_Given.opn hr_1
        refine V_eq (v := .pointer (some (ad_1.add (s_1.toNat * 8)))) f_7 (by kernel_rfl) (X_indexAddrA e_1 rfl (len := d0.length) (cap := cap0) (k := .i64) (i := s_1) (by kernel_rfl) (by kernel_rfl) (e := 35) (by kernel_rfl) (sz := 8) (by kernel_rfl) (getI_nn hx_1) (getI_lt hx_1)) (fun a_8 f_8 => ?_)
        refine V_run f_8 1 (by kernel_rfl) (fun a_9 f_9 => ?_)
        refine V_ld f_9 p_1 hc_1 0 rfl (by kernel_rfl) (by kernel_rfl) (fun a_10 f_10 => ?_)
        refine V_run f_10 3 (by kernel_rfl) (fun a_11 f_11 => ?_)
        rcases Bool.eq_false_or_eq_true (decide ((200 : Int) < (x_1.fName.length : Int))) with h_5 | h_5
        · have k_4 : (200 : Int) < (x_1.fName.length : Int) := decide_eq_true_iff.1 h_5
          have hF_6 := cnd_t h_5 hF_5
          have f_12 := Frm.set f_11 20 (v := .bool (decide ((200 : Int) < (x_1.fName.length : Int)))) (v' := .bool true) (by kernel_rfl) (congrArg Value.bool h_5)
          refine V_run f_12 7 (by kernel_rfl) (fun a_12 f_13 => ?_)
          refine W_end rfl (T_n ?_)
          refine R_cond_t f_13 (by kernel_rfl) (by kernel_rfl) ?_
          refine R_seq (R_reg ?_)
          refine V_run f_13 1 (by kernel_rfl) (fun a_13 f_14 => ?_)
          refine W_end rfl (T_n (wp_ret (B_r (T_r (T_r ?_)))))
          obtain rfl := Option.some.inj hF_6
          exact .inl ⟨rfl, (), (Option.some.inj hn_1).symm, M_1, hM_1, f_14.keep (ks := [2]) (by kernel_rfl), p_1⟩
        · have k_5 : ¬ ((200 : Int) < (x_1.fName.length : Int)) := iff_f decide_eq_true_iff h_5
          have hF_7 := cnd_f h_5 hF_5
          have f_15 := Frm.set f_11 20 (v := .bool (decide ((200 : Int) < (x_1.fName.length : Int)))) (v' := .bool false) (by kernel_rfl) (congrArg Value.bool h_5)
          refine V_run f_15 2 (by kernel_rfl) (fun a_14 f_16 => ?_)
          obtain ⟨x_2, hx_2, hF_8⟩ := bind_some' hF_7
          obtain ⟨ad_2, c_2, e_2, hl_2, hr_2, hc_2⟩ := Sli.at_ (h0.mono hM_1) hx_2
          clear hl_2
          obtain ⟨A_3, cap_3, A_4, cap_4, rfl, h_6, h_7⟩ := T_api_Given.opn hr_2
          refine V_eq (v := .pointer (some (ad_2.add (s_1.toNat * 8)))) f_16 (by kernel_rfl) (X_indexAddrA e_2 rfl (len := d0.length) (cap := cap0) (k := .i64) (i := s_1) (by kernel_rfl) (by kernel_rfl) (e := 35) (by kernel_rfl) (sz := 8) (by kernel_rfl) (getI_nn hx_2) (getI_lt hx_2)) (fun a_15 f_17 => ?_)
          refine V_run f_17 1 (by kernel_rfl) (fun a_16 f_18 => ?_)
          refine V_eq (v := .agg #[.int .i8 x_2.fV.fKind, .bool x_2.fV.fBool, .int .i64 x_2.fV.fNum, S x_2.fV.fText, .slice A_3 x_2.fV.fList.length cap_3, .slice A_4 x_2.fV.fKeys.length cap_4]) f_18 (by kernel_rfl) (X_loadN (cs := [.int .i8 x_2.fV.fKind, .bool x_2.fV.fBool, .int .i64 x_2.fV.fNum, S x_2.fV.fText, .slice A_3 x_2.fV.fList.length cap_3, .slice A_4 x_2.fV.fKeys.length cap_4]) rfl (ad := (ad_2.add (s_1.toNat * 8)).add 2) (by kernel_rfl) (by kernel_rfl) (fz_part (base := ad_2.add (s_1.toNat * 8)) (fun j v h => p_1.cell (hc_2 j v h)) 2 rfl)) (fun a_17 f_19 => ?_)
          obtain ⟨x_3, hx_3, hF_9⟩ := bind_some' hF_8
          refine V_okv f_19 p_1 (ref03_Great_ok n _ _ (⟨x_2.fV.fKind, (x_2.fV.fBool), x_2.fV.fNum, x_2.fV.fText, x_2.fV.fList, x_2.fV.fKeys⟩ : T_api_Value) (T_api_Value.shut h_6 h_7) x_3 hx_3) (by kernel_rfl) (fun _ => by kernel_rfl) (fun w_2 p_2 a_18 f_20 => ?_)
          refine V_run f_20 1 (by kernel_rfl) (fun a_19 f_21 => ?_)
          refine W_end rfl (T_n ?_)
          refine R_cond f_21 (b := x_3) (by kernel_rfl) (by kernel_rfl) (fun h_8 => ?_) (fun h_8 => ?_)
          · have hF_10 := cnd_t h_8 hF_9
            refine R_seq (R_reg ?_)
            refine V_run f_21 1 (by kernel_rfl) (fun a_20 f_22 => ?_)
            refine W_end rfl (T_n (wp_ret (B_r (T_r (T_r ?_)))))
            obtain rfl := Option.some.inj hF_10
            exact .inl ⟨rfl, (), (Option.some.inj hn_1).symm, M_1, hM_1, f_22.keep (ks := [2]) (by kernel_rfl), p_2⟩
          · have hF_11 := cnd_f h_8 hF_9
            refine wp_skip (B_n (T_n (R_reg ?_)))
            refine V_run f_21 1 (by kernel_rfl) (fun a_21 f_23 => ?_)
            obtain ⟨g_1, hF_12⟩ := need_some hF_11
            refine V_run f_23 1 (by kernel_rfl) (fun a_22 f_24 => ?_)
            have f_25 := Frm.set f_24 12 (v := .int .i64 (IntKind.wrap .i64 (s_1 + 1))) (v' := .int .i64 (s_1 + 1)) (by kernel_rfl) (congrArg (Value.int .i64) (inR_wrap g_1))
            refine V_run f_25 1 (by kernel_rfl) (fun a_23 f_26 => ?_)
            refine W_end rfl (T_n ?_)
            obtain rfl := Option.some.inj hF_12
            exact ⟨⟨m_2, s_1 + 1⟩, Nat.lt_succ_self _, M_1, hM_1, hn_1, f_26.keep (ks := [0, 3]) (by kernel_rfl), p_2⟩
      · have k_8 : ¬ (s_1 < ((d0.length : Nat) : Int)) := iff_f decide_eq_true_iff h_2
        have hF_13 := cnd_f h_2 hs_1
        refine wp_exit (T_x (T_x ?_))
        obtain rfl := Option.some.inj hF_13
        exact .inr ⟨rfl, (), (Option.some.inj hn_1).symm, M_1, hM_1, f_6.keep (ks := []) (by kernel_rfl), p_1⟩
    · rintro _ a_26 w_5 (⟨rfl, y_1, rfl, M_2, hM_2, f_27, p_3⟩ | ⟨rfl, y_2, rfl, M_3, hM_3, f_28, p_4⟩)
      · refine B_r (T_r ?_)
        refine E_ret1 f_27 rfl (by kernel_rfl : Vc.look _ 2 = some (.bool true)) ?_
        obtain rfl := Option.some.inj hF_3
        exact ⟨_, rfl, M_2, hM_2, p_3, rfl⟩
      · refine B_x (T_n (R_seq (R_reg ?_)))
        refine V_run f_28 1 (by kernel_rfl) (fun a_27 f_29 => ?_)
        refine W_end rfl (T_n (wp_ret ?_))
        refine E_ret1 f_29 rfl (by kernel_rfl : Vc.look _ 2 = some (.bool false)) ?_
        obtain rfl := Option.some.inj hF_3
        exact ⟨_, rfl, M_3, hM_3, p_4, rfl⟩
end Go.Proofs.YtalifkcchfkgmaaDoor
