/-
  Printed by a program: of each function its shallow reading, and the proof that the function gives what the reading gives. No condition.
-/
import Derived.Test.YtalifkcchfkgmaaDoorS6
import Derived.Test.YtalifkcchfkgmaaDoorS7
import Derived.Test.YtalifkcchfkgmaaDoorQ4h
set_option linter.unusedVariables false
set_option linter.unusedSimpArgs false
namespace Go.Proofs.YtalifkcchfkgmaaDoor
open Go Go.Vc Go.RowKit
def law09_SchemaAttrs_s1 (n : Nat) (d0 : List UInt8) (x_6 : List (List UInt8)) (s_1 : Bool × Int) : Option (Lp (Bool × Int) Bool) :=
    bif (decide (s_1.2 < ((x_6.length : Nat) : Int))) then
      ((getI x_6 s_1.2).bind fun x_7 =>
      bif s_1.1 then
        (need (inR .i64 (s_1.2 + 1)) <|
        some (.nx ((true), s_1.2 + 1)))
      else
        need (inR .i64 (s_1.2 + 1)) <|
        some (.nx ((decide (x_7 = d0)), s_1.2 + 1)))
    else
      some (.br (s_1.1))
def law09_SchemaAttrs (n : Nat) (d0 : List UInt8) (d1 : List UInt8) (d2 : List UInt8) (d3 : List UInt8) : Option Bool :=
  ((bif (decide ((200 : Int) < (d0.length : Int))) then
      (some ((true)))
    else
      bif (decide ((200 : Int) < (d1.length : Int))) then
        (some ((true)))
      else
        bif (decide ((200 : Int) < (d2.length : Int))) then
          (some ((true)))
        else
          some ((decide ((200 : Int) < (d3.length : Int)))) : Option Bool)).bind fun y_1 =>
  bif y_1 then
    ((law09_wakes n).bind fun x_1 =>
    some ((x_1)))
  else
    (schema_Attr n d0 d1 [65, 114, 110]).bind fun x_2 =>
    (schema_Attr n d0 d2 [65, 114, 110]).bind fun x_3 =>
    (schema_Attr n d0 d1 [90, 111, 110, 101]).bind fun x_4 =>
    (schema_Attr n d0 d1 d3).bind fun x_5 =>
    (schema_Types n).bind fun x_6 =>
    (loopF (law09_SchemaAttrs_s1 n d0 x_6) n ((false), (0 : Int))).bind fun y_2 =>
    bif !y_2 then
      (((bif (decide (x_2.2 = 90)) then
          (bif (decide (x_3.2 = 90)) then
            (bif (decide (x_4.2 = 90)) then
              (bif (decide (x_5.2 = 90)) then
                ((law09_wakes n).bind fun x_8 =>
                some ((x_8)))
              else
                some ((false)))
            else
              some ((false)))
          else
            some ((false)))
        else
          some ((false)) : Option Bool)).bind fun y_3 =>
      some ((y_3)))
    else
      bif (decide (x_2.2 = 0)) then
        (bif (decide (x_3.2 = 0)) then
          (bif (decide (x_4.2 = 0)) then
            (bif ((decide (x_2.1 = x_3.1)) == (decide (d1 = d2))) then
              (bif (decide ((x_4.1.length : Int) = (min (d1.length : Int) (1 : Int)))) then
                (bif (decide (d3 = [65, 114, 110])) then
                  (bif ((decide (x_5.2 = 0)) == true) then
                    ((law09_wakes n).bind fun x_9 =>
                    some ((x_9)))
                  else
                    some ((false)))
                else
                  bif ((decide (x_5.2 = 0)) == (decide (d3 = [90, 111, 110, 101]))) then
                    ((law09_wakes n).bind fun x_10 =>
                    some ((x_10)))
                  else
                    some ((false)))
              else
                some ((false)))
            else
              some ((false)))
          else
            some ((false)))
        else
          some ((false)))
      else
        some ((false))
set_option maxHeartbeats 2000000 in
theorem law09_SchemaAttrs_ok (n : Nat) (M : Mem) (hG : GL M) (d0 : List UInt8) (d1 : List UInt8) (d2 : List UInt8) (d3 : List UInt8) (r : Bool) (hF : law09_SchemaAttrs n d0 d1 d2 d3 = some r) : Ok Tryd.prog M 5 [S d0, S d1, S d2, S d3] (fun _ v => v = .bool r) := by
  unfold law09_SchemaAttrs at hF
  intro M1 hM0 w0 H w p0
  replace hG := GL.mono hM0 hG
  refine R_enter 137 Tryd.func5 rfl rfl (by simp) (fun a0 f0 => ?_)
  refine R_seq (R_reg ?_)
  refine V_run f0 1 (by kernel_rfl) (fun a_1 f_1 => ?_)
  refine W_end rfl (T_n (R_seq (R_seq ?_)))
  obtain ⟨j_1, hj_1, hF_1⟩ := bind_some' hF
  refine R_mid (fun a_9 w_1 => ∃ y_1 : Bool, j_1 = y_1 ∧ ∃ M_1 : Mem, M1.le M_1 ∧ Frm 137 [(0, S d0), (1, S d1), (2, S d2), (3, S d3), (37, .bool y_1)] a_9 ∧ Hp w0 M_1 (H) w_1) ?_ ?_
  · refine R_reg ?_
    refine V_run f_1 4 (by kernel_rfl) (fun a_2 f_2 => ?_)
    rcases Bool.eq_false_or_eq_true (decide ((200 : Int) < (d0.length : Int))) with h_1 | h_1
    · have k_1 : (200 : Int) < (d0.length : Int) := decide_eq_true_iff.1 h_1
      have hF_2 := cnd_t h_1 hj_1
      have f_3 := Frm.set f_2 23 (v := .bool (decide ((200 : Int) < (d0.length : Int)))) (v' := .bool true) (by kernel_rfl) (congrArg Value.bool h_1)
      refine V_run f_3 14 (by kernel_rfl) (fun a_3 f_4 => ?_)
      refine W_end rfl (T_n ?_)
      exact ⟨(true), (Option.some.inj hF_2).symm, M1, (Mem.le_refl _), f_4.keep (ks := [0, 1, 2, 3, 37]) (by kernel_rfl), p0⟩
    · have k_2 : ¬ ((200 : Int) < (d0.length : Int)) := iff_f decide_eq_true_iff h_1
      have hF_3 := cnd_f h_1 hj_1
      have f_5 := Frm.set f_2 23 (v := .bool (decide ((200 : Int) < (d0.length : Int)))) (v' := .bool false) (by kernel_rfl) (congrArg Value.bool h_1)
      refine V_run f_5 5 (by kernel_rfl) (fun a_4 f_6 => ?_)
      rcases Bool.eq_false_or_eq_true (decide ((200 : Int) < (d1.length : Int))) with h_2 | h_2
      · have k_3 : (200 : Int) < (d1.length : Int) := decide_eq_true_iff.1 h_2
        have hF_4 := cnd_t h_2 hF_3
        have f_7 := Frm.set f_6 28 (v := .bool (decide ((200 : Int) < (d1.length : Int)))) (v' := .bool true) (by kernel_rfl) (congrArg Value.bool h_2)
        refine V_run f_7 9 (by kernel_rfl) (fun a_5 f_8 => ?_)
        refine W_end rfl (T_n ?_)
        exact ⟨(true), (Option.some.inj hF_4).symm, M1, (Mem.le_refl _), f_8.keep (ks := [0, 1, 2, 3, 37]) (by kernel_rfl), p0⟩
      · have k_4 : ¬ ((200 : Int) < (d1.length : Int)) := iff_f decide_eq_true_iff h_2
        have hF_5 := cnd_f h_2 hF_3
        have f_9 := Frm.set f_6 28 (v := .bool (decide ((200 : Int) < (d1.length : Int)))) (v' := .bool false) (by kernel_rfl) (congrArg Value.bool h_2)
        refine V_run f_9 5 (by kernel_rfl) (fun a_6 f_10 => ?_)
        rcases Bool.eq_false_or_eq_true (decide ((200 : Int) < (d2.length : Int))) with h_3 | h_3
        · have k_5 : (200 : Int) < (d2.length : Int) := decide_eq_true_iff.1 h_3
          have hF_6 := cnd_t h_3 hF_5
          have f_11 := Frm.set f_10 33 (v := .bool (decide ((200 : Int) < (d2.length : Int)))) (v' := .bool true) (by kernel_rfl) (congrArg Value.bool h_3)
          refine V_run f_11 4 (by kernel_rfl) (fun a_7 f_12 => ?_)
          refine W_end rfl (T_n ?_)
          exact ⟨(true), (Option.some.inj hF_6).symm, M1, (Mem.le_refl _), f_12.keep (ks := [0, 1, 2, 3, 37]) (by kernel_rfl), p0⟩
        · have k_6 : ¬ ((200 : Int) < (d2.length : Int)) := iff_f decide_eq_true_iff h_3
          have hF_7 := cnd_f h_3 hF_5
          have f_13 := Frm.set f_10 33 (v := .bool (decide ((200 : Int) < (d2.length : Int)))) (v' := .bool false) (by kernel_rfl) (congrArg Value.bool h_3)
          refine V_run f_13 4 (by kernel_rfl) (fun a_8 f_14 => ?_)
          refine W_end rfl (T_n ?_)
          exact ⟨(decide ((200 : Int) < (d3.length : Int))), (Option.some.inj hF_7).symm, M1, (Mem.le_refl _), f_14.keep (ks := [0, 1, 2, 3, 37]) (by kernel_rfl), p0⟩
  · rintro a_9 w_1 ⟨y_1, hq_1, M_1, hM_1, f_15, p_1⟩
    subst j_1
    refine T_n ?_
    refine R_cond f_15 (b := y_1) (by kernel_rfl) (by kernel_rfl) (fun h_4 => ?_) (fun h_4 => ?_)
    · have hF_8 := cnd_t h_4 hF_1
      refine R_seq (R_reg ?_)
      obtain ⟨x_1, hx_1, hF_9⟩ := bind_some' hF_8
      refine V_okv f_15 p_1 (law09_wakes_ok n _ (GL.mono hM_1 hG) x_1 hx_1) (by kernel_rfl) (fun _ => by kernel_rfl) (fun w_2 p_2 a_10 f_16 => ?_)
      refine V_run f_16 1 (by kernel_rfl) (fun a_11 f_17 => ?_)
      refine W_end rfl (T_n (wp_ret (T_r ?_)))
      refine E_ret1 f_17 rfl (by kernel_rfl : Vc.look _ 8 = some (.bool x_1)) ?_
      obtain rfl := Option.some.inj hF_9
      exact ⟨_, rfl, M_1, hM_1, p_2, rfl⟩
    · have hF_10 := cnd_f h_4 hF_1
      refine wp_skip (T_n (R_seq (R_reg ?_)))
      refine V_run f_15 2 (by kernel_rfl) (fun a_12 f_18 => ?_)
      obtain ⟨x_2, hx_2, hF_11⟩ := bind_some' hF_10
      refine V_okv f_18 p_1 (schema_Attr_ok n _ (GL.mono hM_1 hG) d0 d1 [65, 114, 110] x_2 hx_2) (by kernel_rfl) (fun _ => by kernel_rfl) (fun w_3 p_3 a_13 f_19 => ?_)
      refine V_run f_19 5 (by kernel_rfl) (fun a_14 f_20 => ?_)
      refine W_end rfl (T_n (R_seq (R_reg ?_)))
      refine V_run f_20 2 (by kernel_rfl) (fun a_15 f_21 => ?_)
      obtain ⟨x_3, hx_3, hF_12⟩ := bind_some' hF_11
      refine V_okv f_21 p_3 (schema_Attr_ok n _ (GL.mono hM_1 hG) d0 d2 [65, 114, 110] x_3 hx_3) (by kernel_rfl) (fun _ => by kernel_rfl) (fun w_4 p_4 a_16 f_22 => ?_)
      refine V_run f_22 5 (by kernel_rfl) (fun a_17 f_23 => ?_)
      refine W_end rfl (T_n (R_seq (R_reg ?_)))
      refine V_run f_23 2 (by kernel_rfl) (fun a_18 f_24 => ?_)
      obtain ⟨x_4, hx_4, hF_13⟩ := bind_some' hF_12
      refine V_okv f_24 p_4 (schema_Attr_ok n _ (GL.mono hM_1 hG) d0 d1 [90, 111, 110, 101] x_4 hx_4) (by kernel_rfl) (fun _ => by kernel_rfl) (fun w_5 p_5 a_19 f_25 => ?_)
      refine V_run f_25 5 (by kernel_rfl) (fun a_20 f_26 => ?_)
      refine W_end rfl (T_n (R_seq (R_reg ?_)))
      refine V_run f_26 3 (by kernel_rfl) (fun a_21 f_27 => ?_)
      obtain ⟨x_5, hx_5, hF_14⟩ := bind_some' hF_13
      refine V_okv f_27 p_5 (schema_Attr_ok n _ (GL.mono hM_1 hG) d0 d1 d3 x_5 hx_5) (by kernel_rfl) (fun _ => by kernel_rfl) (fun w_6 p_6 a_22 f_28 => ?_)
      refine V_run f_28 5 (by kernel_rfl) (fun a_23 f_29 => ?_)
      refine W_end rfl (T_n (R_seq (R_reg ?_)))
      refine V_run f_29 1 (by kernel_rfl) (fun a_24 f_30 => ?_)
      refine W_end rfl (T_n (R_seq (R_seq (R_reg ?_))))
      obtain ⟨x_6, hx_6, hF_15⟩ := bind_some' hF_14
      refine V_ok f_30 p_6 (schema_Types_ok n _ (GL.mono hM_1 hG) x_6 hx_6) (by kernel_rfl) (fun _ => by kernel_rfl) (fun u_1 M_2 w_7 hM_2 p_7 q_1 a_25 f_31 => ?_)
      obtain ⟨A_1, cap_1, rfl, h_5⟩ := q_1
      refine V_run f_31 2 (by kernel_rfl) (fun a_26 f_32 => ?_)
      refine W_end rfl (T_n (wp_block ?_))
      obtain ⟨b_1, hL_1, hF_16⟩ := bind_some' hF_15
      refine wp_mono (Q := fun e a w => (e = .exit 0 ∧ (∃ y_2 : Bool, b_1 = y_2 ∧ ∃ M_4 : Mem, M_2.le M_4 ∧ Frm 137 [(1, S d1), (2, S d2), (3, S d3), (9, S x_2.1), (10, .int .i64 x_2.2), (11, S x_3.1), (12, .int .i64 x_3.2), (13, S x_4.1), (14, .int .i64 x_4.2), (16, .int .i64 x_5.2), (17, .bool y_2)] a ∧ Hp w0 M_4 (H) w))) (R_loop (n := 137) (w0 := w0) (M := M_2) (fun (x : Nat × (Bool × Int)) => match x with | (m_1, s_1) => [(0, S d0), (1, S d1), (2, S d2), (3, S d3), (9, S x_2.1), (10, .int .i64 x_2.2), (11, S x_3.1), (12, .int .i64 x_3.2), (13, S x_4.1), (14, .int .i64 x_4.2), (16, .int .i64 x_5.2), (17, .bool s_1.1), (64, .slice A_1 x_6.length cap_1), (65, .int .i64 ((x_6.length : Nat) : Int)), (66, .int .i64 s_1.2)]) (fun (x : Nat × (Bool × Int)) => match x with | (m_1, s_1) => (H)) (fun (x : Nat × (Bool × Int)) (MM : Mem) => match x with | (m_1, s_1) => loopF (law09_SchemaAttrs_s1 n d0 x_6) m_1 s_1 = some b_1) (fun (x : Nat × (Bool × Int)) => match x with | (m_1, s_1) => m_1) (n, ((false), (0 : Int))) (f_32.keep (ks := [0, 1, 2, 3, 9, 10, 11, 12, 13, 14, 16, 17, 64, 65, 66]) (by kernel_rfl)) p_7 hL_1 ?_) ?_
      · rintro ⟨m_1, s_1⟩ M_3 a_27 w_8 hM_3 I_1 f_33 p_8
        have I_1L := I_1
        obtain ⟨m_2, r_1, rfl, hs_1, hn_1⟩ := loop_step I_1L
        unfold law09_SchemaAttrs_s1 at hs_1
        refine R_seq (R_reg ?_)
        refine V_run f_33 1 (by kernel_rfl) (fun a_28 f_34 => ?_)
        refine W_end rfl (T_n (R_seq ?_))
        refine R_cond f_34 (b := decide (s_1.2 < ((x_6.length : Nat) : Int))) (by kernel_rfl) (by kernel_rfl) (fun h_6 => ?_) (fun h_6 => ?_)
        · have k_9 : s_1.2 < ((x_6.length : Nat) : Int) := decide_eq_true_iff.1 h_6
          have hF_17 := cnd_t h_6 hs_1
          refine wp_skip (T_n (R_seq (wp_block (R_seq (R_reg ?_)))))
          obtain ⟨x_7, hx_7, hF_18⟩ := bind_some' hF_17
          obtain ⟨ad_1, c_1, e_1, hl_1, hr_1, hc_1⟩ := Sli.at_ (h_5.mono hM_3) hx_7
          clear hl_1
          obtain rfl : c_1 = [S x_7] := hr_1
          refine V_eq (v := .pointer (some (ad_1.add (s_1.2.toNat * 1)))) f_34 (by kernel_rfl) (X_indexAddrA e_1 rfl (len := x_6.length) (cap := cap_1) (k := .i64) (i := s_1.2) (by kernel_rfl) (by kernel_rfl) (e := 9) (by kernel_rfl) (sz := 1) (by kernel_rfl) (getI_nn hx_7) (getI_lt hx_7)) (fun a_29 f_35 => ?_)
          refine V_ld f_35 p_8 hc_1 0 rfl (by kernel_rfl) (by kernel_rfl) (fun a_30 f_36 => ?_)
          refine V_run f_36 1 (by kernel_rfl) (fun a_31 f_37 => ?_)
          refine W_end rfl (T_n (R_reg ?_))
          refine V_run f_37 2 (by kernel_rfl) (fun a_32 f_38 => ?_)
          rcases Bool.eq_false_or_eq_true (s_1.1) with h_7 | h_7
          · have hF_19 := cnd_t h_7 hF_18
            have f_39 := Frm.set f_38 71 (v := .bool s_1.1) (v' := .bool true) (by kernel_rfl) (congrArg Value.bool h_7)
            refine V_run f_39 5 (by kernel_rfl) (fun a_33 f_40 => ?_)
            refine W_end rfl (B_n (T_n (R_reg ?_)))
            obtain ⟨g_1, hF_20⟩ := need_some hF_19
            refine V_run f_40 1 (by kernel_rfl) (fun a_34 f_41 => ?_)
            have f_42 := Frm.set f_41 76 (v := .int .i64 (IntKind.wrap .i64 (s_1.2 + 1))) (v' := .int .i64 (s_1.2 + 1)) (by kernel_rfl) (congrArg (Value.int .i64) (inR_wrap g_1))
            refine V_run f_42 1 (by kernel_rfl) (fun a_35 f_43 => ?_)
            refine W_end rfl (T_n ?_)
            obtain rfl := Option.some.inj hF_20
            exact ⟨⟨m_2, ((true), s_1.2 + 1)⟩, Nat.lt_succ_self _, M_3, hM_3, hn_1, f_43.keep (ks := [0, 1, 2, 3, 9, 10, 11, 12, 13, 14, 16, 17, 64, 65, 66]) (by kernel_rfl), p_8⟩
          · have hF_21 := cnd_f h_7 hF_18
            have f_44 := Frm.set f_38 71 (v := .bool s_1.1) (v' := .bool false) (by kernel_rfl) (congrArg Value.bool h_7)
            refine V_run f_44 2 (by kernel_rfl) (fun a_36 f_45 => ?_)
            refine V_eq (v := .bool (decide (x_7 = d0))) f_45 (by kernel_rfl) (X_streq rfl (l := x_7) (m := d0) (by kernel_rfl) (by kernel_rfl)) (fun a_37 f_46 => ?_)
            refine V_run f_46 2 (by kernel_rfl) (fun a_38 f_47 => ?_)
            refine W_end rfl (B_n (T_n (R_reg ?_)))
            obtain ⟨g_2, hF_22⟩ := need_some hF_21
            refine V_run f_47 1 (by kernel_rfl) (fun a_39 f_48 => ?_)
            have f_49 := Frm.set f_48 76 (v := .int .i64 (IntKind.wrap .i64 (s_1.2 + 1))) (v' := .int .i64 (s_1.2 + 1)) (by kernel_rfl) (congrArg (Value.int .i64) (inR_wrap g_2))
            refine V_run f_49 1 (by kernel_rfl) (fun a_40 f_50 => ?_)
            refine W_end rfl (T_n ?_)
            obtain rfl := Option.some.inj hF_22
            exact ⟨⟨m_2, ((decide (x_7 = d0)), s_1.2 + 1)⟩, Nat.lt_succ_self _, M_3, hM_3, hn_1, f_50.keep (ks := [0, 1, 2, 3, 9, 10, 11, 12, 13, 14, 16, 17, 64, 65, 66]) (by kernel_rfl), p_8⟩
        · have k_12 : ¬ (s_1.2 < ((x_6.length : Nat) : Int)) := iff_f decide_eq_true_iff h_6
          have hF_23 := cnd_f h_6 hs_1
          refine wp_exit (T_x (T_x ?_))
          obtain rfl := Option.some.inj hF_23
          exact ⟨rfl, (s_1.1), (Option.some.inj hn_1).symm, M_3, hM_3, f_34.keep (ks := [1, 2, 3, 9, 10, 11, 12, 13, 14, 16, 17]) (by kernel_rfl), p_8⟩
      · rintro _ a_42 w_10 ⟨rfl, y_2, hq_, M_4, hM_4, f_51, p_9⟩
        subst b_1
        refine B_x (T_n (R_seq (R_seq (R_reg ?_))))
        refine V_run f_51 2 (by kernel_rfl) (fun a_43 f_52 => ?_)
        refine W_end rfl (T_n ?_)
        refine R_cond f_52 (b := !y_2) (by kernel_rfl) (by kernel_rfl) (fun h_8 => ?_) (fun h_8 => ?_)
        · have k_13 : (y_2) = false := by simpa using h_8
          have hF_24 := cnd_t h_8 hF_16
          refine R_seq ?_
          obtain ⟨j_2, hj_2, hF_25⟩ := bind_some' hF_24
          refine R_mid (fun a_54 w_12 => ∃ y_3 : Bool, j_2 = y_3 ∧ ∃ M_5 : Mem, M_4.le M_5 ∧ Frm 137 [(8, .bool y_3)] a_54 ∧ Hp w0 M_5 (H) w_12) ?_ ?_
          · refine R_reg ?_
            refine V_run f_52 3 (by kernel_rfl) (fun a_44 f_53 => ?_)
            rcases Bool.eq_false_or_eq_true (decide (x_2.2 = 90)) with h_9 | h_9
            · have k_14 : x_2.2 = 90 := decide_eq_true_iff.1 h_9
              have hF_26 := cnd_t h_9 hj_2
              have f_54 := Frm.set f_53 81 (v := .bool (decide (x_2.2 = 90))) (v' := .bool true) (by kernel_rfl) (congrArg Value.bool h_9)
              refine V_run f_54 4 (by kernel_rfl) (fun a_45 f_55 => ?_)
              rcases Bool.eq_false_or_eq_true (decide (x_3.2 = 90)) with h_10 | h_10
              · have k_15 : x_3.2 = 90 := decide_eq_true_iff.1 h_10
                have hF_27 := cnd_t h_10 hF_26
                have f_56 := Frm.set f_55 85 (v := .bool (decide (x_3.2 = 90))) (v' := .bool true) (by kernel_rfl) (congrArg Value.bool h_10)
                refine V_run f_56 4 (by kernel_rfl) (fun a_46 f_57 => ?_)
                rcases Bool.eq_false_or_eq_true (decide (x_4.2 = 90)) with h_11 | h_11
                · have k_16 : x_4.2 = 90 := decide_eq_true_iff.1 h_11
                  have hF_28 := cnd_t h_11 hF_27
                  have f_58 := Frm.set f_57 89 (v := .bool (decide (x_4.2 = 90))) (v' := .bool true) (by kernel_rfl) (congrArg Value.bool h_11)
                  refine V_run f_58 4 (by kernel_rfl) (fun a_47 f_59 => ?_)
                  rcases Bool.eq_false_or_eq_true (decide (x_5.2 = 90)) with h_12 | h_12
                  · have k_17 : x_5.2 = 90 := decide_eq_true_iff.1 h_12
                    have hF_29 := cnd_t h_12 hF_28
                    have f_60 := Frm.set f_59 93 (v := .bool (decide (x_5.2 = 90))) (v' := .bool true) (by kernel_rfl) (congrArg Value.bool h_12)
                    obtain ⟨x_8, hx_8, hF_30⟩ := bind_some' hF_29
                    refine V_okv f_60 p_9 (law09_wakes_ok n _ (GL.mono ((hM_1.trans hM_2).trans hM_4) hG) x_8 hx_8) (by kernel_rfl) (fun _ => by kernel_rfl) (fun w_11 p_10 a_48 f_61 => ?_)
                    refine V_run f_61 2 (by kernel_rfl) (fun a_49 f_62 => ?_)
                    refine W_end rfl (T_n ?_)
                    exact ⟨(x_8), (Option.some.inj hF_30).symm, M_4, (Mem.le_refl _), f_62.keep (ks := [8]) (by kernel_rfl), p_10⟩
                  · have k_18 : ¬ (x_5.2 = 90) := iff_f decide_eq_true_iff h_12
                    have hF_31 := cnd_f h_12 hF_28
                    have f_63 := Frm.set f_59 93 (v := .bool (decide (x_5.2 = 90))) (v' := .bool false) (by kernel_rfl) (congrArg Value.bool h_12)
                    refine V_run f_63 3 (by kernel_rfl) (fun a_50 f_64 => ?_)
                    refine W_end rfl (T_n ?_)
                    exact ⟨(false), (Option.some.inj hF_31).symm, M_4, (Mem.le_refl _), f_64.keep (ks := [8]) (by kernel_rfl), p_9⟩
                · have k_19 : ¬ (x_4.2 = 90) := iff_f decide_eq_true_iff h_11
                  have hF_32 := cnd_f h_11 hF_27
                  have f_65 := Frm.set f_57 89 (v := .bool (decide (x_4.2 = 90))) (v' := .bool false) (by kernel_rfl) (congrArg Value.bool h_11)
                  refine V_run f_65 7 (by kernel_rfl) (fun a_51 f_66 => ?_)
                  refine W_end rfl (T_n ?_)
                  exact ⟨(false), (Option.some.inj hF_32).symm, M_4, (Mem.le_refl _), f_66.keep (ks := [8]) (by kernel_rfl), p_9⟩
              · have k_20 : ¬ (x_3.2 = 90) := iff_f decide_eq_true_iff h_10
                have hF_33 := cnd_f h_10 hF_26
                have f_67 := Frm.set f_55 85 (v := .bool (decide (x_3.2 = 90))) (v' := .bool false) (by kernel_rfl) (congrArg Value.bool h_10)
                refine V_run f_67 11 (by kernel_rfl) (fun a_52 f_68 => ?_)
                refine W_end rfl (T_n ?_)
                exact ⟨(false), (Option.some.inj hF_33).symm, M_4, (Mem.le_refl _), f_68.keep (ks := [8]) (by kernel_rfl), p_9⟩
            · have k_21 : ¬ (x_2.2 = 90) := iff_f decide_eq_true_iff h_9
              have hF_34 := cnd_f h_9 hj_2
              have f_69 := Frm.set f_53 81 (v := .bool (decide (x_2.2 = 90))) (v' := .bool false) (by kernel_rfl) (congrArg Value.bool h_9)
              refine V_run f_69 15 (by kernel_rfl) (fun a_53 f_70 => ?_)
              refine W_end rfl (T_n ?_)
              exact ⟨(false), (Option.some.inj hF_34).symm, M_4, (Mem.le_refl _), f_70.keep (ks := [8]) (by kernel_rfl), p_9⟩
          · rintro a_54 w_12 ⟨y_3, hq_2, M_5, hM_5, f_71, p_11⟩
            subst j_2
            refine T_n (wp_ret (T_r ?_))
            refine E_ret1 f_71 rfl (by kernel_rfl : Vc.look _ 8 = some (.bool y_3)) ?_
            obtain rfl := Option.some.inj hF_25
            exact ⟨_, rfl, M_5, (((hM_1.trans hM_2).trans hM_4).trans hM_5), p_11, rfl⟩
        · have k_22 : (y_2) = true := by simpa using h_8
          have hF_35 := cnd_f h_8 hF_16
          refine wp_skip (T_n (R_seq (R_reg ?_)))
          refine V_run f_52 3 (by kernel_rfl) (fun a_55 f_72 => ?_)
          rcases Bool.eq_false_or_eq_true (decide (x_2.2 = 0)) with h_13 | h_13
          · have k_23 : x_2.2 = 0 := decide_eq_true_iff.1 h_13
            have hF_36 := cnd_t h_13 hF_35
            have f_73 := Frm.set f_72 98 (v := .bool (decide (x_2.2 = 0))) (v' := .bool true) (by kernel_rfl) (congrArg Value.bool h_13)
            refine V_run f_73 4 (by kernel_rfl) (fun a_56 f_74 => ?_)
            rcases Bool.eq_false_or_eq_true (decide (x_3.2 = 0)) with h_14 | h_14
            · have k_24 : x_3.2 = 0 := decide_eq_true_iff.1 h_14
              have hF_37 := cnd_t h_14 hF_36
              have f_75 := Frm.set f_74 102 (v := .bool (decide (x_3.2 = 0))) (v' := .bool true) (by kernel_rfl) (congrArg Value.bool h_14)
              refine V_run f_75 4 (by kernel_rfl) (fun a_57 f_76 => ?_)
              rcases Bool.eq_false_or_eq_true (decide (x_4.2 = 0)) with h_15 | h_15
              · have k_25 : x_4.2 = 0 := decide_eq_true_iff.1 h_15
                have hF_38 := cnd_t h_15 hF_37
                have f_77 := Frm.set f_76 106 (v := .bool (decide (x_4.2 = 0))) (v' := .bool true) (by kernel_rfl) (congrArg Value.bool h_15)
                refine V_run f_77 2 (by kernel_rfl) (fun a_58 f_78 => ?_)
                refine V_eq (v := .bool (decide (x_2.1 = x_3.1))) f_78 (by kernel_rfl) (X_streq rfl (l := x_2.1) (m := x_3.1) (by kernel_rfl) (by kernel_rfl)) (fun a_59 f_79 => ?_)
                refine V_run f_79 2 (by kernel_rfl) (fun a_60 f_80 => ?_)
                refine V_eq (v := .bool (decide (d1 = d2))) f_80 (by kernel_rfl) (X_streq rfl (l := d1) (m := d2) (by kernel_rfl) (by kernel_rfl)) (fun a_61 f_81 => ?_)
                refine V_run f_81 3 (by kernel_rfl) (fun a_62 f_82 => ?_)
                rcases Bool.eq_false_or_eq_true ((decide (x_2.1 = x_3.1)) == (decide (d1 = d2))) with h_16 | h_16
                · have hF_39 := cnd_t h_16 hF_38
                  have f_83 := Frm.set f_82 115 (v := .bool ((decide (x_2.1 = x_3.1)) == (decide (d1 = d2)))) (v' := .bool true) (by kernel_rfl) (congrArg Value.bool h_16)
                  refine V_run f_83 4 (by kernel_rfl) (fun a_63 f_84 => ?_)
                  refine V_eq (v := .int .i64 (min (d1.length : Int) (1 : Int))) f_84 (by kernel_rfl) (X_min (k := .i64) (a := (d1.length : Int)) (b := (1 : Int)) rfl (by kernel_rfl) (by kernel_rfl)) (fun a_64 f_85 => ?_)
                  refine V_run f_85 3 (by kernel_rfl) (fun a_65 f_86 => ?_)
                  rcases Bool.eq_false_or_eq_true (decide ((x_4.1.length : Int) = (min (d1.length : Int) (1 : Int)))) with h_17 | h_17
                  · have k_27 : (x_4.1.length : Int) = (min (d1.length : Int) (1 : Int)) := decide_eq_true_iff.1 h_17
                    have hF_40 := cnd_t h_17 hF_39
                    have f_87 := Frm.set f_86 123 (v := .bool (decide ((x_4.1.length : Int) = (min (d1.length : Int) (1 : Int))))) (v' := .bool true) (by kernel_rfl) (congrArg Value.bool h_17)
                    refine V_run f_87 3 (by kernel_rfl) (fun a_66 f_88 => ?_)
                    refine V_eq (v := .bool (decide (d3 = [65, 114, 110]))) f_88 (by kernel_rfl) (X_streq rfl (l := d3) (m := [65, 114, 110]) (by kernel_rfl) (by kernel_rfl)) (fun a_67 f_89 => ?_)
                    refine V_run f_89 1 (by kernel_rfl) (fun a_68 f_90 => ?_)
                    rcases Bool.eq_false_or_eq_true (decide (d3 = [65, 114, 110])) with h_18 | h_18
                    · have k_28 : d3 = [65, 114, 110] := decide_eq_true_iff.1 h_18
                      have hF_41 := cnd_t h_18 hF_40
                      have f_91 := Frm.set f_90 128 (v := .bool (decide (d3 = [65, 114, 110]))) (v' := .bool true) (by kernel_rfl) (congrArg Value.bool h_18)
                      refine V_run f_91 6 (by kernel_rfl) (fun a_69 f_92 => ?_)
                      rcases Bool.eq_false_or_eq_true ((decide (x_5.2 = 0)) == true) with h_19 | h_19
                      · have hF_42 := cnd_t h_19 hF_41
                        have f_93 := Frm.set f_92 134 (v := .bool ((decide (x_5.2 = 0)) == true)) (v' := .bool true) (by kernel_rfl) (congrArg Value.bool h_19)
                        obtain ⟨x_9, hx_9, hF_43⟩ := bind_some' hF_42
                        refine V_okv f_93 p_9 (law09_wakes_ok n _ (GL.mono ((hM_1.trans hM_2).trans hM_4) hG) x_9 hx_9) (by kernel_rfl) (fun _ => by kernel_rfl) (fun w_13 p_12 a_70 f_94 => ?_)
                        refine V_run f_94 2 (by kernel_rfl) (fun a_71 f_95 => ?_)
                        refine W_end rfl (T_n (wp_ret ?_))
                        refine E_ret1 f_95 rfl (by kernel_rfl : Vc.look _ 8 = some (.bool x_9)) ?_
                        obtain rfl := Option.some.inj hF_43
                        exact ⟨_, rfl, M_4, ((hM_1.trans hM_2).trans hM_4), p_12, rfl⟩
                      · have hF_44 := cnd_f h_19 hF_41
                        have f_96 := Frm.set f_92 134 (v := .bool ((decide (x_5.2 = 0)) == true)) (v' := .bool false) (by kernel_rfl) (congrArg Value.bool h_19)
                        refine V_run f_96 3 (by kernel_rfl) (fun a_72 f_97 => ?_)
                        refine W_end rfl (T_n (wp_ret ?_))
                        refine E_ret1 f_97 rfl (by kernel_rfl : Vc.look _ 8 = some (.bool false)) ?_
                        obtain rfl := Option.some.inj hF_44
                        exact ⟨_, rfl, M_4, ((hM_1.trans hM_2).trans hM_4), p_9, rfl⟩
                    · have k_31 : ¬ (d3 = [65, 114, 110]) := iff_f decide_eq_true_iff h_18
                      have hF_45 := cnd_f h_18 hF_40
                      have f_98 := Frm.set f_90 128 (v := .bool (decide (d3 = [65, 114, 110]))) (v' := .bool false) (by kernel_rfl) (congrArg Value.bool h_18)
                      refine V_run f_98 1 (by kernel_rfl) (fun a_73 f_99 => ?_)
                      refine V_eq (v := .bool (decide (d3 = [90, 111, 110, 101]))) f_99 (by kernel_rfl) (X_streq rfl (l := d3) (m := [90, 111, 110, 101]) (by kernel_rfl) (by kernel_rfl)) (fun a_74 f_100 => ?_)
                      refine V_run f_100 4 (by kernel_rfl) (fun a_75 f_101 => ?_)
                      rcases Bool.eq_false_or_eq_true ((decide (x_5.2 = 0)) == (decide (d3 = [90, 111, 110, 101]))) with h_20 | h_20
                      · have hF_46 := cnd_t h_20 hF_45
                        have f_102 := Frm.set f_101 134 (v := .bool ((decide (x_5.2 = 0)) == (decide (d3 = [90, 111, 110, 101])))) (v' := .bool true) (by kernel_rfl) (congrArg Value.bool h_20)
                        obtain ⟨x_10, hx_10, hF_47⟩ := bind_some' hF_46
                        refine V_okv f_102 p_9 (law09_wakes_ok n _ (GL.mono ((hM_1.trans hM_2).trans hM_4) hG) x_10 hx_10) (by kernel_rfl) (fun _ => by kernel_rfl) (fun w_14 p_13 a_76 f_103 => ?_)
                        refine V_run f_103 2 (by kernel_rfl) (fun a_77 f_104 => ?_)
                        refine W_end rfl (T_n (wp_ret ?_))
                        refine E_ret1 f_104 rfl (by kernel_rfl : Vc.look _ 8 = some (.bool x_10)) ?_
                        obtain rfl := Option.some.inj hF_47
                        exact ⟨_, rfl, M_4, ((hM_1.trans hM_2).trans hM_4), p_13, rfl⟩
                      · have hF_48 := cnd_f h_20 hF_45
                        have f_105 := Frm.set f_101 134 (v := .bool ((decide (x_5.2 = 0)) == (decide (d3 = [90, 111, 110, 101])))) (v' := .bool false) (by kernel_rfl) (congrArg Value.bool h_20)
                        refine V_run f_105 3 (by kernel_rfl) (fun a_78 f_106 => ?_)
                        refine W_end rfl (T_n (wp_ret ?_))
                        refine E_ret1 f_106 rfl (by kernel_rfl : Vc.look _ 8 = some (.bool false)) ?_
                        obtain rfl := Option.some.inj hF_48
                        exact ⟨_, rfl, M_4, ((hM_1.trans hM_2).trans hM_4), p_9, rfl⟩
                  · have k_34 : ¬ ((x_4.1.length : Int) = (min (d1.length : Int) (1 : Int))) := iff_f decide_eq_true_iff h_17
                    have hF_49 := cnd_f h_17 hF_39
                    have f_107 := Frm.set f_86 123 (v := .bool (decide ((x_4.1.length : Int) = (min (d1.length : Int) (1 : Int))))) (v' := .bool false) (by kernel_rfl) (congrArg Value.bool h_17)
                    refine V_run f_107 14 (by kernel_rfl) (fun a_79 f_108 => ?_)
                    refine W_end rfl (T_n (wp_ret ?_))
                    refine E_ret1 f_108 rfl (by kernel_rfl : Vc.look _ 8 = some (.bool false)) ?_
                    obtain rfl := Option.some.inj hF_49
                    exact ⟨_, rfl, M_4, ((hM_1.trans hM_2).trans hM_4), p_9, rfl⟩
                · have hF_50 := cnd_f h_16 hF_38
                  have f_109 := Frm.set f_82 115 (v := .bool ((decide (x_2.1 = x_3.1)) == (decide (d1 = d2)))) (v' := .bool false) (by kernel_rfl) (congrArg Value.bool h_16)
                  refine V_run f_109 22 (by kernel_rfl) (fun a_80 f_110 => ?_)
                  refine W_end rfl (T_n (wp_ret ?_))
                  refine E_ret1 f_110 rfl (by kernel_rfl : Vc.look _ 8 = some (.bool false)) ?_
                  obtain rfl := Option.some.inj hF_50
                  exact ⟨_, rfl, M_4, ((hM_1.trans hM_2).trans hM_4), p_9, rfl⟩
              · have k_36 : ¬ (x_4.2 = 0) := iff_f decide_eq_true_iff h_15
                have hF_51 := cnd_f h_15 hF_37
                have f_111 := Frm.set f_76 106 (v := .bool (decide (x_4.2 = 0))) (v' := .bool false) (by kernel_rfl) (congrArg Value.bool h_15)
                refine V_run f_111 31 (by kernel_rfl) (fun a_81 f_112 => ?_)
                refine W_end rfl (T_n (wp_ret ?_))
                refine E_ret1 f_112 rfl (by kernel_rfl : Vc.look _ 8 = some (.bool false)) ?_
                obtain rfl := Option.some.inj hF_51
                exact ⟨_, rfl, M_4, ((hM_1.trans hM_2).trans hM_4), p_9, rfl⟩
            · have k_37 : ¬ (x_3.2 = 0) := iff_f decide_eq_true_iff h_14
              have hF_52 := cnd_f h_14 hF_36
              have f_113 := Frm.set f_74 102 (v := .bool (decide (x_3.2 = 0))) (v' := .bool false) (by kernel_rfl) (congrArg Value.bool h_14)
              refine V_run f_113 35 (by kernel_rfl) (fun a_82 f_114 => ?_)
              refine W_end rfl (T_n (wp_ret ?_))
              refine E_ret1 f_114 rfl (by kernel_rfl : Vc.look _ 8 = some (.bool false)) ?_
              obtain rfl := Option.some.inj hF_52
              exact ⟨_, rfl, M_4, ((hM_1.trans hM_2).trans hM_4), p_9, rfl⟩
          · have k_38 : ¬ (x_2.2 = 0) := iff_f decide_eq_true_iff h_13
            have hF_53 := cnd_f h_13 hF_35
            have f_115 := Frm.set f_72 98 (v := .bool (decide (x_2.2 = 0))) (v' := .bool false) (by kernel_rfl) (congrArg Value.bool h_13)
            refine V_run f_115 39 (by kernel_rfl) (fun a_83 f_116 => ?_)
            refine W_end rfl (T_n (wp_ret ?_))
            refine E_ret1 f_116 rfl (by kernel_rfl : Vc.look _ 8 = some (.bool false)) ?_
            obtain rfl := Option.some.inj hF_53
            exact ⟨_, rfl, M_4, ((hM_1.trans hM_2).trans hM_4), p_9, rfl⟩
end Go.Proofs.YtalifkcchfkgmaaDoor
