/-
  Printed by a program: of each function its shallow reading, and the proof that the function gives what the reading gives. No condition.
-/
import Derived.Test.YtoonlehffohpaaaQ4
set_option linter.unusedVariables false
set_option linter.unusedSimpArgs false
namespace Go.Proofs.Ytoonlehffohpaaa
open Go Go.Vc Go.RowKit
def law21_ReadyGoes (n : Nat) (d0 : List (List Int)) (d1 : List Int) (d2 : Bool) : Option Bool :=
  (((ref21_Great n d0).bind fun x_1 =>
    bif x_1 then
      (some ((true)))
    else
      some ((decide ((100 : Int) < ((d1.length : Nat) : Int)))) : Option Bool)).bind fun y_1 =>
  bif y_1 then
    ((law21_wakes n).bind fun x_2 =>
    some ((x_2)))
  else
    (ready_Settle n d0 d1 (d2)).bind fun x_3 =>
    (graph_Order n d0).bind fun x_4 =>
    ((bif (!(decide (x_3.2 = 0))) then
        (some ((true)))
      else
        some ((!(decide (x_4.2 = 0)))) : Option Bool)).bind fun y_2 =>
    bif y_2 then
      ((law21_wakes n).bind fun x_5 =>
      some ((x_5)))
    else
      (ready_Ready n d0 x_3.1 (d2)).bind fun x_6 =>
      bif (decide (x_6.2 = 0)) then
        ((ready_Count n x_3.1 (1 : Int)).bind fun x_7 =>
        bif (decide (x_7 = 0)) then
          ((law21_wakes n).bind fun x_8 =>
          some ((x_8)))
        else
          (ready_Count n x_3.1 (2 : Int)).bind fun x_9 =>
          bif (decide ((0 : Int) < x_9)) then
            ((law21_wakes n).bind fun x_10 =>
            some ((x_10)))
          else
            bif (decide ((0 : Int) < ((x_6.1.length : Nat) : Int))) then
              ((law21_wakes n).bind fun x_11 =>
              some ((x_11)))
            else
              some ((false)))
      else
        some ((false))
theorem law21_ReadyGoes_ok (n : Nat) (M : Mem) (A0 : Option Addr) (cap0 : Nat) (d0 : List (List Int)) (h0 : Sli M 1 (eL 1 (Dat.int .i64)) A0 cap0 d0) (A1 : Option Addr) (cap1 : Nat) (d1 : List Int) (h1 : Sli M 1 (Dat.int .i8) A1 cap1 d1) (d2 : Bool) (r : Bool) (hF : law21_ReadyGoes n d0 d1 d2 = some r) : Ok Try.prog M 8 [.slice A0 d0.length cap0, .slice A1 d1.length cap1, .bool d2] (fun _ v => v = .bool r) := by
  unfold law21_ReadyGoes at hF
  intro M1 hM0 w0 H w p0
  replace h0 := h0.mono hM0
  replace h1 := h1.mono hM0
  refine R_enter 67 Try.func8 rfl rfl (by simp) (fun a0 f0 => ?_)
  replace f0 : Frm 67 [(0, .slice A0 d0.length cap0), (1, .slice A1 d1.length cap1), (2, .bool d2)] a0 := f0
  refine R_seq ?_
  refine R_reg ?_
  refine W_run (L' := [(0, .slice A0 d0.length cap0), (1, .slice A1 d1.length cap1), (2, .bool d2)]) (w' := w) f0 1 [0, 1, 2] (by kernel_rfl) (fun a_1 f_1 => ?_)
  refine W_end rfl ?_
  refine T_n ?_
  refine R_seq ?_
  refine R_seq ?_
  obtain ⟨j_1, hj_1, hF_1⟩ := bind_some' hF
  refine R_mid (fun a_7 w_2 => ∃ y_1 : Bool, j_1 = y_1 ∧ ∃ M_1 : Mem, M1.le M_1 ∧ Frm 67 [(0, .slice A0 d0.length cap0), (1, .slice A1 d1.length cap1), (2, .bool d2), (19, .bool y_1)] a_7 ∧ Hp w0 M_1 (H) w_2) ?_ ?_
  · refine R_reg ?_
    refine W_run (L' := [(0, .slice A0 d0.length cap0), (1, .slice A1 d1.length cap1), (2, .bool d2), (13, .slice A0 d0.length cap0)]) (w' := w) f_1 1 [0, 1, 2, 13] (by kernel_rfl) (fun a_2 f_2 => ?_)
    obtain ⟨x_1, hx_1, hF_2⟩ := bind_some' hj_1
    refine W_okv (v := .bool x_1) f_2 p0 (by kernel_rfl) (by kernel_rfl) rfl rfl (fun _ => by kernel_rfl) (ref21_Great_ok n _ A0 cap0 d0 h0 x_1 hx_1) (fun w_1 p_1 a_3 f_3 => ?_)
    refine W_run (L' := [(0, .slice A0 d0.length cap0), (1, .slice A1 d1.length cap1), (2, .bool d2), (15, .bool x_1)]) (w' := w_1) f_3 1 [0, 1, 2, 15] (by kernel_rfl) (fun a_4 f_4 => ?_)
    rcases Bool.eq_false_or_eq_true (x_1) with h_1 | h_1
    · have hF_3 := cnd_t h_1 hF_2
      have f_5 := Frm.set f_4 15 (v := .bool x_1) (v' := .bool true) (by kernel_rfl) (congrArg Value.bool h_1)
      have f_6 : Frm 67 [(0, .slice A0 d0.length cap0), (1, .slice A1 d1.length cap1), (2, .bool d2), (15, .bool true)] a_4 := f_5.keep (ks := [0, 1, 2, 15]) (by kernel_rfl)
      refine W_run (L' := [(0, .slice A0 d0.length cap0), (1, .slice A1 d1.length cap1), (2, .bool d2), (19, .bool true)]) (w' := w_1) f_6 4 [0, 1, 2, 19] (by kernel_rfl) (fun a_5 f_7 => ?_)
      refine W_end rfl ?_
      refine T_n ?_
      exact ⟨(true), (Option.some.inj hF_3).symm, M1, (Mem.le_refl _), f_7.keep (ks := [0, 1, 2, 19]) (by kernel_rfl), p_1⟩
    · have hF_4 := cnd_f h_1 hF_2
      have f_8 := Frm.set f_4 15 (v := .bool x_1) (v' := .bool false) (by kernel_rfl) (congrArg Value.bool h_1)
      have f_9 : Frm 67 [(0, .slice A0 d0.length cap0), (1, .slice A1 d1.length cap1), (2, .bool d2), (15, .bool false)] a_4 := f_8.keep (ks := [0, 1, 2, 15]) (by kernel_rfl)
      refine W_run (L' := [(0, .slice A0 d0.length cap0), (1, .slice A1 d1.length cap1), (2, .bool d2), (19, .bool (decide ((100 : Int) < ((d1.length : Nat) : Int))))]) (w' := w_1) f_9 4 [0, 1, 2, 19] (by kernel_rfl) (fun a_6 f_10 => ?_)
      refine W_end rfl ?_
      refine T_n ?_
      exact ⟨(decide ((100 : Int) < ((d1.length : Nat) : Int))), (Option.some.inj hF_4).symm, M1, (Mem.le_refl _), f_10.keep (ks := [0, 1, 2, 19]) (by kernel_rfl), p_1⟩
  · rintro a_7 w_2 ⟨y_1, hq_1, M_1, hM_1, f_11, p_2⟩
    subst j_1
    refine T_n ?_
    refine R_cond f_11 (b := y_1) (by kernel_rfl) (by kernel_rfl) (fun h_2 => ?_) (fun h_2 => ?_)
    · have hF_5 := cnd_t h_2 hF_1
      refine R_seq ?_
      refine R_reg ?_
      obtain ⟨x_2, hx_2, hF_6⟩ := bind_some' hF_5
      refine W_okv (v := .bool x_2) f_11 p_2 (by kernel_rfl) (by kernel_rfl) rfl rfl (fun _ => by kernel_rfl) (law21_wakes_ok n _  x_2 hx_2) (fun w_3 p_3 a_8 f_12 => ?_)
      refine W_run (L' := [(6, .bool x_2)]) (w' := w_3) f_12 1 [6] (by kernel_rfl) (fun a_9 f_13 => ?_)
      refine W_end rfl ?_
      refine T_n ?_
      refine wp_ret ?_
      refine T_r ?_
      refine E_ret1 f_13 rfl (by kernel_rfl : Vc.look _ 6 = some (.bool x_2)) ?_
      obtain rfl := Option.some.inj hF_6
      exact ⟨_, rfl, M_1, hM_1, p_3, rfl⟩
    · have hF_7 := cnd_f h_2 hF_1
      refine wp_skip ?_
      refine T_n ?_
      refine R_seq ?_
      refine R_reg ?_
      refine W_run (L' := [(0, .slice A0 d0.length cap0), (2, .bool d2), (22, .slice A0 d0.length cap0), (23, .slice A1 d1.length cap1), (24, .bool d2)]) (w' := w_2) f_11 3 [0, 2, 22, 23, 24] (by kernel_rfl) (fun a_10 f_14 => ?_)
      obtain ⟨x_3, hx_3, hF_8⟩ := bind_some' hF_7
      refine W_okH (E := []) (H := (H)) f_14 p_2 (by kernel_rfl) (by kernel_rfl) rfl rfl (fun _ => by kernel_rfl) (ready_Settle_ok n _ A0 cap0 d0 (h0.mono hM_1) A1 cap1 d1 (h1.mono hM_1) (d2) x_3 hx_3) (fun u_1 M_2 E_1 w_4 hM_2 p_4 q_1 a_11 f_15 => ?_)
      obtain ⟨A_1, cap_1, cs_1, rfl, rfl, hr_1⟩ := q_1
      replace p_4 : Hp w0 M_2 ((Ent.row 30 1 (.slice A_1 x_3.1.length cap_1) x_3.1.length cs_1) :: H) w_4 := p_4
      refine W_run (L' := [(0, .slice A0 d0.length cap0), (2, .bool d2), (7, .slice A_1 x_3.1.length cap_1), (8, .int .i64 x_3.2)]) (w' := w_4) f_15 5 [0, 2, 7, 8] (by kernel_rfl) (fun a_12 f_16 => ?_)
      refine W_end rfl ?_
      refine T_n ?_
      refine R_seq ?_
      refine R_reg ?_
      refine W_run (L' := [(0, .slice A0 d0.length cap0), (2, .bool d2), (7, .slice A_1 x_3.1.length cap_1), (8, .int .i64 x_3.2), (29, .slice A0 d0.length cap0)]) (w' := w_4) f_16 1 [0, 2, 7, 8, 29] (by kernel_rfl) (fun a_13 f_17 => ?_)
      obtain ⟨x_4, hx_4, hF_9⟩ := bind_some' hF_8
      refine W_okH (E := []) (H := ((Ent.row 30 1 (.slice A_1 x_3.1.length cap_1) x_3.1.length cs_1) :: H)) f_17 p_4 (by kernel_rfl) (by kernel_rfl) rfl rfl (fun _ => by kernel_rfl) (graph_Order_ok n _ A0 cap0 d0 (h0.mono (hM_1.trans hM_2)) x_4 hx_4) (fun u_2 M_3 E_2 w_5 hM_3 p_5 q_2 a_14 f_18 => ?_)
      obtain ⟨A_2, cap_2, cs_2, rfl, rfl, hr_2⟩ := q_2
      replace p_5 : Hp w0 M_3 ((Ent.row 3 1 (.slice A_2 x_4.1.length cap_2) x_4.1.length cs_2) :: (Ent.row 30 1 (.slice A_1 x_3.1.length cap_1) x_3.1.length cs_1) :: H) w_5 := p_5
      refine W_run (L' := [(0, .slice A0 d0.length cap0), (2, .bool d2), (7, .slice A_1 x_3.1.length cap_1), (8, .int .i64 x_3.2), (10, .int .i64 x_4.2)]) (w' := w_5) f_18 5 [0, 2, 7, 8, 10] (by kernel_rfl) (fun a_15 f_19 => ?_)
      refine W_end rfl ?_
      refine T_n ?_
      refine R_seq ?_
      refine R_seq ?_
      obtain ⟨j_2, hj_2, hF_10⟩ := bind_some' hF_9
      refine R_mid (fun a_19 w_6 => ∃ y_2 : Bool, j_2 = y_2 ∧ ∃ M_4 : Mem, M_3.le M_4 ∧ Frm 67 [(0, .slice A0 d0.length cap0), (2, .bool d2), (7, .slice A_1 x_3.1.length cap_1), (38, .bool y_2)] a_19 ∧ Hp w0 M_4 ((Ent.row 3 1 (.slice A_2 x_4.1.length cap_2) x_4.1.length cs_2) :: (Ent.row 30 1 (.slice A_1 x_3.1.length cap_1) x_3.1.length cs_1) :: H) w_6) ?_ ?_
      · refine R_reg ?_
        refine W_run (L' := [(0, .slice A0 d0.length cap0), (2, .bool d2), (7, .slice A_1 x_3.1.length cap_1), (10, .int .i64 x_4.2), (35, .bool (!(decide (x_3.2 = 0))))]) (w' := w_5) f_19 3 [0, 2, 7, 10, 35] (by kernel_rfl) (fun a_16 f_20 => ?_)
        rcases Bool.eq_false_or_eq_true (!(decide (x_3.2 = 0))) with h_3 | h_3
        · have k_5 : ¬ (x_3.2 = 0) := (not_iff decide_eq_true_iff).1 h_3
          have hF_11 := cnd_t h_3 hj_2
          have f_21 := Frm.set f_20 35 (v := .bool (!(decide (x_3.2 = 0)))) (v' := .bool true) (by kernel_rfl) (congrArg Value.bool h_3)
          have f_22 : Frm 67 [(0, .slice A0 d0.length cap0), (2, .bool d2), (7, .slice A_1 x_3.1.length cap_1), (10, .int .i64 x_4.2), (35, .bool true)] a_16 := f_21.keep (ks := [0, 2, 7, 10, 35]) (by kernel_rfl)
          refine W_run (L' := [(0, .slice A0 d0.length cap0), (2, .bool d2), (7, .slice A_1 x_3.1.length cap_1), (38, .bool true)]) (w' := w_5) f_22 3 [0, 2, 7, 38] (by kernel_rfl) (fun a_17 f_23 => ?_)
          refine W_end rfl ?_
          refine T_n ?_
          exact ⟨(true), (Option.some.inj hF_11).symm, M_3, (Mem.le_refl _), f_23.keep (ks := [0, 2, 7, 38]) (by kernel_rfl), p_5⟩
        · have k_6 : ¬ (¬ (x_3.2 = 0)) := iff_f (not_iff decide_eq_true_iff) h_3
          have hF_12 := cnd_f h_3 hj_2
          have f_24 := Frm.set f_20 35 (v := .bool (!(decide (x_3.2 = 0)))) (v' := .bool false) (by kernel_rfl) (congrArg Value.bool h_3)
          have f_25 : Frm 67 [(0, .slice A0 d0.length cap0), (2, .bool d2), (7, .slice A_1 x_3.1.length cap_1), (10, .int .i64 x_4.2), (35, .bool false)] a_16 := f_24.keep (ks := [0, 2, 7, 10, 35]) (by kernel_rfl)
          refine W_run (L' := [(0, .slice A0 d0.length cap0), (2, .bool d2), (7, .slice A_1 x_3.1.length cap_1), (38, .bool (!(decide (x_4.2 = 0))))]) (w' := w_5) f_25 3 [0, 2, 7, 38] (by kernel_rfl) (fun a_18 f_26 => ?_)
          refine W_end rfl ?_
          refine T_n ?_
          exact ⟨(!(decide (x_4.2 = 0))), (Option.some.inj hF_12).symm, M_3, (Mem.le_refl _), f_26.keep (ks := [0, 2, 7, 38]) (by kernel_rfl), p_5⟩
      · rintro a_19 w_6 ⟨y_2, hq_2, M_4, hM_4, f_27, p_6⟩
        subst j_2
        refine T_n ?_
        refine R_cond f_27 (b := y_2) (by kernel_rfl) (by kernel_rfl) (fun h_4 => ?_) (fun h_4 => ?_)
        · have hF_13 := cnd_t h_4 hF_10
          refine R_seq ?_
          refine R_reg ?_
          obtain ⟨x_5, hx_5, hF_14⟩ := bind_some' hF_13
          refine W_okv (v := .bool x_5) f_27 p_6 (by kernel_rfl) (by kernel_rfl) rfl rfl (fun _ => by kernel_rfl) (law21_wakes_ok n _  x_5 hx_5) (fun w_7 p_7 a_20 f_28 => ?_)
          refine W_run (L' := [(6, .bool x_5)]) (w' := w_7) f_28 1 [6] (by kernel_rfl) (fun a_21 f_29 => ?_)
          refine W_end rfl ?_
          refine T_n ?_
          refine wp_ret ?_
          refine T_r ?_
          refine E_ret1 f_29 rfl (by kernel_rfl : Vc.look _ 6 = some (.bool x_5)) ?_
          obtain rfl := Option.some.inj hF_14
          exact ⟨_, rfl, M_4, (((hM_1.trans hM_2).trans hM_3).trans hM_4), (p_7.dropN 2), rfl⟩
        · have hF_15 := cnd_f h_4 hF_10
          refine wp_skip ?_
          refine T_n ?_
          refine R_seq ?_
          refine R_reg ?_
          refine W_run (L' := [(7, .slice A_1 x_3.1.length cap_1), (41, .slice A0 d0.length cap0), (42, .slice A_1 x_3.1.length cap_1), (43, .bool d2)]) (w' := w_6) f_27 3 [7, 41, 42, 43] (by kernel_rfl) (fun a_22 f_30 => ?_)
          have p_8 : Hp w0 M_4 ((Ent.row 30 1 (.slice A_1 x_3.1.length cap_1) x_3.1.length cs_1) :: (Ent.row 3 1 (.slice A_2 x_4.1.length cap_2) x_4.1.length cs_2) :: H) w_6 := p_6.pull 1 rfl rfl
          obtain ⟨M_5, A_3, cap_3, hM_5, hv_1, p_9, h_5, hb_1⟩ := p_8.lend (f := (Dat.int .i8)) (xs := x_3.1) (szd_int .i8) (RepSeq.mono (hM_3.trans hM_4) _ _ hr_1)
          have f_31 := Frm.set f_30 7 (v := .slice A_1 x_3.1.length cap_1) (v' := .slice A_3 x_3.1.length cap_3) (by kernel_rfl) (hv_1)
          have f_32 := Frm.set f_31 42 (v := .slice A_1 x_3.1.length cap_1) (v' := .slice A_3 x_3.1.length cap_3) (by kernel_rfl) (hv_1)
          have f_33 : Frm 67 [(7, .slice A_3 x_3.1.length cap_3), (41, .slice A0 d0.length cap0), (42, .slice A_3 x_3.1.length cap_3), (43, .bool d2)] a_22 := f_32.keep (ks := [7, 41, 42, 43]) (by kernel_rfl)
          obtain ⟨x_6, hx_6, hF_16⟩ := bind_some' hF_15
          refine W_okH (E := []) (H := ((Ent.row 3 1 (.slice A_2 x_4.1.length cap_2) x_4.1.length cs_2) :: H)) f_33 p_9 (by kernel_rfl) (by kernel_rfl) rfl rfl (fun _ => by kernel_rfl) (ready_Ready_ok n _ A0 cap0 d0 (h0.mono ((((hM_1.trans hM_2).trans hM_3).trans hM_4).trans hM_5)) A_3 cap_3 x_3.1 h_5 (d2) x_6 hx_6) (fun u_3 M_6 E_3 w_8 hM_6 p_10 q_3 a_23 f_34 => ?_)
          obtain ⟨A_4, cap_4, cs_3, rfl, rfl, hr_3⟩ := q_3
          replace p_10 : Hp w0 M_6 ((Ent.row 3 1 (.slice A_4 x_6.1.length cap_4) x_6.1.length cs_3) :: (Ent.row 3 1 (.slice A_2 x_4.1.length cap_2) x_4.1.length cs_2) :: H) w_8 := p_10
          have hr_4 : ∀ M, RepSeq M (x_6.1.map (Dat.int .i64)) cs_3 := fun M => RepSeq.flat (flat_int .i64) _ hr_3
          obtain ⟨M_7, hM_7, p_11⟩ := hb_1 _ _ _ hM_6 p_10
          have f_35 := Frm.set f_34 7 (v := .slice A_3 x_3.1.length cap_3) (v' := .slice A_1 x_3.1.length cap_1) (by kernel_rfl) (hv_1.symm)
          have f_36 := Frm.set f_35 42 (v := .slice A_3 x_3.1.length cap_3) (v' := .slice A_1 x_3.1.length cap_1) (by kernel_rfl) (hv_1.symm)
          have f_37 : Frm 67 [(7, .slice A_1 x_3.1.length cap_1), (41, .slice A0 d0.length cap0), (42, .slice A_1 x_3.1.length cap_1), (43, .bool d2), (44, .tuple #[.slice A_4 x_6.1.length cap_4, .int .i64 x_6.2])] a_23 := f_36.keep (ks := [7, 41, 42, 43, 44]) (by kernel_rfl)
          have hr_5 := hr_4 M_7
          refine W_run (L' := [(7, .slice A_1 x_3.1.length cap_1), (11, .slice A_4 x_6.1.length cap_4), (12, .int .i64 x_6.2)]) (w' := w_8) f_37 5 [7, 11, 12] (by kernel_rfl) (fun a_24 f_38 => ?_)
          refine W_end rfl ?_
          refine T_n ?_
          refine R_seq ?_
          refine R_reg ?_
          refine W_run (L' := [(7, .slice A_1 x_3.1.length cap_1), (11, .slice A_4 x_6.1.length cap_4), (49, .bool (decide (x_6.2 = 0)))]) (w' := w_8) f_38 3 [7, 11, 49] (by kernel_rfl) (fun a_25 f_39 => ?_)
          rcases Bool.eq_false_or_eq_true (decide (x_6.2 = 0)) with h_6 | h_6
          · have k_9 : x_6.2 = 0 := decide_eq_true_iff.1 h_6
            have hF_17 := cnd_t h_6 hF_16
            have f_40 := Frm.set f_39 49 (v := .bool (decide (x_6.2 = 0))) (v' := .bool true) (by kernel_rfl) (congrArg Value.bool h_6)
            have f_41 : Frm 67 [(7, .slice A_1 x_3.1.length cap_1), (11, .slice A_4 x_6.1.length cap_4), (49, .bool true)] a_25 := f_40.keep (ks := [7, 11, 49]) (by kernel_rfl)
            refine W_run (L' := [(7, .slice A_1 x_3.1.length cap_1), (11, .slice A_4 x_6.1.length cap_4), (49, .bool true), (50, .slice A_1 x_3.1.length cap_1)]) (w' := w_8) f_41 1 [7, 11, 49, 50] (by kernel_rfl) (fun a_26 f_42 => ?_)
            obtain ⟨M_8, A_5, cap_5, hM_8, hv_2, p_12, h_7, hb_2⟩ := p_11.lend (f := (Dat.int .i8)) (xs := x_3.1) (szd_int .i8) (RepSeq.mono ((hM_3.trans hM_4).trans hM_7) _ _ hr_1)
            have f_43 := Frm.set f_42 7 (v := .slice A_1 x_3.1.length cap_1) (v' := .slice A_5 x_3.1.length cap_5) (by kernel_rfl) (hv_2)
            have f_44 := Frm.set f_43 50 (v := .slice A_1 x_3.1.length cap_1) (v' := .slice A_5 x_3.1.length cap_5) (by kernel_rfl) (hv_2)
            have f_45 : Frm 67 [(7, .slice A_5 x_3.1.length cap_5), (11, .slice A_4 x_6.1.length cap_4), (49, .bool true), (50, .slice A_5 x_3.1.length cap_5)] a_26 := f_44.keep (ks := [7, 11, 49, 50]) (by kernel_rfl)
            obtain ⟨x_7, hx_7, hF_18⟩ := bind_some' hF_17
            refine W_okv (v := .int .i64 x_7) f_45 p_12 (by kernel_rfl) (by kernel_rfl) rfl rfl (fun _ => by kernel_rfl) (ready_Count_ok n _ A_5 cap_5 x_3.1 h_7 (1 : Int) x_7 hx_7) (fun w_9 p_13 a_27 f_46 => ?_)
            obtain ⟨M_9, hM_9, p_14⟩ := hb_2 _ _ _ (Mem.le_refl _) p_13
            have f_47 := Frm.set f_46 7 (v := .slice A_5 x_3.1.length cap_5) (v' := .slice A_1 x_3.1.length cap_1) (by kernel_rfl) (hv_2.symm)
            have f_48 := Frm.set f_47 50 (v := .slice A_5 x_3.1.length cap_5) (v' := .slice A_1 x_3.1.length cap_1) (by kernel_rfl) (hv_2.symm)
            have f_49 : Frm 67 [(7, .slice A_1 x_3.1.length cap_1), (11, .slice A_4 x_6.1.length cap_4), (49, .bool true), (50, .slice A_1 x_3.1.length cap_1), (51, .int .i64 x_7)] a_27 := f_48.keep (ks := [7, 11, 49, 50, 51]) (by kernel_rfl)
            refine W_run (L' := [(7, .slice A_1 x_3.1.length cap_1), (11, .slice A_4 x_6.1.length cap_4), (49, .bool true), (53, .bool (decide (x_7 = 0)))]) (w' := w_9) f_49 2 [7, 11, 49, 53] (by kernel_rfl) (fun a_28 f_50 => ?_)
            rcases Bool.eq_false_or_eq_true (decide (x_7 = 0)) with h_8 | h_8
            · have k_10 : x_7 = 0 := decide_eq_true_iff.1 h_8
              have hF_19 := cnd_t h_8 hF_18
              have f_51 := Frm.set f_50 53 (v := .bool (decide (x_7 = 0))) (v' := .bool true) (by kernel_rfl) (congrArg Value.bool h_8)
              have f_52 : Frm 67 [(7, .slice A_1 x_3.1.length cap_1), (11, .slice A_4 x_6.1.length cap_4), (49, .bool true), (53, .bool true)] a_28 := f_51.keep (ks := [7, 11, 49, 53]) (by kernel_rfl)
              refine W_run (L' := [(64, .bool true)]) (w' := w_9) f_52 11 [64] (by kernel_rfl) (fun a_29 f_53 => ?_)
              obtain ⟨x_8, hx_8, hF_20⟩ := bind_some' hF_19
              refine W_okv (v := .bool x_8) f_53 p_14 (by kernel_rfl) (by kernel_rfl) rfl rfl (fun _ => by kernel_rfl) (law21_wakes_ok n _  x_8 hx_8) (fun w_10 p_15 a_30 f_54 => ?_)
              refine W_run (L' := [(6, .bool x_8)]) (w' := w_10) f_54 2 [6] (by kernel_rfl) (fun a_31 f_55 => ?_)
              refine W_end rfl ?_
              refine T_n ?_
              refine wp_ret ?_
              refine E_ret1 f_55 rfl (by kernel_rfl : Vc.look _ 6 = some (.bool x_8)) ?_
              obtain rfl := Option.some.inj hF_20
              exact ⟨_, rfl, M_9, (((((hM_1.trans hM_2).trans hM_3).trans hM_4).trans hM_7).trans hM_9), (p_15.dropN 3), rfl⟩
            · have k_11 : ¬ (x_7 = 0) := iff_f decide_eq_true_iff h_8
              have hF_21 := cnd_f h_8 hF_18
              have f_56 := Frm.set f_50 53 (v := .bool (decide (x_7 = 0))) (v' := .bool false) (by kernel_rfl) (congrArg Value.bool h_8)
              have f_57 : Frm 67 [(7, .slice A_1 x_3.1.length cap_1), (11, .slice A_4 x_6.1.length cap_4), (49, .bool true), (53, .bool false)] a_28 := f_56.keep (ks := [7, 11, 49, 53]) (by kernel_rfl)
              refine W_run (L' := [(11, .slice A_4 x_6.1.length cap_4), (49, .bool true), (53, .bool false), (54, .slice A_1 x_3.1.length cap_1)]) (w' := w_9) f_57 1 [11, 49, 53, 54] (by kernel_rfl) (fun a_32 f_58 => ?_)
              obtain ⟨M_10, A_6, cap_6, hM_10, hv_3, p_16, h_9, hb_3⟩ := p_14.lend (f := (Dat.int .i8)) (xs := x_3.1) (szd_int .i8) (RepSeq.mono (((hM_3.trans hM_4).trans hM_7).trans hM_9) _ _ hr_1)
              have f_59 := Frm.set f_58 54 (v := .slice A_1 x_3.1.length cap_1) (v' := .slice A_6 x_3.1.length cap_6) (by kernel_rfl) (hv_3)
              have f_60 : Frm 67 [(11, .slice A_4 x_6.1.length cap_4), (49, .bool true), (53, .bool false), (54, .slice A_6 x_3.1.length cap_6)] a_32 := f_59.keep (ks := [11, 49, 53, 54]) (by kernel_rfl)
              obtain ⟨x_9, hx_9, hF_22⟩ := bind_some' hF_21
              refine W_okv (v := .int .i64 x_9) f_60 p_16 (by kernel_rfl) (by kernel_rfl) rfl rfl (fun _ => by kernel_rfl) (ready_Count_ok n _ A_6 cap_6 x_3.1 h_9 (2 : Int) x_9 hx_9) (fun w_11 p_17 a_33 f_61 => ?_)
              obtain ⟨M_11, hM_11, p_18⟩ := hb_3 _ _ _ (Mem.le_refl _) p_17
              have f_62 := Frm.set f_61 54 (v := .slice A_6 x_3.1.length cap_6) (v' := .slice A_1 x_3.1.length cap_1) (by kernel_rfl) (hv_3.symm)
              have f_63 : Frm 67 [(11, .slice A_4 x_6.1.length cap_4), (49, .bool true), (53, .bool false), (54, .slice A_1 x_3.1.length cap_1), (55, .int .i64 x_9)] a_33 := f_62.keep (ks := [11, 49, 53, 54, 55]) (by kernel_rfl)
              refine W_run (L' := [(11, .slice A_4 x_6.1.length cap_4), (49, .bool true), (58, .bool (decide ((0 : Int) < x_9)))]) (w' := w_11) f_63 3 [11, 49, 58] (by kernel_rfl) (fun a_34 f_64 => ?_)
              rcases Bool.eq_false_or_eq_true (decide ((0 : Int) < x_9)) with h_10 | h_10
              · have k_12 : (0 : Int) < x_9 := decide_eq_true_iff.1 h_10
                have hF_23 := cnd_t h_10 hF_22
                have f_65 := Frm.set f_64 58 (v := .bool (decide ((0 : Int) < x_9))) (v' := .bool true) (by kernel_rfl) (congrArg Value.bool h_10)
                have f_66 : Frm 67 [(11, .slice A_4 x_6.1.length cap_4), (49, .bool true), (58, .bool true)] a_34 := f_65.keep (ks := [11, 49, 58]) (by kernel_rfl)
                refine W_run (L' := [(64, .bool true)]) (w' := w_11) f_66 6 [64] (by kernel_rfl) (fun a_35 f_67 => ?_)
                obtain ⟨x_10, hx_10, hF_24⟩ := bind_some' hF_23
                refine W_okv (v := .bool x_10) f_67 p_18 (by kernel_rfl) (by kernel_rfl) rfl rfl (fun _ => by kernel_rfl) (law21_wakes_ok n _  x_10 hx_10) (fun w_12 p_19 a_36 f_68 => ?_)
                refine W_run (L' := [(6, .bool x_10)]) (w' := w_12) f_68 2 [6] (by kernel_rfl) (fun a_37 f_69 => ?_)
                refine W_end rfl ?_
                refine T_n ?_
                refine wp_ret ?_
                refine E_ret1 f_69 rfl (by kernel_rfl : Vc.look _ 6 = some (.bool x_10)) ?_
                obtain rfl := Option.some.inj hF_24
                exact ⟨_, rfl, M_11, ((((((hM_1.trans hM_2).trans hM_3).trans hM_4).trans hM_7).trans hM_9).trans hM_11), (p_19.dropN 3), rfl⟩
              · have k_13 : ¬ ((0 : Int) < x_9) := iff_f decide_eq_true_iff h_10
                have hF_25 := cnd_f h_10 hF_22
                have f_70 := Frm.set f_64 58 (v := .bool (decide ((0 : Int) < x_9))) (v' := .bool false) (by kernel_rfl) (congrArg Value.bool h_10)
                have f_71 : Frm 67 [(11, .slice A_4 x_6.1.length cap_4), (49, .bool true), (58, .bool false)] a_34 := f_70.keep (ks := [11, 49, 58]) (by kernel_rfl)
                refine W_run (L' := [(64, .bool (decide ((0 : Int) < ((x_6.1.length : Nat) : Int))))]) (w' := w_11) f_71 6 [64] (by kernel_rfl) (fun a_38 f_72 => ?_)
                rcases Bool.eq_false_or_eq_true (decide ((0 : Int) < ((x_6.1.length : Nat) : Int))) with h_11 | h_11
                · have k_14 : (0 : Int) < ((x_6.1.length : Nat) : Int) := decide_eq_true_iff.1 h_11
                  have hF_26 := cnd_t h_11 hF_25
                  have f_73 := Frm.set f_72 64 (v := .bool (decide ((0 : Int) < ((x_6.1.length : Nat) : Int)))) (v' := .bool true) (by kernel_rfl) (congrArg Value.bool h_11)
                  have f_74 : Frm 67 [(64, .bool true)] a_38 := f_73.keep (ks := [64]) (by kernel_rfl)
                  obtain ⟨x_11, hx_11, hF_27⟩ := bind_some' hF_26
                  refine W_okv (v := .bool x_11) f_74 p_18 (by kernel_rfl) (by kernel_rfl) rfl rfl (fun _ => by kernel_rfl) (law21_wakes_ok n _  x_11 hx_11) (fun w_13 p_20 a_39 f_75 => ?_)
                  refine W_run (L' := [(6, .bool x_11)]) (w' := w_13) f_75 2 [6] (by kernel_rfl) (fun a_40 f_76 => ?_)
                  refine W_end rfl ?_
                  refine T_n ?_
                  refine wp_ret ?_
                  refine E_ret1 f_76 rfl (by kernel_rfl : Vc.look _ 6 = some (.bool x_11)) ?_
                  obtain rfl := Option.some.inj hF_27
                  exact ⟨_, rfl, M_11, ((((((hM_1.trans hM_2).trans hM_3).trans hM_4).trans hM_7).trans hM_9).trans hM_11), (p_20.dropN 3), rfl⟩
                · have k_15 : ¬ ((0 : Int) < ((x_6.1.length : Nat) : Int)) := iff_f decide_eq_true_iff h_11
                  have hF_28 := cnd_f h_11 hF_25
                  have f_77 := Frm.set f_72 64 (v := .bool (decide ((0 : Int) < ((x_6.1.length : Nat) : Int)))) (v' := .bool false) (by kernel_rfl) (congrArg Value.bool h_11)
                  have f_78 : Frm 67 [(64, .bool false)] a_38 := f_77.keep (ks := [64]) (by kernel_rfl)
                  refine W_run (L' := [(6, .bool false)]) (w' := w_11) f_78 3 [6] (by kernel_rfl) (fun a_41 f_79 => ?_)
                  refine W_end rfl ?_
                  refine T_n ?_
                  refine wp_ret ?_
                  refine E_ret1 f_79 rfl (by kernel_rfl : Vc.look _ 6 = some (.bool false)) ?_
                  obtain rfl := Option.some.inj hF_28
                  exact ⟨_, rfl, M_11, ((((((hM_1.trans hM_2).trans hM_3).trans hM_4).trans hM_7).trans hM_9).trans hM_11), (p_18.dropN 3), rfl⟩
          · have k_16 : ¬ (x_6.2 = 0) := iff_f decide_eq_true_iff h_6
            have hF_29 := cnd_f h_6 hF_16
            have f_80 := Frm.set f_39 49 (v := .bool (decide (x_6.2 = 0))) (v' := .bool false) (by kernel_rfl) (congrArg Value.bool h_6)
            have f_81 : Frm 67 [(7, .slice A_1 x_3.1.length cap_1), (11, .slice A_4 x_6.1.length cap_4), (49, .bool false)] a_25 := f_80.keep (ks := [7, 11, 49]) (by kernel_rfl)
            refine W_run (L' := [(6, .bool false)]) (w' := w_8) f_81 18 [6] (by kernel_rfl) (fun a_42 f_82 => ?_)
            refine W_end rfl ?_
            refine T_n ?_
            refine wp_ret ?_
            refine E_ret1 f_82 rfl (by kernel_rfl : Vc.look _ 6 = some (.bool false)) ?_
            obtain rfl := Option.some.inj hF_29
            exact ⟨_, rfl, M_7, ((((hM_1.trans hM_2).trans hM_3).trans hM_4).trans hM_7), (p_11.dropN 3), rfl⟩

def law21_ReadyAll_s1 (n : Nat) (d0 : List (List Int)) (s_1 : List Int × Int) : Option (Lp (List Int × Int) (List Int)) :=
    bif (decide (s_1.2 < ((d0.length : Nat) : Int))) then
      (need ((s_1.1.length + 1) * 1 ≤ 140737488355328) <|
      need (inR .i64 (s_1.2 + 1)) <|
      some (.nx (s_1.1 ++ [(1 : Int)], s_1.2 + 1)))
    else
      some (.br s_1.1)
def law21_ReadyAll_s2 (n : Nat) (d0 : List (List Int)) (d1 : List Int) (d2 : Bool) (s_2 : List Int × Int) : Option (Lp (List Int × Int) (Sum Unit (List Int))) :=
    bif (decide (s_2.2 < ((d0.length : Nat) : Int))) then
      ((ready_Ready n d0 s_2.1 (d2)).bind fun x_5 =>
      ((bif (!(decide (x_5.2 = 0))) then
          (some ((true)))
        else
          some ((decide (((x_5.1.length : Nat) : Int) = 0))) : Option Bool)).bind fun y_3 =>
      bif y_3 then
        (some (.br (.inl ())))
      else
        ((bif (decide ((0 : Int) < ((d1.length : Nat) : Int))) then
            (need (((d1.length : Nat) : Int) ≠ 0) <|
            (getI d1 (s_2.2.tmod ((d1.length : Nat) : Int))).bind fun x_6 =>
            need (((x_5.1.length : Nat) : Int) ≠ 0) <|
            need (inR .i64 ((x_6.tmod ((x_5.1.length : Nat) : Int)) + ((x_5.1.length : Nat) : Int))) <|
            need (((x_5.1.length : Nat) : Int) ≠ 0) <|
            some (((x_6.tmod ((x_5.1.length : Nat) : Int)) + ((x_5.1.length : Nat) : Int)).tmod ((x_5.1.length : Nat) : Int)))
          else
            some ((0 : Int)) : Option Int)).bind fun y_4 =>
        (((getI x_5.1 y_4).bind fun x_7 =>
          bif (decide (x_7 < 0)) then
            (some ((true)))
          else
            (getI x_5.1 y_4).bind fun x_8 =>
            bif (decide (((s_2.1.length : Nat) : Int) ≤ x_8)) then
              (some ((true)))
            else
              (getI x_5.1 y_4).bind fun x_9 =>
              (getI s_2.1 x_9).bind fun x_10 =>
              some ((!(decide (x_10 = 1)))) : Option Bool)).bind fun y_5 =>
        bif y_5 then
          (some (.br (.inl ())))
        else
          (getI x_5.1 y_4).bind fun x_11 =>
          (getI s_2.1 x_11).bind fun x_12 =>
          need (inR .i64 (s_2.2 + 1)) <|
          some (.nx (s_2.1.set x_11.toNat (3 : Int), s_2.2 + 1)))
    else
      some (.br (.inr s_2.1))
def law21_ReadyAll (n : Nat) (d0 : List (List Int)) (d1 : List Int) (d2 : Bool) : Option Bool :=
  (((ref21_Great n d0).bind fun x_1 =>
    bif x_1 then
      (some ((true)))
    else
      some ((decide ((100 : Int) < ((d1.length : Nat) : Int)))) : Option Bool)).bind fun y_1 =>
  bif y_1 then
    ((law21_wakes n).bind fun x_2 =>
    some ((x_2)))
  else
    (graph_Order n d0).bind fun x_3 =>
    bif (!(decide (x_3.2 = 0))) then
      ((law21_wakes n).bind fun x_4 =>
      some ((x_4)))
    else
      (loopF (law21_ReadyAll_s1 n d0) n (([] : List Int), (0 : Int))).bind fun y_2 =>
      (loopF (law21_ReadyAll_s2 n d0 d1 d2) n (y_2, (0 : Int))).bind fun b_3 =>
      (match b_3 with 
      | .inl y_6 => some ((false)) 
      | .inr y_7 => (ready_Over n y_7).bind fun x_13 =>
        bif x_13 then
          ((deps_Turned n d0).bind fun x_14 =>
          (deps_Turned n x_14).bind fun x_15 =>
          (deps_Turned n d0).bind fun x_16 =>
          (deps_Turned n x_16).bind fun x_17 =>
          (deps_Turned n x_17).bind fun x_18 =>
          (deps_Turned n x_18).bind fun x_19 =>
          (ref19_Same n x_15 x_19).bind fun x_20 =>
          bif x_20 then
            ((law21_wakes n).bind fun x_21 =>
            some ((x_21)))
          else
            some ((false)))
        else
          some ((false)))
theorem law21_ReadyAll_ok (n : Nat) (M : Mem) (A0 : Option Addr) (cap0 : Nat) (d0 : List (List Int)) (h0 : Sli M 1 (eL 1 (Dat.int .i64)) A0 cap0 d0) (A1 : Option Addr) (cap1 : Nat) (d1 : List Int) (h1 : Sli M 1 (Dat.int .i64) A1 cap1 d1) (d2 : Bool) (r : Bool) (hF : law21_ReadyAll n d0 d1 d2 = some r) : Ok Try.prog M 7 [.slice A0 d0.length cap0, .slice A1 d1.length cap1, .bool d2] (fun _ v => v = .bool r) := by
  unfold law21_ReadyAll at hF
  intro M1 hM0 w0 H w p0
  replace h0 := h0.mono hM0
  replace h1 := h1.mono hM0
  refine R_enter 125 Try.func7 rfl rfl (by simp) (fun a0 f0 => ?_)
  replace f0 : Frm 125 [(0, .slice A0 d0.length cap0), (1, .slice A1 d1.length cap1), (2, .bool d2)] a0 := f0
  refine R_seq ?_
  refine R_reg ?_
  refine W_run (L' := [(0, .slice A0 d0.length cap0), (1, .slice A1 d1.length cap1), (2, .bool d2)]) (w' := w) f0 1 [0, 1, 2] (by kernel_rfl) (fun a_1 f_1 => ?_)
  refine W_end rfl ?_
  refine T_n ?_
  refine R_seq ?_
  refine R_seq ?_
  obtain ⟨j_1, hj_1, hF_1⟩ := bind_some' hF
  refine R_mid (fun a_7 w_2 => ∃ y_1 : Bool, j_1 = y_1 ∧ ∃ M_1 : Mem, M1.le M_1 ∧ Frm 125 [(0, .slice A0 d0.length cap0), (1, .slice A1 d1.length cap1), (2, .bool d2), (21, .bool y_1)] a_7 ∧ Hp w0 M_1 (H) w_2) ?_ ?_
  · refine R_reg ?_
    refine W_run (L' := [(0, .slice A0 d0.length cap0), (1, .slice A1 d1.length cap1), (2, .bool d2), (15, .slice A0 d0.length cap0)]) (w' := w) f_1 1 [0, 1, 2, 15] (by kernel_rfl) (fun a_2 f_2 => ?_)
    obtain ⟨x_1, hx_1, hF_2⟩ := bind_some' hj_1
    refine W_okv (v := .bool x_1) f_2 p0 (by kernel_rfl) (by kernel_rfl) rfl rfl (fun _ => by kernel_rfl) (ref21_Great_ok n _ A0 cap0 d0 h0 x_1 hx_1) (fun w_1 p_1 a_3 f_3 => ?_)
    refine W_run (L' := [(0, .slice A0 d0.length cap0), (1, .slice A1 d1.length cap1), (2, .bool d2), (17, .bool x_1)]) (w' := w_1) f_3 1 [0, 1, 2, 17] (by kernel_rfl) (fun a_4 f_4 => ?_)
    rcases Bool.eq_false_or_eq_true (x_1) with h_1 | h_1
    · have hF_3 := cnd_t h_1 hF_2
      have f_5 := Frm.set f_4 17 (v := .bool x_1) (v' := .bool true) (by kernel_rfl) (congrArg Value.bool h_1)
      have f_6 : Frm 125 [(0, .slice A0 d0.length cap0), (1, .slice A1 d1.length cap1), (2, .bool d2), (17, .bool true)] a_4 := f_5.keep (ks := [0, 1, 2, 17]) (by kernel_rfl)
      refine W_run (L' := [(0, .slice A0 d0.length cap0), (1, .slice A1 d1.length cap1), (2, .bool d2), (21, .bool true)]) (w' := w_1) f_6 4 [0, 1, 2, 21] (by kernel_rfl) (fun a_5 f_7 => ?_)
      refine W_end rfl ?_
      refine T_n ?_
      exact ⟨(true), (Option.some.inj hF_3).symm, M1, (Mem.le_refl _), f_7.keep (ks := [0, 1, 2, 21]) (by kernel_rfl), p_1⟩
    · have hF_4 := cnd_f h_1 hF_2
      have f_8 := Frm.set f_4 17 (v := .bool x_1) (v' := .bool false) (by kernel_rfl) (congrArg Value.bool h_1)
      have f_9 : Frm 125 [(0, .slice A0 d0.length cap0), (1, .slice A1 d1.length cap1), (2, .bool d2), (17, .bool false)] a_4 := f_8.keep (ks := [0, 1, 2, 17]) (by kernel_rfl)
      refine W_run (L' := [(0, .slice A0 d0.length cap0), (1, .slice A1 d1.length cap1), (2, .bool d2), (21, .bool (decide ((100 : Int) < ((d1.length : Nat) : Int))))]) (w' := w_1) f_9 4 [0, 1, 2, 21] (by kernel_rfl) (fun a_6 f_10 => ?_)
      refine W_end rfl ?_
      refine T_n ?_
      exact ⟨(decide ((100 : Int) < ((d1.length : Nat) : Int))), (Option.some.inj hF_4).symm, M1, (Mem.le_refl _), f_10.keep (ks := [0, 1, 2, 21]) (by kernel_rfl), p_1⟩
  · rintro a_7 w_2 ⟨y_1, hq_1, M_1, hM_1, f_11, p_2⟩
    subst j_1
    refine T_n ?_
    refine R_cond f_11 (b := y_1) (by kernel_rfl) (by kernel_rfl) (fun h_2 => ?_) (fun h_2 => ?_)
    · have hF_5 := cnd_t h_2 hF_1
      refine R_seq ?_
      refine R_reg ?_
      obtain ⟨x_2, hx_2, hF_6⟩ := bind_some' hF_5
      refine W_okv (v := .bool x_2) f_11 p_2 (by kernel_rfl) (by kernel_rfl) rfl rfl (fun _ => by kernel_rfl) (law21_wakes_ok n _  x_2 hx_2) (fun w_3 p_3 a_8 f_12 => ?_)
      refine W_run (L' := [(6, .bool x_2)]) (w' := w_3) f_12 1 [6] (by kernel_rfl) (fun a_9 f_13 => ?_)
      refine W_end rfl ?_
      refine T_n ?_
      refine wp_ret ?_
      refine T_r ?_
      refine E_ret1 f_13 rfl (by kernel_rfl : Vc.look _ 6 = some (.bool x_2)) ?_
      obtain rfl := Option.some.inj hF_6
      exact ⟨_, rfl, M_1, hM_1, p_3, rfl⟩
    · have hF_7 := cnd_f h_2 hF_1
      refine wp_skip ?_
      refine T_n ?_
      refine R_seq ?_
      refine R_reg ?_
      refine W_run (L' := [(0, .slice A0 d0.length cap0), (1, .slice A1 d1.length cap1), (2, .bool d2), (24, .slice A0 d0.length cap0)]) (w' := w_2) f_11 1 [0, 1, 2, 24] (by kernel_rfl) (fun a_10 f_14 => ?_)
      obtain ⟨x_3, hx_3, hF_8⟩ := bind_some' hF_7
      refine W_okH (E := []) (H := (H)) f_14 p_2 (by kernel_rfl) (by kernel_rfl) rfl rfl (fun _ => by kernel_rfl) (graph_Order_ok n _ A0 cap0 d0 (h0.mono hM_1) x_3 hx_3) (fun u_1 M_2 E_1 w_4 hM_2 p_4 q_1 a_11 f_15 => ?_)
      obtain ⟨A_1, cap_1, cs_1, rfl, rfl, hr_1⟩ := q_1
      replace p_4 : Hp w0 M_2 ((Ent.row 3 1 (.slice A_1 x_3.1.length cap_1) x_3.1.length cs_1) :: H) w_4 := p_4
      refine W_run (L' := [(0, .slice A0 d0.length cap0), (1, .slice A1 d1.length cap1), (2, .bool d2), (8, .int .i64 x_3.2)]) (w' := w_4) f_15 5 [0, 1, 2, 8] (by kernel_rfl) (fun a_12 f_16 => ?_)
      refine W_end rfl ?_
      refine T_n ?_
      refine R_seq ?_
      refine R_seq ?_
      refine R_reg ?_
      refine W_run (L' := [(0, .slice A0 d0.length cap0), (1, .slice A1 d1.length cap1), (2, .bool d2), (29, .bool (!(decide (x_3.2 = 0))))]) (w' := w_4) f_16 2 [0, 1, 2, 29] (by kernel_rfl) (fun a_13 f_17 => ?_)
      refine W_end rfl ?_
      refine T_n ?_
      refine R_cond f_17 (b := !(decide (x_3.2 = 0))) (by kernel_rfl) (by kernel_rfl) (fun h_3 => ?_) (fun h_3 => ?_)
      · have k_5 : ¬ (x_3.2 = 0) := (not_iff decide_eq_true_iff).1 h_3
        have hF_9 := cnd_t h_3 hF_8
        refine R_seq ?_
        refine R_reg ?_
        obtain ⟨x_4, hx_4, hF_10⟩ := bind_some' hF_9
        refine W_okv (v := .bool x_4) f_17 p_4 (by kernel_rfl) (by kernel_rfl) rfl rfl (fun _ => by kernel_rfl) (law21_wakes_ok n _  x_4 hx_4) (fun w_5 p_5 a_14 f_18 => ?_)
        refine W_run (L' := [(6, .bool x_4)]) (w' := w_5) f_18 1 [6] (by kernel_rfl) (fun a_15 f_19 => ?_)
        refine W_end rfl ?_
        refine T_n ?_
        refine wp_ret ?_
        refine T_r ?_
        refine E_ret1 f_19 rfl (by kernel_rfl : Vc.look _ 6 = some (.bool x_4)) ?_
        obtain rfl := Option.some.inj hF_10
        exact ⟨_, rfl, M_2, (hM_1.trans hM_2), (p_5.dropN 1), rfl⟩
      · have k_6 : ¬ (¬ (x_3.2 = 0)) := iff_f (not_iff decide_eq_true_iff) h_3
        have hF_11 := cnd_f h_3 hF_8
        refine wp_skip ?_
        refine T_n ?_
        refine R_seq ?_
        refine R_reg ?_
        refine W_run (L' := [(0, .slice A0 d0.length cap0), (1, .slice A1 d1.length cap1), (2, .bool d2), (9, .slice none 0 0)]) (w' := w_4) f_17 1 [0, 1, 2, 9] (by kernel_rfl) (fun a_16 f_20 => ?_)
        refine W_end rfl ?_
        refine T_n ?_
        refine R_seq ?_
        refine R_seq ?_
        refine R_reg ?_
        refine W_run (L' := [(0, .slice A0 d0.length cap0), (1, .slice A1 d1.length cap1), (2, .bool d2), (9, .slice none 0 0), (32, .int .i64 ((d0.length : Nat) : Int)), (33, .int .i64 0)]) (w' := w_4) f_20 3 [0, 1, 2, 9, 32, 33] (by kernel_rfl) (fun a_17 f_21 => ?_)
        refine W_end rfl ?_
        refine T_n ?_
        refine wp_block ?_
        have p_6 : Hp w0 M_2 ((Ent.row 30 1 (.slice none 0 0) ([] : List Int).length []) :: (Ent.row 3 1 (.slice A_1 x_3.1.length cap_1) x_3.1.length cs_1) :: H) w_4 := p_4.nilRow 30 1
        have hr_2 : RepSeq M_2 (([] : List Int).map (Dat.int .i8)) [] := rfl
        obtain ⟨b_1, hL_1, hF_12⟩ := bind_some' hF_11
        refine wp_mono (Q := fun e a w => (e = .exit 0 ∧ (∃ y_2 : List Int, b_1 = y_2 ∧ ∃ M_4 : Mem, M_2.le M_4 ∧ ∃ (A_4 : Option Addr), ∃ (cap_4 : Nat), ∃ (cs_4 : List Value), RepSeq M_4 (y_2.map (Dat.int .i8)) cs_4 ∧ Frm 125 [(0, .slice A0 d0.length cap0), (1, .slice A1 d1.length cap1), (2, .bool d2), (9, .slice A_4 y_2.length cap_4)] a ∧ Hp w0 M_4 ((Ent.row 30 1 (.slice A_4 y_2.length cap_4) y_2.length cs_4) :: (Ent.row 3 1 (.slice A_1 x_3.1.length cap_1) x_3.1.length cs_1) :: H) w))) (R_loop (n := 125) (w0 := w0) (M := M_2) (fun (x : Nat × (List Int × Int) × (Option Addr) × Nat × (List Value)) => match x with | (m_1, s_1, A_2, cap_2, cs_2) => [(0, .slice A0 d0.length cap0), (1, .slice A1 d1.length cap1), (2, .bool d2), (9, .slice A_2 s_1.1.length cap_2), (32, .int .i64 ((d0.length : Nat) : Int)), (33, .int .i64 s_1.2)]) (fun (x : Nat × (List Int × Int) × (Option Addr) × Nat × (List Value)) => match x with | (m_1, s_1, A_2, cap_2, cs_2) => ((Ent.row 30 1 (.slice A_2 s_1.1.length cap_2) s_1.1.length cs_2) :: (Ent.row 3 1 (.slice A_1 x_3.1.length cap_1) x_3.1.length cs_1) :: H)) (fun (x : Nat × (List Int × Int) × (Option Addr) × Nat × (List Value)) (MM : Mem) => match x with | (m_1, s_1, A_2, cap_2, cs_2) => loopF (law21_ReadyAll_s1 n d0) m_1 s_1 = some b_1 ∧ RepSeq MM (s_1.1.map (Dat.int .i8)) cs_2) (fun (x : Nat × (List Int × Int) × (Option Addr) × Nat × (List Value)) => match x with | (m_1, s_1, A_2, cap_2, cs_2) => m_1) (n, (([] : List Int), (0 : Int)), none, 0, []) (f_21.keep (ks := [0, 1, 2, 9, 32, 33]) (by kernel_rfl)) p_6 ⟨hL_1, hr_2⟩ ?_) ?_
        · rintro ⟨m_1, s_1, A_2, cap_2, cs_2⟩ M_3 a_18 w_6 hM_3 I_1 f_22 p_7
          replace f_22 : Frm 125 [(0, .slice A0 d0.length cap0), (1, .slice A1 d1.length cap1), (2, .bool d2), (9, .slice A_2 s_1.1.length cap_2), (32, .int .i64 ((d0.length : Nat) : Int)), (33, .int .i64 s_1.2)] a_18 := f_22
          replace p_7 : Hp w0 M_3 ((Ent.row 30 1 (.slice A_2 s_1.1.length cap_2) s_1.1.length cs_2) :: (Ent.row 3 1 (.slice A_1 x_3.1.length cap_1) x_3.1.length cs_1) :: H) w_6 := p_7
          obtain ⟨I_1L, hr_3⟩ := I_1
          obtain ⟨m_2, r_1, rfl, hs_1, hn_1⟩ := loop_step I_1L
          unfold law21_ReadyAll_s1 at hs_1
          refine R_seq ?_
          refine R_reg ?_
          refine W_run (L' := [(0, .slice A0 d0.length cap0), (1, .slice A1 d1.length cap1), (2, .bool d2), (9, .slice A_2 s_1.1.length cap_2), (32, .int .i64 ((d0.length : Nat) : Int)), (33, .int .i64 s_1.2), (34, .bool (decide (s_1.2 < ((d0.length : Nat) : Int))))]) (w' := w_6) f_22 1 [0, 1, 2, 9, 32, 33, 34] (by kernel_rfl) (fun a_19 f_23 => ?_)
          refine W_end rfl ?_
          refine T_n ?_
          refine R_seq ?_
          refine R_cond f_23 (b := decide (s_1.2 < ((d0.length : Nat) : Int))) (by kernel_rfl) (by kernel_rfl) (fun h_4 => ?_) (fun h_4 => ?_)
          · have k_7 : s_1.2 < ((d0.length : Nat) : Int) := decide_eq_true_iff.1 h_4
            have hF_13 := cnd_t h_4 hs_1
            refine wp_skip ?_
            refine T_n ?_
            refine R_seq ?_
            refine wp_block ?_
            refine R_reg ?_
            refine W_run (L' := [(0, .slice A0 d0.length cap0), (1, .slice A1 d1.length cap1), (2, .bool d2), (32, .int .i64 ((d0.length : Nat) : Int)), (33, .int .i64 s_1.2), (35, .slice A_2 s_1.1.length cap_2)]) (w' := w_6) f_23 1 [0, 1, 2, 32, 33, 35] (by kernel_rfl) (fun a_20 f_24 => ?_)
            refine W_alloc f_24 p_7 1 [0, 1, 2, 32, 33, 35, 36] (.cells #[.int .i8 1] 30 (0, 0)) (fun b_2 => [(0, .slice A0 d0.length cap0), (1, .slice A1 d1.length cap1), (2, .bool d2), (32, .int .i64 ((d0.length : Nat) : Int)), (33, .int .i64 s_1.2), (35, .slice A_2 s_1.1.length cap_2), (36, .slice (some ⟨b_2, 0, none⟩) 1 1)]) (fun _ => by kernel_rfl) (fun b_2 w_7 p_8 a_21 f_25 => ?_)
            replace f_25 : Frm 125 [(0, .slice A0 d0.length cap0), (1, .slice A1 d1.length cap1), (2, .bool d2), (32, .int .i64 ((d0.length : Nat) : Int)), (33, .int .i64 s_1.2), (35, .slice A_2 s_1.1.length cap_2), (36, .slice (some ⟨b_2, 0, none⟩) 1 1)] a_21 := f_25
            have p_9 : Hp w0 M_3 ((Ent.row 30 1 (.slice A_2 s_1.1.length cap_2) s_1.1.length cs_2) :: (Ent.obj b_2 (.cells #[.int .i8 1] 30 (0, 0))) :: (Ent.row 3 1 (.slice A_1 x_3.1.length cap_1) x_3.1.length cs_1) :: H) w_7 := p_8.pull 1 rfl rfl
            obtain ⟨g_1, hF_14⟩ := need_some hF_13
            refine W_appendL (z := .int .i8 0) (f := (Dat.int .i8)) (xs := s_1.1) (ys := [(1 : Int)]) (news := [.int .i8 1]) (ad := ⟨b_2, 0, none⟩) (m := 1) (c := 1) f_25 p_9 hr_3 (by exact ⟨_, _, rfl, rfl, rfl⟩) (by kernel_rfl) (by kernel_rfl) rfl rfl rfl (by kernel_rfl) (by kernel_rfl) (by kernel_rfl) (by kernel_rfl) rfl (own_cells (p_9.ownCell 1 rfl) 0 rfl) (by exact g_1) (by have := g_1; simp only [List.length_cons, List.length_nil] at *; omega) (fun A_3 cap_3 cs_3 w_8 p_10 hr_4 a_22 f_26 => ?_)
            have p_11 : Hp w0 M_3 ((Ent.obj b_2 (.cells #[.int .i8 1] 30 (0, 0))) :: (Ent.row 30 1 (.slice A_3 (s_1.1 ++ [(1 : Int)]).length cap_3) (s_1.1 ++ [(1 : Int)]).length cs_3) :: (Ent.row 3 1 (.slice A_1 x_3.1.length cap_1) x_3.1.length cs_1) :: H) w_8 := p_10.pull 1 rfl rfl
            have p_12 := p_11.drop
            refine W_run (L' := [(0, .slice A0 d0.length cap0), (1, .slice A1 d1.length cap1), (2, .bool d2), (9, .slice A_3 (s_1.1 ++ [(1 : Int)]).length cap_3), (32, .int .i64 ((d0.length : Nat) : Int)), (33, .int .i64 s_1.2)]) (w' := w_8) f_26 1 [0, 1, 2, 9, 32, 33] (by kernel_rfl) (fun a_23 f_27 => ?_)
            refine W_end rfl ?_
            refine B_n ?_
            refine T_n ?_
            refine R_reg ?_
            obtain ⟨g_2, hF_15⟩ := need_some hF_14
            refine W_run (L' := [(0, .slice A0 d0.length cap0), (1, .slice A1 d1.length cap1), (2, .bool d2), (9, .slice A_3 (s_1.1 ++ [(1 : Int)]).length cap_3), (32, .int .i64 ((d0.length : Nat) : Int)), (33, .int .i64 s_1.2), (38, .int .i64 (IntKind.wrap .i64 (s_1.2 + 1)))]) (w' := w_8) f_27 1 [0, 1, 2, 9, 32, 33, 38] (by kernel_rfl) (fun a_24 f_28 => ?_)
            have f_29 := Frm.set f_28 38 (v := .int .i64 (IntKind.wrap .i64 (s_1.2 + 1))) (v' := .int .i64 (s_1.2 + 1)) (by kernel_rfl) (congrArg (Value.int .i64) (inR_wrap g_2))
            have f_30 : Frm 125 [(0, .slice A0 d0.length cap0), (1, .slice A1 d1.length cap1), (2, .bool d2), (9, .slice A_3 (s_1.1 ++ [(1 : Int)]).length cap_3), (32, .int .i64 ((d0.length : Nat) : Int)), (33, .int .i64 s_1.2), (38, .int .i64 (s_1.2 + 1))] a_24 := f_29.keep (ks := [0, 1, 2, 9, 32, 33, 38]) (by kernel_rfl)
            refine W_run (L' := [(0, .slice A0 d0.length cap0), (1, .slice A1 d1.length cap1), (2, .bool d2), (9, .slice A_3 (s_1.1 ++ [(1 : Int)]).length cap_3), (32, .int .i64 ((d0.length : Nat) : Int)), (33, .int .i64 (s_1.2 + 1))]) (w' := w_8) f_30 1 [0, 1, 2, 9, 32, 33] (by kernel_rfl) (fun a_25 f_31 => ?_)
            refine W_end rfl ?_
            refine T_n ?_
            obtain rfl := Option.some.inj hF_15
            exact ⟨⟨m_2, (s_1.1 ++ [(1 : Int)], s_1.2 + 1), A_3, cap_3, cs_3⟩, Nat.lt_succ_self _, M_3, hM_3, ⟨hn_1, hr_4⟩, f_31.keep (ks := [0, 1, 2, 9, 32, 33]) (by kernel_rfl), p_12⟩
          · have k_8 : ¬ (s_1.2 < ((d0.length : Nat) : Int)) := iff_f decide_eq_true_iff h_4
            have hF_16 := cnd_f h_4 hs_1
            refine wp_exit ?_
            refine T_x ?_
            refine T_x ?_
            obtain rfl := Option.some.inj hF_16
            exact ⟨rfl, s_1.1, (Option.some.inj hn_1).symm, M_3, hM_3, A_2, cap_2, cs_2, hr_3, f_23.keep (ks := [0, 1, 2, 9]) (by kernel_rfl), p_7⟩
        · rintro _ a_27 w_10 ⟨rfl, y_2, hq_, M_4, hM_4, A_4, cap_4, cs_4, hr_5, f_32, p_13⟩
          subst b_1
          refine B_x ?_
          refine T_n ?_
          refine R_seq ?_
          refine R_seq ?_
          refine R_reg ?_
          refine W_run (L' := [(0, .slice A0 d0.length cap0), (1, .slice A1 d1.length cap1), (2, .bool d2), (9, .slice A_4 y_2.length cap_4), (10, .int .i64 0)]) (w' := w_10) f_32 1 [0, 1, 2, 9, 10] (by kernel_rfl) (fun a_28 f_33 => ?_)
          refine W_end rfl ?_
          refine T_n ?_
          refine wp_block ?_
          obtain ⟨b_3, hL_2, hF_17⟩ := bind_some' hF_12
          refine wp_mono (Q := fun e a w => (e = .ret ∧ (∃ y_6 : Unit, b_3 = .inl y_6 ∧ ∃ M_12 : Mem, M_4.le M_12 ∧ Frm 125 [(6, .bool false)] a ∧ Hp w0 M_12 ((Ent.row 3 1 (.slice A_1 x_3.1.length cap_1) x_3.1.length cs_1) :: H) w)) ∨ (e = .exit 2 ∧ (∃ y_7 : List Int, b_3 = .inr y_7 ∧ ∃ M_13 : Mem, M_4.le M_13 ∧ ∃ (A_8 : Option Addr), ∃ (cap_14 : Nat), ∃ (cs_7 : List Value), RepSeq M_13 (y_7.map (Dat.int .i8)) cs_7 ∧ Frm 125 [(0, .slice A0 d0.length cap0), (9, .slice A_8 y_7.length cap_14)] a ∧ Hp w0 M_13 ((Ent.row 30 1 (.slice A_8 y_7.length cap_14) y_7.length cs_7) :: (Ent.row 3 1 (.slice A_1 x_3.1.length cap_1) x_3.1.length cs_1) :: H) w))) (R_loop (n := 125) (w0 := w0) (M := M_4) (fun (x : Nat × (List Int × Int) × (Option Addr) × Nat × (List Value)) => match x with | (m_3, s_2, A_5, cap_5, cs_5) => [(0, .slice A0 d0.length cap0), (1, .slice A1 d1.length cap1), (2, .bool d2), (9, .slice A_5 s_2.1.length cap_5), (10, .int .i64 s_2.2)]) (fun (x : Nat × (List Int × Int) × (Option Addr) × Nat × (List Value)) => match x with | (m_3, s_2, A_5, cap_5, cs_5) => ((Ent.row 30 1 (.slice A_5 s_2.1.length cap_5) s_2.1.length cs_5) :: (Ent.row 3 1 (.slice A_1 x_3.1.length cap_1) x_3.1.length cs_1) :: H)) (fun (x : Nat × (List Int × Int) × (Option Addr) × Nat × (List Value)) (MM : Mem) => match x with | (m_3, s_2, A_5, cap_5, cs_5) => loopF (law21_ReadyAll_s2 n d0 d1 d2) m_3 s_2 = some b_3 ∧ RepSeq MM (s_2.1.map (Dat.int .i8)) cs_5) (fun (x : Nat × (List Int × Int) × (Option Addr) × Nat × (List Value)) => match x with | (m_3, s_2, A_5, cap_5, cs_5) => m_3) (n, (y_2, (0 : Int)), A_4, cap_4, cs_4) (f_33.keep (ks := [0, 1, 2, 9, 10]) (by kernel_rfl)) p_13 ⟨hL_2, hr_5⟩ ?_) ?_
          · rintro ⟨m_3, s_2, A_5, cap_5, cs_5⟩ M_5 a_29 w_11 hM_5 I_2 f_34 p_14
            replace f_34 : Frm 125 [(0, .slice A0 d0.length cap0), (1, .slice A1 d1.length cap1), (2, .bool d2), (9, .slice A_5 s_2.1.length cap_5), (10, .int .i64 s_2.2)] a_29 := f_34
            replace p_14 : Hp w0 M_5 ((Ent.row 30 1 (.slice A_5 s_2.1.length cap_5) s_2.1.length cs_5) :: (Ent.row 3 1 (.slice A_1 x_3.1.length cap_1) x_3.1.length cs_1) :: H) w_11 := p_14
            obtain ⟨I_2L, hr_6⟩ := I_2
            obtain ⟨m_4, r_2, rfl, hs_2, hn_2⟩ := loop_step I_2L
            unfold law21_ReadyAll_s2 at hs_2
            refine R_seq ?_
            refine R_seq ?_
            refine R_reg ?_
            refine W_run (L' := [(0, .slice A0 d0.length cap0), (1, .slice A1 d1.length cap1), (2, .bool d2), (9, .slice A_5 s_2.1.length cap_5), (10, .int .i64 s_2.2), (42, .bool (decide (s_2.2 < ((d0.length : Nat) : Int))))]) (w' := w_11) f_34 4 [0, 1, 2, 9, 10, 42] (by kernel_rfl) (fun a_30 f_35 => ?_)
            refine W_end rfl ?_
            refine T_n ?_
            refine R_cond f_35 (b := decide (s_2.2 < ((d0.length : Nat) : Int))) (by kernel_rfl) (by kernel_rfl) (fun h_5 => ?_) (fun h_5 => ?_)
            · have k_9 : s_2.2 < ((d0.length : Nat) : Int) := decide_eq_true_iff.1 h_5
              have hF_18 := cnd_t h_5 hs_2
              refine wp_skip ?_
              refine T_n ?_
              refine R_seq ?_
              refine wp_block ?_
              refine R_seq ?_
              refine R_reg ?_
              refine W_run (L' := [(0, .slice A0 d0.length cap0), (1, .slice A1 d1.length cap1), (2, .bool d2), (9, .slice A_5 s_2.1.length cap_5), (10, .int .i64 s_2.2), (46, .slice A0 d0.length cap0), (47, .slice A_5 s_2.1.length cap_5), (48, .bool d2)]) (w' := w_11) f_35 3 [0, 1, 2, 9, 10, 46, 47, 48] (by kernel_rfl) (fun a_31 f_36 => ?_)
              obtain ⟨M_6, A_6, cap_6, hM_6, hv_1, p_15, h_6, hb_1⟩ := p_14.lend (f := (Dat.int .i8)) (xs := s_2.1) (szd_int .i8) hr_6
              have f_37 := Frm.set f_36 9 (v := .slice A_5 s_2.1.length cap_5) (v' := .slice A_6 s_2.1.length cap_6) (by kernel_rfl) (hv_1)
              have f_38 := Frm.set f_37 47 (v := .slice A_5 s_2.1.length cap_5) (v' := .slice A_6 s_2.1.length cap_6) (by kernel_rfl) (hv_1)
              have f_39 : Frm 125 [(0, .slice A0 d0.length cap0), (1, .slice A1 d1.length cap1), (2, .bool d2), (9, .slice A_6 s_2.1.length cap_6), (10, .int .i64 s_2.2), (46, .slice A0 d0.length cap0), (47, .slice A_6 s_2.1.length cap_6), (48, .bool d2)] a_31 := f_38.keep (ks := [0, 1, 2, 9, 10, 46, 47, 48]) (by kernel_rfl)
              obtain ⟨x_5, hx_5, hF_19⟩ := bind_some' hF_18
              refine W_okH (E := []) (H := ((Ent.row 3 1 (.slice A_1 x_3.1.length cap_1) x_3.1.length cs_1) :: H)) f_39 p_15 (by kernel_rfl) (by kernel_rfl) rfl rfl (fun _ => by kernel_rfl) (ready_Ready_ok n _ A0 cap0 d0 (h0.mono ((((hM_1.trans hM_2).trans hM_4).trans hM_5).trans hM_6)) A_6 cap_6 s_2.1 h_6 (d2) x_5 hx_5) (fun u_2 M_7 E_2 w_12 hM_7 p_16 q_2 a_32 f_40 => ?_)
              obtain ⟨A_7, cap_7, cs_6, rfl, rfl, hr_7⟩ := q_2
              replace p_16 : Hp w0 M_7 ((Ent.row 3 1 (.slice A_7 x_5.1.length cap_7) x_5.1.length cs_6) :: (Ent.row 3 1 (.slice A_1 x_3.1.length cap_1) x_3.1.length cs_1) :: H) w_12 := p_16
              have hr_8 : ∀ M, RepSeq M (x_5.1.map (Dat.int .i64)) cs_6 := fun M => RepSeq.flat (flat_int .i64) _ hr_7
              obtain ⟨M_8, hM_8, p_17⟩ := hb_1 _ _ _ hM_7 p_16
              have f_41 := Frm.set f_40 9 (v := .slice A_6 s_2.1.length cap_6) (v' := .slice A_5 s_2.1.length cap_5) (by kernel_rfl) (hv_1.symm)
              have f_42 := Frm.set f_41 47 (v := .slice A_6 s_2.1.length cap_6) (v' := .slice A_5 s_2.1.length cap_5) (by kernel_rfl) (hv_1.symm)
              have f_43 : Frm 125 [(0, .slice A0 d0.length cap0), (1, .slice A1 d1.length cap1), (2, .bool d2), (9, .slice A_5 s_2.1.length cap_5), (10, .int .i64 s_2.2), (46, .slice A0 d0.length cap0), (47, .slice A_5 s_2.1.length cap_5), (48, .bool d2), (49, .tuple #[.slice A_7 x_5.1.length cap_7, .int .i64 x_5.2])] a_32 := f_42.keep (ks := [0, 1, 2, 9, 10, 46, 47, 48, 49]) (by kernel_rfl)
              have hr_9 := hr_8 M_8
              refine W_run (L' := [(0, .slice A0 d0.length cap0), (1, .slice A1 d1.length cap1), (2, .bool d2), (9, .slice A_5 s_2.1.length cap_5), (10, .int .i64 s_2.2), (11, .slice A_7 x_5.1.length cap_7), (12, .int .i64 x_5.2)]) (w' := w_12) f_43 5 [0, 1, 2, 9, 10, 11, 12] (by kernel_rfl) (fun a_33 f_44 => ?_)
              refine W_end rfl ?_
              refine T_n ?_
              refine R_seq ?_
              refine R_seq ?_
              obtain ⟨j_2, hj_2, hF_20⟩ := bind_some' hF_19
              refine R_mid (fun a_37 w_13 => ∃ y_3 : Bool, j_2 = y_3 ∧ ∃ M_9 : Mem, M_8.le M_9 ∧ Frm 125 [(0, .slice A0 d0.length cap0), (1, .slice A1 d1.length cap1), (2, .bool d2), (9, .slice A_5 s_2.1.length cap_5), (10, .int .i64 s_2.2), (11, .slice A_7 x_5.1.length cap_7), (58, .bool y_3)] a_37 ∧ Hp w0 M_9 ((Ent.row 30 1 (.slice A_5 s_2.1.length cap_5) s_2.1.length cs_5) :: (Ent.row 3 1 (.slice A_7 x_5.1.length cap_7) x_5.1.length cs_6) :: (Ent.row 3 1 (.slice A_1 x_3.1.length cap_1) x_3.1.length cs_1) :: H) w_13) ?_ ?_
              · refine R_reg ?_
                refine W_run (L' := [(0, .slice A0 d0.length cap0), (1, .slice A1 d1.length cap1), (2, .bool d2), (9, .slice A_5 s_2.1.length cap_5), (10, .int .i64 s_2.2), (11, .slice A_7 x_5.1.length cap_7), (54, .bool (!(decide (x_5.2 = 0))))]) (w' := w_12) f_44 3 [0, 1, 2, 9, 10, 11, 54] (by kernel_rfl) (fun a_34 f_45 => ?_)
                rcases Bool.eq_false_or_eq_true (!(decide (x_5.2 = 0))) with h_7 | h_7
                · have k_10 : ¬ (x_5.2 = 0) := (not_iff decide_eq_true_iff).1 h_7
                  have hF_21 := cnd_t h_7 hj_2
                  have f_46 := Frm.set f_45 54 (v := .bool (!(decide (x_5.2 = 0)))) (v' := .bool true) (by kernel_rfl) (congrArg Value.bool h_7)
                  have f_47 : Frm 125 [(0, .slice A0 d0.length cap0), (1, .slice A1 d1.length cap1), (2, .bool d2), (9, .slice A_5 s_2.1.length cap_5), (10, .int .i64 s_2.2), (11, .slice A_7 x_5.1.length cap_7), (54, .bool true)] a_34 := f_46.keep (ks := [0, 1, 2, 9, 10, 11, 54]) (by kernel_rfl)
                  refine W_run (L' := [(0, .slice A0 d0.length cap0), (1, .slice A1 d1.length cap1), (2, .bool d2), (9, .slice A_5 s_2.1.length cap_5), (10, .int .i64 s_2.2), (11, .slice A_7 x_5.1.length cap_7), (58, .bool true)]) (w' := w_12) f_47 4 [0, 1, 2, 9, 10, 11, 58] (by kernel_rfl) (fun a_35 f_48 => ?_)
                  refine W_end rfl ?_
                  refine T_n ?_
                  exact ⟨(true), (Option.some.inj hF_21).symm, M_8, (Mem.le_refl _), f_48.keep (ks := [0, 1, 2, 9, 10, 11, 58]) (by kernel_rfl), p_17⟩
                · have k_11 : ¬ (¬ (x_5.2 = 0)) := iff_f (not_iff decide_eq_true_iff) h_7
                  have hF_22 := cnd_f h_7 hj_2
                  have f_49 := Frm.set f_45 54 (v := .bool (!(decide (x_5.2 = 0)))) (v' := .bool false) (by kernel_rfl) (congrArg Value.bool h_7)
                  have f_50 : Frm 125 [(0, .slice A0 d0.length cap0), (1, .slice A1 d1.length cap1), (2, .bool d2), (9, .slice A_5 s_2.1.length cap_5), (10, .int .i64 s_2.2), (11, .slice A_7 x_5.1.length cap_7), (54, .bool false)] a_34 := f_49.keep (ks := [0, 1, 2, 9, 10, 11, 54]) (by kernel_rfl)
                  refine W_run (L' := [(0, .slice A0 d0.length cap0), (1, .slice A1 d1.length cap1), (2, .bool d2), (9, .slice A_5 s_2.1.length cap_5), (10, .int .i64 s_2.2), (11, .slice A_7 x_5.1.length cap_7), (58, .bool (decide (((x_5.1.length : Nat) : Int) = 0)))]) (w' := w_12) f_50 4 [0, 1, 2, 9, 10, 11, 58] (by kernel_rfl) (fun a_36 f_51 => ?_)
                  refine W_end rfl ?_
                  refine T_n ?_
                  exact ⟨(decide (((x_5.1.length : Nat) : Int) = 0)), (Option.some.inj hF_22).symm, M_8, (Mem.le_refl _), f_51.keep (ks := [0, 1, 2, 9, 10, 11, 58]) (by kernel_rfl), p_17⟩
              · rintro a_37 w_13 ⟨y_3, hq_2, M_9, hM_9, f_52, p_18⟩
                subst j_2
                refine T_n ?_
                refine R_cond f_52 (b := y_3) (by kernel_rfl) (by kernel_rfl) (fun h_8 => ?_) (fun h_8 => ?_)
                · have hF_23 := cnd_t h_8 hF_20
                  refine R_seq ?_
                  refine R_reg ?_
                  refine W_run (L' := [(6, .bool false)]) (w' := w_13) f_52 1 [6] (by kernel_rfl) (fun a_38 f_53 => ?_)
                  refine W_end rfl ?_
                  refine T_n ?_
                  refine wp_ret ?_
                  refine T_r ?_
                  refine B_r ?_
                  refine T_r ?_
                  refine T_r ?_
                  obtain rfl := Option.some.inj hF_23
                  exact .inl ⟨rfl, (), (Option.some.inj hn_2).symm, M_9, ((hM_5.trans hM_8).trans hM_9), f_53.keep (ks := [6]) (by kernel_rfl), (p_18.dropN 2)⟩
                · have hF_24 := cnd_f h_8 hF_20
                  refine wp_skip ?_
                  refine T_n ?_
                  refine R_seq ?_
                  refine R_reg ?_
                  refine W_run (L' := [(0, .slice A0 d0.length cap0), (1, .slice A1 d1.length cap1), (2, .bool d2), (9, .slice A_5 s_2.1.length cap_5), (10, .int .i64 s_2.2), (11, .slice A_7 x_5.1.length cap_7), (13, .int .i64 0)]) (w' := w_13) f_52 1 [0, 1, 2, 9, 10, 11, 13] (by kernel_rfl) (fun a_39 f_54 => ?_)
                  refine W_end rfl ?_
                  refine T_n ?_
                  refine R_seq ?_
                  refine R_seq ?_
                  refine R_reg ?_
                  refine W_run (L' := [(0, .slice A0 d0.length cap0), (1, .slice A1 d1.length cap1), (2, .bool d2), (9, .slice A_5 s_2.1.length cap_5), (10, .int .i64 s_2.2), (11, .slice A_7 x_5.1.length cap_7), (13, .int .i64 0), (61, .bool (decide ((0 : Int) < ((d1.length : Nat) : Int))))]) (w' := w_13) f_54 3 [0, 1, 2, 9, 10, 11, 13, 61] (by kernel_rfl) (fun a_40 f_55 => ?_)
                  refine W_end rfl ?_
                  refine T_n ?_
                  obtain ⟨j_3, hj_3, hF_25⟩ := bind_some' hF_24
                  refine R_mid (fun a_53 w_14 => ∃ y_4 : Int, j_3 = y_4 ∧ ∃ M_10 : Mem, M_9.le M_10 ∧ Frm 125 [(0, .slice A0 d0.length cap0), (1, .slice A1 d1.length cap1), (2, .bool d2), (9, .slice A_5 s_2.1.length cap_5), (10, .int .i64 s_2.2), (11, .slice A_7 x_5.1.length cap_7), (13, .int .i64 y_4)] a_53 ∧ Hp w0 M_10 ((Ent.row 30 1 (.slice A_5 s_2.1.length cap_5) s_2.1.length cs_5) :: (Ent.row 3 1 (.slice A_7 x_5.1.length cap_7) x_5.1.length cs_6) :: (Ent.row 3 1 (.slice A_1 x_3.1.length cap_1) x_3.1.length cs_1) :: H) w_14) ?_ ?_
                  · refine R_cond f_55 (b := decide ((0 : Int) < ((d1.length : Nat) : Int))) (by kernel_rfl) (by kernel_rfl) (fun h_9 => ?_) (fun h_9 => ?_)
                    · have k_14 : (0 : Int) < ((d1.length : Nat) : Int) := decide_eq_true_iff.1 h_9
                      have hF_26 := cnd_t h_9 hj_3
                      refine R_seq ?_
                      refine R_reg ?_
                      refine W_run (L' := [(0, .slice A0 d0.length cap0), (1, .slice A1 d1.length cap1), (2, .bool d2), (9, .slice A_5 s_2.1.length cap_5), (10, .int .i64 s_2.2), (11, .slice A_7 x_5.1.length cap_7), (62, .slice A1 d1.length cap1), (63, .int .i64 s_2.2), (65, .int .i64 ((d1.length : Nat) : Int))]) (w' := w_13) f_55 4 [0, 1, 2, 9, 10, 11, 62, 63, 65] (by kernel_rfl) (fun a_41 f_56 => ?_)
                      obtain ⟨g_3, hF_27⟩ := need_some hF_26
                      refine W_eq (v := .int .i64 (s_2.2.tmod ((d1.length : Nat) : Int))) f_56 (by kernel_rfl) (by kernel_rfl) rfl rfl (X_rem rfl (a := s_2.2) (b := ((d1.length : Nat) : Int)) (by kernel_rfl) (by kernel_rfl) g_3) (fun a_42 f_57 => ?_)
                      obtain ⟨x_6, hx_6, hF_28⟩ := bind_some' hF_27
                      obtain ⟨ad_1, c_1, e_1, hl_1, hr_10, hc_1⟩ := Sli.at_ (h1.mono (((((hM_1.trans hM_2).trans hM_4).trans hM_5).trans hM_8).trans hM_9)) hx_6
                      clear hl_1
                      obtain rfl : c_1 = [.int .i64 x_6] := hr_10
                      refine W_eq (v := .pointer (some (ad_1.add ((s_2.2.tmod ((d1.length : Nat) : Int)).toNat * 1)))) f_57 (by kernel_rfl) (by kernel_rfl) rfl rfl (X_indexAddrA e_1 rfl (len := d1.length) (cap := cap1) (k := .i64) (i := s_2.2.tmod ((d1.length : Nat) : Int)) (by kernel_rfl) (by kernel_rfl) (e := 3) (by kernel_rfl) (sz := 1) (by kernel_rfl) (getI_nn hx_6) (getI_lt hx_6)) (fun a_43 f_58 => ?_)
                      refine W_eq (v := .int .i64 x_6) f_58 (by kernel_rfl) (by kernel_rfl) rfl rfl (X_load1 (v := .int .i64 x_6) rfl (ad := ad_1.add ((s_2.2.tmod ((d1.length : Nat) : Int)).toNat * 1)) (by kernel_rfl) (by kernel_rfl) (p_18.cell (hc_1 0 _ rfl))) (fun a_44 f_59 => ?_)
                      refine W_run (L' := [(0, .slice A0 d0.length cap0), (1, .slice A1 d1.length cap1), (2, .bool d2), (9, .slice A_5 s_2.1.length cap_5), (10, .int .i64 s_2.2), (11, .slice A_7 x_5.1.length cap_7), (14, .int .i64 x_6)]) (w' := w_13) f_59 1 [0, 1, 2, 9, 10, 11, 14] (by kernel_rfl) (fun a_45 f_60 => ?_)
                      refine W_end rfl ?_
                      refine T_n ?_
                      refine R_reg ?_
                      refine W_run (L' := [(0, .slice A0 d0.length cap0), (1, .slice A1 d1.length cap1), (2, .bool d2), (9, .slice A_5 s_2.1.length cap_5), (10, .int .i64 s_2.2), (11, .slice A_7 x_5.1.length cap_7), (69, .int .i64 x_6), (71, .int .i64 ((x_5.1.length : Nat) : Int))]) (w' := w_13) f_60 3 [0, 1, 2, 9, 10, 11, 69, 71] (by kernel_rfl) (fun a_46 f_61 => ?_)
                      obtain ⟨g_4, hF_29⟩ := need_some hF_28
                      refine W_eq (v := .int .i64 (x_6.tmod ((x_5.1.length : Nat) : Int))) f_61 (by kernel_rfl) (by kernel_rfl) rfl rfl (X_rem rfl (a := x_6) (b := ((x_5.1.length : Nat) : Int)) (by kernel_rfl) (by kernel_rfl) g_4) (fun a_47 f_62 => ?_)
                      refine W_run (L' := [(0, .slice A0 d0.length cap0), (1, .slice A1 d1.length cap1), (2, .bool d2), (9, .slice A_5 s_2.1.length cap_5), (10, .int .i64 s_2.2), (11, .slice A_7 x_5.1.length cap_7), (72, .int .i64 (x_6.tmod ((x_5.1.length : Nat) : Int))), (74, .int .i64 ((x_5.1.length : Nat) : Int))]) (w' := w_13) f_62 2 [0, 1, 2, 9, 10, 11, 72, 74] (by kernel_rfl) (fun a_48 f_63 => ?_)
                      obtain ⟨g_5, hF_30⟩ := need_some hF_29
                      refine W_run (L' := [(0, .slice A0 d0.length cap0), (1, .slice A1 d1.length cap1), (2, .bool d2), (9, .slice A_5 s_2.1.length cap_5), (10, .int .i64 s_2.2), (11, .slice A_7 x_5.1.length cap_7), (72, .int .i64 (x_6.tmod ((x_5.1.length : Nat) : Int))), (74, .int .i64 ((x_5.1.length : Nat) : Int)), (75, .int .i64 (IntKind.wrap .i64 ((x_6.tmod ((x_5.1.length : Nat) : Int)) + ((x_5.1.length : Nat) : Int))))]) (w' := w_13) f_63 1 [0, 1, 2, 9, 10, 11, 72, 74, 75] (by kernel_rfl) (fun a_49 f_64 => ?_)
                      have f_65 := Frm.set f_64 75 (v := .int .i64 (IntKind.wrap .i64 ((x_6.tmod ((x_5.1.length : Nat) : Int)) + ((x_5.1.length : Nat) : Int)))) (v' := .int .i64 ((x_6.tmod ((x_5.1.length : Nat) : Int)) + ((x_5.1.length : Nat) : Int))) (by kernel_rfl) (congrArg (Value.int .i64) (inR_wrap g_5))
                      have f_66 : Frm 125 [(0, .slice A0 d0.length cap0), (1, .slice A1 d1.length cap1), (2, .bool d2), (9, .slice A_5 s_2.1.length cap_5), (10, .int .i64 s_2.2), (11, .slice A_7 x_5.1.length cap_7), (72, .int .i64 (x_6.tmod ((x_5.1.length : Nat) : Int))), (74, .int .i64 ((x_5.1.length : Nat) : Int)), (75, .int .i64 ((x_6.tmod ((x_5.1.length : Nat) : Int)) + ((x_5.1.length : Nat) : Int)))] a_49 := f_65.keep (ks := [0, 1, 2, 9, 10, 11, 72, 74, 75]) (by kernel_rfl)
                      refine W_run (L' := [(0, .slice A0 d0.length cap0), (1, .slice A1 d1.length cap1), (2, .bool d2), (9, .slice A_5 s_2.1.length cap_5), (10, .int .i64 s_2.2), (11, .slice A_7 x_5.1.length cap_7), (75, .int .i64 ((x_6.tmod ((x_5.1.length : Nat) : Int)) + ((x_5.1.length : Nat) : Int))), (77, .int .i64 ((x_5.1.length : Nat) : Int))]) (w' := w_13) f_66 2 [0, 1, 2, 9, 10, 11, 75, 77] (by kernel_rfl) (fun a_50 f_67 => ?_)
                      obtain ⟨g_6, hF_31⟩ := need_some hF_30
                      refine W_eq (v := .int .i64 (((x_6.tmod ((x_5.1.length : Nat) : Int)) + ((x_5.1.length : Nat) : Int)).tmod ((x_5.1.length : Nat) : Int))) f_67 (by kernel_rfl) (by kernel_rfl) rfl rfl (X_rem rfl (a := (x_6.tmod ((x_5.1.length : Nat) : Int)) + ((x_5.1.length : Nat) : Int)) (b := ((x_5.1.length : Nat) : Int)) (by kernel_rfl) (by kernel_rfl) g_6) (fun a_51 f_68 => ?_)
                      refine W_run (L' := [(0, .slice A0 d0.length cap0), (1, .slice A1 d1.length cap1), (2, .bool d2), (9, .slice A_5 s_2.1.length cap_5), (10, .int .i64 s_2.2), (11, .slice A_7 x_5.1.length cap_7), (13, .int .i64 (((x_6.tmod ((x_5.1.length : Nat) : Int)) + ((x_5.1.length : Nat) : Int)).tmod ((x_5.1.length : Nat) : Int)))]) (w' := w_13) f_68 1 [0, 1, 2, 9, 10, 11, 13] (by kernel_rfl) (fun a_52 f_69 => ?_)
                      refine W_end rfl ?_
                      refine T_n ?_
                      exact ⟨((x_6.tmod ((x_5.1.length : Nat) : Int)) + ((x_5.1.length : Nat) : Int)).tmod ((x_5.1.length : Nat) : Int), (Option.some.inj hF_31).symm, M_9, (Mem.le_refl _), f_69.keep (ks := [0, 1, 2, 9, 10, 11, 13]) (by kernel_rfl), p_18⟩
                    · have k_15 : ¬ ((0 : Int) < ((d1.length : Nat) : Int)) := iff_f decide_eq_true_iff h_9
                      have hF_32 := cnd_f h_9 hj_3
                      refine wp_skip ?_
                      refine T_n ?_
                      exact ⟨(0 : Int), (Option.some.inj hF_32).symm, M_9, (Mem.le_refl _), f_55.keep (ks := [0, 1, 2, 9, 10, 11, 13]) (by kernel_rfl), p_18⟩
                  · rintro a_53 w_14 ⟨y_4, hq_3, M_10, hM_10, f_70, p_19⟩
                    subst j_3
                    refine T_n ?_
                    refine R_seq ?_
                    refine R_seq ?_
                    obtain ⟨j_4, hj_4, hF_33⟩ := bind_some' hF_25
                    refine R_mid (fun a_70 w_15 => ∃ y_5 : Bool, j_4 = y_5 ∧ ∃ M_11 : Mem, M_10.le M_11 ∧ Frm 125 [(0, .slice A0 d0.length cap0), (1, .slice A1 d1.length cap1), (2, .bool d2), (9, .slice A_5 s_2.1.length cap_5), (10, .int .i64 s_2.2), (11, .slice A_7 x_5.1.length cap_7), (13, .int .i64 y_4), (102, .bool y_5)] a_70 ∧ Hp w0 M_11 ((Ent.row 30 1 (.slice A_5 s_2.1.length cap_5) s_2.1.length cs_5) :: (Ent.row 3 1 (.slice A_7 x_5.1.length cap_7) x_5.1.length cs_6) :: (Ent.row 3 1 (.slice A_1 x_3.1.length cap_1) x_3.1.length cs_1) :: H) w_15) ?_ ?_
                    · refine R_reg ?_
                      refine W_run (L' := [(0, .slice A0 d0.length cap0), (1, .slice A1 d1.length cap1), (2, .bool d2), (9, .slice A_5 s_2.1.length cap_5), (10, .int .i64 s_2.2), (11, .slice A_7 x_5.1.length cap_7), (13, .int .i64 y_4), (79, .slice A_7 x_5.1.length cap_7), (80, .int .i64 y_4)]) (w' := w_14) f_70 2 [0, 1, 2, 9, 10, 11, 13, 79, 80] (by kernel_rfl) (fun a_54 f_71 => ?_)
                      obtain ⟨x_7, hx_7, hF_34⟩ := bind_some' hj_4
                      obtain ⟨b_4, cap_8, hv_2, hcap_1⟩ := p_19.rowAddr 1 rfl (getI_pos hx_7)
                      have f_72 := Frm.set f_71 79 (v := .slice A_7 x_5.1.length cap_7) (v' := .slice (some ⟨b_4, 0, none⟩) x_5.1.length cap_8) (by kernel_rfl) (hv_2)
                      have f_73 : Frm 125 [(0, .slice A0 d0.length cap0), (1, .slice A1 d1.length cap1), (2, .bool d2), (9, .slice A_5 s_2.1.length cap_5), (10, .int .i64 s_2.2), (11, .slice A_7 x_5.1.length cap_7), (13, .int .i64 y_4), (79, .slice (some ⟨b_4, 0, none⟩) x_5.1.length cap_8), (80, .int .i64 y_4)] a_54 := f_72.keep (ks := [0, 1, 2, 9, 10, 11, 13, 79, 80]) (by kernel_rfl)
                      refine W_eq (v := .pointer (some ((⟨b_4, 0, none⟩ : Addr).add (y_4.toNat * 1)))) f_73 (by kernel_rfl) (by kernel_rfl) rfl rfl (X_indexAddr rfl (ad := ⟨b_4, 0, none⟩) (len := x_5.1.length) (cap := cap_8) (k := .i64) (i := y_4) (by kernel_rfl) (by kernel_rfl) (e := 3) (by kernel_rfl) (sz := 1) (by kernel_rfl) (getI_nn hx_7) (getI_lt hx_7)) (fun a_55 f_74 => ?_)
                      have f_75 := Frm.set f_74 79 (v := .slice (some ⟨b_4, 0, none⟩) x_5.1.length cap_8) (v' := .slice A_7 x_5.1.length cap_7) (by kernel_rfl) (hv_2.symm)
                      have f_76 : Frm 125 [(0, .slice A0 d0.length cap0), (1, .slice A1 d1.length cap1), (2, .bool d2), (9, .slice A_5 s_2.1.length cap_5), (10, .int .i64 s_2.2), (11, .slice A_7 x_5.1.length cap_7), (13, .int .i64 y_4), (79, .slice A_7 x_5.1.length cap_7), (80, .int .i64 y_4), (81, .pointer (some ((⟨b_4, 0, none⟩ : Addr).add (y_4.toNat * 1))))] a_55 := f_75.keep (ks := [0, 1, 2, 9, 10, 11, 13, 79, 80, 81]) (by kernel_rfl)
                      obtain ⟨c_2, hl_2, hr_11, hc_2⟩ := RepSeq.get y_4.toNat (szd_all (szd_int .i64)) (RepSeq.mono (hM_9.trans hM_10) _ _ hr_9) (getI_map hx_7)
                      clear hl_2
                      obtain rfl : c_2 = [.int .i64 x_7] := hr_11
                      refine W_eq (v := .int .i64 x_7) f_76 (by kernel_rfl) (by kernel_rfl) rfl rfl (X_load1 (v := .int .i64 x_7) rfl (ad := (⟨b_4, 0, none⟩ : Addr).add (y_4.toNat * 1)) (by kernel_rfl) (by kernel_rfl) (by simpa [Addr.add] using (fun j v h => row_at (p_19.rowCell 1 rfl hv_2) hc_2 j v h) 0 _ rfl)) (fun a_56 f_77 => ?_)
                      refine W_run (L' := [(0, .slice A0 d0.length cap0), (1, .slice A1 d1.length cap1), (2, .bool d2), (9, .slice A_5 s_2.1.length cap_5), (10, .int .i64 s_2.2), (11, .slice A_7 x_5.1.length cap_7), (13, .int .i64 y_4), (84, .bool (decide (x_7 < 0)))]) (w' := w_14) f_77 2 [0, 1, 2, 9, 10, 11, 13, 84] (by kernel_rfl) (fun a_57 f_78 => ?_)
                      rcases Bool.eq_false_or_eq_true (decide (x_7 < 0)) with h_10 | h_10
                      · have k_16 : x_7 < 0 := decide_eq_true_iff.1 h_10
                        have hF_35 := cnd_t h_10 hF_34
                        have f_79 := Frm.set f_78 84 (v := .bool (decide (x_7 < 0))) (v' := .bool true) (by kernel_rfl) (congrArg Value.bool h_10)
                        have f_80 : Frm 125 [(0, .slice A0 d0.length cap0), (1, .slice A1 d1.length cap1), (2, .bool d2), (9, .slice A_5 s_2.1.length cap_5), (10, .int .i64 s_2.2), (11, .slice A_7 x_5.1.length cap_7), (13, .int .i64 y_4), (84, .bool true)] a_57 := f_79.keep (ks := [0, 1, 2, 9, 10, 11, 13, 84]) (by kernel_rfl)
                        refine W_run (L' := [(0, .slice A0 d0.length cap0), (1, .slice A1 d1.length cap1), (2, .bool d2), (9, .slice A_5 s_2.1.length cap_5), (10, .int .i64 s_2.2), (11, .slice A_7 x_5.1.length cap_7), (13, .int .i64 y_4), (102, .bool true)]) (w' := w_14) f_80 18 [0, 1, 2, 9, 10, 11, 13, 102] (by kernel_rfl) (fun a_58 f_81 => ?_)
                        refine W_end rfl ?_
                        refine T_n ?_
                        exact ⟨(true), (Option.some.inj hF_35).symm, M_10, (Mem.le_refl _), f_81.keep (ks := [0, 1, 2, 9, 10, 11, 13, 102]) (by kernel_rfl), p_19⟩
                      · have k_17 : ¬ (x_7 < 0) := iff_f decide_eq_true_iff h_10
                        have hF_36 := cnd_f h_10 hF_34
                        have f_82 := Frm.set f_78 84 (v := .bool (decide (x_7 < 0))) (v' := .bool false) (by kernel_rfl) (congrArg Value.bool h_10)
                        have f_83 : Frm 125 [(0, .slice A0 d0.length cap0), (1, .slice A1 d1.length cap1), (2, .bool d2), (9, .slice A_5 s_2.1.length cap_5), (10, .int .i64 s_2.2), (11, .slice A_7 x_5.1.length cap_7), (13, .int .i64 y_4), (84, .bool false)] a_57 := f_82.keep (ks := [0, 1, 2, 9, 10, 11, 13, 84]) (by kernel_rfl)
                        refine W_run (L' := [(0, .slice A0 d0.length cap0), (1, .slice A1 d1.length cap1), (2, .bool d2), (9, .slice A_5 s_2.1.length cap_5), (10, .int .i64 s_2.2), (11, .slice A_7 x_5.1.length cap_7), (13, .int .i64 y_4), (84, .bool false), (85, .slice A_7 x_5.1.length cap_7), (86, .int .i64 y_4)]) (w' := w_14) f_83 2 [0, 1, 2, 9, 10, 11, 13, 84, 85, 86] (by kernel_rfl) (fun a_59 f_84 => ?_)
                        obtain ⟨x_8, hx_8, hF_37⟩ := bind_some' hF_36
                        obtain ⟨b_5, cap_9, hv_3, hcap_2⟩ := p_19.rowAddr 1 rfl (getI_pos hx_8)
                        have f_85 := Frm.set f_84 85 (v := .slice A_7 x_5.1.length cap_7) (v' := .slice (some ⟨b_5, 0, none⟩) x_5.1.length cap_9) (by kernel_rfl) (hv_3)
                        have f_86 : Frm 125 [(0, .slice A0 d0.length cap0), (1, .slice A1 d1.length cap1), (2, .bool d2), (9, .slice A_5 s_2.1.length cap_5), (10, .int .i64 s_2.2), (11, .slice A_7 x_5.1.length cap_7), (13, .int .i64 y_4), (84, .bool false), (85, .slice (some ⟨b_5, 0, none⟩) x_5.1.length cap_9), (86, .int .i64 y_4)] a_59 := f_85.keep (ks := [0, 1, 2, 9, 10, 11, 13, 84, 85, 86]) (by kernel_rfl)
                        refine W_eq (v := .pointer (some ((⟨b_5, 0, none⟩ : Addr).add (y_4.toNat * 1)))) f_86 (by kernel_rfl) (by kernel_rfl) rfl rfl (X_indexAddr rfl (ad := ⟨b_5, 0, none⟩) (len := x_5.1.length) (cap := cap_9) (k := .i64) (i := y_4) (by kernel_rfl) (by kernel_rfl) (e := 3) (by kernel_rfl) (sz := 1) (by kernel_rfl) (getI_nn hx_8) (getI_lt hx_8)) (fun a_60 f_87 => ?_)
                        have f_88 := Frm.set f_87 85 (v := .slice (some ⟨b_5, 0, none⟩) x_5.1.length cap_9) (v' := .slice A_7 x_5.1.length cap_7) (by kernel_rfl) (hv_3.symm)
                        have f_89 : Frm 125 [(0, .slice A0 d0.length cap0), (1, .slice A1 d1.length cap1), (2, .bool d2), (9, .slice A_5 s_2.1.length cap_5), (10, .int .i64 s_2.2), (11, .slice A_7 x_5.1.length cap_7), (13, .int .i64 y_4), (84, .bool false), (85, .slice A_7 x_5.1.length cap_7), (86, .int .i64 y_4), (87, .pointer (some ((⟨b_5, 0, none⟩ : Addr).add (y_4.toNat * 1))))] a_60 := f_88.keep (ks := [0, 1, 2, 9, 10, 11, 13, 84, 85, 86, 87]) (by kernel_rfl)
                        obtain ⟨c_3, hl_3, hr_12, hc_3⟩ := RepSeq.get y_4.toNat (szd_all (szd_int .i64)) (RepSeq.mono (hM_9.trans hM_10) _ _ hr_9) (getI_map hx_8)
                        clear hl_3
                        obtain rfl : c_3 = [.int .i64 x_8] := hr_12
                        refine W_eq (v := .int .i64 x_8) f_89 (by kernel_rfl) (by kernel_rfl) rfl rfl (X_load1 (v := .int .i64 x_8) rfl (ad := (⟨b_5, 0, none⟩ : Addr).add (y_4.toNat * 1)) (by kernel_rfl) (by kernel_rfl) (by simpa [Addr.add] using (fun j v h => row_at (p_19.rowCell 1 rfl hv_3) hc_3 j v h) 0 _ rfl)) (fun a_61 f_90 => ?_)
                        refine W_run (L' := [(0, .slice A0 d0.length cap0), (1, .slice A1 d1.length cap1), (2, .bool d2), (9, .slice A_5 s_2.1.length cap_5), (10, .int .i64 s_2.2), (11, .slice A_7 x_5.1.length cap_7), (13, .int .i64 y_4), (93, .bool (decide (((s_2.1.length : Nat) : Int) ≤ x_8)))]) (w' := w_14) f_90 5 [0, 1, 2, 9, 10, 11, 13, 93] (by kernel_rfl) (fun a_62 f_91 => ?_)
                        rcases Bool.eq_false_or_eq_true (decide (((s_2.1.length : Nat) : Int) ≤ x_8)) with h_11 | h_11
                        · have k_18 : ((s_2.1.length : Nat) : Int) ≤ x_8 := decide_eq_true_iff.1 h_11
                          have hF_38 := cnd_t h_11 hF_37
                          have f_92 := Frm.set f_91 93 (v := .bool (decide (((s_2.1.length : Nat) : Int) ≤ x_8))) (v' := .bool true) (by kernel_rfl) (congrArg Value.bool h_11)
                          have f_93 : Frm 125 [(0, .slice A0 d0.length cap0), (1, .slice A1 d1.length cap1), (2, .bool d2), (9, .slice A_5 s_2.1.length cap_5), (10, .int .i64 s_2.2), (11, .slice A_7 x_5.1.length cap_7), (13, .int .i64 y_4), (93, .bool true)] a_62 := f_92.keep (ks := [0, 1, 2, 9, 10, 11, 13, 93]) (by kernel_rfl)
                          refine W_run (L' := [(0, .slice A0 d0.length cap0), (1, .slice A1 d1.length cap1), (2, .bool d2), (9, .slice A_5 s_2.1.length cap_5), (10, .int .i64 s_2.2), (11, .slice A_7 x_5.1.length cap_7), (13, .int .i64 y_4), (102, .bool true)]) (w' := w_14) f_93 9 [0, 1, 2, 9, 10, 11, 13, 102] (by kernel_rfl) (fun a_63 f_94 => ?_)
                          refine W_end rfl ?_
                          refine T_n ?_
                          exact ⟨(true), (Option.some.inj hF_38).symm, M_10, (Mem.le_refl _), f_94.keep (ks := [0, 1, 2, 9, 10, 11, 13, 102]) (by kernel_rfl), p_19⟩
                        · have k_19 : ¬ (((s_2.1.length : Nat) : Int) ≤ x_8) := iff_f decide_eq_true_iff h_11
                          have hF_39 := cnd_f h_11 hF_37
                          have f_95 := Frm.set f_91 93 (v := .bool (decide (((s_2.1.length : Nat) : Int) ≤ x_8))) (v' := .bool false) (by kernel_rfl) (congrArg Value.bool h_11)
                          have f_96 : Frm 125 [(0, .slice A0 d0.length cap0), (1, .slice A1 d1.length cap1), (2, .bool d2), (9, .slice A_5 s_2.1.length cap_5), (10, .int .i64 s_2.2), (11, .slice A_7 x_5.1.length cap_7), (13, .int .i64 y_4), (93, .bool false)] a_62 := f_95.keep (ks := [0, 1, 2, 9, 10, 11, 13, 93]) (by kernel_rfl)
                          refine W_run (L' := [(0, .slice A0 d0.length cap0), (1, .slice A1 d1.length cap1), (2, .bool d2), (9, .slice A_5 s_2.1.length cap_5), (10, .int .i64 s_2.2), (11, .slice A_7 x_5.1.length cap_7), (13, .int .i64 y_4), (93, .bool false), (94, .slice A_5 s_2.1.length cap_5), (95, .slice A_7 x_5.1.length cap_7), (96, .int .i64 y_4)]) (w' := w_14) f_96 3 [0, 1, 2, 9, 10, 11, 13, 93, 94, 95, 96] (by kernel_rfl) (fun a_64 f_97 => ?_)
                          obtain ⟨x_9, hx_9, hF_40⟩ := bind_some' hF_39
                          obtain ⟨b_6, cap_10, hv_4, hcap_3⟩ := p_19.rowAddr 1 rfl (getI_pos hx_9)
                          have f_98 := Frm.set f_97 95 (v := .slice A_7 x_5.1.length cap_7) (v' := .slice (some ⟨b_6, 0, none⟩) x_5.1.length cap_10) (by kernel_rfl) (hv_4)
                          have f_99 : Frm 125 [(0, .slice A0 d0.length cap0), (1, .slice A1 d1.length cap1), (2, .bool d2), (9, .slice A_5 s_2.1.length cap_5), (10, .int .i64 s_2.2), (11, .slice A_7 x_5.1.length cap_7), (13, .int .i64 y_4), (93, .bool false), (94, .slice A_5 s_2.1.length cap_5), (95, .slice (some ⟨b_6, 0, none⟩) x_5.1.length cap_10), (96, .int .i64 y_4)] a_64 := f_98.keep (ks := [0, 1, 2, 9, 10, 11, 13, 93, 94, 95, 96]) (by kernel_rfl)
                          refine W_eq (v := .pointer (some ((⟨b_6, 0, none⟩ : Addr).add (y_4.toNat * 1)))) f_99 (by kernel_rfl) (by kernel_rfl) rfl rfl (X_indexAddr rfl (ad := ⟨b_6, 0, none⟩) (len := x_5.1.length) (cap := cap_10) (k := .i64) (i := y_4) (by kernel_rfl) (by kernel_rfl) (e := 3) (by kernel_rfl) (sz := 1) (by kernel_rfl) (getI_nn hx_9) (getI_lt hx_9)) (fun a_65 f_100 => ?_)
                          have f_101 := Frm.set f_100 95 (v := .slice (some ⟨b_6, 0, none⟩) x_5.1.length cap_10) (v' := .slice A_7 x_5.1.length cap_7) (by kernel_rfl) (hv_4.symm)
                          have f_102 : Frm 125 [(0, .slice A0 d0.length cap0), (1, .slice A1 d1.length cap1), (2, .bool d2), (9, .slice A_5 s_2.1.length cap_5), (10, .int .i64 s_2.2), (11, .slice A_7 x_5.1.length cap_7), (13, .int .i64 y_4), (93, .bool false), (94, .slice A_5 s_2.1.length cap_5), (95, .slice A_7 x_5.1.length cap_7), (96, .int .i64 y_4), (97, .pointer (some ((⟨b_6, 0, none⟩ : Addr).add (y_4.toNat * 1))))] a_65 := f_101.keep (ks := [0, 1, 2, 9, 10, 11, 13, 93, 94, 95, 96, 97]) (by kernel_rfl)
                          obtain ⟨c_4, hl_4, hr_13, hc_4⟩ := RepSeq.get y_4.toNat (szd_all (szd_int .i64)) (RepSeq.mono (hM_9.trans hM_10) _ _ hr_9) (getI_map hx_9)
                          clear hl_4
                          obtain rfl : c_4 = [.int .i64 x_9] := hr_13
                          refine W_eq (v := .int .i64 x_9) f_102 (by kernel_rfl) (by kernel_rfl) rfl rfl (X_load1 (v := .int .i64 x_9) rfl (ad := (⟨b_6, 0, none⟩ : Addr).add (y_4.toNat * 1)) (by kernel_rfl) (by kernel_rfl) (by simpa [Addr.add] using (fun j v h => row_at (p_19.rowCell 1 rfl hv_4) hc_4 j v h) 0 _ rfl)) (fun a_66 f_103 => ?_)
                          obtain ⟨x_10, hx_10, hF_41⟩ := bind_some' hF_40
                          obtain ⟨b_7, cap_11, hv_5, hcap_4⟩ := p_19.rowAddr 0 rfl (getI_pos hx_10)
                          have f_104 := Frm.set f_103 94 (v := .slice A_5 s_2.1.length cap_5) (v' := .slice (some ⟨b_7, 0, none⟩) s_2.1.length cap_11) (by kernel_rfl) (hv_5)
                          have f_105 : Frm 125 [(0, .slice A0 d0.length cap0), (1, .slice A1 d1.length cap1), (2, .bool d2), (9, .slice A_5 s_2.1.length cap_5), (10, .int .i64 s_2.2), (11, .slice A_7 x_5.1.length cap_7), (13, .int .i64 y_4), (93, .bool false), (94, .slice (some ⟨b_7, 0, none⟩) s_2.1.length cap_11), (95, .slice A_7 x_5.1.length cap_7), (96, .int .i64 y_4), (97, .pointer (some ((⟨b_6, 0, none⟩ : Addr).add (y_4.toNat * 1)))), (98, .int .i64 x_9)] a_66 := f_104.keep (ks := [0, 1, 2, 9, 10, 11, 13, 93, 94, 95, 96, 97, 98]) (by kernel_rfl)
                          refine W_eq (v := .pointer (some ((⟨b_7, 0, none⟩ : Addr).add (x_9.toNat * 1)))) f_105 (by kernel_rfl) (by kernel_rfl) rfl rfl (X_indexAddr rfl (ad := ⟨b_7, 0, none⟩) (len := s_2.1.length) (cap := cap_11) (k := .i64) (i := x_9) (by kernel_rfl) (by kernel_rfl) (e := 30) (by kernel_rfl) (sz := 1) (by kernel_rfl) (getI_nn hx_10) (getI_lt hx_10)) (fun a_67 f_106 => ?_)
                          have f_107 := Frm.set f_106 94 (v := .slice (some ⟨b_7, 0, none⟩) s_2.1.length cap_11) (v' := .slice A_5 s_2.1.length cap_5) (by kernel_rfl) (hv_5.symm)
                          have f_108 : Frm 125 [(0, .slice A0 d0.length cap0), (1, .slice A1 d1.length cap1), (2, .bool d2), (9, .slice A_5 s_2.1.length cap_5), (10, .int .i64 s_2.2), (11, .slice A_7 x_5.1.length cap_7), (13, .int .i64 y_4), (93, .bool false), (94, .slice A_5 s_2.1.length cap_5), (95, .slice A_7 x_5.1.length cap_7), (96, .int .i64 y_4), (97, .pointer (some ((⟨b_6, 0, none⟩ : Addr).add (y_4.toNat * 1)))), (98, .int .i64 x_9), (99, .pointer (some ((⟨b_7, 0, none⟩ : Addr).add (x_9.toNat * 1))))] a_67 := f_107.keep (ks := [0, 1, 2, 9, 10, 11, 13, 93, 94, 95, 96, 97, 98, 99]) (by kernel_rfl)
                          obtain ⟨c_5, hl_5, hr_14, hc_5⟩ := RepSeq.get x_9.toNat (szd_all (szd_int .i8)) (RepSeq.mono ((hM_8.trans hM_9).trans hM_10) _ _ hr_6) (getI_map hx_10)
                          clear hl_5
                          obtain rfl : c_5 = [.int .i8 x_10] := hr_14
                          refine W_eq (v := .int .i8 x_10) f_108 (by kernel_rfl) (by kernel_rfl) rfl rfl (X_load1 (v := .int .i8 x_10) rfl (ad := (⟨b_7, 0, none⟩ : Addr).add (x_9.toNat * 1)) (by kernel_rfl) (by kernel_rfl) (by simpa [Addr.add] using (fun j v h => row_at (p_19.rowCell 0 rfl hv_5) hc_5 j v h) 0 _ rfl)) (fun a_68 f_109 => ?_)
                          refine W_run (L' := [(0, .slice A0 d0.length cap0), (1, .slice A1 d1.length cap1), (2, .bool d2), (9, .slice A_5 s_2.1.length cap_5), (10, .int .i64 s_2.2), (11, .slice A_7 x_5.1.length cap_7), (13, .int .i64 y_4), (102, .bool (!(decide (x_10 = 1))))]) (w' := w_14) f_109 2 [0, 1, 2, 9, 10, 11, 13, 102] (by kernel_rfl) (fun a_69 f_110 => ?_)
                          refine W_end rfl ?_
                          refine T_n ?_
                          exact ⟨(!(decide (x_10 = 1))), (Option.some.inj hF_41).symm, M_10, (Mem.le_refl _), f_110.keep (ks := [0, 1, 2, 9, 10, 11, 13, 102]) (by kernel_rfl), p_19⟩
                    · rintro a_70 w_15 ⟨y_5, hq_4, M_11, hM_11, f_111, p_20⟩
                      subst j_4
                      refine T_n ?_
                      refine R_cond f_111 (b := y_5) (by kernel_rfl) (by kernel_rfl) (fun h_12 => ?_) (fun h_12 => ?_)
                      · have hF_42 := cnd_t h_12 hF_33
                        refine R_seq ?_
                        refine R_reg ?_
                        refine W_run (L' := [(6, .bool false)]) (w' := w_15) f_111 1 [6] (by kernel_rfl) (fun a_71 f_112 => ?_)
                        refine W_end rfl ?_
                        refine T_n ?_
                        refine wp_ret ?_
                        refine T_r ?_
                        refine B_r ?_
                        refine T_r ?_
                        refine T_r ?_
                        obtain rfl := Option.some.inj hF_42
                        exact .inl ⟨rfl, (), (Option.some.inj hn_2).symm, M_11, ((((hM_5.trans hM_8).trans hM_9).trans hM_10).trans hM_11), f_112.keep (ks := [6]) (by kernel_rfl), (p_20.dropN 2)⟩
                      · have hF_43 := cnd_f h_12 hF_33
                        refine wp_skip ?_
                        refine T_n ?_
                        refine R_reg ?_
                        refine W_run (L' := [(0, .slice A0 d0.length cap0), (1, .slice A1 d1.length cap1), (2, .bool d2), (9, .slice A_5 s_2.1.length cap_5), (10, .int .i64 s_2.2), (103, .slice A_5 s_2.1.length cap_5), (104, .slice A_7 x_5.1.length cap_7), (105, .int .i64 y_4)]) (w' := w_15) f_111 3 [0, 1, 2, 9, 10, 103, 104, 105] (by kernel_rfl) (fun a_72 f_113 => ?_)
                        obtain ⟨x_11, hx_11, hF_44⟩ := bind_some' hF_43
                        obtain ⟨b_8, cap_12, hv_6, hcap_5⟩ := p_20.rowAddr 1 rfl (getI_pos hx_11)
                        have f_114 := Frm.set f_113 104 (v := .slice A_7 x_5.1.length cap_7) (v' := .slice (some ⟨b_8, 0, none⟩) x_5.1.length cap_12) (by kernel_rfl) (hv_6)
                        have f_115 : Frm 125 [(0, .slice A0 d0.length cap0), (1, .slice A1 d1.length cap1), (2, .bool d2), (9, .slice A_5 s_2.1.length cap_5), (10, .int .i64 s_2.2), (103, .slice A_5 s_2.1.length cap_5), (104, .slice (some ⟨b_8, 0, none⟩) x_5.1.length cap_12), (105, .int .i64 y_4)] a_72 := f_114.keep (ks := [0, 1, 2, 9, 10, 103, 104, 105]) (by kernel_rfl)
                        refine W_eq (v := .pointer (some ((⟨b_8, 0, none⟩ : Addr).add (y_4.toNat * 1)))) f_115 (by kernel_rfl) (by kernel_rfl) rfl rfl (X_indexAddr rfl (ad := ⟨b_8, 0, none⟩) (len := x_5.1.length) (cap := cap_12) (k := .i64) (i := y_4) (by kernel_rfl) (by kernel_rfl) (e := 3) (by kernel_rfl) (sz := 1) (by kernel_rfl) (getI_nn hx_11) (getI_lt hx_11)) (fun a_73 f_116 => ?_)
                        have f_117 := Frm.set f_116 104 (v := .slice (some ⟨b_8, 0, none⟩) x_5.1.length cap_12) (v' := .slice A_7 x_5.1.length cap_7) (by kernel_rfl) (hv_6.symm)
                        have f_118 : Frm 125 [(0, .slice A0 d0.length cap0), (1, .slice A1 d1.length cap1), (2, .bool d2), (9, .slice A_5 s_2.1.length cap_5), (10, .int .i64 s_2.2), (103, .slice A_5 s_2.1.length cap_5), (104, .slice A_7 x_5.1.length cap_7), (105, .int .i64 y_4), (106, .pointer (some ((⟨b_8, 0, none⟩ : Addr).add (y_4.toNat * 1))))] a_73 := f_117.keep (ks := [0, 1, 2, 9, 10, 103, 104, 105, 106]) (by kernel_rfl)
                        obtain ⟨c_6, hl_6, hr_15, hc_6⟩ := RepSeq.get y_4.toNat (szd_all (szd_int .i64)) (RepSeq.mono ((hM_9.trans hM_10).trans hM_11) _ _ hr_9) (getI_map hx_11)
                        clear hl_6
                        obtain rfl : c_6 = [.int .i64 x_11] := hr_15
                        refine W_eq (v := .int .i64 x_11) f_118 (by kernel_rfl) (by kernel_rfl) rfl rfl (X_load1 (v := .int .i64 x_11) rfl (ad := (⟨b_8, 0, none⟩ : Addr).add (y_4.toNat * 1)) (by kernel_rfl) (by kernel_rfl) (by simpa [Addr.add] using (fun j v h => row_at (p_20.rowCell 1 rfl hv_6) hc_6 j v h) 0 _ rfl)) (fun a_74 f_119 => ?_)
                        obtain ⟨x_12, hx_12, hF_45⟩ := bind_some' hF_44
                        obtain ⟨b_9, cap_13, hv_7, hcap_6⟩ := p_20.rowAddr 0 rfl (getI_pos hx_12)
                        have f_120 := Frm.set f_119 103 (v := .slice A_5 s_2.1.length cap_5) (v' := .slice (some ⟨b_9, 0, none⟩) s_2.1.length cap_13) (by kernel_rfl) (hv_7)
                        have f_121 : Frm 125 [(0, .slice A0 d0.length cap0), (1, .slice A1 d1.length cap1), (2, .bool d2), (9, .slice A_5 s_2.1.length cap_5), (10, .int .i64 s_2.2), (103, .slice (some ⟨b_9, 0, none⟩) s_2.1.length cap_13), (104, .slice A_7 x_5.1.length cap_7), (105, .int .i64 y_4), (106, .pointer (some ((⟨b_8, 0, none⟩ : Addr).add (y_4.toNat * 1)))), (107, .int .i64 x_11)] a_74 := f_120.keep (ks := [0, 1, 2, 9, 10, 103, 104, 105, 106, 107]) (by kernel_rfl)
                        refine W_eq (v := .pointer (some ((⟨b_9, 0, none⟩ : Addr).add (x_11.toNat * 1)))) f_121 (by kernel_rfl) (by kernel_rfl) rfl rfl (X_indexAddr rfl (ad := ⟨b_9, 0, none⟩) (len := s_2.1.length) (cap := cap_13) (k := .i64) (i := x_11) (by kernel_rfl) (by kernel_rfl) (e := 30) (by kernel_rfl) (sz := 1) (by kernel_rfl) (getI_nn hx_12) (getI_lt hx_12)) (fun a_75 f_122 => ?_)
                        have f_123 := Frm.set f_122 103 (v := .slice (some ⟨b_9, 0, none⟩) s_2.1.length cap_13) (v' := .slice A_5 s_2.1.length cap_5) (by kernel_rfl) (hv_7.symm)
                        have f_124 : Frm 125 [(0, .slice A0 d0.length cap0), (1, .slice A1 d1.length cap1), (2, .bool d2), (9, .slice A_5 s_2.1.length cap_5), (10, .int .i64 s_2.2), (103, .slice A_5 s_2.1.length cap_5), (104, .slice A_7 x_5.1.length cap_7), (105, .int .i64 y_4), (106, .pointer (some ((⟨b_8, 0, none⟩ : Addr).add (y_4.toNat * 1)))), (107, .int .i64 x_11), (108, .pointer (some ((⟨b_9, 0, none⟩ : Addr).add (x_11.toNat * 1))))] a_75 := f_123.keep (ks := [0, 1, 2, 9, 10, 103, 104, 105, 106, 107, 108]) (by kernel_rfl)
                        refine W_rowstore (it := x_11) (d := s_2.1) (f := (Dat.int .i8)) (xv := (3 : Int)) (v := .int .i8 3) f_124 p_20 hv_7 (by kernel_rfl) (by kernel_rfl) rfl rfl (by kernel_rfl) (by kernel_rfl) (by exact rfl) (by kernel_rfl) (szd_int .i8) hx_12 (RepSeq.mono (((hM_8.trans hM_9).trans hM_10).trans hM_11) _ _ hr_6) (fun w_16 p_21 hr_16 a_76 f_125 => ?_)
                        have p_22 : Hp w0 M_11 ((Ent.row 30 1 (.slice A_5 (s_2.1.set x_11.toNat (3 : Int)).length cap_5) (s_2.1.set x_11.toNat (3 : Int)).length (cs_5.set x_11.toNat (.int .i8 3))) :: (Ent.row 3 1 (.slice A_7 x_5.1.length cap_7) x_5.1.length cs_6) :: (Ent.row 3 1 (.slice A_1 x_3.1.length cap_1) x_3.1.length cs_1) :: H) w_16 := p_21.rowVal (by rw [List.length_set])
                        have f_126 := Frm.set f_125 9 (v := .slice A_5 s_2.1.length cap_5) (v' := .slice A_5 (s_2.1.set x_11.toNat (3 : Int)).length cap_5) (by kernel_rfl) (by rw [List.length_set])
                        have f_127 := Frm.set f_126 103 (v := .slice A_5 s_2.1.length cap_5) (v' := .slice A_5 (s_2.1.set x_11.toNat (3 : Int)).length cap_5) (by kernel_rfl) (by rw [List.length_set])
                        have f_128 : Frm 125 [(0, .slice A0 d0.length cap0), (1, .slice A1 d1.length cap1), (2, .bool d2), (9, .slice A_5 (s_2.1.set x_11.toNat (3 : Int)).length cap_5), (10, .int .i64 s_2.2), (103, .slice A_5 (s_2.1.set x_11.toNat (3 : Int)).length cap_5), (104, .slice A_7 x_5.1.length cap_7), (105, .int .i64 y_4), (106, .pointer (some ((⟨b_8, 0, none⟩ : Addr).add (y_4.toNat * 1)))), (107, .int .i64 x_11), (108, .pointer (some ((⟨b_9, 0, none⟩ : Addr).add (x_11.toNat * 1))))] a_76 := f_127.keep (ks := [0, 1, 2, 9, 10, 103, 104, 105, 106, 107, 108]) (by kernel_rfl)
                        refine W_end rfl ?_
                        refine B_n ?_
                        refine T_n ?_
                        refine R_reg ?_
                        refine W_run (L' := [(0, .slice A0 d0.length cap0), (1, .slice A1 d1.length cap1), (2, .bool d2), (9, .slice A_5 (s_2.1.set x_11.toNat (3 : Int)).length cap_5), (43, .int .i64 s_2.2)]) (w' := w_16) f_128 1 [0, 1, 2, 9, 43] (by kernel_rfl) (fun a_77 f_129 => ?_)
                        obtain ⟨g_7, hF_46⟩ := need_some hF_45
                        refine W_run (L' := [(0, .slice A0 d0.length cap0), (1, .slice A1 d1.length cap1), (2, .bool d2), (9, .slice A_5 (s_2.1.set x_11.toNat (3 : Int)).length cap_5), (43, .int .i64 s_2.2), (44, .int .i64 (IntKind.wrap .i64 (s_2.2 + 1)))]) (w' := w_16) f_129 1 [0, 1, 2, 9, 43, 44] (by kernel_rfl) (fun a_78 f_130 => ?_)
                        have f_131 := Frm.set f_130 44 (v := .int .i64 (IntKind.wrap .i64 (s_2.2 + 1))) (v' := .int .i64 (s_2.2 + 1)) (by kernel_rfl) (congrArg (Value.int .i64) (inR_wrap g_7))
                        have f_132 : Frm 125 [(0, .slice A0 d0.length cap0), (1, .slice A1 d1.length cap1), (2, .bool d2), (9, .slice A_5 (s_2.1.set x_11.toNat (3 : Int)).length cap_5), (43, .int .i64 s_2.2), (44, .int .i64 (s_2.2 + 1))] a_78 := f_131.keep (ks := [0, 1, 2, 9, 43, 44]) (by kernel_rfl)
                        refine W_run (L' := [(0, .slice A0 d0.length cap0), (1, .slice A1 d1.length cap1), (2, .bool d2), (9, .slice A_5 (s_2.1.set x_11.toNat (3 : Int)).length cap_5), (10, .int .i64 (s_2.2 + 1))]) (w' := w_16) f_132 1 [0, 1, 2, 9, 10] (by kernel_rfl) (fun a_79 f_133 => ?_)
                        refine W_end rfl ?_
                        have p_25 : Hp w0 M_11 ((Ent.row 3 1 (.slice A_1 x_3.1.length cap_1) x_3.1.length cs_1) :: (Ent.row 30 1 (.slice A_5 (s_2.1.set x_11.toNat (3 : Int)).length cap_5) (s_2.1.set x_11.toNat (3 : Int)).length (cs_5.set x_11.toNat (.int .i8 3))) :: (Ent.row 3 1 (.slice A_7 x_5.1.length cap_7) x_5.1.length cs_6) :: H) w_16 := p_22.pull 2 rfl rfl
                        have p_26 : Hp w0 M_11 ((Ent.row 30 1 (.slice A_5 (s_2.1.set x_11.toNat (3 : Int)).length cap_5) (s_2.1.set x_11.toNat (3 : Int)).length (cs_5.set x_11.toNat (.int .i8 3))) :: (Ent.row 3 1 (.slice A_1 x_3.1.length cap_1) x_3.1.length cs_1) :: (Ent.row 3 1 (.slice A_7 x_5.1.length cap_7) x_5.1.length cs_6) :: H) w_16 := p_25.pull 1 rfl rfl
                        have p_27 : Hp w0 M_11 ((Ent.row 3 1 (.slice A_7 x_5.1.length cap_7) x_5.1.length cs_6) :: (Ent.row 30 1 (.slice A_5 (s_2.1.set x_11.toNat (3 : Int)).length cap_5) (s_2.1.set x_11.toNat (3 : Int)).length (cs_5.set x_11.toNat (.int .i8 3))) :: (Ent.row 3 1 (.slice A_1 x_3.1.length cap_1) x_3.1.length cs_1) :: H) w_16 := p_26.pull 2 rfl rfl
                        refine T_n ?_
                        obtain rfl := Option.some.inj hF_46
                        exact ⟨⟨m_4, (s_2.1.set x_11.toNat (3 : Int), s_2.2 + 1), A_5, cap_5, cs_5.set x_11.toNat (.int .i8 3)⟩, Nat.lt_succ_self _, M_11, ((((hM_5.trans hM_8).trans hM_9).trans hM_10).trans hM_11), ⟨hn_2, hr_16⟩, f_133.keep (ks := [0, 1, 2, 9, 10]) (by kernel_rfl), (p_27.dropN 1)⟩
            · have k_22 : ¬ (s_2.2 < ((d0.length : Nat) : Int)) := iff_f decide_eq_true_iff h_5
              have hF_47 := cnd_f h_5 hs_2
              refine wp_exit ?_
              refine T_x ?_
              refine T_x ?_
              obtain rfl := Option.some.inj hF_47
              exact .inr ⟨rfl, s_2.1, (Option.some.inj hn_2).symm, M_5, hM_5, A_5, cap_5, cs_5, hr_6, f_35.keep (ks := [0, 9]) (by kernel_rfl), p_14⟩
          · rintro _ a_82 w_19 (⟨rfl, y_6, rfl, M_12, hM_12, f_134, p_23⟩ | ⟨rfl, y_7, rfl, M_13, hM_13, A_8, cap_14, cs_7, hr_17, f_135, p_24⟩)
            · refine B_r ?_
              refine T_r ?_
              refine E_ret1 f_134 rfl (by kernel_rfl : Vc.look _ 6 = some (.bool false)) ?_
              obtain rfl := Option.some.inj hF_17
              exact ⟨_, rfl, M_12, (((hM_1.trans hM_2).trans hM_4).trans hM_12), (p_23.dropN 1), rfl⟩
            · refine B_x ?_
              refine T_n ?_
              refine R_seq ?_
              refine R_reg ?_
              refine W_run (L' := [(0, .slice A0 d0.length cap0), (109, .slice A_8 y_7.length cap_14)]) (w' := w_19) f_135 1 [0, 109] (by kernel_rfl) (fun a_83 f_136 => ?_)
              obtain ⟨M_14, A_9, cap_15, hM_14, hv_8, p_28, h_13, hb_2⟩ := p_24.lend (f := (Dat.int .i8)) (xs := y_7) (szd_int .i8) hr_17
              have f_137 := Frm.set f_136 109 (v := .slice A_8 y_7.length cap_14) (v' := .slice A_9 y_7.length cap_15) (by kernel_rfl) (hv_8)
              have f_138 : Frm 125 [(0, .slice A0 d0.length cap0), (109, .slice A_9 y_7.length cap_15)] a_83 := f_137.keep (ks := [0, 109]) (by kernel_rfl)
              obtain ⟨x_13, hx_13, hF_48⟩ := bind_some' hF_17
              refine W_okv (v := .bool x_13) f_138 p_28 (by kernel_rfl) (by kernel_rfl) rfl rfl (fun _ => by kernel_rfl) (ready_Over_ok n _ A_9 cap_15 y_7 h_13 x_13 hx_13) (fun w_20 p_29 a_84 f_139 => ?_)
              obtain ⟨M_15, hM_15, p_30⟩ := hb_2 _ _ _ (Mem.le_refl _) p_29
              have f_140 := Frm.set f_139 109 (v := .slice A_9 y_7.length cap_15) (v' := .slice A_8 y_7.length cap_14) (by kernel_rfl) (hv_8.symm)
              have f_141 : Frm 125 [(0, .slice A0 d0.length cap0), (109, .slice A_8 y_7.length cap_14), (110, .bool x_13)] a_84 := f_140.keep (ks := [0, 109, 110]) (by kernel_rfl)
              refine W_run (L' := [(0, .slice A0 d0.length cap0), (111, .bool x_13)]) (w' := w_20) f_141 1 [0, 111] (by kernel_rfl) (fun a_85 f_142 => ?_)
              rcases Bool.eq_false_or_eq_true (x_13) with h_14 | h_14
              · have hF_49 := cnd_t h_14 hF_48
                have f_143 := Frm.set f_142 111 (v := .bool x_13) (v' := .bool true) (by kernel_rfl) (congrArg Value.bool h_14)
                have f_144 : Frm 125 [(0, .slice A0 d0.length cap0), (111, .bool true)] a_85 := f_143.keep (ks := [0, 111]) (by kernel_rfl)
                refine W_run (L' := [(0, .slice A0 d0.length cap0), (111, .bool true), (112, .slice A0 d0.length cap0)]) (w' := w_20) f_144 1 [0, 111, 112] (by kernel_rfl) (fun a_86 f_145 => ?_)
                obtain ⟨x_14, hx_14, hF_50⟩ := bind_some' hF_49
                refine W_ok f_145 p_30 (by kernel_rfl) (by kernel_rfl) rfl rfl (fun _ => by kernel_rfl) (deps_Turned_ok n _ A0 cap0 d0 (h0.mono ((((hM_1.trans hM_2).trans hM_4).trans hM_13).trans hM_15)) x_14 hx_14) (fun u_3 M_16 w_21 hM_16 p_31 q_3 a_87 f_146 => ?_)
                obtain ⟨A_10, cap_16, rfl, h_15⟩ := q_3
                obtain ⟨x_15, hx_15, hF_51⟩ := bind_some' hF_50
                refine W_ok f_146 p_31 (by kernel_rfl) (by kernel_rfl) rfl rfl (fun _ => by kernel_rfl) (deps_Turned_ok n _ A_10 cap_16 x_14 h_15 x_15 hx_15) (fun u_4 M_17 w_22 hM_17 p_32 q_4 a_88 f_147 => ?_)
                obtain ⟨A_11, cap_17, rfl, h_16⟩ := q_4
                refine W_run (L' := [(111, .bool true), (114, .slice A_11 x_15.length cap_17), (115, .slice A0 d0.length cap0)]) (w' := w_22) f_147 1 [111, 114, 115] (by kernel_rfl) (fun a_89 f_148 => ?_)
                obtain ⟨x_16, hx_16, hF_52⟩ := bind_some' hF_51
                refine W_ok f_148 p_32 (by kernel_rfl) (by kernel_rfl) rfl rfl (fun _ => by kernel_rfl) (deps_Turned_ok n _ A0 cap0 d0 (h0.mono ((((((hM_1.trans hM_2).trans hM_4).trans hM_13).trans hM_15).trans hM_16).trans hM_17)) x_16 hx_16) (fun u_5 M_18 w_23 hM_18 p_33 q_5 a_90 f_149 => ?_)
                obtain ⟨A_12, cap_18, rfl, h_17⟩ := q_5
                obtain ⟨x_17, hx_17, hF_53⟩ := bind_some' hF_52
                refine W_ok f_149 p_33 (by kernel_rfl) (by kernel_rfl) rfl rfl (fun _ => by kernel_rfl) (deps_Turned_ok n _ A_12 cap_18 x_16 h_17 x_17 hx_17) (fun u_6 M_19 w_24 hM_19 p_34 q_6 a_91 f_150 => ?_)
                obtain ⟨A_13, cap_19, rfl, h_18⟩ := q_6
                obtain ⟨x_18, hx_18, hF_54⟩ := bind_some' hF_53
                refine W_ok f_150 p_34 (by kernel_rfl) (by kernel_rfl) rfl rfl (fun _ => by kernel_rfl) (deps_Turned_ok n _ A_13 cap_19 x_17 h_18 x_18 hx_18) (fun u_7 M_20 w_25 hM_20 p_35 q_7 a_92 f_151 => ?_)
                obtain ⟨A_14, cap_20, rfl, h_19⟩ := q_7
                obtain ⟨x_19, hx_19, hF_55⟩ := bind_some' hF_54
                refine W_ok f_151 p_35 (by kernel_rfl) (by kernel_rfl) rfl rfl (fun _ => by kernel_rfl) (deps_Turned_ok n _ A_14 cap_20 x_18 h_19 x_19 hx_19) (fun u_8 M_21 w_26 hM_21 p_36 q_8 a_93 f_152 => ?_)
                obtain ⟨A_15, cap_21, rfl, h_20⟩ := q_8
                obtain ⟨x_20, hx_20, hF_56⟩ := bind_some' hF_55
                refine W_okv (v := .bool x_20) f_152 p_36 (by kernel_rfl) (by kernel_rfl) rfl rfl (fun _ => by kernel_rfl) (ref19_Same_ok n _ A_11 cap_17 x_15 (h_16.mono (((hM_18.trans hM_19).trans hM_20).trans hM_21)) A_15 cap_21 x_19 h_20 x_20 hx_20) (fun w_27 p_37 a_94 f_153 => ?_)
                refine W_run (L' := [(122, .bool x_20)]) (w' := w_27) f_153 2 [122] (by kernel_rfl) (fun a_95 f_154 => ?_)
                rcases Bool.eq_false_or_eq_true (x_20) with h_21 | h_21
                · have hF_57 := cnd_t h_21 hF_56
                  have f_155 := Frm.set f_154 122 (v := .bool x_20) (v' := .bool true) (by kernel_rfl) (congrArg Value.bool h_21)
                  have f_156 : Frm 125 [(122, .bool true)] a_95 := f_155.keep (ks := [122]) (by kernel_rfl)
                  obtain ⟨x_21, hx_21, hF_58⟩ := bind_some' hF_57
                  refine W_okv (v := .bool x_21) f_156 p_37 (by kernel_rfl) (by kernel_rfl) rfl rfl (fun _ => by kernel_rfl) (law21_wakes_ok n _  x_21 hx_21) (fun w_28 p_38 a_96 f_157 => ?_)
                  refine W_run (L' := [(6, .bool x_21)]) (w' := w_28) f_157 2 [6] (by kernel_rfl) (fun a_97 f_158 => ?_)
                  refine W_end rfl ?_
                  refine T_n ?_
                  refine wp_ret ?_
                  refine E_ret1 f_158 rfl (by kernel_rfl : Vc.look _ 6 = some (.bool x_21)) ?_
                  obtain rfl := Option.some.inj hF_58
                  exact ⟨_, rfl, M_21, ((((((((((hM_1.trans hM_2).trans hM_4).trans hM_13).trans hM_15).trans hM_16).trans hM_17).trans hM_18).trans hM_19).trans hM_20).trans hM_21), (p_38.dropN 2), rfl⟩
                · have hF_59 := cnd_f h_21 hF_56
                  have f_159 := Frm.set f_154 122 (v := .bool x_20) (v' := .bool false) (by kernel_rfl) (congrArg Value.bool h_21)
                  have f_160 : Frm 125 [(122, .bool false)] a_95 := f_159.keep (ks := [122]) (by kernel_rfl)
                  refine W_run (L' := [(6, .bool false)]) (w' := w_27) f_160 3 [6] (by kernel_rfl) (fun a_98 f_161 => ?_)
                  refine W_end rfl ?_
                  refine T_n ?_
                  refine wp_ret ?_
                  refine E_ret1 f_161 rfl (by kernel_rfl : Vc.look _ 6 = some (.bool false)) ?_
                  obtain rfl := Option.some.inj hF_59
                  exact ⟨_, rfl, M_21, ((((((((((hM_1.trans hM_2).trans hM_4).trans hM_13).trans hM_15).trans hM_16).trans hM_17).trans hM_18).trans hM_19).trans hM_20).trans hM_21), (p_37.dropN 2), rfl⟩
              · have hF_60 := cnd_f h_14 hF_48
                have f_162 := Frm.set f_142 111 (v := .bool x_13) (v' := .bool false) (by kernel_rfl) (congrArg Value.bool h_14)
                have f_163 : Frm 125 [(0, .slice A0 d0.length cap0), (111, .bool false)] a_85 := f_162.keep (ks := [0, 111]) (by kernel_rfl)
                refine W_run (L' := [(6, .bool false)]) (w' := w_20) f_163 14 [6] (by kernel_rfl) (fun a_99 f_164 => ?_)
                refine W_end rfl ?_
                refine T_n ?_
                refine wp_ret ?_
                refine E_ret1 f_164 rfl (by kernel_rfl : Vc.look _ 6 = some (.bool false)) ?_
                obtain rfl := Option.some.inj hF_60
                exact ⟨_, rfl, M_15, ((((hM_1.trans hM_2).trans hM_4).trans hM_13).trans hM_15), (p_30.dropN 2), rfl⟩
end Go.Proofs.Ytoonlehffohpaaa
