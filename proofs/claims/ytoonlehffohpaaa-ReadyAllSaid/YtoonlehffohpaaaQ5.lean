/-
  Printed by a program: of each function its shallow reading, and the proof that the function gives what the reading gives. No condition.
-/
import Derived.Test.YtoonlehffohpaaaQ4
set_option linter.unusedVariables false
set_option linter.unusedSimpArgs false
namespace Go.Proofs.Ytoonlehffohpaaa
open Go Go.Vc Go.RowKit
def law21_ReadyLess_s1 (n : Nat) (d0 : List (List Int)) (d2 : Int) (d3 : Int) (s_1 : List (List Int) × Int) : Option (Lp (List (List Int) × Int) (List (List Int))) :=
    bif (decide (s_1.2 < ((d0.length : Nat) : Int))) then
      ((getI d0 s_1.2).bind fun x_5 =>
      need ((([] : List Int).length + x_5.length) * 8 ≤ 140737488355328) <|
      ((bif (decide (s_1.2 = (((d2.tmod ((d0.length : Nat) : Int)) + ((d0.length : Nat) : Int)).tmod ((d0.length : Nat) : Int)))) then
          (some ((decide ((0 : Int) < (((([] : List Int) ++ x_5).length : Nat) : Int)))))
        else
          some ((false)) : Option Bool)).bind fun y_2 =>
      ((bif y_2 then
          (need ((((([] : List Int) ++ x_5).length : Nat) : Int) ≠ 0) <|
          need (inR .i64 ((d3.tmod (((([] : List Int) ++ x_5).length : Nat) : Int)) + (((([] : List Int) ++ x_5).length : Nat) : Int))) <|
          need ((((([] : List Int) ++ x_5).length : Nat) : Int) ≠ 0) <|
          need (0 ≤ (((d3.tmod (((([] : List Int) ++ x_5).length : Nat) : Int)) + (((([] : List Int) ++ x_5).length : Nat) : Int)).tmod (((([] : List Int) ++ x_5).length : Nat) : Int)) ∧ (((d3.tmod (((([] : List Int) ++ x_5).length : Nat) : Int)) + (((([] : List Int) ++ x_5).length : Nat) : Int)).tmod (((([] : List Int) ++ x_5).length : Nat) : Int)) ≤ ((([] : List Int) ++ x_5).length : Int)) <|
          need (inR .i64 ((((d3.tmod (((([] : List Int) ++ x_5).length : Nat) : Int)) + (((([] : List Int) ++ x_5).length : Nat) : Int)).tmod (((([] : List Int) ++ x_5).length : Nat) : Int)) + 1)) <|
          need (0 ≤ ((((d3.tmod (((([] : List Int) ++ x_5).length : Nat) : Int)) + (((([] : List Int) ++ x_5).length : Nat) : Int)).tmod (((([] : List Int) ++ x_5).length : Nat) : Int)) + 1) ∧ ((((d3.tmod (((([] : List Int) ++ x_5).length : Nat) : Int)) + (((([] : List Int) ++ x_5).length : Nat) : Int)).tmod (((([] : List Int) ++ x_5).length : Nat) : Int)) + 1) ≤ ((([] : List Int) ++ x_5).length : Int)) <|
          need (((((d3.tmod (((([] : List Int) ++ x_5).length : Nat) : Int)) + (((([] : List Int) ++ x_5).length : Nat) : Int)).tmod (((([] : List Int) ++ x_5).length : Nat) : Int)) + 1).toNat = (((d3.tmod (((([] : List Int) ++ x_5).length : Nat) : Int)) + (((([] : List Int) ++ x_5).length : Nat) : Int)).tmod (((([] : List Int) ++ x_5).length : Nat) : Int)).toNat + 1 ∧ (((d3.tmod (((([] : List Int) ++ x_5).length : Nat) : Int)) + (((([] : List Int) ++ x_5).length : Nat) : Int)).tmod (((([] : List Int) ++ x_5).length : Nat) : Int)).toNat < (([] : List Int) ++ x_5).length) <|
          some ((([] : List Int) ++ x_5).take (((d3.tmod (((([] : List Int) ++ x_5).length : Nat) : Int)) + (((([] : List Int) ++ x_5).length : Nat) : Int)).tmod (((([] : List Int) ++ x_5).length : Nat) : Int)).toNat ++ (([] : List Int) ++ x_5).drop ((((d3.tmod (((([] : List Int) ++ x_5).length : Nat) : Int)) + (((([] : List Int) ++ x_5).length : Nat) : Int)).tmod (((([] : List Int) ++ x_5).length : Nat) : Int)).toNat + 1)))
        else
          some (([] : List Int) ++ x_5) : Option (List Int))).bind fun y_3 =>
      need ((s_1.1.length + 1) * 24 ≤ 140737488355328) <|
      need (inR .i64 (s_1.2 + 1)) <|
      some (.nx (s_1.1 ++ [y_3], s_1.2 + 1)))
    else
      some (.br s_1.1)
def law21_ReadyLess (n : Nat) (d0 : List (List Int)) (d1 : List Int) (d2 : Int) (d3 : Int) (d4 : Int) (d5 : Bool) : Option Bool :=
  (((ref21_Great n d0).bind fun x_1 =>
    bif x_1 then
      (some ((true)))
    else
      bif (decide (((d0.length : Nat) : Int) = 0)) then
        (some ((true)))
      else
        some ((!(decide (((d1.length : Nat) : Int) = ((d0.length : Nat) : Int))))) : Option Bool)).bind fun y_1 =>
  bif y_1 then
    ((law21_wakes n).bind fun x_2 =>
    some ((x_2)))
  else
    (ready_Ready n d0 d1 (d5)).bind fun x_3 =>
    bif (!(decide (x_3.2 = 0))) then
      ((law21_wakes n).bind fun x_4 =>
      some ((x_4)))
    else
      need (((d0.length : Nat) : Int) ≠ 0) <|
      need (inR .i64 ((d2.tmod ((d0.length : Nat) : Int)) + ((d0.length : Nat) : Int))) <|
      need (((d0.length : Nat) : Int) ≠ 0) <|
      need (((d0.length : Nat) : Int) ≠ 0) <|
      need (inR .i64 ((d4.tmod ((d0.length : Nat) : Int)) + ((d0.length : Nat) : Int))) <|
      need (((d0.length : Nat) : Int) ≠ 0) <|
      (loopF (law21_ReadyLess_s1 n d0 d2 d3) n (([] : List (List Int)), (0 : Int))).bind fun y_4 =>
      (ready_Ready n y_4 d1 (d5)).bind fun x_6 =>
      need ((([] : List Int).length + d1.length) * 1 ≤ 140737488355328) <|
      (getI (([] : List Int) ++ d1) (((d4.tmod ((d0.length : Nat) : Int)) + ((d0.length : Nat) : Int)).tmod ((d0.length : Nat) : Int))).bind fun x_7 =>
      ((bif (decide (x_7 = 2)) then
          ((getI (([] : List Int) ++ d1) (((d4.tmod ((d0.length : Nat) : Int)) + ((d0.length : Nat) : Int)).tmod ((d0.length : Nat) : Int))).bind fun x_8 =>
          some ((([] : List Int) ++ d1).set (((d4.tmod ((d0.length : Nat) : Int)) + ((d0.length : Nat) : Int)).tmod ((d0.length : Nat) : Int)).toNat (3 : Int)))
        else
          some (([] : List Int) ++ d1) : Option (List Int))).bind fun y_5 =>
      (ready_Ready n d0 y_5 (d5)).bind fun x_9 =>
      bif (decide (x_6.2 = 0)) then
        (bif (decide (x_9.2 = 0)) then
          ((law21_within n x_3.1 x_6.1).bind fun x_10 =>
          bif x_10 then
            ((law21_within n x_3.1 x_9.1).bind fun x_11 =>
            bif x_11 then
              ((law21_wakes n).bind fun x_12 =>
              some ((x_12)))
            else
              some ((false)))
          else
            some ((false)))
        else
          some ((false)))
      else
        some ((false))
theorem law21_ReadyLess_ok (n : Nat) (M : Mem) (A0 : Option Addr) (cap0 : Nat) (d0 : List (List Int)) (h0 : Sli M 1 (eL 1 (Dat.int .i64)) A0 cap0 d0) (A1 : Option Addr) (cap1 : Nat) (d1 : List Int) (h1 : Sli M 1 (Dat.int .i8) A1 cap1 d1) (d2 : Int) (d3 : Int) (d4 : Int) (d5 : Bool) (r : Bool) (hF : law21_ReadyLess n d0 d1 d2 d3 d4 d5 = some r) : Ok Try.prog M 3 [.slice A0 d0.length cap0, .slice A1 d1.length cap1, .int .i64 d2, .int .i64 d3, .int .i64 d4, .bool d5] (fun _ v => v = .bool r) := by
  unfold law21_ReadyLess at hF
  intro M1 hM0 w0 H w p0
  replace h0 := h0.mono hM0
  replace h1 := h1.mono hM0
  refine R_enter 152 Try.func3 rfl rfl (by simp) (fun a0 f0 => ?_)
  replace f0 : Frm 152 [(0, .slice A0 d0.length cap0), (1, .slice A1 d1.length cap1), (2, .int .i64 d2), (3, .int .i64 d3), (4, .int .i64 d4), (5, .bool d5)] a0 := f0
  refine R_seq ?_
  refine R_reg ?_
  refine W_run (L' := [(0, .slice A0 d0.length cap0), (1, .slice A1 d1.length cap1), (2, .int .i64 d2), (3, .int .i64 d3), (4, .int .i64 d4), (5, .bool d5)]) (w' := w) f0 1 [0, 1, 2, 3, 4, 5] (by kernel_rfl) (fun a_1 f_1 => ?_)
  refine W_end rfl ?_
  refine T_n ?_
  refine R_seq ?_
  refine R_seq ?_
  obtain ⟨j_1, hj_1, hF_1⟩ := bind_some' hF
  refine R_mid (fun a_9 w_2 => ∃ y_1 : Bool, j_1 = y_1 ∧ ∃ M_1 : Mem, M1.le M_1 ∧ Frm 152 [(0, .slice A0 d0.length cap0), (1, .slice A1 d1.length cap1), (2, .int .i64 d2), (3, .int .i64 d3), (4, .int .i64 d4), (5, .bool d5), (39, .bool y_1)] a_9 ∧ Hp w0 M_1 (H) w_2) ?_ ?_
  · refine R_reg ?_
    refine W_run (L' := [(0, .slice A0 d0.length cap0), (1, .slice A1 d1.length cap1), (2, .int .i64 d2), (3, .int .i64 d3), (4, .int .i64 d4), (5, .bool d5), (26, .slice A0 d0.length cap0)]) (w' := w) f_1 1 [0, 1, 2, 3, 4, 5, 26] (by kernel_rfl) (fun a_2 f_2 => ?_)
    obtain ⟨x_1, hx_1, hF_2⟩ := bind_some' hj_1
    refine W_okv (v := .bool x_1) f_2 p0 (by kernel_rfl) (by kernel_rfl) rfl rfl (fun _ => by kernel_rfl) (ref21_Great_ok n _ A0 cap0 d0 h0 x_1 hx_1) (fun w_1 p_1 a_3 f_3 => ?_)
    refine W_run (L' := [(0, .slice A0 d0.length cap0), (1, .slice A1 d1.length cap1), (2, .int .i64 d2), (3, .int .i64 d3), (4, .int .i64 d4), (5, .bool d5), (28, .bool x_1)]) (w' := w_1) f_3 1 [0, 1, 2, 3, 4, 5, 28] (by kernel_rfl) (fun a_4 f_4 => ?_)
    rcases Bool.eq_false_or_eq_true (x_1) with h_1 | h_1
    · have hF_3 := cnd_t h_1 hF_2
      have f_5 := Frm.set f_4 28 (v := .bool x_1) (v' := .bool true) (by kernel_rfl) (congrArg Value.bool h_1)
      have f_6 : Frm 152 [(0, .slice A0 d0.length cap0), (1, .slice A1 d1.length cap1), (2, .int .i64 d2), (3, .int .i64 d3), (4, .int .i64 d4), (5, .bool d5), (28, .bool true)] a_4 := f_5.keep (ks := [0, 1, 2, 3, 4, 5, 28]) (by kernel_rfl)
      refine W_run (L' := [(0, .slice A0 d0.length cap0), (1, .slice A1 d1.length cap1), (2, .int .i64 d2), (3, .int .i64 d3), (4, .int .i64 d4), (5, .bool d5), (39, .bool true)]) (w' := w_1) f_6 11 [0, 1, 2, 3, 4, 5, 39] (by kernel_rfl) (fun a_5 f_7 => ?_)
      refine W_end rfl ?_
      refine T_n ?_
      exact ⟨(true), (Option.some.inj hF_3).symm, M1, (Mem.le_refl _), f_7.keep (ks := [0, 1, 2, 3, 4, 5, 39]) (by kernel_rfl), p_1⟩
    · have hF_4 := cnd_f h_1 hF_2
      have f_8 := Frm.set f_4 28 (v := .bool x_1) (v' := .bool false) (by kernel_rfl) (congrArg Value.bool h_1)
      have f_9 : Frm 152 [(0, .slice A0 d0.length cap0), (1, .slice A1 d1.length cap1), (2, .int .i64 d2), (3, .int .i64 d3), (4, .int .i64 d4), (5, .bool d5), (28, .bool false)] a_4 := f_8.keep (ks := [0, 1, 2, 3, 4, 5, 28]) (by kernel_rfl)
      refine W_run (L' := [(0, .slice A0 d0.length cap0), (1, .slice A1 d1.length cap1), (2, .int .i64 d2), (3, .int .i64 d3), (4, .int .i64 d4), (5, .bool d5), (33, .bool (decide (((d0.length : Nat) : Int) = 0)))]) (w' := w_1) f_9 5 [0, 1, 2, 3, 4, 5, 33] (by kernel_rfl) (fun a_6 f_10 => ?_)
      rcases Bool.eq_false_or_eq_true (decide (((d0.length : Nat) : Int) = 0)) with h_2 | h_2
      · have k_3 : ((d0.length : Nat) : Int) = 0 := decide_eq_true_iff.1 h_2
        have hF_5 := cnd_t h_2 hF_4
        have f_11 := Frm.set f_10 33 (v := .bool (decide (((d0.length : Nat) : Int) = 0))) (v' := .bool true) (by kernel_rfl) (congrArg Value.bool h_2)
        have f_12 : Frm 152 [(0, .slice A0 d0.length cap0), (1, .slice A1 d1.length cap1), (2, .int .i64 d2), (3, .int .i64 d3), (4, .int .i64 d4), (5, .bool d5), (33, .bool true)] a_6 := f_11.keep (ks := [0, 1, 2, 3, 4, 5, 33]) (by kernel_rfl)
        refine W_run (L' := [(0, .slice A0 d0.length cap0), (1, .slice A1 d1.length cap1), (2, .int .i64 d2), (3, .int .i64 d3), (4, .int .i64 d4), (5, .bool d5), (39, .bool true)]) (w' := w_1) f_12 6 [0, 1, 2, 3, 4, 5, 39] (by kernel_rfl) (fun a_7 f_13 => ?_)
        refine W_end rfl ?_
        refine T_n ?_
        exact ⟨(true), (Option.some.inj hF_5).symm, M1, (Mem.le_refl _), f_13.keep (ks := [0, 1, 2, 3, 4, 5, 39]) (by kernel_rfl), p_1⟩
      · have k_4 : ¬ (((d0.length : Nat) : Int) = 0) := iff_f decide_eq_true_iff h_2
        have hF_6 := cnd_f h_2 hF_4
        have f_14 := Frm.set f_10 33 (v := .bool (decide (((d0.length : Nat) : Int) = 0))) (v' := .bool false) (by kernel_rfl) (congrArg Value.bool h_2)
        have f_15 : Frm 152 [(0, .slice A0 d0.length cap0), (1, .slice A1 d1.length cap1), (2, .int .i64 d2), (3, .int .i64 d3), (4, .int .i64 d4), (5, .bool d5), (33, .bool false)] a_6 := f_14.keep (ks := [0, 1, 2, 3, 4, 5, 33]) (by kernel_rfl)
        refine W_run (L' := [(0, .slice A0 d0.length cap0), (1, .slice A1 d1.length cap1), (2, .int .i64 d2), (3, .int .i64 d3), (4, .int .i64 d4), (5, .bool d5), (39, .bool (!(decide (((d1.length : Nat) : Int) = ((d0.length : Nat) : Int)))))]) (w' := w_1) f_15 6 [0, 1, 2, 3, 4, 5, 39] (by kernel_rfl) (fun a_8 f_16 => ?_)
        refine W_end rfl ?_
        refine T_n ?_
        exact ⟨(!(decide (((d1.length : Nat) : Int) = ((d0.length : Nat) : Int)))), (Option.some.inj hF_6).symm, M1, (Mem.le_refl _), f_16.keep (ks := [0, 1, 2, 3, 4, 5, 39]) (by kernel_rfl), p_1⟩
  · rintro a_9 w_2 ⟨y_1, hq_1, M_1, hM_1, f_17, p_2⟩
    subst j_1
    refine T_n ?_
    refine R_cond f_17 (b := y_1) (by kernel_rfl) (by kernel_rfl) (fun h_3 => ?_) (fun h_3 => ?_)
    · have hF_7 := cnd_t h_3 hF_1
      refine R_seq ?_
      refine R_reg ?_
      obtain ⟨x_2, hx_2, hF_8⟩ := bind_some' hF_7
      refine W_okv (v := .bool x_2) f_17 p_2 (by kernel_rfl) (by kernel_rfl) rfl rfl (fun _ => by kernel_rfl) (law21_wakes_ok n _  x_2 hx_2) (fun w_3 p_3 a_10 f_18 => ?_)
      refine W_run (L' := [(12, .bool x_2)]) (w' := w_3) f_18 1 [12] (by kernel_rfl) (fun a_11 f_19 => ?_)
      refine W_end rfl ?_
      refine T_n ?_
      refine wp_ret ?_
      refine T_r ?_
      refine E_ret1 f_19 rfl (by kernel_rfl : Vc.look _ 12 = some (.bool x_2)) ?_
      obtain rfl := Option.some.inj hF_8
      exact ⟨_, rfl, M_1, hM_1, p_3, rfl⟩
    · have hF_9 := cnd_f h_3 hF_1
      refine wp_skip ?_
      refine T_n ?_
      refine R_seq ?_
      refine R_reg ?_
      refine W_run (L' := [(0, .slice A0 d0.length cap0), (1, .slice A1 d1.length cap1), (2, .int .i64 d2), (3, .int .i64 d3), (4, .int .i64 d4), (5, .bool d5), (42, .slice A0 d0.length cap0), (43, .slice A1 d1.length cap1), (44, .bool d5)]) (w' := w_2) f_17 3 [0, 1, 2, 3, 4, 5, 42, 43, 44] (by kernel_rfl) (fun a_12 f_20 => ?_)
      obtain ⟨x_3, hx_3, hF_10⟩ := bind_some' hF_9
      refine W_okH (E := []) (H := (H)) f_20 p_2 (by kernel_rfl) (by kernel_rfl) rfl rfl (fun _ => by kernel_rfl) (ready_Ready_ok n _ A0 cap0 d0 (h0.mono hM_1) A1 cap1 d1 (h1.mono hM_1) (d5) x_3 hx_3) (fun u_1 M_2 E_1 w_4 hM_2 p_4 q_1 a_13 f_21 => ?_)
      obtain ⟨A_1, cap_1, cs_1, rfl, rfl, hr_1⟩ := q_1
      replace p_4 : Hp w0 M_2 ((Ent.row 3 1 (.slice A_1 x_3.1.length cap_1) x_3.1.length cs_1) :: H) w_4 := p_4
      refine W_run (L' := [(0, .slice A0 d0.length cap0), (1, .slice A1 d1.length cap1), (2, .int .i64 d2), (3, .int .i64 d3), (4, .int .i64 d4), (5, .bool d5), (13, .slice A_1 x_3.1.length cap_1), (14, .int .i64 x_3.2)]) (w' := w_4) f_21 5 [0, 1, 2, 3, 4, 5, 13, 14] (by kernel_rfl) (fun a_14 f_22 => ?_)
      refine W_end rfl ?_
      refine T_n ?_
      refine R_seq ?_
      refine R_seq ?_
      refine R_reg ?_
      refine W_run (L' := [(0, .slice A0 d0.length cap0), (1, .slice A1 d1.length cap1), (2, .int .i64 d2), (3, .int .i64 d3), (4, .int .i64 d4), (5, .bool d5), (13, .slice A_1 x_3.1.length cap_1), (49, .bool (!(decide (x_3.2 = 0))))]) (w' := w_4) f_22 2 [0, 1, 2, 3, 4, 5, 13, 49] (by kernel_rfl) (fun a_15 f_23 => ?_)
      refine W_end rfl ?_
      refine T_n ?_
      refine R_cond f_23 (b := !(decide (x_3.2 = 0))) (by kernel_rfl) (by kernel_rfl) (fun h_4 => ?_) (fun h_4 => ?_)
      · have k_7 : ¬ (x_3.2 = 0) := (not_iff decide_eq_true_iff).1 h_4
        have hF_11 := cnd_t h_4 hF_10
        refine R_seq ?_
        refine R_reg ?_
        obtain ⟨x_4, hx_4, hF_12⟩ := bind_some' hF_11
        refine W_okv (v := .bool x_4) f_23 p_4 (by kernel_rfl) (by kernel_rfl) rfl rfl (fun _ => by kernel_rfl) (law21_wakes_ok n _  x_4 hx_4) (fun w_5 p_5 a_16 f_24 => ?_)
        refine W_run (L' := [(12, .bool x_4)]) (w' := w_5) f_24 1 [12] (by kernel_rfl) (fun a_17 f_25 => ?_)
        refine W_end rfl ?_
        refine T_n ?_
        refine wp_ret ?_
        refine T_r ?_
        refine E_ret1 f_25 rfl (by kernel_rfl : Vc.look _ 12 = some (.bool x_4)) ?_
        obtain rfl := Option.some.inj hF_12
        exact ⟨_, rfl, M_2, (hM_1.trans hM_2), (p_5.dropN 1), rfl⟩
      · have k_8 : ¬ (¬ (x_3.2 = 0)) := iff_f (not_iff decide_eq_true_iff) h_4
        have hF_13 := cnd_f h_4 hF_10
        refine wp_skip ?_
        refine T_n ?_
        refine R_seq ?_
        refine R_reg ?_
        refine W_run (L' := [(0, .slice A0 d0.length cap0), (1, .slice A1 d1.length cap1), (2, .int .i64 d2), (3, .int .i64 d3), (4, .int .i64 d4), (5, .bool d5), (13, .slice A_1 x_3.1.length cap_1), (15, .int .i64 ((d0.length : Nat) : Int))]) (w' := w_4) f_23 3 [0, 1, 2, 3, 4, 5, 13, 15] (by kernel_rfl) (fun a_18 f_26 => ?_)
        refine W_end rfl ?_
        refine T_n ?_
        refine R_seq ?_
        refine R_reg ?_
        refine W_run (L' := [(0, .slice A0 d0.length cap0), (1, .slice A1 d1.length cap1), (3, .int .i64 d3), (4, .int .i64 d4), (5, .bool d5), (13, .slice A_1 x_3.1.length cap_1), (15, .int .i64 ((d0.length : Nat) : Int)), (53, .int .i64 d2), (54, .int .i64 ((d0.length : Nat) : Int))]) (w' := w_4) f_26 2 [0, 1, 3, 4, 5, 13, 15, 53, 54] (by kernel_rfl) (fun a_19 f_27 => ?_)
        obtain ⟨g_1, hF_14⟩ := need_some hF_13
        refine W_eq (v := .int .i64 (d2.tmod ((d0.length : Nat) : Int))) f_27 (by kernel_rfl) (by kernel_rfl) rfl rfl (X_rem rfl (a := d2) (b := ((d0.length : Nat) : Int)) (by kernel_rfl) (by kernel_rfl) g_1) (fun a_20 f_28 => ?_)
        refine W_run (L' := [(0, .slice A0 d0.length cap0), (1, .slice A1 d1.length cap1), (3, .int .i64 d3), (4, .int .i64 d4), (5, .bool d5), (13, .slice A_1 x_3.1.length cap_1), (15, .int .i64 ((d0.length : Nat) : Int)), (55, .int .i64 (d2.tmod ((d0.length : Nat) : Int))), (56, .int .i64 ((d0.length : Nat) : Int))]) (w' := w_4) f_28 1 [0, 1, 3, 4, 5, 13, 15, 55, 56] (by kernel_rfl) (fun a_21 f_29 => ?_)
        obtain ⟨g_2, hF_15⟩ := need_some hF_14
        refine W_run (L' := [(0, .slice A0 d0.length cap0), (1, .slice A1 d1.length cap1), (3, .int .i64 d3), (4, .int .i64 d4), (5, .bool d5), (13, .slice A_1 x_3.1.length cap_1), (15, .int .i64 ((d0.length : Nat) : Int)), (55, .int .i64 (d2.tmod ((d0.length : Nat) : Int))), (56, .int .i64 ((d0.length : Nat) : Int)), (57, .int .i64 (IntKind.wrap .i64 ((d2.tmod ((d0.length : Nat) : Int)) + ((d0.length : Nat) : Int))))]) (w' := w_4) f_29 1 [0, 1, 3, 4, 5, 13, 15, 55, 56, 57] (by kernel_rfl) (fun a_22 f_30 => ?_)
        have f_31 := Frm.set f_30 57 (v := .int .i64 (IntKind.wrap .i64 ((d2.tmod ((d0.length : Nat) : Int)) + ((d0.length : Nat) : Int)))) (v' := .int .i64 ((d2.tmod ((d0.length : Nat) : Int)) + ((d0.length : Nat) : Int))) (by kernel_rfl) (congrArg (Value.int .i64) (inR_wrap g_2))
        have f_32 : Frm 152 [(0, .slice A0 d0.length cap0), (1, .slice A1 d1.length cap1), (3, .int .i64 d3), (4, .int .i64 d4), (5, .bool d5), (13, .slice A_1 x_3.1.length cap_1), (15, .int .i64 ((d0.length : Nat) : Int)), (55, .int .i64 (d2.tmod ((d0.length : Nat) : Int))), (56, .int .i64 ((d0.length : Nat) : Int)), (57, .int .i64 ((d2.tmod ((d0.length : Nat) : Int)) + ((d0.length : Nat) : Int)))] a_22 := f_31.keep (ks := [0, 1, 3, 4, 5, 13, 15, 55, 56, 57]) (by kernel_rfl)
        refine W_run (L' := [(0, .slice A0 d0.length cap0), (1, .slice A1 d1.length cap1), (3, .int .i64 d3), (4, .int .i64 d4), (5, .bool d5), (13, .slice A_1 x_3.1.length cap_1), (15, .int .i64 ((d0.length : Nat) : Int)), (57, .int .i64 ((d2.tmod ((d0.length : Nat) : Int)) + ((d0.length : Nat) : Int))), (58, .int .i64 ((d0.length : Nat) : Int))]) (w' := w_4) f_32 1 [0, 1, 3, 4, 5, 13, 15, 57, 58] (by kernel_rfl) (fun a_23 f_33 => ?_)
        obtain ⟨g_3, hF_16⟩ := need_some hF_15
        refine W_eq (v := .int .i64 (((d2.tmod ((d0.length : Nat) : Int)) + ((d0.length : Nat) : Int)).tmod ((d0.length : Nat) : Int))) f_33 (by kernel_rfl) (by kernel_rfl) rfl rfl (X_rem rfl (a := (d2.tmod ((d0.length : Nat) : Int)) + ((d0.length : Nat) : Int)) (b := ((d0.length : Nat) : Int)) (by kernel_rfl) (by kernel_rfl) g_3) (fun a_24 f_34 => ?_)
        refine W_run (L' := [(0, .slice A0 d0.length cap0), (1, .slice A1 d1.length cap1), (2, .int .i64 (((d2.tmod ((d0.length : Nat) : Int)) + ((d0.length : Nat) : Int)).tmod ((d0.length : Nat) : Int))), (3, .int .i64 d3), (4, .int .i64 d4), (5, .bool d5), (13, .slice A_1 x_3.1.length cap_1), (15, .int .i64 ((d0.length : Nat) : Int))]) (w' := w_4) f_34 1 [0, 1, 2, 3, 4, 5, 13, 15] (by kernel_rfl) (fun a_25 f_35 => ?_)
        refine W_end rfl ?_
        refine T_n ?_
        refine R_seq ?_
        refine R_reg ?_
        refine W_run (L' := [(0, .slice A0 d0.length cap0), (1, .slice A1 d1.length cap1), (2, .int .i64 (((d2.tmod ((d0.length : Nat) : Int)) + ((d0.length : Nat) : Int)).tmod ((d0.length : Nat) : Int))), (3, .int .i64 d3), (5, .bool d5), (13, .slice A_1 x_3.1.length cap_1), (15, .int .i64 ((d0.length : Nat) : Int)), (60, .int .i64 d4), (61, .int .i64 ((d0.length : Nat) : Int))]) (w' := w_4) f_35 2 [0, 1, 2, 3, 5, 13, 15, 60, 61] (by kernel_rfl) (fun a_26 f_36 => ?_)
        obtain ⟨g_4, hF_17⟩ := need_some hF_16
        refine W_eq (v := .int .i64 (d4.tmod ((d0.length : Nat) : Int))) f_36 (by kernel_rfl) (by kernel_rfl) rfl rfl (X_rem rfl (a := d4) (b := ((d0.length : Nat) : Int)) (by kernel_rfl) (by kernel_rfl) g_4) (fun a_27 f_37 => ?_)
        refine W_run (L' := [(0, .slice A0 d0.length cap0), (1, .slice A1 d1.length cap1), (2, .int .i64 (((d2.tmod ((d0.length : Nat) : Int)) + ((d0.length : Nat) : Int)).tmod ((d0.length : Nat) : Int))), (3, .int .i64 d3), (5, .bool d5), (13, .slice A_1 x_3.1.length cap_1), (15, .int .i64 ((d0.length : Nat) : Int)), (62, .int .i64 (d4.tmod ((d0.length : Nat) : Int))), (63, .int .i64 ((d0.length : Nat) : Int))]) (w' := w_4) f_37 1 [0, 1, 2, 3, 5, 13, 15, 62, 63] (by kernel_rfl) (fun a_28 f_38 => ?_)
        obtain ⟨g_5, hF_18⟩ := need_some hF_17
        refine W_run (L' := [(0, .slice A0 d0.length cap0), (1, .slice A1 d1.length cap1), (2, .int .i64 (((d2.tmod ((d0.length : Nat) : Int)) + ((d0.length : Nat) : Int)).tmod ((d0.length : Nat) : Int))), (3, .int .i64 d3), (5, .bool d5), (13, .slice A_1 x_3.1.length cap_1), (15, .int .i64 ((d0.length : Nat) : Int)), (62, .int .i64 (d4.tmod ((d0.length : Nat) : Int))), (63, .int .i64 ((d0.length : Nat) : Int)), (64, .int .i64 (IntKind.wrap .i64 ((d4.tmod ((d0.length : Nat) : Int)) + ((d0.length : Nat) : Int))))]) (w' := w_4) f_38 1 [0, 1, 2, 3, 5, 13, 15, 62, 63, 64] (by kernel_rfl) (fun a_29 f_39 => ?_)
        have f_40 := Frm.set f_39 64 (v := .int .i64 (IntKind.wrap .i64 ((d4.tmod ((d0.length : Nat) : Int)) + ((d0.length : Nat) : Int)))) (v' := .int .i64 ((d4.tmod ((d0.length : Nat) : Int)) + ((d0.length : Nat) : Int))) (by kernel_rfl) (congrArg (Value.int .i64) (inR_wrap g_5))
        have f_41 : Frm 152 [(0, .slice A0 d0.length cap0), (1, .slice A1 d1.length cap1), (2, .int .i64 (((d2.tmod ((d0.length : Nat) : Int)) + ((d0.length : Nat) : Int)).tmod ((d0.length : Nat) : Int))), (3, .int .i64 d3), (5, .bool d5), (13, .slice A_1 x_3.1.length cap_1), (15, .int .i64 ((d0.length : Nat) : Int)), (62, .int .i64 (d4.tmod ((d0.length : Nat) : Int))), (63, .int .i64 ((d0.length : Nat) : Int)), (64, .int .i64 ((d4.tmod ((d0.length : Nat) : Int)) + ((d0.length : Nat) : Int)))] a_29 := f_40.keep (ks := [0, 1, 2, 3, 5, 13, 15, 62, 63, 64]) (by kernel_rfl)
        refine W_run (L' := [(0, .slice A0 d0.length cap0), (1, .slice A1 d1.length cap1), (2, .int .i64 (((d2.tmod ((d0.length : Nat) : Int)) + ((d0.length : Nat) : Int)).tmod ((d0.length : Nat) : Int))), (3, .int .i64 d3), (5, .bool d5), (13, .slice A_1 x_3.1.length cap_1), (64, .int .i64 ((d4.tmod ((d0.length : Nat) : Int)) + ((d0.length : Nat) : Int))), (65, .int .i64 ((d0.length : Nat) : Int))]) (w' := w_4) f_41 1 [0, 1, 2, 3, 5, 13, 64, 65] (by kernel_rfl) (fun a_30 f_42 => ?_)
        obtain ⟨g_6, hF_19⟩ := need_some hF_18
        refine W_eq (v := .int .i64 (((d4.tmod ((d0.length : Nat) : Int)) + ((d0.length : Nat) : Int)).tmod ((d0.length : Nat) : Int))) f_42 (by kernel_rfl) (by kernel_rfl) rfl rfl (X_rem rfl (a := (d4.tmod ((d0.length : Nat) : Int)) + ((d0.length : Nat) : Int)) (b := ((d0.length : Nat) : Int)) (by kernel_rfl) (by kernel_rfl) g_6) (fun a_31 f_43 => ?_)
        refine W_run (L' := [(0, .slice A0 d0.length cap0), (1, .slice A1 d1.length cap1), (2, .int .i64 (((d2.tmod ((d0.length : Nat) : Int)) + ((d0.length : Nat) : Int)).tmod ((d0.length : Nat) : Int))), (3, .int .i64 d3), (4, .int .i64 (((d4.tmod ((d0.length : Nat) : Int)) + ((d0.length : Nat) : Int)).tmod ((d0.length : Nat) : Int))), (5, .bool d5), (13, .slice A_1 x_3.1.length cap_1)]) (w' := w_4) f_43 1 [0, 1, 2, 3, 4, 5, 13] (by kernel_rfl) (fun a_32 f_44 => ?_)
        refine W_end rfl ?_
        refine T_n ?_
        refine R_seq ?_
        refine R_reg ?_
        refine W_run (L' := [(0, .slice A0 d0.length cap0), (1, .slice A1 d1.length cap1), (2, .int .i64 (((d2.tmod ((d0.length : Nat) : Int)) + ((d0.length : Nat) : Int)).tmod ((d0.length : Nat) : Int))), (3, .int .i64 d3), (4, .int .i64 (((d4.tmod ((d0.length : Nat) : Int)) + ((d0.length : Nat) : Int)).tmod ((d0.length : Nat) : Int))), (5, .bool d5), (13, .slice A_1 x_3.1.length cap_1), (16, .slice none 0 0)]) (w' := w_4) f_44 1 [0, 1, 2, 3, 4, 5, 13, 16] (by kernel_rfl) (fun a_33 f_45 => ?_)
        refine W_end rfl ?_
        refine T_n ?_
        refine R_seq ?_
        refine R_seq ?_
        refine R_reg ?_
        refine W_run (L' := [(0, .slice A0 d0.length cap0), (1, .slice A1 d1.length cap1), (2, .int .i64 (((d2.tmod ((d0.length : Nat) : Int)) + ((d0.length : Nat) : Int)).tmod ((d0.length : Nat) : Int))), (3, .int .i64 d3), (4, .int .i64 (((d4.tmod ((d0.length : Nat) : Int)) + ((d0.length : Nat) : Int)).tmod ((d0.length : Nat) : Int))), (5, .bool d5), (13, .slice A_1 x_3.1.length cap_1), (16, .slice none 0 0), (67, .slice A0 d0.length cap0), (68, .int .i64 ((d0.length : Nat) : Int)), (69, .int .i64 0)]) (w' := w_4) f_45 3 [0, 1, 2, 3, 4, 5, 13, 16, 67, 68, 69] (by kernel_rfl) (fun a_34 f_46 => ?_)
        refine W_end rfl ?_
        refine T_n ?_
        refine wp_block ?_
        have p_6 : Hp w0 M_2 ((Ent.row 26 1 (.slice none 0 0) ([] : List (List Int)).length []) :: (Ent.row 3 1 (.slice A_1 x_3.1.length cap_1) x_3.1.length cs_1) :: H) w_4 := p_4.nilRow 26 1
        have hr_2 : RepSeq M_2 (([] : List (List Int)).map (eL 1 (Dat.int .i64))) [] := rfl
        obtain ⟨b_1, hL_1, hF_20⟩ := bind_some' hF_19
        refine wp_mono (Q := fun e a w => (e = .exit 0 ∧ (∃ y_4 : List (List Int), b_1 = y_4 ∧ ∃ M_7 : Mem, M_2.le M_7 ∧ ∃ (A_11 : Option Addr), ∃ (cap_11 : Nat), ∃ (cs_7 : List Value), RepSeq M_7 (y_4.map (eL 1 (Dat.int .i64))) cs_7 ∧ Frm 152 [(0, .slice A0 d0.length cap0), (1, .slice A1 d1.length cap1), (4, .int .i64 (((d4.tmod ((d0.length : Nat) : Int)) + ((d0.length : Nat) : Int)).tmod ((d0.length : Nat) : Int))), (5, .bool d5), (13, .slice A_1 x_3.1.length cap_1), (16, .slice A_11 y_4.length cap_11)] a ∧ Hp w0 M_7 ((Ent.row 26 1 (.slice A_11 y_4.length cap_11) y_4.length cs_7) :: (Ent.row 3 1 (.slice A_1 x_3.1.length cap_1) x_3.1.length cs_1) :: H) w))) (R_loop (n := 152) (w0 := w0) (M := M_2) (fun (x : Nat × (List (List Int) × Int) × (Option Addr) × Nat × (List Value)) => match x with | (m_1, s_1, A_2, cap_2, cs_2) => [(0, .slice A0 d0.length cap0), (1, .slice A1 d1.length cap1), (2, .int .i64 (((d2.tmod ((d0.length : Nat) : Int)) + ((d0.length : Nat) : Int)).tmod ((d0.length : Nat) : Int))), (3, .int .i64 d3), (4, .int .i64 (((d4.tmod ((d0.length : Nat) : Int)) + ((d0.length : Nat) : Int)).tmod ((d0.length : Nat) : Int))), (5, .bool d5), (13, .slice A_1 x_3.1.length cap_1), (16, .slice A_2 s_1.1.length cap_2), (67, .slice A0 d0.length cap0), (68, .int .i64 ((d0.length : Nat) : Int)), (69, .int .i64 s_1.2)]) (fun (x : Nat × (List (List Int) × Int) × (Option Addr) × Nat × (List Value)) => match x with | (m_1, s_1, A_2, cap_2, cs_2) => ((Ent.row 26 1 (.slice A_2 s_1.1.length cap_2) s_1.1.length cs_2) :: (Ent.row 3 1 (.slice A_1 x_3.1.length cap_1) x_3.1.length cs_1) :: H)) (fun (x : Nat × (List (List Int) × Int) × (Option Addr) × Nat × (List Value)) (MM : Mem) => match x with | (m_1, s_1, A_2, cap_2, cs_2) => loopF (law21_ReadyLess_s1 n d0 d2 d3) m_1 s_1 = some b_1 ∧ RepSeq MM (s_1.1.map (eL 1 (Dat.int .i64))) cs_2) (fun (x : Nat × (List (List Int) × Int) × (Option Addr) × Nat × (List Value)) => match x with | (m_1, s_1, A_2, cap_2, cs_2) => m_1) (n, (([] : List (List Int)), (0 : Int)), none, 0, []) (f_46.keep (ks := [0, 1, 2, 3, 4, 5, 13, 16, 67, 68, 69]) (by kernel_rfl)) p_6 ⟨hL_1, hr_2⟩ ?_) ?_
        · rintro ⟨m_1, s_1, A_2, cap_2, cs_2⟩ M_3 a_35 w_6 hM_3 I_1 f_47 p_7
          replace f_47 : Frm 152 [(0, .slice A0 d0.length cap0), (1, .slice A1 d1.length cap1), (2, .int .i64 (((d2.tmod ((d0.length : Nat) : Int)) + ((d0.length : Nat) : Int)).tmod ((d0.length : Nat) : Int))), (3, .int .i64 d3), (4, .int .i64 (((d4.tmod ((d0.length : Nat) : Int)) + ((d0.length : Nat) : Int)).tmod ((d0.length : Nat) : Int))), (5, .bool d5), (13, .slice A_1 x_3.1.length cap_1), (16, .slice A_2 s_1.1.length cap_2), (67, .slice A0 d0.length cap0), (68, .int .i64 ((d0.length : Nat) : Int)), (69, .int .i64 s_1.2)] a_35 := f_47
          replace p_7 : Hp w0 M_3 ((Ent.row 26 1 (.slice A_2 s_1.1.length cap_2) s_1.1.length cs_2) :: (Ent.row 3 1 (.slice A_1 x_3.1.length cap_1) x_3.1.length cs_1) :: H) w_6 := p_7
          obtain ⟨I_1L, hr_3⟩ := I_1
          obtain ⟨m_2, r_1, rfl, hs_1, hn_1⟩ := loop_step I_1L
          unfold law21_ReadyLess_s1 at hs_1
          refine R_seq ?_
          refine R_reg ?_
          refine W_run (L' := [(0, .slice A0 d0.length cap0), (1, .slice A1 d1.length cap1), (2, .int .i64 (((d2.tmod ((d0.length : Nat) : Int)) + ((d0.length : Nat) : Int)).tmod ((d0.length : Nat) : Int))), (3, .int .i64 d3), (4, .int .i64 (((d4.tmod ((d0.length : Nat) : Int)) + ((d0.length : Nat) : Int)).tmod ((d0.length : Nat) : Int))), (5, .bool d5), (13, .slice A_1 x_3.1.length cap_1), (16, .slice A_2 s_1.1.length cap_2), (67, .slice A0 d0.length cap0), (68, .int .i64 ((d0.length : Nat) : Int)), (69, .int .i64 s_1.2), (70, .bool (decide (s_1.2 < ((d0.length : Nat) : Int))))]) (w' := w_6) f_47 1 [0, 1, 2, 3, 4, 5, 13, 16, 67, 68, 69, 70] (by kernel_rfl) (fun a_36 f_48 => ?_)
          refine W_end rfl ?_
          refine T_n ?_
          refine R_seq ?_
          refine R_cond f_48 (b := decide (s_1.2 < ((d0.length : Nat) : Int))) (by kernel_rfl) (by kernel_rfl) (fun h_5 => ?_) (fun h_5 => ?_)
          · have k_9 : s_1.2 < ((d0.length : Nat) : Int) := decide_eq_true_iff.1 h_5
            have hF_21 := cnd_t h_5 hs_1
            refine wp_skip ?_
            refine T_n ?_
            refine R_seq ?_
            refine wp_block ?_
            refine R_seq ?_
            refine R_reg ?_
            refine W_run (L' := [(0, .slice A0 d0.length cap0), (1, .slice A1 d1.length cap1), (2, .int .i64 (((d2.tmod ((d0.length : Nat) : Int)) + ((d0.length : Nat) : Int)).tmod ((d0.length : Nat) : Int))), (3, .int .i64 d3), (4, .int .i64 (((d4.tmod ((d0.length : Nat) : Int)) + ((d0.length : Nat) : Int)).tmod ((d0.length : Nat) : Int))), (5, .bool d5), (13, .slice A_1 x_3.1.length cap_1), (16, .slice A_2 s_1.1.length cap_2), (67, .slice A0 d0.length cap0), (68, .int .i64 ((d0.length : Nat) : Int)), (69, .int .i64 s_1.2), (71, .int .i64 s_1.2)]) (w' := w_6) f_48 1 [0, 1, 2, 3, 4, 5, 13, 16, 67, 68, 69, 71] (by kernel_rfl) (fun a_37 f_49 => ?_)
            obtain ⟨x_5, hx_5, hF_22⟩ := bind_some' hF_21
            obtain ⟨ad_1, c_1, e_1, hl_1, hr_4, hc_1⟩ := Sli.at_ (h0.mono ((hM_1.trans hM_2).trans hM_3)) hx_5
            clear hl_1
            obtain ⟨A_3, cap_3, rfl, h_6⟩ := Rep.sli hr_4
            refine W_eq (v := .pointer (some (ad_1.add (s_1.2.toNat * 1)))) f_49 (by kernel_rfl) (by kernel_rfl) rfl rfl (X_indexAddrA e_1 rfl (len := d0.length) (cap := cap0) (k := .i64) (i := s_1.2) (by kernel_rfl) (by kernel_rfl) (e := 26) (by kernel_rfl) (sz := 1) (by kernel_rfl) (getI_nn hx_5) (getI_lt hx_5)) (fun a_38 f_50 => ?_)
            refine W_eq (v := .slice A_3 x_5.length cap_3) f_50 (by kernel_rfl) (by kernel_rfl) rfl rfl (X_load1 (v := .slice A_3 x_5.length cap_3) rfl (ad := ad_1.add (s_1.2.toNat * 1)) (by kernel_rfl) (by kernel_rfl) (p_7.cell (hc_1 0 _ rfl))) (fun a_39 f_51 => ?_)
            refine W_run (L' := [(0, .slice A0 d0.length cap0), (1, .slice A1 d1.length cap1), (2, .int .i64 (((d2.tmod ((d0.length : Nat) : Int)) + ((d0.length : Nat) : Int)).tmod ((d0.length : Nat) : Int))), (3, .int .i64 d3), (4, .int .i64 (((d4.tmod ((d0.length : Nat) : Int)) + ((d0.length : Nat) : Int)).tmod ((d0.length : Nat) : Int))), (5, .bool d5), (13, .slice A_1 x_3.1.length cap_1), (16, .slice A_2 s_1.1.length cap_2), (17, .int .i64 s_1.2), (18, .slice A_3 x_5.length cap_3), (67, .slice A0 d0.length cap0), (68, .int .i64 ((d0.length : Nat) : Int)), (69, .int .i64 s_1.2)]) (w' := w_6) f_51 2 [0, 1, 2, 3, 4, 5, 13, 16, 17, 18, 67, 68, 69] (by kernel_rfl) (fun a_40 f_52 => ?_)
            refine W_end rfl ?_
            refine T_n ?_
            refine R_seq ?_
            refine R_reg ?_
            refine W_alloc f_52 p_7 1 [0, 1, 2, 3, 4, 5, 13, 16, 17, 18, 67, 68, 69, 74] (.cells #[] 3 (0, 0)) (fun b_2 => [(0, .slice A0 d0.length cap0), (1, .slice A1 d1.length cap1), (2, .int .i64 (((d2.tmod ((d0.length : Nat) : Int)) + ((d0.length : Nat) : Int)).tmod ((d0.length : Nat) : Int))), (3, .int .i64 d3), (4, .int .i64 (((d4.tmod ((d0.length : Nat) : Int)) + ((d0.length : Nat) : Int)).tmod ((d0.length : Nat) : Int))), (5, .bool d5), (13, .slice A_1 x_3.1.length cap_1), (16, .slice A_2 s_1.1.length cap_2), (17, .int .i64 s_1.2), (18, .slice A_3 x_5.length cap_3), (67, .slice A0 d0.length cap0), (68, .int .i64 ((d0.length : Nat) : Int)), (69, .int .i64 s_1.2), (74, .slice (some ⟨b_2, 0, none⟩) 0 0)]) (fun _ => by kernel_rfl) (fun b_2 w_7 p_8 a_41 f_53 => ?_)
            replace f_53 : Frm 152 [(0, .slice A0 d0.length cap0), (1, .slice A1 d1.length cap1), (2, .int .i64 (((d2.tmod ((d0.length : Nat) : Int)) + ((d0.length : Nat) : Int)).tmod ((d0.length : Nat) : Int))), (3, .int .i64 d3), (4, .int .i64 (((d4.tmod ((d0.length : Nat) : Int)) + ((d0.length : Nat) : Int)).tmod ((d0.length : Nat) : Int))), (5, .bool d5), (13, .slice A_1 x_3.1.length cap_1), (16, .slice A_2 s_1.1.length cap_2), (17, .int .i64 s_1.2), (18, .slice A_3 x_5.length cap_3), (67, .slice A0 d0.length cap0), (68, .int .i64 ((d0.length : Nat) : Int)), (69, .int .i64 s_1.2), (74, .slice (some ⟨b_2, 0, none⟩) 0 0)] a_41 := f_53
            refine W_run (L' := [(0, .slice A0 d0.length cap0), (1, .slice A1 d1.length cap1), (2, .int .i64 (((d2.tmod ((d0.length : Nat) : Int)) + ((d0.length : Nat) : Int)).tmod ((d0.length : Nat) : Int))), (3, .int .i64 d3), (4, .int .i64 (((d4.tmod ((d0.length : Nat) : Int)) + ((d0.length : Nat) : Int)).tmod ((d0.length : Nat) : Int))), (5, .bool d5), (13, .slice A_1 x_3.1.length cap_1), (16, .slice A_2 s_1.1.length cap_2), (17, .int .i64 s_1.2), (67, .slice A0 d0.length cap0), (68, .int .i64 ((d0.length : Nat) : Int)), (69, .int .i64 s_1.2), (74, .slice (some ⟨b_2, 0, none⟩) 0 0), (75, .slice A_3 x_5.length cap_3)]) (w' := w_7) f_53 1 [0, 1, 2, 3, 4, 5, 13, 16, 17, 67, 68, 69, 74, 75] (by kernel_rfl) (fun a_42 f_54 => ?_)
            have hr_5 : RepSeq M_3 (([] : List Int).map (Dat.int .i64)) [] := rfl
            have p_9 : Hp w0 M_3 ((Ent.row 3 1 (.slice (some ⟨b_2, 0, none⟩) 0 0) ([] : List Int).length []) :: (Ent.row 26 1 (.slice A_2 s_1.1.length cap_2) s_1.1.length cs_2) :: (Ent.row 3 1 (.slice A_1 x_3.1.length cap_1) x_3.1.length cs_1) :: H) w_7 := p_8.objRow (n := 0) (cap := 0) (size := 1) (by decide) (by decide) rfl rfl rfl
            obtain ⟨g_7, hF_23⟩ := need_some hF_22
            refine W_appendS (z := .int .i64 0) (f := (Dat.int .i64)) (xs := ([] : List Int)) (ys := x_5) (c := cap_3) f_54 p_9 hr_5 h_6 (by kernel_rfl) (by kernel_rfl) rfl rfl rfl (by kernel_rfl) (by kernel_rfl) (by kernel_rfl) (by kernel_rfl) g_7 (by omega) (fun A_4 cap_4 cs_3 w_8 p_10 hr_6 a_43 f_55 => ?_)
            refine W_run (L' := [(0, .slice A0 d0.length cap0), (1, .slice A1 d1.length cap1), (2, .int .i64 (((d2.tmod ((d0.length : Nat) : Int)) + ((d0.length : Nat) : Int)).tmod ((d0.length : Nat) : Int))), (3, .int .i64 d3), (4, .int .i64 (((d4.tmod ((d0.length : Nat) : Int)) + ((d0.length : Nat) : Int)).tmod ((d0.length : Nat) : Int))), (5, .bool d5), (13, .slice A_1 x_3.1.length cap_1), (16, .slice A_2 s_1.1.length cap_2), (17, .int .i64 s_1.2), (19, .slice A_4 (([] : List Int) ++ x_5).length cap_4), (67, .slice A0 d0.length cap0), (68, .int .i64 ((d0.length : Nat) : Int)), (69, .int .i64 s_1.2)]) (w' := w_8) f_55 1 [0, 1, 2, 3, 4, 5, 13, 16, 17, 19, 67, 68, 69] (by kernel_rfl) (fun a_44 f_56 => ?_)
            refine W_end rfl ?_
            refine T_n ?_
            refine R_seq ?_
            refine R_seq ?_
            obtain ⟨j_2, hj_2, hF_24⟩ := bind_some' hF_23
            refine R_mid (fun a_48 w_9 => ∃ y_2 : Bool, j_2 = y_2 ∧ ∃ M_4 : Mem, M_3.le M_4 ∧ Frm 152 [(0, .slice A0 d0.length cap0), (1, .slice A1 d1.length cap1), (2, .int .i64 (((d2.tmod ((d0.length : Nat) : Int)) + ((d0.length : Nat) : Int)).tmod ((d0.length : Nat) : Int))), (3, .int .i64 d3), (4, .int .i64 (((d4.tmod ((d0.length : Nat) : Int)) + ((d0.length : Nat) : Int)).tmod ((d0.length : Nat) : Int))), (5, .bool d5), (13, .slice A_1 x_3.1.length cap_1), (16, .slice A_2 s_1.1.length cap_2), (19, .slice A_4 (([] : List Int) ++ x_5).length cap_4), (67, .slice A0 d0.length cap0), (68, .int .i64 ((d0.length : Nat) : Int)), (69, .int .i64 s_1.2), (84, .bool y_2)] a_48 ∧ Hp w0 M_4 ((Ent.row 3 1 (.slice A_4 (([] : List Int) ++ x_5).length cap_4) (([] : List Int) ++ x_5).length cs_3) :: (Ent.row 26 1 (.slice A_2 s_1.1.length cap_2) s_1.1.length cs_2) :: (Ent.row 3 1 (.slice A_1 x_3.1.length cap_1) x_3.1.length cs_1) :: H) w_9) ?_ ?_
            · refine R_reg ?_
              refine W_run (L' := [(0, .slice A0 d0.length cap0), (1, .slice A1 d1.length cap1), (2, .int .i64 (((d2.tmod ((d0.length : Nat) : Int)) + ((d0.length : Nat) : Int)).tmod ((d0.length : Nat) : Int))), (3, .int .i64 d3), (4, .int .i64 (((d4.tmod ((d0.length : Nat) : Int)) + ((d0.length : Nat) : Int)).tmod ((d0.length : Nat) : Int))), (5, .bool d5), (13, .slice A_1 x_3.1.length cap_1), (16, .slice A_2 s_1.1.length cap_2), (19, .slice A_4 (([] : List Int) ++ x_5).length cap_4), (67, .slice A0 d0.length cap0), (68, .int .i64 ((d0.length : Nat) : Int)), (69, .int .i64 s_1.2), (80, .bool (decide (s_1.2 = (((d2.tmod ((d0.length : Nat) : Int)) + ((d0.length : Nat) : Int)).tmod ((d0.length : Nat) : Int)))))]) (w' := w_8) f_56 4 [0, 1, 2, 3, 4, 5, 13, 16, 19, 67, 68, 69, 80] (by kernel_rfl) (fun a_45 f_57 => ?_)
              rcases Bool.eq_false_or_eq_true (decide (s_1.2 = (((d2.tmod ((d0.length : Nat) : Int)) + ((d0.length : Nat) : Int)).tmod ((d0.length : Nat) : Int)))) with h_7 | h_7
              · have k_10 : s_1.2 = (((d2.tmod ((d0.length : Nat) : Int)) + ((d0.length : Nat) : Int)).tmod ((d0.length : Nat) : Int)) := decide_eq_true_iff.1 h_7
                have hF_25 := cnd_t h_7 hj_2
                have f_58 := Frm.set f_57 80 (v := .bool (decide (s_1.2 = (((d2.tmod ((d0.length : Nat) : Int)) + ((d0.length : Nat) : Int)).tmod ((d0.length : Nat) : Int))))) (v' := .bool true) (by kernel_rfl) (congrArg Value.bool h_7)
                have f_59 : Frm 152 [(0, .slice A0 d0.length cap0), (1, .slice A1 d1.length cap1), (2, .int .i64 (((d2.tmod ((d0.length : Nat) : Int)) + ((d0.length : Nat) : Int)).tmod ((d0.length : Nat) : Int))), (3, .int .i64 d3), (4, .int .i64 (((d4.tmod ((d0.length : Nat) : Int)) + ((d0.length : Nat) : Int)).tmod ((d0.length : Nat) : Int))), (5, .bool d5), (13, .slice A_1 x_3.1.length cap_1), (16, .slice A_2 s_1.1.length cap_2), (19, .slice A_4 (([] : List Int) ++ x_5).length cap_4), (67, .slice A0 d0.length cap0), (68, .int .i64 ((d0.length : Nat) : Int)), (69, .int .i64 s_1.2), (80, .bool true)] a_45 := f_58.keep (ks := [0, 1, 2, 3, 4, 5, 13, 16, 19, 67, 68, 69, 80]) (by kernel_rfl)
                refine W_run (L' := [(0, .slice A0 d0.length cap0), (1, .slice A1 d1.length cap1), (2, .int .i64 (((d2.tmod ((d0.length : Nat) : Int)) + ((d0.length : Nat) : Int)).tmod ((d0.length : Nat) : Int))), (3, .int .i64 d3), (4, .int .i64 (((d4.tmod ((d0.length : Nat) : Int)) + ((d0.length : Nat) : Int)).tmod ((d0.length : Nat) : Int))), (5, .bool d5), (13, .slice A_1 x_3.1.length cap_1), (16, .slice A_2 s_1.1.length cap_2), (19, .slice A_4 (([] : List Int) ++ x_5).length cap_4), (67, .slice A0 d0.length cap0), (68, .int .i64 ((d0.length : Nat) : Int)), (69, .int .i64 s_1.2), (84, .bool (decide ((0 : Int) < (((([] : List Int) ++ x_5).length : Nat) : Int))))]) (w' := w_8) f_59 4 [0, 1, 2, 3, 4, 5, 13, 16, 19, 67, 68, 69, 84] (by kernel_rfl) (fun a_46 f_60 => ?_)
                refine W_end rfl ?_
                refine T_n ?_
                exact ⟨(decide ((0 : Int) < (((([] : List Int) ++ x_5).length : Nat) : Int))), (Option.some.inj hF_25).symm, M_3, (Mem.le_refl _), f_60.keep (ks := [0, 1, 2, 3, 4, 5, 13, 16, 19, 67, 68, 69, 84]) (by kernel_rfl), p_10⟩
              · have k_11 : ¬ (s_1.2 = (((d2.tmod ((d0.length : Nat) : Int)) + ((d0.length : Nat) : Int)).tmod ((d0.length : Nat) : Int))) := iff_f decide_eq_true_iff h_7
                have hF_26 := cnd_f h_7 hj_2
                have f_61 := Frm.set f_57 80 (v := .bool (decide (s_1.2 = (((d2.tmod ((d0.length : Nat) : Int)) + ((d0.length : Nat) : Int)).tmod ((d0.length : Nat) : Int))))) (v' := .bool false) (by kernel_rfl) (congrArg Value.bool h_7)
                have f_62 : Frm 152 [(0, .slice A0 d0.length cap0), (1, .slice A1 d1.length cap1), (2, .int .i64 (((d2.tmod ((d0.length : Nat) : Int)) + ((d0.length : Nat) : Int)).tmod ((d0.length : Nat) : Int))), (3, .int .i64 d3), (4, .int .i64 (((d4.tmod ((d0.length : Nat) : Int)) + ((d0.length : Nat) : Int)).tmod ((d0.length : Nat) : Int))), (5, .bool d5), (13, .slice A_1 x_3.1.length cap_1), (16, .slice A_2 s_1.1.length cap_2), (19, .slice A_4 (([] : List Int) ++ x_5).length cap_4), (67, .slice A0 d0.length cap0), (68, .int .i64 ((d0.length : Nat) : Int)), (69, .int .i64 s_1.2), (80, .bool false)] a_45 := f_61.keep (ks := [0, 1, 2, 3, 4, 5, 13, 16, 19, 67, 68, 69, 80]) (by kernel_rfl)
                refine W_run (L' := [(0, .slice A0 d0.length cap0), (1, .slice A1 d1.length cap1), (2, .int .i64 (((d2.tmod ((d0.length : Nat) : Int)) + ((d0.length : Nat) : Int)).tmod ((d0.length : Nat) : Int))), (3, .int .i64 d3), (4, .int .i64 (((d4.tmod ((d0.length : Nat) : Int)) + ((d0.length : Nat) : Int)).tmod ((d0.length : Nat) : Int))), (5, .bool d5), (13, .slice A_1 x_3.1.length cap_1), (16, .slice A_2 s_1.1.length cap_2), (19, .slice A_4 (([] : List Int) ++ x_5).length cap_4), (67, .slice A0 d0.length cap0), (68, .int .i64 ((d0.length : Nat) : Int)), (69, .int .i64 s_1.2), (84, .bool false)]) (w' := w_8) f_62 4 [0, 1, 2, 3, 4, 5, 13, 16, 19, 67, 68, 69, 84] (by kernel_rfl) (fun a_47 f_63 => ?_)
                refine W_end rfl ?_
                refine T_n ?_
                exact ⟨(false), (Option.some.inj hF_26).symm, M_3, (Mem.le_refl _), f_63.keep (ks := [0, 1, 2, 3, 4, 5, 13, 16, 19, 67, 68, 69, 84]) (by kernel_rfl), p_10⟩
            · rintro a_48 w_9 ⟨y_2, hq_2, M_4, hM_4, f_64, p_11⟩
              subst j_2
              refine T_n ?_
              obtain ⟨j_3, hj_3, hF_27⟩ := bind_some' hF_24
              refine R_mid (fun a_65 w_12 => ∃ y_3 : List Int, j_3 = y_3 ∧ ∃ M_5 : Mem, M_4.le M_5 ∧ ∃ (A_8 : Option Addr), ∃ (cap_8 : Nat), ∃ (cs_5 : List Value), RepSeq M_5 (y_3.map (Dat.int .i64)) cs_5 ∧ Frm 152 [(0, .slice A0 d0.length cap0), (1, .slice A1 d1.length cap1), (2, .int .i64 (((d2.tmod ((d0.length : Nat) : Int)) + ((d0.length : Nat) : Int)).tmod ((d0.length : Nat) : Int))), (3, .int .i64 d3), (4, .int .i64 (((d4.tmod ((d0.length : Nat) : Int)) + ((d0.length : Nat) : Int)).tmod ((d0.length : Nat) : Int))), (5, .bool d5), (13, .slice A_1 x_3.1.length cap_1), (16, .slice A_2 s_1.1.length cap_2), (19, .slice A_8 y_3.length cap_8), (67, .slice A0 d0.length cap0), (68, .int .i64 ((d0.length : Nat) : Int)), (69, .int .i64 s_1.2)] a_65 ∧ Hp w0 M_5 ((Ent.row 3 1 (.slice A_8 y_3.length cap_8) y_3.length cs_5) :: (Ent.row 26 1 (.slice A_2 s_1.1.length cap_2) s_1.1.length cs_2) :: (Ent.row 3 1 (.slice A_1 x_3.1.length cap_1) x_3.1.length cs_1) :: H) w_12) ?_ ?_
              · refine R_cond f_64 (b := y_2) (by kernel_rfl) (by kernel_rfl) (fun h_8 => ?_) (fun h_8 => ?_)
                · have hF_28 := cnd_t h_8 hj_3
                  refine R_seq ?_
                  refine R_reg ?_
                  refine W_run (L' := [(0, .slice A0 d0.length cap0), (1, .slice A1 d1.length cap1), (2, .int .i64 (((d2.tmod ((d0.length : Nat) : Int)) + ((d0.length : Nat) : Int)).tmod ((d0.length : Nat) : Int))), (3, .int .i64 d3), (4, .int .i64 (((d4.tmod ((d0.length : Nat) : Int)) + ((d0.length : Nat) : Int)).tmod ((d0.length : Nat) : Int))), (5, .bool d5), (13, .slice A_1 x_3.1.length cap_1), (16, .slice A_2 s_1.1.length cap_2), (19, .slice A_4 (([] : List Int) ++ x_5).length cap_4), (67, .slice A0 d0.length cap0), (68, .int .i64 ((d0.length : Nat) : Int)), (69, .int .i64 s_1.2), (85, .int .i64 d3), (87, .int .i64 (((([] : List Int) ++ x_5).length : Nat) : Int))]) (w' := w_9) f_64 3 [0, 1, 2, 3, 4, 5, 13, 16, 19, 67, 68, 69, 85, 87] (by kernel_rfl) (fun a_49 f_65 => ?_)
                  obtain ⟨g_8, hF_29⟩ := need_some hF_28
                  refine W_eq (v := .int .i64 (d3.tmod (((([] : List Int) ++ x_5).length : Nat) : Int))) f_65 (by kernel_rfl) (by kernel_rfl) rfl rfl (X_rem rfl (a := d3) (b := (((([] : List Int) ++ x_5).length : Nat) : Int)) (by kernel_rfl) (by kernel_rfl) g_8) (fun a_50 f_66 => ?_)
                  refine W_run (L' := [(0, .slice A0 d0.length cap0), (1, .slice A1 d1.length cap1), (2, .int .i64 (((d2.tmod ((d0.length : Nat) : Int)) + ((d0.length : Nat) : Int)).tmod ((d0.length : Nat) : Int))), (3, .int .i64 d3), (4, .int .i64 (((d4.tmod ((d0.length : Nat) : Int)) + ((d0.length : Nat) : Int)).tmod ((d0.length : Nat) : Int))), (5, .bool d5), (13, .slice A_1 x_3.1.length cap_1), (16, .slice A_2 s_1.1.length cap_2), (19, .slice A_4 (([] : List Int) ++ x_5).length cap_4), (67, .slice A0 d0.length cap0), (68, .int .i64 ((d0.length : Nat) : Int)), (69, .int .i64 s_1.2), (88, .int .i64 (d3.tmod (((([] : List Int) ++ x_5).length : Nat) : Int))), (90, .int .i64 (((([] : List Int) ++ x_5).length : Nat) : Int))]) (w' := w_9) f_66 2 [0, 1, 2, 3, 4, 5, 13, 16, 19, 67, 68, 69, 88, 90] (by kernel_rfl) (fun a_51 f_67 => ?_)
                  obtain ⟨g_9, hF_30⟩ := need_some hF_29
                  refine W_run (L' := [(0, .slice A0 d0.length cap0), (1, .slice A1 d1.length cap1), (2, .int .i64 (((d2.tmod ((d0.length : Nat) : Int)) + ((d0.length : Nat) : Int)).tmod ((d0.length : Nat) : Int))), (3, .int .i64 d3), (4, .int .i64 (((d4.tmod ((d0.length : Nat) : Int)) + ((d0.length : Nat) : Int)).tmod ((d0.length : Nat) : Int))), (5, .bool d5), (13, .slice A_1 x_3.1.length cap_1), (16, .slice A_2 s_1.1.length cap_2), (19, .slice A_4 (([] : List Int) ++ x_5).length cap_4), (67, .slice A0 d0.length cap0), (68, .int .i64 ((d0.length : Nat) : Int)), (69, .int .i64 s_1.2), (88, .int .i64 (d3.tmod (((([] : List Int) ++ x_5).length : Nat) : Int))), (90, .int .i64 (((([] : List Int) ++ x_5).length : Nat) : Int)), (91, .int .i64 (IntKind.wrap .i64 ((d3.tmod (((([] : List Int) ++ x_5).length : Nat) : Int)) + (((([] : List Int) ++ x_5).length : Nat) : Int))))]) (w' := w_9) f_67 1 [0, 1, 2, 3, 4, 5, 13, 16, 19, 67, 68, 69, 88, 90, 91] (by kernel_rfl) (fun a_52 f_68 => ?_)
                  have f_69 := Frm.set f_68 91 (v := .int .i64 (IntKind.wrap .i64 ((d3.tmod (((([] : List Int) ++ x_5).length : Nat) : Int)) + (((([] : List Int) ++ x_5).length : Nat) : Int)))) (v' := .int .i64 ((d3.tmod (((([] : List Int) ++ x_5).length : Nat) : Int)) + (((([] : List Int) ++ x_5).length : Nat) : Int))) (by kernel_rfl) (congrArg (Value.int .i64) (inR_wrap g_9))
                  have f_70 : Frm 152 [(0, .slice A0 d0.length cap0), (1, .slice A1 d1.length cap1), (2, .int .i64 (((d2.tmod ((d0.length : Nat) : Int)) + ((d0.length : Nat) : Int)).tmod ((d0.length : Nat) : Int))), (3, .int .i64 d3), (4, .int .i64 (((d4.tmod ((d0.length : Nat) : Int)) + ((d0.length : Nat) : Int)).tmod ((d0.length : Nat) : Int))), (5, .bool d5), (13, .slice A_1 x_3.1.length cap_1), (16, .slice A_2 s_1.1.length cap_2), (19, .slice A_4 (([] : List Int) ++ x_5).length cap_4), (67, .slice A0 d0.length cap0), (68, .int .i64 ((d0.length : Nat) : Int)), (69, .int .i64 s_1.2), (88, .int .i64 (d3.tmod (((([] : List Int) ++ x_5).length : Nat) : Int))), (90, .int .i64 (((([] : List Int) ++ x_5).length : Nat) : Int)), (91, .int .i64 ((d3.tmod (((([] : List Int) ++ x_5).length : Nat) : Int)) + (((([] : List Int) ++ x_5).length : Nat) : Int)))] a_52 := f_69.keep (ks := [0, 1, 2, 3, 4, 5, 13, 16, 19, 67, 68, 69, 88, 90, 91]) (by kernel_rfl)
                  refine W_run (L' := [(0, .slice A0 d0.length cap0), (1, .slice A1 d1.length cap1), (2, .int .i64 (((d2.tmod ((d0.length : Nat) : Int)) + ((d0.length : Nat) : Int)).tmod ((d0.length : Nat) : Int))), (3, .int .i64 d3), (4, .int .i64 (((d4.tmod ((d0.length : Nat) : Int)) + ((d0.length : Nat) : Int)).tmod ((d0.length : Nat) : Int))), (5, .bool d5), (13, .slice A_1 x_3.1.length cap_1), (16, .slice A_2 s_1.1.length cap_2), (19, .slice A_4 (([] : List Int) ++ x_5).length cap_4), (67, .slice A0 d0.length cap0), (68, .int .i64 ((d0.length : Nat) : Int)), (69, .int .i64 s_1.2), (91, .int .i64 ((d3.tmod (((([] : List Int) ++ x_5).length : Nat) : Int)) + (((([] : List Int) ++ x_5).length : Nat) : Int))), (93, .int .i64 (((([] : List Int) ++ x_5).length : Nat) : Int))]) (w' := w_9) f_70 2 [0, 1, 2, 3, 4, 5, 13, 16, 19, 67, 68, 69, 91, 93] (by kernel_rfl) (fun a_53 f_71 => ?_)
                  obtain ⟨g_10, hF_31⟩ := need_some hF_30
                  refine W_eq (v := .int .i64 (((d3.tmod (((([] : List Int) ++ x_5).length : Nat) : Int)) + (((([] : List Int) ++ x_5).length : Nat) : Int)).tmod (((([] : List Int) ++ x_5).length : Nat) : Int))) f_71 (by kernel_rfl) (by kernel_rfl) rfl rfl (X_rem rfl (a := (d3.tmod (((([] : List Int) ++ x_5).length : Nat) : Int)) + (((([] : List Int) ++ x_5).length : Nat) : Int)) (b := (((([] : List Int) ++ x_5).length : Nat) : Int)) (by kernel_rfl) (by kernel_rfl) g_10) (fun a_54 f_72 => ?_)
                  refine W_run (L' := [(0, .slice A0 d0.length cap0), (1, .slice A1 d1.length cap1), (2, .int .i64 (((d2.tmod ((d0.length : Nat) : Int)) + ((d0.length : Nat) : Int)).tmod ((d0.length : Nat) : Int))), (3, .int .i64 d3), (4, .int .i64 (((d4.tmod ((d0.length : Nat) : Int)) + ((d0.length : Nat) : Int)).tmod ((d0.length : Nat) : Int))), (5, .bool d5), (13, .slice A_1 x_3.1.length cap_1), (16, .slice A_2 s_1.1.length cap_2), (19, .slice A_4 (([] : List Int) ++ x_5).length cap_4), (20, .int .i64 (((d3.tmod (((([] : List Int) ++ x_5).length : Nat) : Int)) + (((([] : List Int) ++ x_5).length : Nat) : Int)).tmod (((([] : List Int) ++ x_5).length : Nat) : Int))), (67, .slice A0 d0.length cap0), (68, .int .i64 ((d0.length : Nat) : Int)), (69, .int .i64 s_1.2)]) (w' := w_9) f_72 1 [0, 1, 2, 3, 4, 5, 13, 16, 19, 20, 67, 68, 69] (by kernel_rfl) (fun a_55 f_73 => ?_)
                  refine W_end rfl ?_
                  refine T_n ?_
                  refine R_drawT 7 p_11 (by kernel_rfl) (by kernel_rfl) (fun w_10 p_12 => ?_)
                  refine ST_eq (v := .slice A_4 (([] : List Int) ++ x_5).length cap_4) f_73 (by kernel_rfl) (by kernel_rfl) rfl rfl (by kernel_rfl) (fun a_56 f_74 => ?_)
                  refine ST_eq (v := .int .i64 (((d3.tmod (((([] : List Int) ++ x_5).length : Nat) : Int)) + (((([] : List Int) ++ x_5).length : Nat) : Int)).tmod (((([] : List Int) ++ x_5).length : Nat) : Int))) f_74 (by kernel_rfl) (by kernel_rfl) rfl rfl (by kernel_rfl) (fun a_57 f_75 => ?_)
                  have f_76 : Frm 152 [(0, .slice A0 d0.length cap0), (1, .slice A1 d1.length cap1), (2, .int .i64 (((d2.tmod ((d0.length : Nat) : Int)) + ((d0.length : Nat) : Int)).tmod ((d0.length : Nat) : Int))), (3, .int .i64 d3), (4, .int .i64 (((d4.tmod ((d0.length : Nat) : Int)) + ((d0.length : Nat) : Int)).tmod ((d0.length : Nat) : Int))), (5, .bool d5), (13, .slice A_1 x_3.1.length cap_1), (16, .slice A_2 s_1.1.length cap_2), (19, .slice A_4 (([] : List Int) ++ x_5).length cap_4), (20, .int .i64 (((d3.tmod (((([] : List Int) ++ x_5).length : Nat) : Int)) + (((([] : List Int) ++ x_5).length : Nat) : Int)).tmod (((([] : List Int) ++ x_5).length : Nat) : Int))), (67, .slice A0 d0.length cap0), (68, .int .i64 ((d0.length : Nat) : Int)), (69, .int .i64 s_1.2), (95, .slice A_4 (([] : List Int) ++ x_5).length cap_4), (96, .int .i64 (((d3.tmod (((([] : List Int) ++ x_5).length : Nat) : Int)) + (((([] : List Int) ++ x_5).length : Nat) : Int)).tmod (((([] : List Int) ++ x_5).length : Nat) : Int)))] a_57 := f_75.keep (ks := [0, 1, 2, 3, 4, 5, 13, 16, 19, 20, 67, 68, 69, 95, 96]) (by kernel_rfl)
                  obtain ⟨g_11, hF_32⟩ := need_some hF_31
                  obtain ⟨A_5, cap_5, hv_1, hcap_1, hcn_1⟩ := p_12.rowShape 0 rfl
                  have f_77 := Frm.set f_76 95 (v := .slice A_4 (([] : List Int) ++ x_5).length cap_4) (v' := .slice A_5 (([] : List Int) ++ x_5).length cap_5) (by kernel_rfl) (hv_1)
                  have f_78 : Frm 152 [(0, .slice A0 d0.length cap0), (1, .slice A1 d1.length cap1), (2, .int .i64 (((d2.tmod ((d0.length : Nat) : Int)) + ((d0.length : Nat) : Int)).tmod ((d0.length : Nat) : Int))), (3, .int .i64 d3), (4, .int .i64 (((d4.tmod ((d0.length : Nat) : Int)) + ((d0.length : Nat) : Int)).tmod ((d0.length : Nat) : Int))), (5, .bool d5), (13, .slice A_1 x_3.1.length cap_1), (16, .slice A_2 s_1.1.length cap_2), (19, .slice A_4 (([] : List Int) ++ x_5).length cap_4), (20, .int .i64 (((d3.tmod (((([] : List Int) ++ x_5).length : Nat) : Int)) + (((([] : List Int) ++ x_5).length : Nat) : Int)).tmod (((([] : List Int) ++ x_5).length : Nat) : Int))), (67, .slice A0 d0.length cap0), (68, .int .i64 ((d0.length : Nat) : Int)), (69, .int .i64 s_1.2), (95, .slice A_5 (([] : List Int) ++ x_5).length cap_5), (96, .int .i64 (((d3.tmod (((([] : List Int) ++ x_5).length : Nat) : Int)) + (((([] : List Int) ++ x_5).length : Nat) : Int)).tmod (((([] : List Int) ++ x_5).length : Nat) : Int)))] a_57 := f_77.keep (ks := [0, 1, 2, 3, 4, 5, 13, 16, 19, 20, 67, 68, 69, 95, 96]) (by kernel_rfl)
                  refine ST_eq (v := .slice (cutA A_5 1 0 cap_5) (((d3.tmod (((([] : List Int) ++ x_5).length : Nat) : Int)) + (((([] : List Int) ++ x_5).length : Nat) : Int)).tmod (((([] : List Int) ++ x_5).length : Nat) : Int)).toNat cap_5) f_78 (by kernel_rfl) (by kernel_rfl) rfl rfl (X_sliceTo rfl (A := A_5) (len := (([] : List Int) ++ x_5).length) (cap := cap_5) (k' := .i64) (b := ((d3.tmod (((([] : List Int) ++ x_5).length : Nat) : Int)) + (((([] : List Int) ++ x_5).length : Nat) : Int)).tmod (((([] : List Int) ++ x_5).length : Nat) : Int)) (by kernel_rfl) (by kernel_rfl) (e := 3) (by kernel_rfl) (sz := 1) (by kernel_rfl) (by omega) (by omega)) (fun a_58 f_79 => ?_)
                  have f_80 := Frm.set f_79 95 (v := .slice A_5 (([] : List Int) ++ x_5).length cap_5) (v' := .slice A_4 (([] : List Int) ++ x_5).length cap_4) (by kernel_rfl) (hv_1.symm)
                  have f_81 : Frm 152 [(0, .slice A0 d0.length cap0), (1, .slice A1 d1.length cap1), (2, .int .i64 (((d2.tmod ((d0.length : Nat) : Int)) + ((d0.length : Nat) : Int)).tmod ((d0.length : Nat) : Int))), (3, .int .i64 d3), (4, .int .i64 (((d4.tmod ((d0.length : Nat) : Int)) + ((d0.length : Nat) : Int)).tmod ((d0.length : Nat) : Int))), (5, .bool d5), (13, .slice A_1 x_3.1.length cap_1), (16, .slice A_2 s_1.1.length cap_2), (19, .slice A_4 (([] : List Int) ++ x_5).length cap_4), (20, .int .i64 (((d3.tmod (((([] : List Int) ++ x_5).length : Nat) : Int)) + (((([] : List Int) ++ x_5).length : Nat) : Int)).tmod (((([] : List Int) ++ x_5).length : Nat) : Int))), (67, .slice A0 d0.length cap0), (68, .int .i64 ((d0.length : Nat) : Int)), (69, .int .i64 s_1.2), (95, .slice A_4 (([] : List Int) ++ x_5).length cap_4), (96, .int .i64 (((d3.tmod (((([] : List Int) ++ x_5).length : Nat) : Int)) + (((([] : List Int) ++ x_5).length : Nat) : Int)).tmod (((([] : List Int) ++ x_5).length : Nat) : Int))), (97, .slice (cutA A_5 1 0 cap_5) (((d3.tmod (((([] : List Int) ++ x_5).length : Nat) : Int)) + (((([] : List Int) ++ x_5).length : Nat) : Int)).tmod (((([] : List Int) ++ x_5).length : Nat) : Int)).toNat cap_5)] a_58 := f_80.keep (ks := [0, 1, 2, 3, 4, 5, 13, 16, 19, 20, 67, 68, 69, 95, 96, 97]) (by kernel_rfl)
                  refine ST_eq (v := .slice A_4 (([] : List Int) ++ x_5).length cap_4) f_81 (by kernel_rfl) (by kernel_rfl) rfl rfl (by kernel_rfl) (fun a_59 f_82 => ?_)
                  refine ST_eq (v := .int .i64 (((d3.tmod (((([] : List Int) ++ x_5).length : Nat) : Int)) + (((([] : List Int) ++ x_5).length : Nat) : Int)).tmod (((([] : List Int) ++ x_5).length : Nat) : Int))) f_82 (by kernel_rfl) (by kernel_rfl) rfl rfl (by kernel_rfl) (fun a_60 f_83 => ?_)
                  have f_84 : Frm 152 [(0, .slice A0 d0.length cap0), (1, .slice A1 d1.length cap1), (2, .int .i64 (((d2.tmod ((d0.length : Nat) : Int)) + ((d0.length : Nat) : Int)).tmod ((d0.length : Nat) : Int))), (3, .int .i64 d3), (4, .int .i64 (((d4.tmod ((d0.length : Nat) : Int)) + ((d0.length : Nat) : Int)).tmod ((d0.length : Nat) : Int))), (5, .bool d5), (13, .slice A_1 x_3.1.length cap_1), (16, .slice A_2 s_1.1.length cap_2), (67, .slice A0 d0.length cap0), (68, .int .i64 ((d0.length : Nat) : Int)), (69, .int .i64 s_1.2), (97, .slice (cutA A_5 1 0 cap_5) (((d3.tmod (((([] : List Int) ++ x_5).length : Nat) : Int)) + (((([] : List Int) ++ x_5).length : Nat) : Int)).tmod (((([] : List Int) ++ x_5).length : Nat) : Int)).toNat cap_5), (98, .slice A_4 (([] : List Int) ++ x_5).length cap_4), (99, .int .i64 (((d3.tmod (((([] : List Int) ++ x_5).length : Nat) : Int)) + (((([] : List Int) ++ x_5).length : Nat) : Int)).tmod (((([] : List Int) ++ x_5).length : Nat) : Int)))] a_60 := f_83.keep (ks := [0, 1, 2, 3, 4, 5, 13, 16, 67, 68, 69, 97, 98, 99]) (by kernel_rfl)
                  obtain ⟨g_12, hF_33⟩ := need_some hF_32
                  refine ST_eq (v := .int .i64 (IntKind.wrap .i64 ((((d3.tmod (((([] : List Int) ++ x_5).length : Nat) : Int)) + (((([] : List Int) ++ x_5).length : Nat) : Int)).tmod (((([] : List Int) ++ x_5).length : Nat) : Int)) + 1))) f_84 (by kernel_rfl) (by kernel_rfl) rfl rfl (by kernel_rfl) (fun a_61 f_85 => ?_)
                  have f_86 := Frm.set f_85 100 (v := .int .i64 (IntKind.wrap .i64 ((((d3.tmod (((([] : List Int) ++ x_5).length : Nat) : Int)) + (((([] : List Int) ++ x_5).length : Nat) : Int)).tmod (((([] : List Int) ++ x_5).length : Nat) : Int)) + 1))) (v' := .int .i64 ((((d3.tmod (((([] : List Int) ++ x_5).length : Nat) : Int)) + (((([] : List Int) ++ x_5).length : Nat) : Int)).tmod (((([] : List Int) ++ x_5).length : Nat) : Int)) + 1)) (by kernel_rfl) (congrArg (Value.int .i64) (inR_wrap g_12))
                  have f_87 : Frm 152 [(0, .slice A0 d0.length cap0), (1, .slice A1 d1.length cap1), (2, .int .i64 (((d2.tmod ((d0.length : Nat) : Int)) + ((d0.length : Nat) : Int)).tmod ((d0.length : Nat) : Int))), (3, .int .i64 d3), (4, .int .i64 (((d4.tmod ((d0.length : Nat) : Int)) + ((d0.length : Nat) : Int)).tmod ((d0.length : Nat) : Int))), (5, .bool d5), (13, .slice A_1 x_3.1.length cap_1), (16, .slice A_2 s_1.1.length cap_2), (67, .slice A0 d0.length cap0), (68, .int .i64 ((d0.length : Nat) : Int)), (69, .int .i64 s_1.2), (97, .slice (cutA A_5 1 0 cap_5) (((d3.tmod (((([] : List Int) ++ x_5).length : Nat) : Int)) + (((([] : List Int) ++ x_5).length : Nat) : Int)).tmod (((([] : List Int) ++ x_5).length : Nat) : Int)).toNat cap_5), (98, .slice A_4 (([] : List Int) ++ x_5).length cap_4), (99, .int .i64 (((d3.tmod (((([] : List Int) ++ x_5).length : Nat) : Int)) + (((([] : List Int) ++ x_5).length : Nat) : Int)).tmod (((([] : List Int) ++ x_5).length : Nat) : Int))), (100, .int .i64 ((((d3.tmod (((([] : List Int) ++ x_5).length : Nat) : Int)) + (((([] : List Int) ++ x_5).length : Nat) : Int)).tmod (((([] : List Int) ++ x_5).length : Nat) : Int)) + 1))] a_61 := f_86.keep (ks := [0, 1, 2, 3, 4, 5, 13, 16, 67, 68, 69, 97, 98, 99, 100]) (by kernel_rfl)
                  obtain ⟨g_13, hF_34⟩ := need_some hF_33
                  obtain ⟨A_6, cap_6, hv_2, hcap_2, hcn_2⟩ := p_12.rowShape 0 rfl
                  have f_88 := Frm.set f_87 98 (v := .slice A_4 (([] : List Int) ++ x_5).length cap_4) (v' := .slice A_6 (([] : List Int) ++ x_5).length cap_6) (by kernel_rfl) (hv_2)
                  have f_89 : Frm 152 [(0, .slice A0 d0.length cap0), (1, .slice A1 d1.length cap1), (2, .int .i64 (((d2.tmod ((d0.length : Nat) : Int)) + ((d0.length : Nat) : Int)).tmod ((d0.length : Nat) : Int))), (3, .int .i64 d3), (4, .int .i64 (((d4.tmod ((d0.length : Nat) : Int)) + ((d0.length : Nat) : Int)).tmod ((d0.length : Nat) : Int))), (5, .bool d5), (13, .slice A_1 x_3.1.length cap_1), (16, .slice A_2 s_1.1.length cap_2), (67, .slice A0 d0.length cap0), (68, .int .i64 ((d0.length : Nat) : Int)), (69, .int .i64 s_1.2), (97, .slice (cutA A_5 1 0 cap_5) (((d3.tmod (((([] : List Int) ++ x_5).length : Nat) : Int)) + (((([] : List Int) ++ x_5).length : Nat) : Int)).tmod (((([] : List Int) ++ x_5).length : Nat) : Int)).toNat cap_5), (98, .slice A_6 (([] : List Int) ++ x_5).length cap_6), (99, .int .i64 (((d3.tmod (((([] : List Int) ++ x_5).length : Nat) : Int)) + (((([] : List Int) ++ x_5).length : Nat) : Int)).tmod (((([] : List Int) ++ x_5).length : Nat) : Int))), (100, .int .i64 ((((d3.tmod (((([] : List Int) ++ x_5).length : Nat) : Int)) + (((([] : List Int) ++ x_5).length : Nat) : Int)).tmod (((([] : List Int) ++ x_5).length : Nat) : Int)) + 1))] a_61 := f_88.keep (ks := [0, 1, 2, 3, 4, 5, 13, 16, 67, 68, 69, 97, 98, 99, 100]) (by kernel_rfl)
                  refine ST_eq (v := .slice (cutA A_6 1 ((((d3.tmod (((([] : List Int) ++ x_5).length : Nat) : Int)) + (((([] : List Int) ++ x_5).length : Nat) : Int)).tmod (((([] : List Int) ++ x_5).length : Nat) : Int)) + 1).toNat cap_6) ((([] : List Int) ++ x_5).length - ((((d3.tmod (((([] : List Int) ++ x_5).length : Nat) : Int)) + (((([] : List Int) ++ x_5).length : Nat) : Int)).tmod (((([] : List Int) ++ x_5).length : Nat) : Int)) + 1).toNat) (cap_6 - ((((d3.tmod (((([] : List Int) ++ x_5).length : Nat) : Int)) + (((([] : List Int) ++ x_5).length : Nat) : Int)).tmod (((([] : List Int) ++ x_5).length : Nat) : Int)) + 1).toNat)) f_89 (by kernel_rfl) (by kernel_rfl) rfl rfl (X_sliceFrom rfl (A := A_6) (len := (([] : List Int) ++ x_5).length) (cap := cap_6) (k := .i64) (a := (((d3.tmod (((([] : List Int) ++ x_5).length : Nat) : Int)) + (((([] : List Int) ++ x_5).length : Nat) : Int)).tmod (((([] : List Int) ++ x_5).length : Nat) : Int)) + 1) (by kernel_rfl) (by kernel_rfl) (e := 3) (by kernel_rfl) (sz := 1) (by kernel_rfl) (by omega) (by omega)) (fun a_62 f_90 => ?_)
                  have f_91 := Frm.set f_90 98 (v := .slice A_6 (([] : List Int) ++ x_5).length cap_6) (v' := .slice A_4 (([] : List Int) ++ x_5).length cap_4) (by kernel_rfl) (hv_2.symm)
                  have f_92 : Frm 152 [(0, .slice A0 d0.length cap0), (1, .slice A1 d1.length cap1), (2, .int .i64 (((d2.tmod ((d0.length : Nat) : Int)) + ((d0.length : Nat) : Int)).tmod ((d0.length : Nat) : Int))), (3, .int .i64 d3), (4, .int .i64 (((d4.tmod ((d0.length : Nat) : Int)) + ((d0.length : Nat) : Int)).tmod ((d0.length : Nat) : Int))), (5, .bool d5), (13, .slice A_1 x_3.1.length cap_1), (16, .slice A_2 s_1.1.length cap_2), (67, .slice A0 d0.length cap0), (68, .int .i64 ((d0.length : Nat) : Int)), (69, .int .i64 s_1.2), (97, .slice (cutA A_5 1 0 cap_5) (((d3.tmod (((([] : List Int) ++ x_5).length : Nat) : Int)) + (((([] : List Int) ++ x_5).length : Nat) : Int)).tmod (((([] : List Int) ++ x_5).length : Nat) : Int)).toNat cap_5), (98, .slice A_4 (([] : List Int) ++ x_5).length cap_4), (99, .int .i64 (((d3.tmod (((([] : List Int) ++ x_5).length : Nat) : Int)) + (((([] : List Int) ++ x_5).length : Nat) : Int)).tmod (((([] : List Int) ++ x_5).length : Nat) : Int))), (100, .int .i64 ((((d3.tmod (((([] : List Int) ++ x_5).length : Nat) : Int)) + (((([] : List Int) ++ x_5).length : Nat) : Int)).tmod (((([] : List Int) ++ x_5).length : Nat) : Int)) + 1)), (101, .slice (cutA A_6 1 ((((d3.tmod (((([] : List Int) ++ x_5).length : Nat) : Int)) + (((([] : List Int) ++ x_5).length : Nat) : Int)).tmod (((([] : List Int) ++ x_5).length : Nat) : Int)) + 1).toNat cap_6) ((([] : List Int) ++ x_5).length - ((((d3.tmod (((([] : List Int) ++ x_5).length : Nat) : Int)) + (((([] : List Int) ++ x_5).length : Nat) : Int)).tmod (((([] : List Int) ++ x_5).length : Nat) : Int)) + 1).toNat) (cap_6 - ((((d3.tmod (((([] : List Int) ++ x_5).length : Nat) : Int)) + (((([] : List Int) ++ x_5).length : Nat) : Int)).tmod (((([] : List Int) ++ x_5).length : Nat) : Int)) + 1).toNat))] a_62 := f_91.keep (ks := [0, 1, 2, 3, 4, 5, 13, 16, 67, 68, 69, 97, 98, 99, 100, 101]) (by kernel_rfl)
                  refine ST_end rfl ?_
                  have he_1 := Value.slice.inj (hv_2.symm.trans hv_1)
                  obtain ⟨g_14, hF_35⟩ := need_some hF_34
                  have f_93 := Frm.set f_92 101 (v := .slice (cutA A_6 1 ((((d3.tmod (((([] : List Int) ++ x_5).length : Nat) : Int)) + (((([] : List Int) ++ x_5).length : Nat) : Int)).tmod (((([] : List Int) ++ x_5).length : Nat) : Int)) + 1).toNat cap_6) ((([] : List Int) ++ x_5).length - ((((d3.tmod (((([] : List Int) ++ x_5).length : Nat) : Int)) + (((([] : List Int) ++ x_5).length : Nat) : Int)).tmod (((([] : List Int) ++ x_5).length : Nat) : Int)) + 1).toNat) (cap_6 - ((((d3.tmod (((([] : List Int) ++ x_5).length : Nat) : Int)) + (((([] : List Int) ++ x_5).length : Nat) : Int)).tmod (((([] : List Int) ++ x_5).length : Nat) : Int)) + 1).toNat)) (v' := .slice (cutA A_5 1 ((((d3.tmod (((([] : List Int) ++ x_5).length : Nat) : Int)) + (((([] : List Int) ++ x_5).length : Nat) : Int)).tmod (((([] : List Int) ++ x_5).length : Nat) : Int)).toNat + 1) cap_5) ((([] : List Int) ++ x_5).length - ((((d3.tmod (((([] : List Int) ++ x_5).length : Nat) : Int)) + (((([] : List Int) ++ x_5).length : Nat) : Int)).tmod (((([] : List Int) ++ x_5).length : Nat) : Int)).toNat + 1)) (cap_5 - ((((d3.tmod (((([] : List Int) ++ x_5).length : Nat) : Int)) + (((([] : List Int) ++ x_5).length : Nat) : Int)).tmod (((([] : List Int) ++ x_5).length : Nat) : Int)).toNat + 1))) (by kernel_rfl) (by rw [g_14.1, he_1.1, he_1.2.2])
                  have f_94 : Frm 152 [(0, .slice A0 d0.length cap0), (1, .slice A1 d1.length cap1), (2, .int .i64 (((d2.tmod ((d0.length : Nat) : Int)) + ((d0.length : Nat) : Int)).tmod ((d0.length : Nat) : Int))), (3, .int .i64 d3), (4, .int .i64 (((d4.tmod ((d0.length : Nat) : Int)) + ((d0.length : Nat) : Int)).tmod ((d0.length : Nat) : Int))), (5, .bool d5), (13, .slice A_1 x_3.1.length cap_1), (16, .slice A_2 s_1.1.length cap_2), (67, .slice A0 d0.length cap0), (68, .int .i64 ((d0.length : Nat) : Int)), (69, .int .i64 s_1.2), (97, .slice (cutA A_5 1 0 cap_5) (((d3.tmod (((([] : List Int) ++ x_5).length : Nat) : Int)) + (((([] : List Int) ++ x_5).length : Nat) : Int)).tmod (((([] : List Int) ++ x_5).length : Nat) : Int)).toNat cap_5), (98, .slice A_4 (([] : List Int) ++ x_5).length cap_4), (99, .int .i64 (((d3.tmod (((([] : List Int) ++ x_5).length : Nat) : Int)) + (((([] : List Int) ++ x_5).length : Nat) : Int)).tmod (((([] : List Int) ++ x_5).length : Nat) : Int))), (100, .int .i64 ((((d3.tmod (((([] : List Int) ++ x_5).length : Nat) : Int)) + (((([] : List Int) ++ x_5).length : Nat) : Int)).tmod (((([] : List Int) ++ x_5).length : Nat) : Int)) + 1)), (101, .slice (cutA A_5 1 ((((d3.tmod (((([] : List Int) ++ x_5).length : Nat) : Int)) + (((([] : List Int) ++ x_5).length : Nat) : Int)).tmod (((([] : List Int) ++ x_5).length : Nat) : Int)).toNat + 1) cap_5) ((([] : List Int) ++ x_5).length - ((((d3.tmod (((([] : List Int) ++ x_5).length : Nat) : Int)) + (((([] : List Int) ++ x_5).length : Nat) : Int)).tmod (((([] : List Int) ++ x_5).length : Nat) : Int)).toNat + 1)) (cap_5 - ((((d3.tmod (((([] : List Int) ++ x_5).length : Nat) : Int)) + (((([] : List Int) ++ x_5).length : Nat) : Int)).tmod (((([] : List Int) ++ x_5).length : Nat) : Int)).toNat + 1)))] a_62 := f_93.keep (ks := [0, 1, 2, 3, 4, 5, 13, 16, 67, 68, 69, 97, 98, 99, 100, 101]) (by kernel_rfl)
                  refine W_rowRemove (z := .int .i64 0) (bytes := 8) (f := (Dat.int .i64)) (xs := ([] : List Int) ++ x_5) (k := (((d3.tmod (((([] : List Int) ++ x_5).length : Nat) : Int)) + (((([] : List Int) ++ x_5).length : Nat) : Int)).tmod (((([] : List Int) ++ x_5).length : Nat) : Int)).toNat) f_94 p_12 (szd_int .i64) (RepSeq.mono hM_4 _ _ hr_6) hv_1 g_14.2 (by kernel_rfl) (by kernel_rfl) rfl rfl rfl (by kernel_rfl) (by kernel_rfl) (by kernel_rfl) (by kernel_rfl) (fun A_7 cap_7 cs_4 w_11 p_13 hr_7 a_63 f_95 => ?_)
                  refine W_run (L' := [(0, .slice A0 d0.length cap0), (1, .slice A1 d1.length cap1), (2, .int .i64 (((d2.tmod ((d0.length : Nat) : Int)) + ((d0.length : Nat) : Int)).tmod ((d0.length : Nat) : Int))), (3, .int .i64 d3), (4, .int .i64 (((d4.tmod ((d0.length : Nat) : Int)) + ((d0.length : Nat) : Int)).tmod ((d0.length : Nat) : Int))), (5, .bool d5), (13, .slice A_1 x_3.1.length cap_1), (16, .slice A_2 s_1.1.length cap_2), (19, .slice A_7 ((([] : List Int) ++ x_5).take (((d3.tmod (((([] : List Int) ++ x_5).length : Nat) : Int)) + (((([] : List Int) ++ x_5).length : Nat) : Int)).tmod (((([] : List Int) ++ x_5).length : Nat) : Int)).toNat ++ (([] : List Int) ++ x_5).drop ((((d3.tmod (((([] : List Int) ++ x_5).length : Nat) : Int)) + (((([] : List Int) ++ x_5).length : Nat) : Int)).tmod (((([] : List Int) ++ x_5).length : Nat) : Int)).toNat + 1)).length cap_7), (67, .slice A0 d0.length cap0), (68, .int .i64 ((d0.length : Nat) : Int)), (69, .int .i64 s_1.2)]) (w' := w_11) f_95 1 [0, 1, 2, 3, 4, 5, 13, 16, 19, 67, 68, 69] (by kernel_rfl) (fun a_64 f_96 => ?_)
                  refine W_end rfl ?_
                  refine T_n ?_
                  exact ⟨(([] : List Int) ++ x_5).take (((d3.tmod (((([] : List Int) ++ x_5).length : Nat) : Int)) + (((([] : List Int) ++ x_5).length : Nat) : Int)).tmod (((([] : List Int) ++ x_5).length : Nat) : Int)).toNat ++ (([] : List Int) ++ x_5).drop ((((d3.tmod (((([] : List Int) ++ x_5).length : Nat) : Int)) + (((([] : List Int) ++ x_5).length : Nat) : Int)).tmod (((([] : List Int) ++ x_5).length : Nat) : Int)).toNat + 1), (Option.some.inj hF_35).symm, M_4, (Mem.le_refl _), A_7, cap_7, cs_4, hr_7, f_96.keep (ks := [0, 1, 2, 3, 4, 5, 13, 16, 19, 67, 68, 69]) (by kernel_rfl), p_13⟩
                · have hF_36 := cnd_f h_8 hj_3
                  refine wp_skip ?_
                  refine T_n ?_
                  exact ⟨([] : List Int) ++ x_5, (Option.some.inj hF_36).symm, M_4, (Mem.le_refl _), A_4, cap_4, cs_3, (RepSeq.mono hM_4 _ _ hr_6), f_64.keep (ks := [0, 1, 2, 3, 4, 5, 13, 16, 19, 67, 68, 69]) (by kernel_rfl), p_11⟩
              · rintro a_65 w_12 ⟨y_3, hq_3, M_5, hM_5, A_8, cap_8, cs_5, hr_8, f_97, p_14⟩
                subst j_3
                refine T_n ?_
                refine R_reg ?_
                refine W_run (L' := [(0, .slice A0 d0.length cap0), (1, .slice A1 d1.length cap1), (2, .int .i64 (((d2.tmod ((d0.length : Nat) : Int)) + ((d0.length : Nat) : Int)).tmod ((d0.length : Nat) : Int))), (3, .int .i64 d3), (4, .int .i64 (((d4.tmod ((d0.length : Nat) : Int)) + ((d0.length : Nat) : Int)).tmod ((d0.length : Nat) : Int))), (5, .bool d5), (13, .slice A_1 x_3.1.length cap_1), (67, .slice A0 d0.length cap0), (68, .int .i64 ((d0.length : Nat) : Int)), (69, .int .i64 s_1.2), (103, .slice A_2 s_1.1.length cap_2), (104, .slice A_8 y_3.length cap_8)]) (w' := w_12) f_97 2 [0, 1, 2, 3, 4, 5, 13, 67, 68, 69, 103, 104] (by kernel_rfl) (fun a_66 f_98 => ?_)
                refine W_alloc f_98 p_14 1 [0, 1, 2, 3, 4, 5, 13, 67, 68, 69, 103, 104, 105] (.cells #[.slice A_8 y_3.length cap_8] 26 (0, 0)) (fun b_3 => [(0, .slice A0 d0.length cap0), (1, .slice A1 d1.length cap1), (2, .int .i64 (((d2.tmod ((d0.length : Nat) : Int)) + ((d0.length : Nat) : Int)).tmod ((d0.length : Nat) : Int))), (3, .int .i64 d3), (4, .int .i64 (((d4.tmod ((d0.length : Nat) : Int)) + ((d0.length : Nat) : Int)).tmod ((d0.length : Nat) : Int))), (5, .bool d5), (13, .slice A_1 x_3.1.length cap_1), (67, .slice A0 d0.length cap0), (68, .int .i64 ((d0.length : Nat) : Int)), (69, .int .i64 s_1.2), (103, .slice A_2 s_1.1.length cap_2), (104, .slice A_8 y_3.length cap_8), (105, .slice (some ⟨b_3, 0, none⟩) 1 1)]) (fun _ => by kernel_rfl) (fun b_3 w_13 p_15 a_67 f_99 => ?_)
                replace f_99 : Frm 152 [(0, .slice A0 d0.length cap0), (1, .slice A1 d1.length cap1), (2, .int .i64 (((d2.tmod ((d0.length : Nat) : Int)) + ((d0.length : Nat) : Int)).tmod ((d0.length : Nat) : Int))), (3, .int .i64 d3), (4, .int .i64 (((d4.tmod ((d0.length : Nat) : Int)) + ((d0.length : Nat) : Int)).tmod ((d0.length : Nat) : Int))), (5, .bool d5), (13, .slice A_1 x_3.1.length cap_1), (67, .slice A0 d0.length cap0), (68, .int .i64 ((d0.length : Nat) : Int)), (69, .int .i64 s_1.2), (103, .slice A_2 s_1.1.length cap_2), (104, .slice A_8 y_3.length cap_8), (105, .slice (some ⟨b_3, 0, none⟩) 1 1)] a_67 := f_99
                have p_16 : Hp w0 M_5 ((Ent.row 3 1 (.slice A_8 y_3.length cap_8) y_3.length cs_5) :: (Ent.obj b_3 (.cells #[.slice A_8 y_3.length cap_8] 26 (0, 0))) :: (Ent.row 26 1 (.slice A_2 s_1.1.length cap_2) s_1.1.length cs_2) :: (Ent.row 3 1 (.slice A_1 x_3.1.length cap_1) x_3.1.length cs_1) :: H) w_13 := p_15.pull 1 rfl rfl
                obtain ⟨A_9, cap_9, M_6, hv_3, hM_6, p_17, h_9⟩ := p_16.rowSli (f := (Dat.int .i64)) (xs := y_3) (szd_int .i64) hr_8
                have f_100 := Frm.set f_99 104 (v := .slice A_8 y_3.length cap_8) (v' := .slice A_9 y_3.length cap_9) (by kernel_rfl) (hv_3)
                have f_101 : Frm 152 [(0, .slice A0 d0.length cap0), (1, .slice A1 d1.length cap1), (2, .int .i64 (((d2.tmod ((d0.length : Nat) : Int)) + ((d0.length : Nat) : Int)).tmod ((d0.length : Nat) : Int))), (3, .int .i64 d3), (4, .int .i64 (((d4.tmod ((d0.length : Nat) : Int)) + ((d0.length : Nat) : Int)).tmod ((d0.length : Nat) : Int))), (5, .bool d5), (13, .slice A_1 x_3.1.length cap_1), (67, .slice A0 d0.length cap0), (68, .int .i64 ((d0.length : Nat) : Int)), (69, .int .i64 s_1.2), (103, .slice A_2 s_1.1.length cap_2), (104, .slice A_9 y_3.length cap_9), (105, .slice (some ⟨b_3, 0, none⟩) 1 1)] a_67 := f_100.keep (ks := [0, 1, 2, 3, 4, 5, 13, 67, 68, 69, 103, 104, 105]) (by kernel_rfl)
                have p_18 : Hp w0 M_6 ((Ent.obj b_3 (.cells #[.slice A_9 y_3.length cap_9] 26 (0, 0))) :: (Ent.row 26 1 (.slice A_2 s_1.1.length cap_2) s_1.1.length cs_2) :: (Ent.row 3 1 (.slice A_1 x_3.1.length cap_1) x_3.1.length cs_1) :: H) w_13 := by rw [hv_3] at p_17; exact p_17
                have p_19 : Hp w0 M_6 ((Ent.row 26 1 (.slice A_2 s_1.1.length cap_2) s_1.1.length cs_2) :: (Ent.obj b_3 (.cells #[.slice A_9 y_3.length cap_9] 26 (0, 0))) :: (Ent.row 3 1 (.slice A_1 x_3.1.length cap_1) x_3.1.length cs_1) :: H) w_13 := p_18.pull 1 rfl rfl
                obtain ⟨g_15, hF_37⟩ := need_some hF_27
                refine W_appendL (z := .slice none 0 0) (f := (eL 1 (Dat.int .i64))) (xs := s_1.1) (ys := [y_3]) (news := [.slice A_9 y_3.length cap_9]) (ad := ⟨b_3, 0, none⟩) (m := 1) (c := 1) f_101 p_19 (RepSeq.mono ((hM_4.trans hM_5).trans hM_6) _ _ hr_3) (by exact ⟨_, _, rfl, Sli.rep h_9, rfl⟩) (by kernel_rfl) (by kernel_rfl) rfl rfl rfl (by kernel_rfl) (by kernel_rfl) (by kernel_rfl) (by kernel_rfl) rfl (own_cells (p_19.ownCell 1 rfl) 0 rfl) (by exact g_15) (by have := g_15; simp only [List.length_cons, List.length_nil] at *; omega) (fun A_10 cap_10 cs_6 w_14 p_20 hr_9 a_68 f_102 => ?_)
                have p_21 : Hp w0 M_6 ((Ent.obj b_3 (.cells #[.slice A_9 y_3.length cap_9] 26 (0, 0))) :: (Ent.row 26 1 (.slice A_10 (s_1.1 ++ [y_3]).length cap_10) (s_1.1 ++ [y_3]).length cs_6) :: (Ent.row 3 1 (.slice A_1 x_3.1.length cap_1) x_3.1.length cs_1) :: H) w_14 := p_20.pull 1 rfl rfl
                have p_22 := p_21.drop
                refine W_run (L' := [(0, .slice A0 d0.length cap0), (1, .slice A1 d1.length cap1), (2, .int .i64 (((d2.tmod ((d0.length : Nat) : Int)) + ((d0.length : Nat) : Int)).tmod ((d0.length : Nat) : Int))), (3, .int .i64 d3), (4, .int .i64 (((d4.tmod ((d0.length : Nat) : Int)) + ((d0.length : Nat) : Int)).tmod ((d0.length : Nat) : Int))), (5, .bool d5), (13, .slice A_1 x_3.1.length cap_1), (16, .slice A_10 (s_1.1 ++ [y_3]).length cap_10), (67, .slice A0 d0.length cap0), (68, .int .i64 ((d0.length : Nat) : Int)), (69, .int .i64 s_1.2)]) (w' := w_14) f_102 1 [0, 1, 2, 3, 4, 5, 13, 16, 67, 68, 69] (by kernel_rfl) (fun a_69 f_103 => ?_)
                refine W_end rfl ?_
                refine B_n ?_
                refine T_n ?_
                refine R_reg ?_
                obtain ⟨g_16, hF_38⟩ := need_some hF_37
                refine W_run (L' := [(0, .slice A0 d0.length cap0), (1, .slice A1 d1.length cap1), (2, .int .i64 (((d2.tmod ((d0.length : Nat) : Int)) + ((d0.length : Nat) : Int)).tmod ((d0.length : Nat) : Int))), (3, .int .i64 d3), (4, .int .i64 (((d4.tmod ((d0.length : Nat) : Int)) + ((d0.length : Nat) : Int)).tmod ((d0.length : Nat) : Int))), (5, .bool d5), (13, .slice A_1 x_3.1.length cap_1), (16, .slice A_10 (s_1.1 ++ [y_3]).length cap_10), (67, .slice A0 d0.length cap0), (68, .int .i64 ((d0.length : Nat) : Int)), (69, .int .i64 s_1.2), (107, .int .i64 (IntKind.wrap .i64 (s_1.2 + 1)))]) (w' := w_14) f_103 1 [0, 1, 2, 3, 4, 5, 13, 16, 67, 68, 69, 107] (by kernel_rfl) (fun a_70 f_104 => ?_)
                have f_105 := Frm.set f_104 107 (v := .int .i64 (IntKind.wrap .i64 (s_1.2 + 1))) (v' := .int .i64 (s_1.2 + 1)) (by kernel_rfl) (congrArg (Value.int .i64) (inR_wrap g_16))
                have f_106 : Frm 152 [(0, .slice A0 d0.length cap0), (1, .slice A1 d1.length cap1), (2, .int .i64 (((d2.tmod ((d0.length : Nat) : Int)) + ((d0.length : Nat) : Int)).tmod ((d0.length : Nat) : Int))), (3, .int .i64 d3), (4, .int .i64 (((d4.tmod ((d0.length : Nat) : Int)) + ((d0.length : Nat) : Int)).tmod ((d0.length : Nat) : Int))), (5, .bool d5), (13, .slice A_1 x_3.1.length cap_1), (16, .slice A_10 (s_1.1 ++ [y_3]).length cap_10), (67, .slice A0 d0.length cap0), (68, .int .i64 ((d0.length : Nat) : Int)), (69, .int .i64 s_1.2), (107, .int .i64 (s_1.2 + 1))] a_70 := f_105.keep (ks := [0, 1, 2, 3, 4, 5, 13, 16, 67, 68, 69, 107]) (by kernel_rfl)
                refine W_run (L' := [(0, .slice A0 d0.length cap0), (1, .slice A1 d1.length cap1), (2, .int .i64 (((d2.tmod ((d0.length : Nat) : Int)) + ((d0.length : Nat) : Int)).tmod ((d0.length : Nat) : Int))), (3, .int .i64 d3), (4, .int .i64 (((d4.tmod ((d0.length : Nat) : Int)) + ((d0.length : Nat) : Int)).tmod ((d0.length : Nat) : Int))), (5, .bool d5), (13, .slice A_1 x_3.1.length cap_1), (16, .slice A_10 (s_1.1 ++ [y_3]).length cap_10), (67, .slice A0 d0.length cap0), (68, .int .i64 ((d0.length : Nat) : Int)), (69, .int .i64 (s_1.2 + 1))]) (w' := w_14) f_106 1 [0, 1, 2, 3, 4, 5, 13, 16, 67, 68, 69] (by kernel_rfl) (fun a_71 f_107 => ?_)
                refine W_end rfl ?_
                refine T_n ?_
                obtain rfl := Option.some.inj hF_38
                exact ⟨⟨m_2, (s_1.1 ++ [y_3], s_1.2 + 1), A_10, cap_10, cs_6⟩, Nat.lt_succ_self _, M_6, (((hM_3.trans hM_4).trans hM_5).trans hM_6), ⟨hn_1, hr_9⟩, f_107.keep (ks := [0, 1, 2, 3, 4, 5, 13, 16, 67, 68, 69]) (by kernel_rfl), p_22⟩
          · have k_14 : ¬ (s_1.2 < ((d0.length : Nat) : Int)) := iff_f decide_eq_true_iff h_5
            have hF_39 := cnd_f h_5 hs_1
            refine wp_exit ?_
            refine T_x ?_
            refine T_x ?_
            obtain rfl := Option.some.inj hF_39
            exact ⟨rfl, s_1.1, (Option.some.inj hn_1).symm, M_3, hM_3, A_2, cap_2, cs_2, hr_3, f_48.keep (ks := [0, 1, 4, 5, 13, 16]) (by kernel_rfl), p_7⟩
        · rintro _ a_73 w_16 ⟨rfl, y_4, hq_, M_7, hM_7, A_11, cap_11, cs_7, hr_10, f_108, p_23⟩
          subst b_1
          refine B_x ?_
          refine T_n ?_
          refine R_seq ?_
          refine R_reg ?_
          refine W_run (L' := [(0, .slice A0 d0.length cap0), (1, .slice A1 d1.length cap1), (4, .int .i64 (((d4.tmod ((d0.length : Nat) : Int)) + ((d0.length : Nat) : Int)).tmod ((d0.length : Nat) : Int))), (5, .bool d5), (13, .slice A_1 x_3.1.length cap_1), (109, .slice A_11 y_4.length cap_11), (110, .slice A1 d1.length cap1), (111, .bool d5)]) (w' := w_16) f_108 3 [0, 1, 4, 5, 13, 109, 110, 111] (by kernel_rfl) (fun a_74 f_109 => ?_)
          obtain ⟨M_8, A_12, cap_12, hM_8, hv_4, p_24, h_10, hb_1⟩ := p_23.lend (f := (eL 1 (Dat.int .i64))) (xs := y_4) (fun _ => szd_list _ _) hr_10
          have f_110 := Frm.set f_109 109 (v := .slice A_11 y_4.length cap_11) (v' := .slice A_12 y_4.length cap_12) (by kernel_rfl) (hv_4)
          have f_111 : Frm 152 [(0, .slice A0 d0.length cap0), (1, .slice A1 d1.length cap1), (4, .int .i64 (((d4.tmod ((d0.length : Nat) : Int)) + ((d0.length : Nat) : Int)).tmod ((d0.length : Nat) : Int))), (5, .bool d5), (13, .slice A_1 x_3.1.length cap_1), (109, .slice A_12 y_4.length cap_12), (110, .slice A1 d1.length cap1), (111, .bool d5)] a_74 := f_110.keep (ks := [0, 1, 4, 5, 13, 109, 110, 111]) (by kernel_rfl)
          obtain ⟨x_6, hx_6, hF_40⟩ := bind_some' hF_20
          refine W_okH (E := []) (H := ((Ent.row 3 1 (.slice A_1 x_3.1.length cap_1) x_3.1.length cs_1) :: H)) f_111 p_24 (by kernel_rfl) (by kernel_rfl) rfl rfl (fun _ => by kernel_rfl) (ready_Ready_ok n _ A_12 cap_12 y_4 h_10 A1 cap1 d1 (h1.mono (((hM_1.trans hM_2).trans hM_7).trans hM_8)) (d5) x_6 hx_6) (fun u_2 M_9 E_2 w_17 hM_9 p_25 q_2 a_75 f_112 => ?_)
          obtain ⟨A_13, cap_13, cs_8, rfl, rfl, hr_11⟩ := q_2
          replace p_25 : Hp w0 M_9 ((Ent.row 3 1 (.slice A_13 x_6.1.length cap_13) x_6.1.length cs_8) :: (Ent.row 3 1 (.slice A_1 x_3.1.length cap_1) x_3.1.length cs_1) :: H) w_17 := p_25
          have hr_12 : ∀ M, RepSeq M (x_6.1.map (Dat.int .i64)) cs_8 := fun M => RepSeq.flat (flat_int .i64) _ hr_11
          obtain ⟨M_10, hM_10, p_26⟩ := hb_1 _ _ _ hM_9 p_25
          have f_113 := Frm.set f_112 109 (v := .slice A_12 y_4.length cap_12) (v' := .slice A_11 y_4.length cap_11) (by kernel_rfl) (hv_4.symm)
          have f_114 : Frm 152 [(0, .slice A0 d0.length cap0), (1, .slice A1 d1.length cap1), (4, .int .i64 (((d4.tmod ((d0.length : Nat) : Int)) + ((d0.length : Nat) : Int)).tmod ((d0.length : Nat) : Int))), (5, .bool d5), (13, .slice A_1 x_3.1.length cap_1), (109, .slice A_11 y_4.length cap_11), (110, .slice A1 d1.length cap1), (111, .bool d5), (112, .tuple #[.slice A_13 x_6.1.length cap_13, .int .i64 x_6.2])] a_75 := f_113.keep (ks := [0, 1, 4, 5, 13, 109, 110, 111, 112]) (by kernel_rfl)
          have hr_13 := hr_12 M_10
          refine W_run (L' := [(0, .slice A0 d0.length cap0), (1, .slice A1 d1.length cap1), (4, .int .i64 (((d4.tmod ((d0.length : Nat) : Int)) + ((d0.length : Nat) : Int)).tmod ((d0.length : Nat) : Int))), (5, .bool d5), (13, .slice A_1 x_3.1.length cap_1), (21, .slice A_13 x_6.1.length cap_13), (22, .int .i64 x_6.2)]) (w' := w_17) f_114 5 [0, 1, 4, 5, 13, 21, 22] (by kernel_rfl) (fun a_76 f_115 => ?_)
          refine W_end rfl ?_
          refine T_n ?_
          refine R_seq ?_
          refine R_reg ?_
          refine W_alloc f_115 p_26 1 [0, 1, 4, 5, 13, 21, 22, 115] (.cells #[] 30 (0, 0)) (fun b_4 => [(0, .slice A0 d0.length cap0), (1, .slice A1 d1.length cap1), (4, .int .i64 (((d4.tmod ((d0.length : Nat) : Int)) + ((d0.length : Nat) : Int)).tmod ((d0.length : Nat) : Int))), (5, .bool d5), (13, .slice A_1 x_3.1.length cap_1), (21, .slice A_13 x_6.1.length cap_13), (22, .int .i64 x_6.2), (115, .slice (some ⟨b_4, 0, none⟩) 0 0)]) (fun _ => by kernel_rfl) (fun b_4 w_18 p_27 a_77 f_116 => ?_)
          replace f_116 : Frm 152 [(0, .slice A0 d0.length cap0), (1, .slice A1 d1.length cap1), (4, .int .i64 (((d4.tmod ((d0.length : Nat) : Int)) + ((d0.length : Nat) : Int)).tmod ((d0.length : Nat) : Int))), (5, .bool d5), (13, .slice A_1 x_3.1.length cap_1), (21, .slice A_13 x_6.1.length cap_13), (22, .int .i64 x_6.2), (115, .slice (some ⟨b_4, 0, none⟩) 0 0)] a_77 := f_116
          refine W_run (L' := [(0, .slice A0 d0.length cap0), (4, .int .i64 (((d4.tmod ((d0.length : Nat) : Int)) + ((d0.length : Nat) : Int)).tmod ((d0.length : Nat) : Int))), (5, .bool d5), (13, .slice A_1 x_3.1.length cap_1), (21, .slice A_13 x_6.1.length cap_13), (22, .int .i64 x_6.2), (115, .slice (some ⟨b_4, 0, none⟩) 0 0), (116, .slice A1 d1.length cap1)]) (w' := w_18) f_116 1 [0, 4, 5, 13, 21, 22, 115, 116] (by kernel_rfl) (fun a_78 f_117 => ?_)
          have hr_14 : RepSeq M_10 (([] : List Int).map (Dat.int .i8)) [] := rfl
          have p_28 : Hp w0 M_10 ((Ent.row 30 1 (.slice (some ⟨b_4, 0, none⟩) 0 0) ([] : List Int).length []) :: (Ent.row 26 1 (.slice A_11 y_4.length cap_11) y_4.length cs_7) :: (Ent.row 3 1 (.slice A_13 x_6.1.length cap_13) x_6.1.length cs_8) :: (Ent.row 3 1 (.slice A_1 x_3.1.length cap_1) x_3.1.length cs_1) :: H) w_18 := p_27.objRow (n := 0) (cap := 0) (size := 1) (by decide) (by decide) rfl rfl rfl
          obtain ⟨g_17, hF_41⟩ := need_some hF_40
          refine W_appendS (z := .int .i8 0) (f := (Dat.int .i8)) (xs := ([] : List Int)) (ys := d1) (c := cap1) f_117 p_28 hr_14 (h1.mono (((hM_1.trans hM_2).trans hM_7).trans hM_10)) (by kernel_rfl) (by kernel_rfl) rfl rfl rfl (by kernel_rfl) (by kernel_rfl) (by kernel_rfl) (by kernel_rfl) g_17 (by omega) (fun A_14 cap_14 cs_9 w_19 p_29 hr_15 a_79 f_118 => ?_)
          refine W_run (L' := [(0, .slice A0 d0.length cap0), (4, .int .i64 (((d4.tmod ((d0.length : Nat) : Int)) + ((d0.length : Nat) : Int)).tmod ((d0.length : Nat) : Int))), (5, .bool d5), (13, .slice A_1 x_3.1.length cap_1), (21, .slice A_13 x_6.1.length cap_13), (22, .int .i64 x_6.2), (23, .slice A_14 (([] : List Int) ++ d1).length cap_14)]) (w' := w_19) f_118 1 [0, 4, 5, 13, 21, 22, 23] (by kernel_rfl) (fun a_80 f_119 => ?_)
          refine W_end rfl ?_
          refine T_n ?_
          refine R_seq ?_
          refine R_seq ?_
          refine R_reg ?_
          refine W_run (L' := [(0, .slice A0 d0.length cap0), (4, .int .i64 (((d4.tmod ((d0.length : Nat) : Int)) + ((d0.length : Nat) : Int)).tmod ((d0.length : Nat) : Int))), (5, .bool d5), (13, .slice A_1 x_3.1.length cap_1), (21, .slice A_13 x_6.1.length cap_13), (22, .int .i64 x_6.2), (23, .slice A_14 (([] : List Int) ++ d1).length cap_14), (118, .slice A_14 (([] : List Int) ++ d1).length cap_14), (119, .int .i64 (((d4.tmod ((d0.length : Nat) : Int)) + ((d0.length : Nat) : Int)).tmod ((d0.length : Nat) : Int)))]) (w' := w_19) f_119 2 [0, 4, 5, 13, 21, 22, 23, 118, 119] (by kernel_rfl) (fun a_81 f_120 => ?_)
          obtain ⟨x_7, hx_7, hF_42⟩ := bind_some' hF_41
          obtain ⟨b_5, cap_15, hv_5, hcap_3⟩ := p_29.rowAddr 0 rfl (getI_pos hx_7)
          have f_121 := Frm.set f_120 118 (v := .slice A_14 (([] : List Int) ++ d1).length cap_14) (v' := .slice (some ⟨b_5, 0, none⟩) (([] : List Int) ++ d1).length cap_15) (by kernel_rfl) (hv_5)
          have f_122 : Frm 152 [(0, .slice A0 d0.length cap0), (4, .int .i64 (((d4.tmod ((d0.length : Nat) : Int)) + ((d0.length : Nat) : Int)).tmod ((d0.length : Nat) : Int))), (5, .bool d5), (13, .slice A_1 x_3.1.length cap_1), (21, .slice A_13 x_6.1.length cap_13), (22, .int .i64 x_6.2), (23, .slice A_14 (([] : List Int) ++ d1).length cap_14), (118, .slice (some ⟨b_5, 0, none⟩) (([] : List Int) ++ d1).length cap_15), (119, .int .i64 (((d4.tmod ((d0.length : Nat) : Int)) + ((d0.length : Nat) : Int)).tmod ((d0.length : Nat) : Int)))] a_81 := f_121.keep (ks := [0, 4, 5, 13, 21, 22, 23, 118, 119]) (by kernel_rfl)
          refine W_eq (v := .pointer (some ((⟨b_5, 0, none⟩ : Addr).add ((((d4.tmod ((d0.length : Nat) : Int)) + ((d0.length : Nat) : Int)).tmod ((d0.length : Nat) : Int)).toNat * 1)))) f_122 (by kernel_rfl) (by kernel_rfl) rfl rfl (X_indexAddr rfl (ad := ⟨b_5, 0, none⟩) (len := (([] : List Int) ++ d1).length) (cap := cap_15) (k := .i64) (i := ((d4.tmod ((d0.length : Nat) : Int)) + ((d0.length : Nat) : Int)).tmod ((d0.length : Nat) : Int)) (by kernel_rfl) (by kernel_rfl) (e := 30) (by kernel_rfl) (sz := 1) (by kernel_rfl) (getI_nn hx_7) (getI_lt hx_7)) (fun a_82 f_123 => ?_)
          have f_124 := Frm.set f_123 118 (v := .slice (some ⟨b_5, 0, none⟩) (([] : List Int) ++ d1).length cap_15) (v' := .slice A_14 (([] : List Int) ++ d1).length cap_14) (by kernel_rfl) (hv_5.symm)
          have f_125 : Frm 152 [(0, .slice A0 d0.length cap0), (4, .int .i64 (((d4.tmod ((d0.length : Nat) : Int)) + ((d0.length : Nat) : Int)).tmod ((d0.length : Nat) : Int))), (5, .bool d5), (13, .slice A_1 x_3.1.length cap_1), (21, .slice A_13 x_6.1.length cap_13), (22, .int .i64 x_6.2), (23, .slice A_14 (([] : List Int) ++ d1).length cap_14), (118, .slice A_14 (([] : List Int) ++ d1).length cap_14), (119, .int .i64 (((d4.tmod ((d0.length : Nat) : Int)) + ((d0.length : Nat) : Int)).tmod ((d0.length : Nat) : Int))), (120, .pointer (some ((⟨b_5, 0, none⟩ : Addr).add ((((d4.tmod ((d0.length : Nat) : Int)) + ((d0.length : Nat) : Int)).tmod ((d0.length : Nat) : Int)).toNat * 1))))] a_82 := f_124.keep (ks := [0, 4, 5, 13, 21, 22, 23, 118, 119, 120]) (by kernel_rfl)
          obtain ⟨c_2, hl_2, hr_16, hc_2⟩ := RepSeq.get (((d4.tmod ((d0.length : Nat) : Int)) + ((d0.length : Nat) : Int)).tmod ((d0.length : Nat) : Int)).toNat (szd_all (szd_int .i8)) hr_15 (getI_map hx_7)
          clear hl_2
          obtain rfl : c_2 = [.int .i8 x_7] := hr_16
          refine W_eq (v := .int .i8 x_7) f_125 (by kernel_rfl) (by kernel_rfl) rfl rfl (X_load1 (v := .int .i8 x_7) rfl (ad := (⟨b_5, 0, none⟩ : Addr).add ((((d4.tmod ((d0.length : Nat) : Int)) + ((d0.length : Nat) : Int)).tmod ((d0.length : Nat) : Int)).toNat * 1)) (by kernel_rfl) (by kernel_rfl) (by simpa [Addr.add] using (fun j v h => row_at (p_29.rowCell 0 rfl hv_5) hc_2 j v h) 0 _ rfl)) (fun a_83 f_126 => ?_)
          refine W_run (L' := [(0, .slice A0 d0.length cap0), (4, .int .i64 (((d4.tmod ((d0.length : Nat) : Int)) + ((d0.length : Nat) : Int)).tmod ((d0.length : Nat) : Int))), (5, .bool d5), (13, .slice A_1 x_3.1.length cap_1), (21, .slice A_13 x_6.1.length cap_13), (22, .int .i64 x_6.2), (23, .slice A_14 (([] : List Int) ++ d1).length cap_14), (122, .bool (decide (x_7 = 2)))]) (w' := w_19) f_126 1 [0, 4, 5, 13, 21, 22, 23, 122] (by kernel_rfl) (fun a_84 f_127 => ?_)
          refine W_end rfl ?_
          refine T_n ?_
          obtain ⟨j_4, hj_4, hF_43⟩ := bind_some' hF_42
          refine R_mid (fun a_88 w_21 => ∃ y_5 : List Int, j_4 = y_5 ∧ ∃ M_11 : Mem, M_10.le M_11 ∧ ∃ (A_15 : Option Addr), ∃ (cap_17 : Nat), ∃ (cs_10 : List Value), RepSeq M_11 (y_5.map (Dat.int .i8)) cs_10 ∧ Frm 152 [(0, .slice A0 d0.length cap0), (5, .bool d5), (13, .slice A_1 x_3.1.length cap_1), (21, .slice A_13 x_6.1.length cap_13), (22, .int .i64 x_6.2), (23, .slice A_15 y_5.length cap_17)] a_88 ∧ Hp w0 M_11 ((Ent.row 30 1 (.slice A_15 y_5.length cap_17) y_5.length cs_10) :: (Ent.row 26 1 (.slice A_11 y_4.length cap_11) y_4.length cs_7) :: (Ent.row 3 1 (.slice A_13 x_6.1.length cap_13) x_6.1.length cs_8) :: (Ent.row 3 1 (.slice A_1 x_3.1.length cap_1) x_3.1.length cs_1) :: H) w_21) ?_ ?_
          · refine R_cond f_127 (b := decide (x_7 = 2)) (by kernel_rfl) (by kernel_rfl) (fun h_11 => ?_) (fun h_11 => ?_)
            · have k_15 : x_7 = 2 := decide_eq_true_iff.1 h_11
              have hF_44 := cnd_t h_11 hj_4
              refine R_reg ?_
              refine W_run (L' := [(0, .slice A0 d0.length cap0), (5, .bool d5), (13, .slice A_1 x_3.1.length cap_1), (21, .slice A_13 x_6.1.length cap_13), (22, .int .i64 x_6.2), (23, .slice A_14 (([] : List Int) ++ d1).length cap_14), (123, .slice A_14 (([] : List Int) ++ d1).length cap_14), (124, .int .i64 (((d4.tmod ((d0.length : Nat) : Int)) + ((d0.length : Nat) : Int)).tmod ((d0.length : Nat) : Int)))]) (w' := w_19) f_127 2 [0, 5, 13, 21, 22, 23, 123, 124] (by kernel_rfl) (fun a_85 f_128 => ?_)
              obtain ⟨x_8, hx_8, hF_45⟩ := bind_some' hF_44
              obtain ⟨b_6, cap_16, hv_6, hcap_4⟩ := p_29.rowAddr 0 rfl (getI_pos hx_8)
              have f_129 := Frm.set f_128 123 (v := .slice A_14 (([] : List Int) ++ d1).length cap_14) (v' := .slice (some ⟨b_6, 0, none⟩) (([] : List Int) ++ d1).length cap_16) (by kernel_rfl) (hv_6)
              have f_130 : Frm 152 [(0, .slice A0 d0.length cap0), (5, .bool d5), (13, .slice A_1 x_3.1.length cap_1), (21, .slice A_13 x_6.1.length cap_13), (22, .int .i64 x_6.2), (23, .slice A_14 (([] : List Int) ++ d1).length cap_14), (123, .slice (some ⟨b_6, 0, none⟩) (([] : List Int) ++ d1).length cap_16), (124, .int .i64 (((d4.tmod ((d0.length : Nat) : Int)) + ((d0.length : Nat) : Int)).tmod ((d0.length : Nat) : Int)))] a_85 := f_129.keep (ks := [0, 5, 13, 21, 22, 23, 123, 124]) (by kernel_rfl)
              refine W_eq (v := .pointer (some ((⟨b_6, 0, none⟩ : Addr).add ((((d4.tmod ((d0.length : Nat) : Int)) + ((d0.length : Nat) : Int)).tmod ((d0.length : Nat) : Int)).toNat * 1)))) f_130 (by kernel_rfl) (by kernel_rfl) rfl rfl (X_indexAddr rfl (ad := ⟨b_6, 0, none⟩) (len := (([] : List Int) ++ d1).length) (cap := cap_16) (k := .i64) (i := ((d4.tmod ((d0.length : Nat) : Int)) + ((d0.length : Nat) : Int)).tmod ((d0.length : Nat) : Int)) (by kernel_rfl) (by kernel_rfl) (e := 30) (by kernel_rfl) (sz := 1) (by kernel_rfl) (getI_nn hx_8) (getI_lt hx_8)) (fun a_86 f_131 => ?_)
              have f_132 := Frm.set f_131 123 (v := .slice (some ⟨b_6, 0, none⟩) (([] : List Int) ++ d1).length cap_16) (v' := .slice A_14 (([] : List Int) ++ d1).length cap_14) (by kernel_rfl) (hv_6.symm)
              have f_133 : Frm 152 [(0, .slice A0 d0.length cap0), (5, .bool d5), (13, .slice A_1 x_3.1.length cap_1), (21, .slice A_13 x_6.1.length cap_13), (22, .int .i64 x_6.2), (23, .slice A_14 (([] : List Int) ++ d1).length cap_14), (123, .slice A_14 (([] : List Int) ++ d1).length cap_14), (124, .int .i64 (((d4.tmod ((d0.length : Nat) : Int)) + ((d0.length : Nat) : Int)).tmod ((d0.length : Nat) : Int))), (125, .pointer (some ((⟨b_6, 0, none⟩ : Addr).add ((((d4.tmod ((d0.length : Nat) : Int)) + ((d0.length : Nat) : Int)).tmod ((d0.length : Nat) : Int)).toNat * 1))))] a_86 := f_132.keep (ks := [0, 5, 13, 21, 22, 23, 123, 124, 125]) (by kernel_rfl)
              refine W_rowstore (it := ((d4.tmod ((d0.length : Nat) : Int)) + ((d0.length : Nat) : Int)).tmod ((d0.length : Nat) : Int)) (d := ([] : List Int) ++ d1) (f := (Dat.int .i8)) (xv := (3 : Int)) (v := .int .i8 3) f_133 p_29 hv_6 (by kernel_rfl) (by kernel_rfl) rfl rfl (by kernel_rfl) (by kernel_rfl) (by exact rfl) (by kernel_rfl) (szd_int .i8) hx_8 hr_15 (fun w_20 p_30 hr_17 a_87 f_134 => ?_)
              have p_31 : Hp w0 M_10 ((Ent.row 30 1 (.slice A_14 ((([] : List Int) ++ d1).set (((d4.tmod ((d0.length : Nat) : Int)) + ((d0.length : Nat) : Int)).tmod ((d0.length : Nat) : Int)).toNat (3 : Int)).length cap_14) ((([] : List Int) ++ d1).set (((d4.tmod ((d0.length : Nat) : Int)) + ((d0.length : Nat) : Int)).tmod ((d0.length : Nat) : Int)).toNat (3 : Int)).length (cs_9.set (((d4.tmod ((d0.length : Nat) : Int)) + ((d0.length : Nat) : Int)).tmod ((d0.length : Nat) : Int)).toNat (.int .i8 3))) :: (Ent.row 26 1 (.slice A_11 y_4.length cap_11) y_4.length cs_7) :: (Ent.row 3 1 (.slice A_13 x_6.1.length cap_13) x_6.1.length cs_8) :: (Ent.row 3 1 (.slice A_1 x_3.1.length cap_1) x_3.1.length cs_1) :: H) w_20 := p_30.rowVal (by rw [List.length_set])
              have f_135 := Frm.set f_134 23 (v := .slice A_14 (([] : List Int) ++ d1).length cap_14) (v' := .slice A_14 ((([] : List Int) ++ d1).set (((d4.tmod ((d0.length : Nat) : Int)) + ((d0.length : Nat) : Int)).tmod ((d0.length : Nat) : Int)).toNat (3 : Int)).length cap_14) (by kernel_rfl) (by rw [List.length_set])
              have f_136 := Frm.set f_135 123 (v := .slice A_14 (([] : List Int) ++ d1).length cap_14) (v' := .slice A_14 ((([] : List Int) ++ d1).set (((d4.tmod ((d0.length : Nat) : Int)) + ((d0.length : Nat) : Int)).tmod ((d0.length : Nat) : Int)).toNat (3 : Int)).length cap_14) (by kernel_rfl) (by rw [List.length_set])
              have f_137 : Frm 152 [(0, .slice A0 d0.length cap0), (5, .bool d5), (13, .slice A_1 x_3.1.length cap_1), (21, .slice A_13 x_6.1.length cap_13), (22, .int .i64 x_6.2), (23, .slice A_14 ((([] : List Int) ++ d1).set (((d4.tmod ((d0.length : Nat) : Int)) + ((d0.length : Nat) : Int)).tmod ((d0.length : Nat) : Int)).toNat (3 : Int)).length cap_14), (123, .slice A_14 ((([] : List Int) ++ d1).set (((d4.tmod ((d0.length : Nat) : Int)) + ((d0.length : Nat) : Int)).tmod ((d0.length : Nat) : Int)).toNat (3 : Int)).length cap_14), (124, .int .i64 (((d4.tmod ((d0.length : Nat) : Int)) + ((d0.length : Nat) : Int)).tmod ((d0.length : Nat) : Int))), (125, .pointer (some ((⟨b_6, 0, none⟩ : Addr).add ((((d4.tmod ((d0.length : Nat) : Int)) + ((d0.length : Nat) : Int)).tmod ((d0.length : Nat) : Int)).toNat * 1))))] a_87 := f_136.keep (ks := [0, 5, 13, 21, 22, 23, 123, 124, 125]) (by kernel_rfl)
              refine W_end rfl ?_
              refine T_n ?_
              exact ⟨(([] : List Int) ++ d1).set (((d4.tmod ((d0.length : Nat) : Int)) + ((d0.length : Nat) : Int)).tmod ((d0.length : Nat) : Int)).toNat (3 : Int), (Option.some.inj hF_45).symm, M_10, (Mem.le_refl _), A_14, cap_14, cs_9.set (((d4.tmod ((d0.length : Nat) : Int)) + ((d0.length : Nat) : Int)).tmod ((d0.length : Nat) : Int)).toNat (.int .i8 3), hr_17, f_137.keep (ks := [0, 5, 13, 21, 22, 23]) (by kernel_rfl), p_31⟩
            · have k_16 : ¬ (x_7 = 2) := iff_f decide_eq_true_iff h_11
              have hF_46 := cnd_f h_11 hj_4
              refine wp_skip ?_
              refine T_n ?_
              exact ⟨([] : List Int) ++ d1, (Option.some.inj hF_46).symm, M_10, (Mem.le_refl _), A_14, cap_14, cs_9, hr_15, f_127.keep (ks := [0, 5, 13, 21, 22, 23]) (by kernel_rfl), p_29⟩
          · rintro a_88 w_21 ⟨y_5, hq_4, M_11, hM_11, A_15, cap_17, cs_10, hr_18, f_138, p_32⟩
            subst j_4
            refine T_n ?_
            refine R_seq ?_
            refine R_reg ?_
            refine W_run (L' := [(13, .slice A_1 x_3.1.length cap_1), (21, .slice A_13 x_6.1.length cap_13), (22, .int .i64 x_6.2), (127, .slice A0 d0.length cap0), (128, .slice A_15 y_5.length cap_17), (129, .bool d5)]) (w' := w_21) f_138 3 [13, 21, 22, 127, 128, 129] (by kernel_rfl) (fun a_89 f_139 => ?_)
            obtain ⟨M_12, A_16, cap_18, hM_12, hv_7, p_33, h_12, hb_2⟩ := p_32.lend (f := (Dat.int .i8)) (xs := y_5) (szd_int .i8) hr_18
            have f_140 := Frm.set f_139 128 (v := .slice A_15 y_5.length cap_17) (v' := .slice A_16 y_5.length cap_18) (by kernel_rfl) (hv_7)
            have f_141 : Frm 152 [(13, .slice A_1 x_3.1.length cap_1), (21, .slice A_13 x_6.1.length cap_13), (22, .int .i64 x_6.2), (127, .slice A0 d0.length cap0), (128, .slice A_16 y_5.length cap_18), (129, .bool d5)] a_89 := f_140.keep (ks := [13, 21, 22, 127, 128, 129]) (by kernel_rfl)
            obtain ⟨x_9, hx_9, hF_47⟩ := bind_some' hF_43
            refine W_okH (E := []) (H := ((Ent.row 26 1 (.slice A_11 y_4.length cap_11) y_4.length cs_7) :: (Ent.row 3 1 (.slice A_13 x_6.1.length cap_13) x_6.1.length cs_8) :: (Ent.row 3 1 (.slice A_1 x_3.1.length cap_1) x_3.1.length cs_1) :: H)) f_141 p_33 (by kernel_rfl) (by kernel_rfl) rfl rfl (fun _ => by kernel_rfl) (ready_Ready_ok n _ A0 cap0 d0 (h0.mono (((((hM_1.trans hM_2).trans hM_7).trans hM_10).trans hM_11).trans hM_12)) A_16 cap_18 y_5 h_12 (d5) x_9 hx_9) (fun u_3 M_13 E_3 w_22 hM_13 p_34 q_3 a_90 f_142 => ?_)
            obtain ⟨A_17, cap_19, cs_11, rfl, rfl, hr_19⟩ := q_3
            replace p_34 : Hp w0 M_13 ((Ent.row 3 1 (.slice A_17 x_9.1.length cap_19) x_9.1.length cs_11) :: (Ent.row 26 1 (.slice A_11 y_4.length cap_11) y_4.length cs_7) :: (Ent.row 3 1 (.slice A_13 x_6.1.length cap_13) x_6.1.length cs_8) :: (Ent.row 3 1 (.slice A_1 x_3.1.length cap_1) x_3.1.length cs_1) :: H) w_22 := p_34
            have hr_20 : ∀ M, RepSeq M (x_9.1.map (Dat.int .i64)) cs_11 := fun M => RepSeq.flat (flat_int .i64) _ hr_19
            obtain ⟨M_14, hM_14, p_35⟩ := hb_2 _ _ _ hM_13 p_34
            have f_143 := Frm.set f_142 128 (v := .slice A_16 y_5.length cap_18) (v' := .slice A_15 y_5.length cap_17) (by kernel_rfl) (hv_7.symm)
            have f_144 : Frm 152 [(13, .slice A_1 x_3.1.length cap_1), (21, .slice A_13 x_6.1.length cap_13), (22, .int .i64 x_6.2), (127, .slice A0 d0.length cap0), (128, .slice A_15 y_5.length cap_17), (129, .bool d5), (130, .tuple #[.slice A_17 x_9.1.length cap_19, .int .i64 x_9.2])] a_90 := f_143.keep (ks := [13, 21, 22, 127, 128, 129, 130]) (by kernel_rfl)
            have hr_21 := hr_20 M_14
            refine W_run (L' := [(13, .slice A_1 x_3.1.length cap_1), (21, .slice A_13 x_6.1.length cap_13), (22, .int .i64 x_6.2), (24, .slice A_17 x_9.1.length cap_19), (25, .int .i64 x_9.2)]) (w' := w_22) f_144 5 [13, 21, 22, 24, 25] (by kernel_rfl) (fun a_91 f_145 => ?_)
            refine W_end rfl ?_
            refine T_n ?_
            refine R_seq ?_
            refine R_reg ?_
            refine W_run (L' := [(13, .slice A_1 x_3.1.length cap_1), (21, .slice A_13 x_6.1.length cap_13), (24, .slice A_17 x_9.1.length cap_19), (25, .int .i64 x_9.2), (135, .bool (decide (x_6.2 = 0)))]) (w' := w_22) f_145 3 [13, 21, 24, 25, 135] (by kernel_rfl) (fun a_92 f_146 => ?_)
            rcases Bool.eq_false_or_eq_true (decide (x_6.2 = 0)) with h_13 | h_13
            · have k_17 : x_6.2 = 0 := decide_eq_true_iff.1 h_13
              have hF_48 := cnd_t h_13 hF_47
              have f_147 := Frm.set f_146 135 (v := .bool (decide (x_6.2 = 0))) (v' := .bool true) (by kernel_rfl) (congrArg Value.bool h_13)
              have f_148 : Frm 152 [(13, .slice A_1 x_3.1.length cap_1), (21, .slice A_13 x_6.1.length cap_13), (24, .slice A_17 x_9.1.length cap_19), (25, .int .i64 x_9.2), (135, .bool true)] a_92 := f_147.keep (ks := [13, 21, 24, 25, 135]) (by kernel_rfl)
              refine W_run (L' := [(13, .slice A_1 x_3.1.length cap_1), (21, .slice A_13 x_6.1.length cap_13), (24, .slice A_17 x_9.1.length cap_19), (139, .bool (decide (x_9.2 = 0)))]) (w' := w_22) f_148 4 [13, 21, 24, 139] (by kernel_rfl) (fun a_93 f_149 => ?_)
              rcases Bool.eq_false_or_eq_true (decide (x_9.2 = 0)) with h_14 | h_14
              · have k_18 : x_9.2 = 0 := decide_eq_true_iff.1 h_14
                have hF_49 := cnd_t h_14 hF_48
                have f_150 := Frm.set f_149 139 (v := .bool (decide (x_9.2 = 0))) (v' := .bool true) (by kernel_rfl) (congrArg Value.bool h_14)
                have f_151 : Frm 152 [(13, .slice A_1 x_3.1.length cap_1), (21, .slice A_13 x_6.1.length cap_13), (24, .slice A_17 x_9.1.length cap_19), (139, .bool true)] a_93 := f_150.keep (ks := [13, 21, 24, 139]) (by kernel_rfl)
                refine W_run (L' := [(13, .slice A_1 x_3.1.length cap_1), (24, .slice A_17 x_9.1.length cap_19), (139, .bool true), (140, .slice A_1 x_3.1.length cap_1), (141, .slice A_13 x_6.1.length cap_13)]) (w' := w_22) f_151 2 [13, 24, 139, 140, 141] (by kernel_rfl) (fun a_94 f_152 => ?_)
                have p_36 : Hp w0 M_14 ((Ent.row 3 1 (.slice A_1 x_3.1.length cap_1) x_3.1.length cs_1) :: (Ent.row 30 1 (.slice A_15 y_5.length cap_17) y_5.length cs_10) :: (Ent.row 3 1 (.slice A_17 x_9.1.length cap_19) x_9.1.length cs_11) :: (Ent.row 26 1 (.slice A_11 y_4.length cap_11) y_4.length cs_7) :: (Ent.row 3 1 (.slice A_13 x_6.1.length cap_13) x_6.1.length cs_8) :: H) w_22 := p_35.pull 4 rfl rfl
                obtain ⟨M_15, A_18, cap_20, hM_15, hv_8, p_37, h_15, hb_3⟩ := p_36.lend (f := (Dat.int .i64)) (xs := x_3.1) (szd_int .i64) (RepSeq.mono (((hM_7.trans hM_10).trans hM_11).trans hM_14) _ _ hr_1)
                have f_153 := Frm.set f_152 13 (v := .slice A_1 x_3.1.length cap_1) (v' := .slice A_18 x_3.1.length cap_20) (by kernel_rfl) (hv_8)
                have f_154 := Frm.set f_153 140 (v := .slice A_1 x_3.1.length cap_1) (v' := .slice A_18 x_3.1.length cap_20) (by kernel_rfl) (hv_8)
                have f_155 : Frm 152 [(13, .slice A_18 x_3.1.length cap_20), (24, .slice A_17 x_9.1.length cap_19), (139, .bool true), (140, .slice A_18 x_3.1.length cap_20), (141, .slice A_13 x_6.1.length cap_13)] a_94 := f_154.keep (ks := [13, 24, 139, 140, 141]) (by kernel_rfl)
                have p_38 : Hp w0 M_15 ((Ent.row 3 1 (.slice A_13 x_6.1.length cap_13) x_6.1.length cs_8) :: (Ent.row 30 1 (.slice A_15 y_5.length cap_17) y_5.length cs_10) :: (Ent.row 3 1 (.slice A_17 x_9.1.length cap_19) x_9.1.length cs_11) :: (Ent.row 26 1 (.slice A_11 y_4.length cap_11) y_4.length cs_7) :: H) w_22 := p_37.pull 3 rfl rfl
                obtain ⟨M_16, A_19, cap_21, hM_16, hv_9, p_39, h_16, hb_4⟩ := p_38.lend (f := (Dat.int .i64)) (xs := x_6.1) (szd_int .i64) (RepSeq.mono ((hM_11.trans hM_14).trans hM_15) _ _ hr_13)
                have f_156 := Frm.set f_155 141 (v := .slice A_13 x_6.1.length cap_13) (v' := .slice A_19 x_6.1.length cap_21) (by kernel_rfl) (hv_9)
                have f_157 : Frm 152 [(13, .slice A_18 x_3.1.length cap_20), (24, .slice A_17 x_9.1.length cap_19), (139, .bool true), (140, .slice A_18 x_3.1.length cap_20), (141, .slice A_19 x_6.1.length cap_21)] a_94 := f_156.keep (ks := [13, 24, 139, 140, 141]) (by kernel_rfl)
                obtain ⟨x_10, hx_10, hF_50⟩ := bind_some' hF_49
                refine W_okv (v := .bool x_10) f_157 p_39 (by kernel_rfl) (by kernel_rfl) rfl rfl (fun _ => by kernel_rfl) (law21_within_ok n _ A_18 cap_20 x_3.1 (h_15.mono hM_16) A_19 cap_21 x_6.1 h_16 x_10 hx_10) (fun w_23 p_40 a_95 f_158 => ?_)
                obtain ⟨M_17, hM_17, p_41⟩ := hb_4 _ _ _ (Mem.le_refl _) p_40
                have f_159 := Frm.set f_158 141 (v := .slice A_19 x_6.1.length cap_21) (v' := .slice A_13 x_6.1.length cap_13) (by kernel_rfl) (hv_9.symm)
                have f_160 : Frm 152 [(13, .slice A_18 x_3.1.length cap_20), (24, .slice A_17 x_9.1.length cap_19), (139, .bool true), (140, .slice A_18 x_3.1.length cap_20), (141, .slice A_13 x_6.1.length cap_13), (142, .bool x_10)] a_95 := f_159.keep (ks := [13, 24, 139, 140, 141, 142]) (by kernel_rfl)
                obtain ⟨M_18, hM_18, p_42⟩ := hb_3 _ _ _ hM_17 p_41
                have f_161 := Frm.set f_160 13 (v := .slice A_18 x_3.1.length cap_20) (v' := .slice A_1 x_3.1.length cap_1) (by kernel_rfl) (hv_8.symm)
                have f_162 := Frm.set f_161 140 (v := .slice A_18 x_3.1.length cap_20) (v' := .slice A_1 x_3.1.length cap_1) (by kernel_rfl) (hv_8.symm)
                have f_163 : Frm 152 [(13, .slice A_1 x_3.1.length cap_1), (24, .slice A_17 x_9.1.length cap_19), (139, .bool true), (140, .slice A_1 x_3.1.length cap_1), (141, .slice A_13 x_6.1.length cap_13), (142, .bool x_10)] a_95 := f_162.keep (ks := [13, 24, 139, 140, 141, 142]) (by kernel_rfl)
                refine W_run (L' := [(13, .slice A_1 x_3.1.length cap_1), (24, .slice A_17 x_9.1.length cap_19), (144, .bool x_10)]) (w' := w_23) f_163 2 [13, 24, 144] (by kernel_rfl) (fun a_96 f_164 => ?_)
                rcases Bool.eq_false_or_eq_true (x_10) with h_17 | h_17
                · have hF_51 := cnd_t h_17 hF_50
                  have f_165 := Frm.set f_164 144 (v := .bool x_10) (v' := .bool true) (by kernel_rfl) (congrArg Value.bool h_17)
                  have f_166 : Frm 152 [(13, .slice A_1 x_3.1.length cap_1), (24, .slice A_17 x_9.1.length cap_19), (144, .bool true)] a_96 := f_165.keep (ks := [13, 24, 144]) (by kernel_rfl)
                  refine W_run (L' := [(144, .bool true), (145, .slice A_1 x_3.1.length cap_1), (146, .slice A_17 x_9.1.length cap_19)]) (w' := w_23) f_166 2 [144, 145, 146] (by kernel_rfl) (fun a_97 f_167 => ?_)
                  obtain ⟨M_19, A_20, cap_22, hM_19, hv_10, p_43, h_18, hb_5⟩ := p_42.lend (f := (Dat.int .i64)) (xs := x_3.1) (szd_int .i64) (RepSeq.mono ((((hM_7.trans hM_10).trans hM_11).trans hM_14).trans hM_18) _ _ hr_1)
                  have f_168 := Frm.set f_167 145 (v := .slice A_1 x_3.1.length cap_1) (v' := .slice A_20 x_3.1.length cap_22) (by kernel_rfl) (hv_10)
                  have f_169 : Frm 152 [(144, .bool true), (145, .slice A_20 x_3.1.length cap_22), (146, .slice A_17 x_9.1.length cap_19)] a_97 := f_168.keep (ks := [144, 145, 146]) (by kernel_rfl)
                  have p_44 : Hp w0 M_19 ((Ent.row 3 1 (.slice A_17 x_9.1.length cap_19) x_9.1.length cs_11) :: (Ent.row 3 1 (.slice A_13 x_6.1.length cap_13) x_6.1.length cs_8) :: (Ent.row 30 1 (.slice A_15 y_5.length cap_17) y_5.length cs_10) :: (Ent.row 26 1 (.slice A_11 y_4.length cap_11) y_4.length cs_7) :: H) w_23 := p_43.pull 2 rfl rfl
                  obtain ⟨M_20, A_21, cap_23, hM_20, hv_11, p_45, h_19, hb_6⟩ := p_44.lend (f := (Dat.int .i64)) (xs := x_9.1) (szd_int .i64) (RepSeq.mono (hM_18.trans hM_19) _ _ hr_21)
                  have f_170 := Frm.set f_169 146 (v := .slice A_17 x_9.1.length cap_19) (v' := .slice A_21 x_9.1.length cap_23) (by kernel_rfl) (hv_11)
                  have f_171 : Frm 152 [(144, .bool true), (145, .slice A_20 x_3.1.length cap_22), (146, .slice A_21 x_9.1.length cap_23)] a_97 := f_170.keep (ks := [144, 145, 146]) (by kernel_rfl)
                  obtain ⟨x_11, hx_11, hF_52⟩ := bind_some' hF_51
                  refine W_okv (v := .bool x_11) f_171 p_45 (by kernel_rfl) (by kernel_rfl) rfl rfl (fun _ => by kernel_rfl) (law21_within_ok n _ A_20 cap_22 x_3.1 (h_18.mono hM_20) A_21 cap_23 x_9.1 h_19 x_11 hx_11) (fun w_24 p_46 a_98 f_172 => ?_)
                  obtain ⟨M_21, hM_21, p_47⟩ := hb_6 _ _ _ (Mem.le_refl _) p_46
                  have f_173 := Frm.set f_172 146 (v := .slice A_21 x_9.1.length cap_23) (v' := .slice A_17 x_9.1.length cap_19) (by kernel_rfl) (hv_11.symm)
                  have f_174 : Frm 152 [(144, .bool true), (145, .slice A_20 x_3.1.length cap_22), (146, .slice A_17 x_9.1.length cap_19), (147, .bool x_11)] a_98 := f_173.keep (ks := [144, 145, 146, 147]) (by kernel_rfl)
                  obtain ⟨M_22, hM_22, p_48⟩ := hb_5 _ _ _ hM_21 p_47
                  have f_175 := Frm.set f_174 145 (v := .slice A_20 x_3.1.length cap_22) (v' := .slice A_1 x_3.1.length cap_1) (by kernel_rfl) (hv_10.symm)
                  have f_176 : Frm 152 [(144, .bool true), (145, .slice A_1 x_3.1.length cap_1), (146, .slice A_17 x_9.1.length cap_19), (147, .bool x_11)] a_98 := f_175.keep (ks := [144, 145, 146, 147]) (by kernel_rfl)
                  refine W_run (L' := [(149, .bool x_11)]) (w' := w_24) f_176 2 [149] (by kernel_rfl) (fun a_99 f_177 => ?_)
                  rcases Bool.eq_false_or_eq_true (x_11) with h_20 | h_20
                  · have hF_53 := cnd_t h_20 hF_52
                    have f_178 := Frm.set f_177 149 (v := .bool x_11) (v' := .bool true) (by kernel_rfl) (congrArg Value.bool h_20)
                    have f_179 : Frm 152 [(149, .bool true)] a_99 := f_178.keep (ks := [149]) (by kernel_rfl)
                    obtain ⟨x_12, hx_12, hF_54⟩ := bind_some' hF_53
                    refine W_okv (v := .bool x_12) f_179 p_48 (by kernel_rfl) (by kernel_rfl) rfl rfl (fun _ => by kernel_rfl) (law21_wakes_ok n _  x_12 hx_12) (fun w_25 p_49 a_100 f_180 => ?_)
                    refine W_run (L' := [(12, .bool x_12)]) (w' := w_25) f_180 2 [12] (by kernel_rfl) (fun a_101 f_181 => ?_)
                    refine W_end rfl ?_
                    refine T_n ?_
                    refine wp_ret ?_
                    refine E_ret1 f_181 rfl (by kernel_rfl : Vc.look _ 12 = some (.bool x_12)) ?_
                    obtain rfl := Option.some.inj hF_54
                    exact ⟨_, rfl, M_22, (((((((hM_1.trans hM_2).trans hM_7).trans hM_10).trans hM_11).trans hM_14).trans hM_18).trans hM_22), (p_49.dropN 5), rfl⟩
                  · have hF_55 := cnd_f h_20 hF_52
                    have f_182 := Frm.set f_177 149 (v := .bool x_11) (v' := .bool false) (by kernel_rfl) (congrArg Value.bool h_20)
                    have f_183 : Frm 152 [(149, .bool false)] a_99 := f_182.keep (ks := [149]) (by kernel_rfl)
                    refine W_run (L' := [(12, .bool false)]) (w' := w_24) f_183 3 [12] (by kernel_rfl) (fun a_102 f_184 => ?_)
                    refine W_end rfl ?_
                    refine T_n ?_
                    refine wp_ret ?_
                    refine E_ret1 f_184 rfl (by kernel_rfl : Vc.look _ 12 = some (.bool false)) ?_
                    obtain rfl := Option.some.inj hF_55
                    exact ⟨_, rfl, M_22, (((((((hM_1.trans hM_2).trans hM_7).trans hM_10).trans hM_11).trans hM_14).trans hM_18).trans hM_22), (p_48.dropN 5), rfl⟩
                · have hF_56 := cnd_f h_17 hF_50
                  have f_185 := Frm.set f_164 144 (v := .bool x_10) (v' := .bool false) (by kernel_rfl) (congrArg Value.bool h_17)
                  have f_186 : Frm 152 [(13, .slice A_1 x_3.1.length cap_1), (24, .slice A_17 x_9.1.length cap_19), (144, .bool false)] a_96 := f_185.keep (ks := [13, 24, 144]) (by kernel_rfl)
                  refine W_run (L' := [(12, .bool false)]) (w' := w_23) f_186 8 [12] (by kernel_rfl) (fun a_103 f_187 => ?_)
                  refine W_end rfl ?_
                  refine T_n ?_
                  refine wp_ret ?_
                  refine E_ret1 f_187 rfl (by kernel_rfl : Vc.look _ 12 = some (.bool false)) ?_
                  obtain rfl := Option.some.inj hF_56
                  exact ⟨_, rfl, M_18, ((((((hM_1.trans hM_2).trans hM_7).trans hM_10).trans hM_11).trans hM_14).trans hM_18), (p_42.dropN 5), rfl⟩
              · have k_23 : ¬ (x_9.2 = 0) := iff_f decide_eq_true_iff h_14
                have hF_57 := cnd_f h_14 hF_48
                have f_188 := Frm.set f_149 139 (v := .bool (decide (x_9.2 = 0))) (v' := .bool false) (by kernel_rfl) (congrArg Value.bool h_14)
                have f_189 : Frm 152 [(13, .slice A_1 x_3.1.length cap_1), (21, .slice A_13 x_6.1.length cap_13), (24, .slice A_17 x_9.1.length cap_19), (139, .bool false)] a_93 := f_188.keep (ks := [13, 21, 24, 139]) (by kernel_rfl)
                refine W_run (L' := [(12, .bool false)]) (w' := w_22) f_189 13 [12] (by kernel_rfl) (fun a_104 f_190 => ?_)
                refine W_end rfl ?_
                refine T_n ?_
                refine wp_ret ?_
                refine E_ret1 f_190 rfl (by kernel_rfl : Vc.look _ 12 = some (.bool false)) ?_
                obtain rfl := Option.some.inj hF_57
                exact ⟨_, rfl, M_14, (((((hM_1.trans hM_2).trans hM_7).trans hM_10).trans hM_11).trans hM_14), (p_35.dropN 5), rfl⟩
            · have k_24 : ¬ (x_6.2 = 0) := iff_f decide_eq_true_iff h_13
              have hF_58 := cnd_f h_13 hF_47
              have f_191 := Frm.set f_146 135 (v := .bool (decide (x_6.2 = 0))) (v' := .bool false) (by kernel_rfl) (congrArg Value.bool h_13)
              have f_192 : Frm 152 [(13, .slice A_1 x_3.1.length cap_1), (21, .slice A_13 x_6.1.length cap_13), (24, .slice A_17 x_9.1.length cap_19), (25, .int .i64 x_9.2), (135, .bool false)] a_92 := f_191.keep (ks := [13, 21, 24, 25, 135]) (by kernel_rfl)
              refine W_run (L' := [(12, .bool false)]) (w' := w_22) f_192 17 [12] (by kernel_rfl) (fun a_105 f_193 => ?_)
              refine W_end rfl ?_
              refine T_n ?_
              refine wp_ret ?_
              refine E_ret1 f_193 rfl (by kernel_rfl : Vc.look _ 12 = some (.bool false)) ?_
              obtain rfl := Option.some.inj hF_58
              exact ⟨_, rfl, M_14, (((((hM_1.trans hM_2).trans hM_7).trans hM_10).trans hM_11).trans hM_14), (p_35.dropN 5), rfl⟩
end Go.Proofs.Ytoonlehffohpaaa
