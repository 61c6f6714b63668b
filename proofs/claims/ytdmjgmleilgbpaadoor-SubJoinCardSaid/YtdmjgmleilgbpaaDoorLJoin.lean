/-
  Printed by a program: of each function its shallow reading, and the proof that the function gives what the reading gives. No condition.
-/
import Derived.Test.YtdmjgmleilgbpaaDoorQ7
import Derived.Test.YtdmjgmleilgbpaaDoorQ2s
set_option linter.unusedVariables false
set_option linter.unusedSimpArgs false
namespace Go.Proofs.YtdmjgmleilgbpaaDoor
open Go Go.Vc Go.RowKit
def law12_SubJoin_s1 (n : Nat) (x_3 : List T_api_Expr × Int × Int) (s_1 : List T_api_Expr × Int) : Option (Lp (List T_api_Expr × Int) (List T_api_Expr)) :=
    bif (decide (s_1.2 < ((x_3.1.length : Nat) : Int))) then
      ((getI x_3.1 s_1.2).bind fun x_8 =>
      need (inR .i64 (((s_1.1.length : Nat) : Int) - 1)) <|
      ((bif (decide (s_1.2 = 0)) then
          (bif (decide ((0 : Int) ≤ (((s_1.1.length : Nat) : Int) - 1))) then
            (bif (decide (x_8.fKind = 0)) then
              ((getI s_1.1 (((s_1.1.length : Nat) : Int) - 1)).bind fun x_9 =>
              some ((decide (x_9.fKind = 0))))
            else
              some ((false)))
          else
            some ((false)))
        else
          some ((false)) : Option Bool)).bind fun y_3 =>
      bif y_3 then
        ((getI s_1.1 (((s_1.1.length : Nat) : Int) - 1)).bind fun x_10 =>
        need (x_10.fText.length + x_8.fText.length ≤ 9223372036854775807) <|
        (getI s_1.1 (((s_1.1.length : Nat) : Int) - 1)).bind fun x_11 =>
        need (inR .i64 (s_1.2 + 1)) <|
        some (.nx (s_1.1.set (((s_1.1.length : Nat) : Int) - 1).toNat (⟨(0 : Int), x_10.fText ++ x_8.fText, (0 : Int), ([] : List UInt8), ([] : List UInt8), ([] : List T_api_Expr)⟩ : T_api_Expr), s_1.2 + 1)))
      else
        need ((s_1.1.length + 1) * 88 ≤ 140737488355328) <|
        need (inR .i64 (s_1.2 + 1)) <|
        some (.nx (s_1.1 ++ [(⟨x_8.fKind, x_8.fText, x_8.fNum, x_8.fName, x_8.fAttr, x_8.fL⟩ : T_api_Expr)], s_1.2 + 1)))
    else
      some (.br s_1.1)
def law12_SubJoin (n : Nat) (d0 : List UInt8) (d1 : List UInt8) : Option Bool :=
  ((bif (decide ((1000 : Int) < (d0.length : Int))) then
      (some ((true)))
    else
      bif (decide ((1000 : Int) < (d1.length : Int))) then
        (some ((true)))
      else
        bif (decide ((0 : Int) < (d0.length : Int))) then
          (need (inR .i64 ((d0.length : Int) - 1)) <|
          (getI d0 ((d0.length : Int) - 1)).bind fun c_1 =>
          some ((decide (((c_1).toNat : Int) = 36))))
        else
          some ((false)) : Option Bool)).bind fun y_1 =>
  bif y_1 then
    ((law12_wakes n).bind fun x_1 =>
    some ((x_1)))
  else
    (sub_Lex n d0).bind fun x_2 =>
    (sub_Lex n d1).bind fun x_3 =>
    need (d0.length + d1.length ≤ 9223372036854775807) <|
    (sub_Lex n (d0 ++ d1)).bind fun x_4 =>
    bif (!(decide (x_2.2.2 = 0))) then
      ((law12_wakes n).bind fun x_5 =>
      some ((x_5)))
    else
      bif (!(decide (x_3.2.2 = 0))) then
        (((bif (decide (x_3.2.2 = 10)) then
            ((law12_wakes n).bind fun x_6 =>
            some ((x_6)))
          else
            bif (decide (x_4.2.2 = x_3.2.2)) then
              (need (inR .i64 (x_3.2.1 + (d0.length : Int))) <|
              bif (decide (x_4.2.1 = (x_3.2.1 + (d0.length : Int)))) then
                ((law12_wakes n).bind fun x_7 =>
                some ((x_7)))
              else
                some ((false)))
            else
              some ((false)) : Option Bool)).bind fun y_2 =>
        some ((y_2)))
      else
        need ((([] : List T_api_Expr).length + x_2.1.length) * 88 ≤ 140737488355328) <|
        (loopF (law12_SubJoin_s1 n x_3) n (([] : List T_api_Expr) ++ x_2.1, (0 : Int))).bind fun y_4 =>
        bif (decide (x_4.2.2 = 0)) then
          ((ref12_SameAll n x_4.1 y_4).bind fun x_12 =>
          bif x_12 then
            ((law12_wakes n).bind fun x_13 =>
            some ((x_13)))
          else
            some ((false)))
        else
          some ((false))
theorem law12_SubJoin_ok (n : Nat) (M : Mem) (hG : GL M) (d0 : List UInt8) (d1 : List UInt8) (r : Bool) (hF : law12_SubJoin n d0 d1 = some r) : Ok Tryd.prog M 3 [S d0, S d1] (fun _ v => v = .bool r) := by
  unfold law12_SubJoin at hF
  intro M1 hM0 w0 H w p0
  replace hG := GL.mono hM0 hG
  refine R_enter 142 Tryd.func3 rfl rfl (by simp) (fun a0 f0 => ?_)
  replace f0 : Frm 142 [(0, S d0), (1, S d1)] a0 := f0
  refine R_seq ?_
  refine R_reg ?_
  refine W_run (L' := [(0, S d0), (1, S d1)]) (w' := w) f0 1 [0, 1] (by kernel_rfl) (fun a_1 f_1 => ?_)
  refine W_end rfl ?_
  refine T_n ?_
  refine R_seq ?_
  refine R_seq ?_
  obtain ⟨j_1, hj_1, hF_1⟩ := bind_some' hF
  refine R_mid (fun a_12 w_1 => ∃ y_1 : Bool, j_1 = y_1 ∧ ∃ M_1 : Mem, M1.le M_1 ∧ Frm 142 [(0, S d0), (1, S d1), (38, .bool y_1)] a_12 ∧ Hp w0 M_1 (H) w_1) ?_ ?_
  · refine R_reg ?_
    refine W_run (L' := [(0, S d0), (1, S d1), (21, .bool (decide ((1000 : Int) < (d0.length : Int))))]) (w' := w) f_1 4 [0, 1, 21] (by kernel_rfl) (fun a_2 f_2 => ?_)
    rcases Bool.eq_false_or_eq_true (decide ((1000 : Int) < (d0.length : Int))) with h_1 | h_1
    · have k_1 : (1000 : Int) < (d0.length : Int) := decide_eq_true_iff.1 h_1
      have hF_2 := cnd_t h_1 hj_1
      have f_3 := Frm.set f_2 21 (v := .bool (decide ((1000 : Int) < (d0.length : Int)))) (v' := .bool true) (by kernel_rfl) (congrArg Value.bool h_1)
      have f_4 : Frm 142 [(0, S d0), (1, S d1), (21, .bool true)] a_2 := f_3.keep (ks := [0, 1, 21]) (by kernel_rfl)
      refine W_run (L' := [(0, S d0), (1, S d1), (38, .bool true)]) (w' := w) f_4 17 [0, 1, 38] (by kernel_rfl) (fun a_3 f_5 => ?_)
      refine W_end rfl ?_
      refine T_n ?_
      exact ⟨(true), (Option.some.inj hF_2).symm, M1, (Mem.le_refl _), f_5.keep (ks := [0, 1, 38]) (by kernel_rfl), p0⟩
    · have k_2 : ¬ ((1000 : Int) < (d0.length : Int)) := iff_f decide_eq_true_iff h_1
      have hF_3 := cnd_f h_1 hj_1
      have f_6 := Frm.set f_2 21 (v := .bool (decide ((1000 : Int) < (d0.length : Int)))) (v' := .bool false) (by kernel_rfl) (congrArg Value.bool h_1)
      have f_7 : Frm 142 [(0, S d0), (1, S d1), (21, .bool false)] a_2 := f_6.keep (ks := [0, 1, 21]) (by kernel_rfl)
      refine W_run (L' := [(0, S d0), (1, S d1), (26, .bool (decide ((1000 : Int) < (d1.length : Int))))]) (w' := w) f_7 5 [0, 1, 26] (by kernel_rfl) (fun a_4 f_8 => ?_)
      rcases Bool.eq_false_or_eq_true (decide ((1000 : Int) < (d1.length : Int))) with h_2 | h_2
      · have k_3 : (1000 : Int) < (d1.length : Int) := decide_eq_true_iff.1 h_2
        have hF_4 := cnd_t h_2 hF_3
        have f_9 := Frm.set f_8 26 (v := .bool (decide ((1000 : Int) < (d1.length : Int)))) (v' := .bool true) (by kernel_rfl) (congrArg Value.bool h_2)
        have f_10 : Frm 142 [(0, S d0), (1, S d1), (26, .bool true)] a_4 := f_9.keep (ks := [0, 1, 26]) (by kernel_rfl)
        refine W_run (L' := [(0, S d0), (1, S d1), (38, .bool true)]) (w' := w) f_10 12 [0, 1, 38] (by kernel_rfl) (fun a_5 f_11 => ?_)
        refine W_end rfl ?_
        refine T_n ?_
        exact ⟨(true), (Option.some.inj hF_4).symm, M1, (Mem.le_refl _), f_11.keep (ks := [0, 1, 38]) (by kernel_rfl), p0⟩
      · have k_4 : ¬ ((1000 : Int) < (d1.length : Int)) := iff_f decide_eq_true_iff h_2
        have hF_5 := cnd_f h_2 hF_3
        have f_12 := Frm.set f_8 26 (v := .bool (decide ((1000 : Int) < (d1.length : Int)))) (v' := .bool false) (by kernel_rfl) (congrArg Value.bool h_2)
        have f_13 : Frm 142 [(0, S d0), (1, S d1), (26, .bool false)] a_4 := f_12.keep (ks := [0, 1, 26]) (by kernel_rfl)
        refine W_run (L' := [(0, S d0), (1, S d1), (26, .bool false), (30, .bool (decide ((0 : Int) < (d0.length : Int))))]) (w' := w) f_13 4 [0, 1, 26, 30] (by kernel_rfl) (fun a_6 f_14 => ?_)
        rcases Bool.eq_false_or_eq_true (decide ((0 : Int) < (d0.length : Int))) with h_3 | h_3
        · have k_5 : (0 : Int) < (d0.length : Int) := decide_eq_true_iff.1 h_3
          have hF_6 := cnd_t h_3 hF_5
          have f_15 := Frm.set f_14 30 (v := .bool (decide ((0 : Int) < (d0.length : Int)))) (v' := .bool true) (by kernel_rfl) (congrArg Value.bool h_3)
          have f_16 : Frm 142 [(0, S d0), (1, S d1), (26, .bool false), (30, .bool true)] a_6 := f_15.keep (ks := [0, 1, 26, 30]) (by kernel_rfl)
          refine W_run (L' := [(0, S d0), (1, S d1), (26, .bool false), (30, .bool true), (31, S d0), (33, .int .i64 (d0.length : Int))]) (w' := w) f_16 3 [0, 1, 26, 30, 31, 33] (by kernel_rfl) (fun a_7 f_17 => ?_)
          obtain ⟨g_1, hF_7⟩ := need_some hF_6
          refine W_run (L' := [(0, S d0), (1, S d1), (26, .bool false), (30, .bool true), (31, S d0), (33, .int .i64 (d0.length : Int)), (34, .int .i64 (IntKind.wrap .i64 ((d0.length : Int) - 1)))]) (w' := w) f_17 1 [0, 1, 26, 30, 31, 33, 34] (by kernel_rfl) (fun a_8 f_18 => ?_)
          have f_19 := Frm.set f_18 34 (v := .int .i64 (IntKind.wrap .i64 ((d0.length : Int) - 1))) (v' := .int .i64 ((d0.length : Int) - 1)) (by kernel_rfl) (congrArg (Value.int .i64) (inR_wrap g_1))
          have f_20 : Frm 142 [(0, S d0), (1, S d1), (26, .bool false), (30, .bool true), (31, S d0), (33, .int .i64 (d0.length : Int)), (34, .int .i64 ((d0.length : Int) - 1))] a_8 := f_19.keep (ks := [0, 1, 26, 30, 31, 33, 34]) (by kernel_rfl)
          obtain ⟨c_1, hx_1, hF_8⟩ := bind_some' hF_7
          refine W_eq (v := .int .u8 ((d0.getD ((d0.length : Int) - 1).toNat 0).toNat : Int)) f_20 (by kernel_rfl) (by kernel_rfl) rfl rfl (X_strIndex rfl (l := d0) (k := .i64) (i := (d0.length : Int) - 1) (by kernel_rfl) (by kernel_rfl) (by kernel_rfl) (getI_nn hx_1) (getI_lt hx_1)) (fun a_9 f_21 => ?_)
          have f_22 := Frm.set f_21 35 (v := .int .u8 ((d0.getD ((d0.length : Int) - 1).toNat 0).toNat : Int)) (v' := .int .u8 ((c_1).toNat : Int)) (by kernel_rfl) (congrArg (fun c : UInt8 => Value.int .u8 ((c.toNat : Nat) : Int)) (getI_getD hx_1))
          have f_23 : Frm 142 [(0, S d0), (1, S d1), (26, .bool false), (30, .bool true), (31, S d0), (33, .int .i64 (d0.length : Int)), (34, .int .i64 ((d0.length : Int) - 1)), (35, .int .u8 ((c_1).toNat : Int))] a_9 := f_22.keep (ks := [0, 1, 26, 30, 31, 33, 34, 35]) (by kernel_rfl)
          refine W_run (L' := [(0, S d0), (1, S d1), (38, .bool (decide (((c_1).toNat : Int) = 36)))]) (w' := w) f_23 3 [0, 1, 38] (by kernel_rfl) (fun a_10 f_24 => ?_)
          refine W_end rfl ?_
          refine T_n ?_
          exact ⟨(decide (((c_1).toNat : Int) = 36)), (Option.some.inj hF_8).symm, M1, (Mem.le_refl _), f_24.keep (ks := [0, 1, 38]) (by kernel_rfl), p0⟩
        · have k_6 : ¬ ((0 : Int) < (d0.length : Int)) := iff_f decide_eq_true_iff h_3
          have hF_9 := cnd_f h_3 hF_5
          have f_25 := Frm.set f_14 30 (v := .bool (decide ((0 : Int) < (d0.length : Int)))) (v' := .bool false) (by kernel_rfl) (congrArg Value.bool h_3)
          have f_26 : Frm 142 [(0, S d0), (1, S d1), (26, .bool false), (30, .bool false)] a_6 := f_25.keep (ks := [0, 1, 26, 30]) (by kernel_rfl)
          refine W_run (L' := [(0, S d0), (1, S d1), (38, .bool false)]) (w' := w) f_26 8 [0, 1, 38] (by kernel_rfl) (fun a_11 f_27 => ?_)
          refine W_end rfl ?_
          refine T_n ?_
          exact ⟨(false), (Option.some.inj hF_9).symm, M1, (Mem.le_refl _), f_27.keep (ks := [0, 1, 38]) (by kernel_rfl), p0⟩
  · rintro a_12 w_1 ⟨y_1, hq_1, M_1, hM_1, f_28, p_1⟩
    subst j_1
    refine T_n ?_
    refine R_cond f_28 (b := y_1) (by kernel_rfl) (by kernel_rfl) (fun h_4 => ?_) (fun h_4 => ?_)
    · have hF_10 := cnd_t h_4 hF_1
      refine R_seq ?_
      refine R_reg ?_
      obtain ⟨x_1, hx_2, hF_11⟩ := bind_some' hF_10
      refine W_okv (v := .bool x_1) f_28 p_1 (by kernel_rfl) (by kernel_rfl) rfl rfl (fun _ => by kernel_rfl) (law12_wakes_ok n _ (GL.mono hM_1 hG) x_1 hx_2) (fun w_2 p_2 a_13 f_29 => ?_)
      refine W_run (L' := [(4, .bool x_1)]) (w' := w_2) f_29 1 [4] (by kernel_rfl) (fun a_14 f_30 => ?_)
      refine W_end rfl ?_
      refine T_n ?_
      refine wp_ret ?_
      refine T_r ?_
      refine E_ret1 f_30 rfl (by kernel_rfl : Vc.look _ 4 = some (.bool x_1)) ?_
      obtain rfl := Option.some.inj hF_11
      exact ⟨_, rfl, M_1, hM_1, p_2, rfl⟩
    · have hF_12 := cnd_f h_4 hF_1
      refine wp_skip ?_
      refine T_n ?_
      refine R_seq ?_
      refine R_reg ?_
      refine W_run (L' := [(0, S d0), (1, S d1), (41, S d0)]) (w' := w_1) f_28 1 [0, 1, 41] (by kernel_rfl) (fun a_15 f_31 => ?_)
      obtain ⟨x_2, hx_3, hF_13⟩ := bind_some' hF_12
      refine W_okH (E := []) (H := (H)) f_31 p_1 (by kernel_rfl) (by kernel_rfl) rfl rfl (fun _ => by kernel_rfl) (sub_Lex_ok n _ (GL.mono hM_1 hG) d0 x_2 hx_3) (fun u_1 M_2 E_1 w_3 hM_2 p_3 q_1 a_16 f_32 => ?_)
      obtain ⟨A_1, cap_1, cs_1, rfl, rfl, hr_1⟩ := q_1
      replace p_3 : Hp w0 M_2 ((Ent.row 29 6 (.slice A_1 x_2.1.length cap_1) x_2.1.length cs_1) :: H) w_3 := p_3
      refine W_run (L' := [(0, S d0), (1, S d1), (5, .slice A_1 x_2.1.length cap_1), (7, .int .i64 x_2.2.2)]) (w' := w_3) f_32 7 [0, 1, 5, 7] (by kernel_rfl) (fun a_17 f_33 => ?_)
      refine W_end rfl ?_
      refine T_n ?_
      refine R_seq ?_
      refine R_reg ?_
      refine W_run (L' := [(0, S d0), (1, S d1), (5, .slice A_1 x_2.1.length cap_1), (7, .int .i64 x_2.2.2), (47, S d1)]) (w' := w_3) f_33 1 [0, 1, 5, 7, 47] (by kernel_rfl) (fun a_18 f_34 => ?_)
      obtain ⟨x_3, hx_4, hF_14⟩ := bind_some' hF_13
      refine W_okH (E := []) (H := ((Ent.row 29 6 (.slice A_1 x_2.1.length cap_1) x_2.1.length cs_1) :: H)) f_34 p_3 (by kernel_rfl) (by kernel_rfl) rfl rfl (fun _ => by kernel_rfl) (sub_Lex_ok n _ (GL.mono (hM_1.trans hM_2) hG) d1 x_3 hx_4) (fun u_2 M_3 E_2 w_4 hM_3 p_4 q_2 a_19 f_35 => ?_)
      obtain ⟨A_2, cap_2, cs_2, rfl, rfl, hr_2⟩ := q_2
      replace p_4 : Hp w0 M_3 ((Ent.row 29 6 (.slice A_2 x_3.1.length cap_2) x_3.1.length cs_2) :: (Ent.row 29 6 (.slice A_1 x_2.1.length cap_1) x_2.1.length cs_1) :: H) w_4 := p_4
      refine W_run (L' := [(0, S d0), (1, S d1), (5, .slice A_1 x_2.1.length cap_1), (7, .int .i64 x_2.2.2), (8, .slice A_2 x_3.1.length cap_2), (9, .int .i64 x_3.2.1), (10, .int .i64 x_3.2.2)]) (w' := w_4) f_35 7 [0, 1, 5, 7, 8, 9, 10] (by kernel_rfl) (fun a_20 f_36 => ?_)
      refine W_end rfl ?_
      refine T_n ?_
      refine R_seq ?_
      refine R_reg ?_
      refine W_run (L' := [(0, S d0), (5, .slice A_1 x_2.1.length cap_1), (7, .int .i64 x_2.2.2), (8, .slice A_2 x_3.1.length cap_2), (9, .int .i64 x_3.2.1), (10, .int .i64 x_3.2.2), (53, S d0), (54, S d1)]) (w' := w_4) f_36 2 [0, 5, 7, 8, 9, 10, 53, 54] (by kernel_rfl) (fun a_21 f_37 => ?_)
      obtain ⟨g_2, hF_15⟩ := need_some hF_14
      refine W_eq (v := S (d0 ++ d1)) f_37 (by kernel_rfl) (by kernel_rfl) rfl rfl (X_concat rfl (l := d0) (m := d1) (by kernel_rfl) (by kernel_rfl) g_2) (fun a_22 f_38 => ?_)
      obtain ⟨x_4, hx_5, hF_16⟩ := bind_some' hF_15
      refine W_okH (E := []) (H := ((Ent.row 29 6 (.slice A_2 x_3.1.length cap_2) x_3.1.length cs_2) :: (Ent.row 29 6 (.slice A_1 x_2.1.length cap_1) x_2.1.length cs_1) :: H)) f_38 p_4 (by kernel_rfl) (by kernel_rfl) rfl rfl (fun _ => by kernel_rfl) (sub_Lex_ok n _ (GL.mono ((hM_1.trans hM_2).trans hM_3) hG) (d0 ++ d1) x_4 hx_5) (fun u_3 M_4 E_3 w_5 hM_4 p_5 q_3 a_23 f_39 => ?_)
      obtain ⟨A_3, cap_3, cs_3, rfl, rfl, hr_3⟩ := q_3
      replace p_5 : Hp w0 M_4 ((Ent.row 29 6 (.slice A_3 x_4.1.length cap_3) x_4.1.length cs_3) :: (Ent.row 29 6 (.slice A_2 x_3.1.length cap_2) x_3.1.length cs_2) :: (Ent.row 29 6 (.slice A_1 x_2.1.length cap_1) x_2.1.length cs_1) :: H) w_5 := p_5
      refine W_run (L' := [(0, S d0), (5, .slice A_1 x_2.1.length cap_1), (7, .int .i64 x_2.2.2), (8, .slice A_2 x_3.1.length cap_2), (9, .int .i64 x_3.2.1), (10, .int .i64 x_3.2.2), (11, .slice A_3 x_4.1.length cap_3), (12, .int .i64 x_4.2.1), (13, .int .i64 x_4.2.2)]) (w' := w_5) f_39 7 [0, 5, 7, 8, 9, 10, 11, 12, 13] (by kernel_rfl) (fun a_24 f_40 => ?_)
      refine W_end rfl ?_
      refine T_n ?_
      refine R_seq ?_
      refine R_seq ?_
      refine R_reg ?_
      refine W_run (L' := [(0, S d0), (5, .slice A_1 x_2.1.length cap_1), (8, .slice A_2 x_3.1.length cap_2), (9, .int .i64 x_3.2.1), (10, .int .i64 x_3.2.2), (11, .slice A_3 x_4.1.length cap_3), (12, .int .i64 x_4.2.1), (13, .int .i64 x_4.2.2), (61, .bool (!(decide (x_2.2.2 = 0))))]) (w' := w_5) f_40 2 [0, 5, 8, 9, 10, 11, 12, 13, 61] (by kernel_rfl) (fun a_25 f_41 => ?_)
      refine W_end rfl ?_
      refine T_n ?_
      refine R_cond f_41 (b := !(decide (x_2.2.2 = 0))) (by kernel_rfl) (by kernel_rfl) (fun h_5 => ?_) (fun h_5 => ?_)
      · have k_9 : ¬ (x_2.2.2 = 0) := (not_iff decide_eq_true_iff).1 h_5
        have hF_17 := cnd_t h_5 hF_16
        refine R_seq ?_
        refine R_reg ?_
        obtain ⟨x_5, hx_6, hF_18⟩ := bind_some' hF_17
        refine W_okv (v := .bool x_5) f_41 p_5 (by kernel_rfl) (by kernel_rfl) rfl rfl (fun _ => by kernel_rfl) (law12_wakes_ok n _ (GL.mono (((hM_1.trans hM_2).trans hM_3).trans hM_4) hG) x_5 hx_6) (fun w_6 p_6 a_26 f_42 => ?_)
        refine W_run (L' := [(4, .bool x_5)]) (w' := w_6) f_42 1 [4] (by kernel_rfl) (fun a_27 f_43 => ?_)
        refine W_end rfl ?_
        refine T_n ?_
        refine wp_ret ?_
        refine T_r ?_
        refine E_ret1 f_43 rfl (by kernel_rfl : Vc.look _ 4 = some (.bool x_5)) ?_
        obtain rfl := Option.some.inj hF_18
        exact ⟨_, rfl, M_4, (((hM_1.trans hM_2).trans hM_3).trans hM_4), (p_6.dropN 3), rfl⟩
      · have k_10 : ¬ (¬ (x_2.2.2 = 0)) := iff_f (not_iff decide_eq_true_iff) h_5
        have hF_19 := cnd_f h_5 hF_16
        refine wp_skip ?_
        refine T_n ?_
        refine R_seq ?_
        refine R_seq ?_
        refine R_reg ?_
        refine W_run (L' := [(0, S d0), (5, .slice A_1 x_2.1.length cap_1), (8, .slice A_2 x_3.1.length cap_2), (9, .int .i64 x_3.2.1), (10, .int .i64 x_3.2.2), (11, .slice A_3 x_4.1.length cap_3), (12, .int .i64 x_4.2.1), (13, .int .i64 x_4.2.2), (64, .bool (!(decide (x_3.2.2 = 0))))]) (w' := w_5) f_41 2 [0, 5, 8, 9, 10, 11, 12, 13, 64] (by kernel_rfl) (fun a_28 f_44 => ?_)
        refine W_end rfl ?_
        refine T_n ?_
        refine R_cond f_44 (b := !(decide (x_3.2.2 = 0))) (by kernel_rfl) (by kernel_rfl) (fun h_6 => ?_) (fun h_6 => ?_)
        · have k_11 : ¬ (x_3.2.2 = 0) := (not_iff decide_eq_true_iff).1 h_6
          have hF_20 := cnd_t h_6 hF_19
          refine R_seq ?_
          obtain ⟨j_2, hj_2, hF_21⟩ := bind_some' hF_20
          refine R_mid (fun a_41 w_9 => ∃ y_2 : Bool, j_2 = y_2 ∧ ∃ M_5 : Mem, M_4.le M_5 ∧ Frm 142 [(4, .bool y_2)] a_41 ∧ Hp w0 M_5 ((Ent.row 29 6 (.slice A_3 x_4.1.length cap_3) x_4.1.length cs_3) :: (Ent.row 29 6 (.slice A_2 x_3.1.length cap_2) x_3.1.length cs_2) :: (Ent.row 29 6 (.slice A_1 x_2.1.length cap_1) x_2.1.length cs_1) :: H) w_9) ?_ ?_
          · refine R_reg ?_
            refine W_run (L' := [(0, S d0), (9, .int .i64 x_3.2.1), (10, .int .i64 x_3.2.2), (12, .int .i64 x_4.2.1), (13, .int .i64 x_4.2.2), (67, .bool (decide (x_3.2.2 = 10)))]) (w' := w_5) f_44 3 [0, 9, 10, 12, 13, 67] (by kernel_rfl) (fun a_29 f_45 => ?_)
            rcases Bool.eq_false_or_eq_true (decide (x_3.2.2 = 10)) with h_7 | h_7
            · have k_12 : x_3.2.2 = 10 := decide_eq_true_iff.1 h_7
              have hF_22 := cnd_t h_7 hj_2
              have f_46 := Frm.set f_45 67 (v := .bool (decide (x_3.2.2 = 10))) (v' := .bool true) (by kernel_rfl) (congrArg Value.bool h_7)
              have f_47 : Frm 142 [(0, S d0), (9, .int .i64 x_3.2.1), (10, .int .i64 x_3.2.2), (12, .int .i64 x_4.2.1), (13, .int .i64 x_4.2.2), (67, .bool true)] a_29 := f_46.keep (ks := [0, 9, 10, 12, 13, 67]) (by kernel_rfl)
              refine W_run (L' := [(80, .bool true)]) (w' := w_5) f_47 13 [80] (by kernel_rfl) (fun a_30 f_48 => ?_)
              obtain ⟨x_6, hx_7, hF_23⟩ := bind_some' hF_22
              refine W_okv (v := .bool x_6) f_48 p_5 (by kernel_rfl) (by kernel_rfl) rfl rfl (fun _ => by kernel_rfl) (law12_wakes_ok n _ (GL.mono (((hM_1.trans hM_2).trans hM_3).trans hM_4) hG) x_6 hx_7) (fun w_7 p_7 a_31 f_49 => ?_)
              refine W_run (L' := [(4, .bool x_6)]) (w' := w_7) f_49 2 [4] (by kernel_rfl) (fun a_32 f_50 => ?_)
              refine W_end rfl ?_
              refine T_n ?_
              exact ⟨(x_6), (Option.some.inj hF_23).symm, M_4, (Mem.le_refl _), f_50.keep (ks := [4]) (by kernel_rfl), p_7⟩
            · have k_13 : ¬ (x_3.2.2 = 10) := iff_f decide_eq_true_iff h_7
              have hF_24 := cnd_f h_7 hj_2
              have f_51 := Frm.set f_45 67 (v := .bool (decide (x_3.2.2 = 10))) (v' := .bool false) (by kernel_rfl) (congrArg Value.bool h_7)
              have f_52 : Frm 142 [(0, S d0), (9, .int .i64 x_3.2.1), (10, .int .i64 x_3.2.2), (12, .int .i64 x_4.2.1), (13, .int .i64 x_4.2.2), (67, .bool false)] a_29 := f_51.keep (ks := [0, 9, 10, 12, 13, 67]) (by kernel_rfl)
              refine W_run (L' := [(0, S d0), (9, .int .i64 x_3.2.1), (12, .int .i64 x_4.2.1), (67, .bool false), (71, .bool (decide (x_4.2.2 = x_3.2.2)))]) (w' := w_5) f_52 4 [0, 9, 12, 67, 71] (by kernel_rfl) (fun a_33 f_53 => ?_)
              rcases Bool.eq_false_or_eq_true (decide (x_4.2.2 = x_3.2.2)) with h_8 | h_8
              · have k_14 : x_4.2.2 = x_3.2.2 := decide_eq_true_iff.1 h_8
                have hF_25 := cnd_t h_8 hF_24
                have f_54 := Frm.set f_53 71 (v := .bool (decide (x_4.2.2 = x_3.2.2))) (v' := .bool true) (by kernel_rfl) (congrArg Value.bool h_8)
                have f_55 : Frm 142 [(0, S d0), (9, .int .i64 x_3.2.1), (12, .int .i64 x_4.2.1), (67, .bool false), (71, .bool true)] a_33 := f_54.keep (ks := [0, 9, 12, 67, 71]) (by kernel_rfl)
                refine W_run (L' := [(67, .bool false), (71, .bool true), (72, .int .i64 x_4.2.1), (73, .int .i64 x_3.2.1), (75, .int .i64 (d0.length : Int))]) (w' := w_5) f_55 4 [67, 71, 72, 73, 75] (by kernel_rfl) (fun a_34 f_56 => ?_)
                obtain ⟨g_3, hF_26⟩ := need_some hF_25
                refine W_run (L' := [(67, .bool false), (71, .bool true), (72, .int .i64 x_4.2.1), (73, .int .i64 x_3.2.1), (75, .int .i64 (d0.length : Int)), (76, .int .i64 (IntKind.wrap .i64 (x_3.2.1 + (d0.length : Int))))]) (w' := w_5) f_56 1 [67, 71, 72, 73, 75, 76] (by kernel_rfl) (fun a_35 f_57 => ?_)
                have f_58 := Frm.set f_57 76 (v := .int .i64 (IntKind.wrap .i64 (x_3.2.1 + (d0.length : Int)))) (v' := .int .i64 (x_3.2.1 + (d0.length : Int))) (by kernel_rfl) (congrArg (Value.int .i64) (inR_wrap g_3))
                have f_59 : Frm 142 [(67, .bool false), (71, .bool true), (72, .int .i64 x_4.2.1), (73, .int .i64 x_3.2.1), (75, .int .i64 (d0.length : Int)), (76, .int .i64 (x_3.2.1 + (d0.length : Int)))] a_35 := f_58.keep (ks := [67, 71, 72, 73, 75, 76]) (by kernel_rfl)
                refine W_run (L' := [(80, .bool (decide (x_4.2.1 = (x_3.2.1 + (d0.length : Int)))))]) (w' := w_5) f_59 4 [80] (by kernel_rfl) (fun a_36 f_60 => ?_)
                rcases Bool.eq_false_or_eq_true (decide (x_4.2.1 = (x_3.2.1 + (d0.length : Int)))) with h_9 | h_9
                · have k_15 : x_4.2.1 = (x_3.2.1 + (d0.length : Int)) := decide_eq_true_iff.1 h_9
                  have hF_27 := cnd_t h_9 hF_26
                  have f_61 := Frm.set f_60 80 (v := .bool (decide (x_4.2.1 = (x_3.2.1 + (d0.length : Int))))) (v' := .bool true) (by kernel_rfl) (congrArg Value.bool h_9)
                  have f_62 : Frm 142 [(80, .bool true)] a_36 := f_61.keep (ks := [80]) (by kernel_rfl)
                  obtain ⟨x_7, hx_8, hF_28⟩ := bind_some' hF_27
                  refine W_okv (v := .bool x_7) f_62 p_5 (by kernel_rfl) (by kernel_rfl) rfl rfl (fun _ => by kernel_rfl) (law12_wakes_ok n _ (GL.mono (((hM_1.trans hM_2).trans hM_3).trans hM_4) hG) x_7 hx_8) (fun w_8 p_8 a_37 f_63 => ?_)
                  refine W_run (L' := [(4, .bool x_7)]) (w' := w_8) f_63 2 [4] (by kernel_rfl) (fun a_38 f_64 => ?_)
                  refine W_end rfl ?_
                  refine T_n ?_
                  exact ⟨(x_7), (Option.some.inj hF_28).symm, M_4, (Mem.le_refl _), f_64.keep (ks := [4]) (by kernel_rfl), p_8⟩
                · have k_16 : ¬ (x_4.2.1 = (x_3.2.1 + (d0.length : Int))) := iff_f decide_eq_true_iff h_9
                  have hF_29 := cnd_f h_9 hF_26
                  have f_65 := Frm.set f_60 80 (v := .bool (decide (x_4.2.1 = (x_3.2.1 + (d0.length : Int))))) (v' := .bool false) (by kernel_rfl) (congrArg Value.bool h_9)
                  have f_66 : Frm 142 [(80, .bool false)] a_36 := f_65.keep (ks := [80]) (by kernel_rfl)
                  refine W_run (L' := [(4, .bool false)]) (w' := w_5) f_66 3 [4] (by kernel_rfl) (fun a_39 f_67 => ?_)
                  refine W_end rfl ?_
                  refine T_n ?_
                  exact ⟨(false), (Option.some.inj hF_29).symm, M_4, (Mem.le_refl _), f_67.keep (ks := [4]) (by kernel_rfl), p_5⟩
              · have k_17 : ¬ (x_4.2.2 = x_3.2.2) := iff_f decide_eq_true_iff h_8
                have hF_30 := cnd_f h_8 hF_24
                have f_68 := Frm.set f_53 71 (v := .bool (decide (x_4.2.2 = x_3.2.2))) (v' := .bool false) (by kernel_rfl) (congrArg Value.bool h_8)
                have f_69 : Frm 142 [(0, S d0), (9, .int .i64 x_3.2.1), (12, .int .i64 x_4.2.1), (67, .bool false), (71, .bool false)] a_33 := f_68.keep (ks := [0, 9, 12, 67, 71]) (by kernel_rfl)
                refine W_run (L' := [(4, .bool false)]) (w' := w_5) f_69 12 [4] (by kernel_rfl) (fun a_40 f_70 => ?_)
                refine W_end rfl ?_
                refine T_n ?_
                exact ⟨(false), (Option.some.inj hF_30).symm, M_4, (Mem.le_refl _), f_70.keep (ks := [4]) (by kernel_rfl), p_5⟩
          · rintro a_41 w_9 ⟨y_2, hq_2, M_5, hM_5, f_71, p_9⟩
            subst j_2
            refine T_n ?_
            refine wp_ret ?_
            refine T_r ?_
            refine E_ret1 f_71 rfl (by kernel_rfl : Vc.look _ 4 = some (.bool y_2)) ?_
            obtain rfl := Option.some.inj hF_21
            exact ⟨_, rfl, M_5, ((((hM_1.trans hM_2).trans hM_3).trans hM_4).trans hM_5), (p_9.dropN 3), rfl⟩
        · have k_18 : ¬ (¬ (x_3.2.2 = 0)) := iff_f (not_iff decide_eq_true_iff) h_6
          have hF_31 := cnd_f h_6 hF_19
          refine wp_skip ?_
          refine T_n ?_
          refine R_seq ?_
          refine R_reg ?_
          refine W_run (L' := [(5, .slice A_1 x_2.1.length cap_1), (8, .slice A_2 x_3.1.length cap_2), (11, .slice A_3 x_4.1.length cap_3), (13, .int .i64 x_4.2.2), (14, .slice none 0 0)]) (w' := w_5) f_44 1 [5, 8, 11, 13, 14] (by kernel_rfl) (fun a_42 f_72 => ?_)
          refine W_end rfl ?_
          refine T_n ?_
          refine R_seq ?_
          refine R_reg ?_
          refine W_run (L' := [(8, .slice A_2 x_3.1.length cap_2), (11, .slice A_3 x_4.1.length cap_3), (13, .int .i64 x_4.2.2), (83, .slice none 0 0), (84, .slice A_1 x_2.1.length cap_1)]) (w' := w_5) f_72 2 [8, 11, 13, 83, 84] (by kernel_rfl) (fun a_43 f_73 => ?_)
          obtain ⟨A_4, cap_4, hv_1⟩ : ∃ A cap, Value.slice none 0 0 = .slice A ([] : List T_api_Expr).length cap := ⟨none, 0, rfl⟩
          have p_10 : Hp w0 M_4 ((Ent.row 29 6 (.slice A_4 ([] : List T_api_Expr).length cap_4) ([] : List T_api_Expr).length []) :: (Ent.row 29 6 (.slice A_3 x_4.1.length cap_3) x_4.1.length cs_3) :: (Ent.row 29 6 (.slice A_2 x_3.1.length cap_2) x_3.1.length cs_2) :: (Ent.row 29 6 (.slice A_1 x_2.1.length cap_1) x_2.1.length cs_1) :: H) w_5 := by rw [← hv_1]; exact p_5.nilRow 29 6
          have f_74 := Frm.set f_73 83 (v := .slice none 0 0) (v' := .slice A_4 ([] : List T_api_Expr).length cap_4) (by kernel_rfl) (hv_1)
          have f_75 : Frm 142 [(8, .slice A_2 x_3.1.length cap_2), (11, .slice A_3 x_4.1.length cap_3), (13, .int .i64 x_4.2.2), (83, .slice A_4 ([] : List T_api_Expr).length cap_4), (84, .slice A_1 x_2.1.length cap_1)] a_43 := f_74.keep (ks := [8, 11, 13, 83, 84]) (by kernel_rfl)
          have hr_4 : RepSeq M_4 (([] : List T_api_Expr).map emb_T_api_Expr) [] := rfl
          have p_11 : Hp w0 M_4 ((Ent.row 29 6 (.slice A_1 x_2.1.length cap_1) x_2.1.length cs_1) :: (Ent.row 29 6 (.slice A_4 ([] : List T_api_Expr).length cap_4) ([] : List T_api_Expr).length []) :: (Ent.row 29 6 (.slice A_3 x_4.1.length cap_3) x_4.1.length cs_3) :: (Ent.row 29 6 (.slice A_2 x_3.1.length cap_2) x_3.1.length cs_2) :: H) w_5 := p_10.pull 3 rfl rfl
          obtain ⟨A_5, cap_5, M_6, hv_2, hM_6, p_12, h_10⟩ := p_11.rowSli (f := emb_T_api_Expr) (xs := x_2.1) szd_T_api_Expr (RepSeq.mono (hM_3.trans hM_4) _ _ hr_1)
          have f_76 := Frm.set f_75 84 (v := .slice A_1 x_2.1.length cap_1) (v' := .slice A_5 x_2.1.length cap_5) (by kernel_rfl) (hv_2)
          have f_77 : Frm 142 [(8, .slice A_2 x_3.1.length cap_2), (11, .slice A_3 x_4.1.length cap_3), (13, .int .i64 x_4.2.2), (83, .slice A_4 ([] : List T_api_Expr).length cap_4), (84, .slice A_5 x_2.1.length cap_5)] a_43 := f_76.keep (ks := [8, 11, 13, 83, 84]) (by kernel_rfl)
          obtain ⟨g_4, hF_32⟩ := need_some hF_31
          refine W_appendS (z := .agg #[.int .i8 0, S [], .int .i64 0, S [], S [], .slice none 0 0]) (f := emb_T_api_Expr) (xs := ([] : List T_api_Expr)) (ys := x_2.1) (c := cap_5) f_77 p_12 (RepSeq.mono hM_6 _ _ hr_4) h_10 (by kernel_rfl) (by kernel_rfl) rfl rfl rfl (by kernel_rfl) (by kernel_rfl) (by kernel_rfl) (by kernel_rfl) g_4 (by omega) (fun A_6 cap_6 cs_4 w_10 p_13 hr_5 a_44 f_78 => ?_)
          refine W_run (L' := [(8, .slice A_2 x_3.1.length cap_2), (11, .slice A_3 x_4.1.length cap_3), (13, .int .i64 x_4.2.2), (14, .slice A_6 (([] : List T_api_Expr) ++ x_2.1).length cap_6)]) (w' := w_10) f_78 1 [8, 11, 13, 14] (by kernel_rfl) (fun a_45 f_79 => ?_)
          refine W_end rfl ?_
          refine T_n ?_
          refine R_seq ?_
          refine R_seq ?_
          refine R_reg ?_
          refine W_run (L' := [(11, .slice A_3 x_4.1.length cap_3), (13, .int .i64 x_4.2.2), (14, .slice A_6 (([] : List T_api_Expr) ++ x_2.1).length cap_6), (86, .slice A_2 x_3.1.length cap_2), (87, .int .i64 ((x_3.1.length : Nat) : Int)), (88, .int .i64 0)]) (w' := w_10) f_79 3 [11, 13, 14, 86, 87, 88] (by kernel_rfl) (fun a_46 f_80 => ?_)
          refine W_end rfl ?_
          refine T_n ?_
          refine wp_block ?_
          obtain ⟨b_1, hL_1, hF_33⟩ := bind_some' hF_32
          refine wp_mono (Q := fun e a w => (e = .exit 0 ∧ (∃ y_4 : List T_api_Expr, b_1 = y_4 ∧ ∃ M_9 : Mem, M_6.le M_9 ∧ ∃ (A_12 : Option Addr), ∃ (cap_16 : Nat), ∃ (cs_8 : List Value), RepSeq M_9 (y_4.map emb_T_api_Expr) cs_8 ∧ Frm 142 [(11, .slice A_3 x_4.1.length cap_3), (13, .int .i64 x_4.2.2), (14, .slice A_12 y_4.length cap_16)] a ∧ Hp w0 M_9 ((Ent.row 29 6 (.slice A_12 y_4.length cap_16) y_4.length cs_8) :: (Ent.row 29 6 (.slice A_3 x_4.1.length cap_3) x_4.1.length cs_3) :: (Ent.row 29 6 (.slice A_2 x_3.1.length cap_2) x_3.1.length cs_2) :: H) w))) (R_loop (n := 142) (w0 := w0) (M := M_6) (fun (x : Nat × (List T_api_Expr × Int) × (Option Addr) × Nat × (List Value)) => match x with | (m_1, s_1, A_7, cap_7, cs_5) => [(11, .slice A_3 x_4.1.length cap_3), (13, .int .i64 x_4.2.2), (14, .slice A_7 s_1.1.length cap_7), (86, .slice A_2 x_3.1.length cap_2), (87, .int .i64 ((x_3.1.length : Nat) : Int)), (88, .int .i64 s_1.2)]) (fun (x : Nat × (List T_api_Expr × Int) × (Option Addr) × Nat × (List Value)) => match x with | (m_1, s_1, A_7, cap_7, cs_5) => ((Ent.row 29 6 (.slice A_7 s_1.1.length cap_7) s_1.1.length cs_5) :: (Ent.row 29 6 (.slice A_3 x_4.1.length cap_3) x_4.1.length cs_3) :: (Ent.row 29 6 (.slice A_2 x_3.1.length cap_2) x_3.1.length cs_2) :: H)) (fun (x : Nat × (List T_api_Expr × Int) × (Option Addr) × Nat × (List Value)) (MM : Mem) => match x with | (m_1, s_1, A_7, cap_7, cs_5) => loopF (law12_SubJoin_s1 n x_3) m_1 s_1 = some b_1 ∧ RepSeq MM (s_1.1.map emb_T_api_Expr) cs_5) (fun (x : Nat × (List T_api_Expr × Int) × (Option Addr) × Nat × (List Value)) => match x with | (m_1, s_1, A_7, cap_7, cs_5) => m_1) (n, (([] : List T_api_Expr) ++ x_2.1, (0 : Int)), A_6, cap_6, cs_4) (f_80.keep (ks := [11, 13, 14, 86, 87, 88]) (by kernel_rfl)) p_13 ⟨hL_1, hr_5⟩ ?_) ?_
          · rintro ⟨m_1, s_1, A_7, cap_7, cs_5⟩ M_7 a_47 w_11 hM_7 I_1 f_81 p_14
            replace f_81 : Frm 142 [(11, .slice A_3 x_4.1.length cap_3), (13, .int .i64 x_4.2.2), (14, .slice A_7 s_1.1.length cap_7), (86, .slice A_2 x_3.1.length cap_2), (87, .int .i64 ((x_3.1.length : Nat) : Int)), (88, .int .i64 s_1.2)] a_47 := f_81
            replace p_14 : Hp w0 M_7 ((Ent.row 29 6 (.slice A_7 s_1.1.length cap_7) s_1.1.length cs_5) :: (Ent.row 29 6 (.slice A_3 x_4.1.length cap_3) x_4.1.length cs_3) :: (Ent.row 29 6 (.slice A_2 x_3.1.length cap_2) x_3.1.length cs_2) :: H) w_11 := p_14
            obtain ⟨I_1L, hr_6⟩ := I_1
            obtain ⟨m_2, r_1, rfl, hs_1, hn_1⟩ := loop_step I_1L
            unfold law12_SubJoin_s1 at hs_1
            refine R_seq ?_
            refine R_reg ?_
            refine W_run (L' := [(11, .slice A_3 x_4.1.length cap_3), (13, .int .i64 x_4.2.2), (14, .slice A_7 s_1.1.length cap_7), (86, .slice A_2 x_3.1.length cap_2), (87, .int .i64 ((x_3.1.length : Nat) : Int)), (88, .int .i64 s_1.2), (89, .bool (decide (s_1.2 < ((x_3.1.length : Nat) : Int))))]) (w' := w_11) f_81 1 [11, 13, 14, 86, 87, 88, 89] (by kernel_rfl) (fun a_48 f_82 => ?_)
            refine W_end rfl ?_
            refine T_n ?_
            refine R_seq ?_
            refine R_cond f_82 (b := decide (s_1.2 < ((x_3.1.length : Nat) : Int))) (by kernel_rfl) (by kernel_rfl) (fun h_11 => ?_) (fun h_11 => ?_)
            · have k_19 : s_1.2 < ((x_3.1.length : Nat) : Int) := decide_eq_true_iff.1 h_11
              have hF_34 := cnd_t h_11 hs_1
              refine wp_skip ?_
              refine T_n ?_
              refine R_seq ?_
              refine wp_block ?_
              refine R_seq ?_
              refine R_reg ?_
              refine W_run (L' := [(11, .slice A_3 x_4.1.length cap_3), (13, .int .i64 x_4.2.2), (14, .slice A_7 s_1.1.length cap_7), (86, .slice A_2 x_3.1.length cap_2), (87, .int .i64 ((x_3.1.length : Nat) : Int)), (88, .int .i64 s_1.2), (90, .int .i64 s_1.2)]) (w' := w_11) f_82 1 [11, 13, 14, 86, 87, 88, 90] (by kernel_rfl) (fun a_49 f_83 => ?_)
              obtain ⟨x_8, hx_9, hF_35⟩ := bind_some' hF_34
              obtain ⟨b_2, cap_8, hv_3, hcap_1⟩ := p_14.rowAddr 2 rfl (getI_pos hx_9)
              have f_84 := Frm.set f_83 86 (v := .slice A_2 x_3.1.length cap_2) (v' := .slice (some ⟨b_2, 0, none⟩) x_3.1.length cap_8) (by kernel_rfl) (hv_3)
              have f_85 : Frm 142 [(11, .slice A_3 x_4.1.length cap_3), (13, .int .i64 x_4.2.2), (14, .slice A_7 s_1.1.length cap_7), (86, .slice (some ⟨b_2, 0, none⟩) x_3.1.length cap_8), (87, .int .i64 ((x_3.1.length : Nat) : Int)), (88, .int .i64 s_1.2), (90, .int .i64 s_1.2)] a_49 := f_84.keep (ks := [11, 13, 14, 86, 87, 88, 90]) (by kernel_rfl)
              refine W_eq (v := .pointer (some ((⟨b_2, 0, none⟩ : Addr).add (s_1.2.toNat * 6)))) f_85 (by kernel_rfl) (by kernel_rfl) rfl rfl (X_indexAddr rfl (ad := ⟨b_2, 0, none⟩) (len := x_3.1.length) (cap := cap_8) (k := .i64) (i := s_1.2) (by kernel_rfl) (by kernel_rfl) (e := 29) (by kernel_rfl) (sz := 6) (by kernel_rfl) (getI_nn hx_9) (getI_lt hx_9)) (fun a_50 f_86 => ?_)
              have f_87 := Frm.set f_86 86 (v := .slice (some ⟨b_2, 0, none⟩) x_3.1.length cap_8) (v' := .slice A_2 x_3.1.length cap_2) (by kernel_rfl) (hv_3.symm)
              have f_88 : Frm 142 [(11, .slice A_3 x_4.1.length cap_3), (13, .int .i64 x_4.2.2), (14, .slice A_7 s_1.1.length cap_7), (86, .slice A_2 x_3.1.length cap_2), (87, .int .i64 ((x_3.1.length : Nat) : Int)), (88, .int .i64 s_1.2), (90, .int .i64 s_1.2), (91, .pointer (some ((⟨b_2, 0, none⟩ : Addr).add (s_1.2.toNat * 6))))] a_50 := f_87.keep (ks := [11, 13, 14, 86, 87, 88, 90, 91]) (by kernel_rfl)
              obtain ⟨c_2, hl_1, hr_7, hc_1⟩ := RepSeq.get s_1.2.toNat (szd_all szd_T_api_Expr) (RepSeq.mono ((hM_4.trans hM_6).trans hM_7) _ _ hr_2) (getI_map hx_9)
              clear hl_1
              obtain ⟨A_8, cap_9, rfl, h_12⟩ := T_api_Expr.opn hr_7
              refine W_eq (v := .agg #[.int .i8 x_8.fKind, S x_8.fText, .int .i64 x_8.fNum, S x_8.fName, S x_8.fAttr, .slice A_8 x_8.fL.length cap_9]) f_88 (by kernel_rfl) (by kernel_rfl) rfl rfl (X_loadN (cs := [.int .i8 x_8.fKind, S x_8.fText, .int .i64 x_8.fNum, S x_8.fName, S x_8.fAttr, .slice A_8 x_8.fL.length cap_9]) rfl (ad := (⟨b_2, 0, none⟩ : Addr).add (s_1.2.toNat * 6)) (by kernel_rfl) (by kernel_rfl) (fun j v h => row_at (p_14.rowCell 2 rfl hv_3) hc_1 j v h)) (fun a_51 f_89 => ?_)
              refine W_alloc f_89 p_14 1 [11, 13, 14, 16, 86, 87, 88, 90, 91, 92] (.cells #[.int .i8 0, S [], .int .i64 0, S [], S [], .slice none 0 0] 29 (0, 0)) (fun b_3 => [(11, .slice A_3 x_4.1.length cap_3), (13, .int .i64 x_4.2.2), (14, .slice A_7 s_1.1.length cap_7), (16, .pointer (some (⟨b_3, 0, none⟩))), (86, .slice A_2 x_3.1.length cap_2), (87, .int .i64 ((x_3.1.length : Nat) : Int)), (88, .int .i64 s_1.2), (90, .int .i64 s_1.2), (91, .pointer (some ((⟨b_2, 0, none⟩ : Addr).add (s_1.2.toNat * 6)))), (92, .agg #[.int .i8 x_8.fKind, S x_8.fText, .int .i64 x_8.fNum, S x_8.fName, S x_8.fAttr, .slice A_8 x_8.fL.length cap_9])]) (fun _ => by kernel_rfl) (fun b_3 w_12 p_15 a_52 f_90 => ?_)
              replace f_90 : Frm 142 [(11, .slice A_3 x_4.1.length cap_3), (13, .int .i64 x_4.2.2), (14, .slice A_7 s_1.1.length cap_7), (16, .pointer (some (⟨b_3, 0, none⟩))), (86, .slice A_2 x_3.1.length cap_2), (87, .int .i64 ((x_3.1.length : Nat) : Int)), (88, .int .i64 s_1.2), (90, .int .i64 s_1.2), (91, .pointer (some ((⟨b_2, 0, none⟩ : Addr).add (s_1.2.toNat * 6)))), (92, .agg #[.int .i8 x_8.fKind, S x_8.fText, .int .i64 x_8.fNum, S x_8.fName, S x_8.fAttr, .slice A_8 x_8.fL.length cap_9])] a_52 := f_90
              refine W_run (L' := [(11, .slice A_3 x_4.1.length cap_3), (13, .int .i64 x_4.2.2), (14, .slice A_7 s_1.1.length cap_7), (15, .int .i64 s_1.2), (16, .pointer (some (⟨b_3, 0, none⟩))), (86, .slice A_2 x_3.1.length cap_2), (87, .int .i64 ((x_3.1.length : Nat) : Int)), (88, .int .i64 s_1.2), (92, .agg #[.int .i8 x_8.fKind, S x_8.fText, .int .i64 x_8.fNum, S x_8.fName, S x_8.fAttr, .slice A_8 x_8.fL.length cap_9])]) (w' := w_12) f_90 1 [11, 13, 14, 15, 16, 86, 87, 88, 92] (by kernel_rfl) (fun a_53 f_91 => ?_)
              refine W_storeN (vs := [.int .i8 x_8.fKind, S x_8.fText, .int .i64 x_8.fNum, S x_8.fName, S x_8.fAttr, .slice A_8 x_8.fL.length cap_9]) (j := 0) f_91 p_15 (by kernel_rfl) (by kernel_rfl) rfl rfl (by kernel_rfl) (by kernel_rfl) (by simp [Value.oneCell', S]) (by kernel_rfl) (by simp) (by decide) (cs' := #[.int .i8 x_8.fKind, S x_8.fText, .int .i64 x_8.fNum, S x_8.fName, S x_8.fAttr, .slice A_8 x_8.fL.length cap_9]) rfl (fun w_13 p_16 a_54 f_92 => ?_)
              refine W_end rfl ?_
              refine T_n ?_
              refine R_seq ?_
              refine R_reg ?_
              refine W_run (L' := [(11, .slice A_3 x_4.1.length cap_3), (13, .int .i64 x_4.2.2), (14, .slice A_7 s_1.1.length cap_7), (15, .int .i64 s_1.2), (16, .pointer (some (⟨b_3, 0, none⟩))), (86, .slice A_2 x_3.1.length cap_2), (87, .int .i64 ((x_3.1.length : Nat) : Int)), (88, .int .i64 s_1.2), (94, .int .i64 ((s_1.1.length : Nat) : Int))]) (w' := w_13) f_92 2 [11, 13, 14, 15, 16, 86, 87, 88, 94] (by kernel_rfl) (fun a_55 f_93 => ?_)
              obtain ⟨g_5, hF_36⟩ := need_some hF_35
              refine W_run (L' := [(11, .slice A_3 x_4.1.length cap_3), (13, .int .i64 x_4.2.2), (14, .slice A_7 s_1.1.length cap_7), (15, .int .i64 s_1.2), (16, .pointer (some (⟨b_3, 0, none⟩))), (86, .slice A_2 x_3.1.length cap_2), (87, .int .i64 ((x_3.1.length : Nat) : Int)), (88, .int .i64 s_1.2), (94, .int .i64 ((s_1.1.length : Nat) : Int)), (95, .int .i64 (IntKind.wrap .i64 (((s_1.1.length : Nat) : Int) - 1)))]) (w' := w_13) f_93 1 [11, 13, 14, 15, 16, 86, 87, 88, 94, 95] (by kernel_rfl) (fun a_56 f_94 => ?_)
              have f_95 := Frm.set f_94 95 (v := .int .i64 (IntKind.wrap .i64 (((s_1.1.length : Nat) : Int) - 1))) (v' := .int .i64 (((s_1.1.length : Nat) : Int) - 1)) (by kernel_rfl) (congrArg (Value.int .i64) (inR_wrap g_5))
              have f_96 : Frm 142 [(11, .slice A_3 x_4.1.length cap_3), (13, .int .i64 x_4.2.2), (14, .slice A_7 s_1.1.length cap_7), (15, .int .i64 s_1.2), (16, .pointer (some (⟨b_3, 0, none⟩))), (86, .slice A_2 x_3.1.length cap_2), (87, .int .i64 ((x_3.1.length : Nat) : Int)), (88, .int .i64 s_1.2), (94, .int .i64 ((s_1.1.length : Nat) : Int)), (95, .int .i64 (((s_1.1.length : Nat) : Int) - 1))] a_56 := f_95.keep (ks := [11, 13, 14, 15, 16, 86, 87, 88, 94, 95]) (by kernel_rfl)
              refine W_run (L' := [(11, .slice A_3 x_4.1.length cap_3), (13, .int .i64 x_4.2.2), (14, .slice A_7 s_1.1.length cap_7), (15, .int .i64 s_1.2), (16, .pointer (some (⟨b_3, 0, none⟩))), (17, .int .i64 (((s_1.1.length : Nat) : Int) - 1)), (86, .slice A_2 x_3.1.length cap_2), (87, .int .i64 ((x_3.1.length : Nat) : Int)), (88, .int .i64 s_1.2)]) (w' := w_13) f_96 1 [11, 13, 14, 15, 16, 17, 86, 87, 88] (by kernel_rfl) (fun a_57 f_97 => ?_)
              refine W_end rfl ?_
              refine T_n ?_
              refine R_seq ?_
              refine R_seq ?_
              obtain ⟨j_3, hj_3, hF_37⟩ := bind_some' hF_36
              refine R_mid (fun a_71 w_14 => ∃ y_3 : Bool, j_3 = y_3 ∧ ∃ M_8 : Mem, M_7.le M_8 ∧ Frm 142 [(11, .slice A_3 x_4.1.length cap_3), (13, .int .i64 x_4.2.2), (14, .slice A_7 s_1.1.length cap_7), (16, .pointer (some (⟨b_3, 0, none⟩))), (17, .int .i64 (((s_1.1.length : Nat) : Int) - 1)), (86, .slice A_2 x_3.1.length cap_2), (87, .int .i64 ((x_3.1.length : Nat) : Int)), (88, .int .i64 s_1.2), (114, .bool y_3)] a_71 ∧ Hp w0 M_8 ((Ent.obj b_3 (.cells #[.int .i8 x_8.fKind, S x_8.fText, .int .i64 x_8.fNum, S x_8.fName, S x_8.fAttr, .slice A_8 x_8.fL.length cap_9] 29 (0, 0))) :: (Ent.row 29 6 (.slice A_7 s_1.1.length cap_7) s_1.1.length cs_5) :: (Ent.row 29 6 (.slice A_3 x_4.1.length cap_3) x_4.1.length cs_3) :: (Ent.row 29 6 (.slice A_2 x_3.1.length cap_2) x_3.1.length cs_2) :: H) w_14) ?_ ?_
              · refine R_reg ?_
                refine W_run (L' := [(11, .slice A_3 x_4.1.length cap_3), (13, .int .i64 x_4.2.2), (14, .slice A_7 s_1.1.length cap_7), (16, .pointer (some (⟨b_3, 0, none⟩))), (17, .int .i64 (((s_1.1.length : Nat) : Int) - 1)), (86, .slice A_2 x_3.1.length cap_2), (87, .int .i64 ((x_3.1.length : Nat) : Int)), (88, .int .i64 s_1.2), (98, .bool (decide (s_1.2 = 0)))]) (w' := w_13) f_97 3 [11, 13, 14, 16, 17, 86, 87, 88, 98] (by kernel_rfl) (fun a_58 f_98 => ?_)
                rcases Bool.eq_false_or_eq_true (decide (s_1.2 = 0)) with h_13 | h_13
                · have k_20 : s_1.2 = 0 := decide_eq_true_iff.1 h_13
                  have hF_38 := cnd_t h_13 hj_3
                  have f_99 := Frm.set f_98 98 (v := .bool (decide (s_1.2 = 0))) (v' := .bool true) (by kernel_rfl) (congrArg Value.bool h_13)
                  have f_100 : Frm 142 [(11, .slice A_3 x_4.1.length cap_3), (13, .int .i64 x_4.2.2), (14, .slice A_7 s_1.1.length cap_7), (16, .pointer (some (⟨b_3, 0, none⟩))), (17, .int .i64 (((s_1.1.length : Nat) : Int) - 1)), (86, .slice A_2 x_3.1.length cap_2), (87, .int .i64 ((x_3.1.length : Nat) : Int)), (88, .int .i64 s_1.2), (98, .bool true)] a_58 := f_99.keep (ks := [11, 13, 14, 16, 17, 86, 87, 88, 98]) (by kernel_rfl)
                  refine W_run (L' := [(11, .slice A_3 x_4.1.length cap_3), (13, .int .i64 x_4.2.2), (14, .slice A_7 s_1.1.length cap_7), (16, .pointer (some (⟨b_3, 0, none⟩))), (17, .int .i64 (((s_1.1.length : Nat) : Int) - 1)), (86, .slice A_2 x_3.1.length cap_2), (87, .int .i64 ((x_3.1.length : Nat) : Int)), (88, .int .i64 s_1.2), (102, .bool (decide ((0 : Int) ≤ (((s_1.1.length : Nat) : Int) - 1))))]) (w' := w_13) f_100 4 [11, 13, 14, 16, 17, 86, 87, 88, 102] (by kernel_rfl) (fun a_59 f_101 => ?_)
                  rcases Bool.eq_false_or_eq_true (decide ((0 : Int) ≤ (((s_1.1.length : Nat) : Int) - 1))) with h_14 | h_14
                  · have k_21 : (0 : Int) ≤ (((s_1.1.length : Nat) : Int) - 1) := decide_eq_true_iff.1 h_14
                    have hF_39 := cnd_t h_14 hF_38
                    have f_102 := Frm.set f_101 102 (v := .bool (decide ((0 : Int) ≤ (((s_1.1.length : Nat) : Int) - 1)))) (v' := .bool true) (by kernel_rfl) (congrArg Value.bool h_14)
                    have f_103 : Frm 142 [(11, .slice A_3 x_4.1.length cap_3), (13, .int .i64 x_4.2.2), (14, .slice A_7 s_1.1.length cap_7), (16, .pointer (some (⟨b_3, 0, none⟩))), (17, .int .i64 (((s_1.1.length : Nat) : Int) - 1)), (86, .slice A_2 x_3.1.length cap_2), (87, .int .i64 ((x_3.1.length : Nat) : Int)), (88, .int .i64 s_1.2), (102, .bool true)] a_59 := f_102.keep (ks := [11, 13, 14, 16, 17, 86, 87, 88, 102]) (by kernel_rfl)
                    refine W_run (L' := [(11, .slice A_3 x_4.1.length cap_3), (13, .int .i64 x_4.2.2), (14, .slice A_7 s_1.1.length cap_7), (16, .pointer (some (⟨b_3, 0, none⟩))), (17, .int .i64 (((s_1.1.length : Nat) : Int) - 1)), (86, .slice A_2 x_3.1.length cap_2), (87, .int .i64 ((x_3.1.length : Nat) : Int)), (88, .int .i64 s_1.2), (102, .bool true), (103, .pointer (some (⟨b_3, 0, none⟩)))]) (w' := w_13) f_103 1 [11, 13, 14, 16, 17, 86, 87, 88, 102, 103] (by kernel_rfl) (fun a_60 f_104 => ?_)
                    refine W_eq (v := .int .i8 x_8.fKind) f_104 (by kernel_rfl) (by kernel_rfl) rfl rfl (X_load1 (v := .int .i8 x_8.fKind) rfl (ad := ⟨b_3, 0, none⟩) (by kernel_rfl) (by kernel_rfl) (p_16.ownCell 0 rfl 0)) (fun a_61 f_105 => ?_)
                    refine W_run (L' := [(11, .slice A_3 x_4.1.length cap_3), (13, .int .i64 x_4.2.2), (14, .slice A_7 s_1.1.length cap_7), (16, .pointer (some (⟨b_3, 0, none⟩))), (17, .int .i64 (((s_1.1.length : Nat) : Int) - 1)), (86, .slice A_2 x_3.1.length cap_2), (87, .int .i64 ((x_3.1.length : Nat) : Int)), (88, .int .i64 s_1.2), (107, .bool (decide (x_8.fKind = 0)))]) (w' := w_13) f_105 3 [11, 13, 14, 16, 17, 86, 87, 88, 107] (by kernel_rfl) (fun a_62 f_106 => ?_)
                    rcases Bool.eq_false_or_eq_true (decide (x_8.fKind = 0)) with h_15 | h_15
                    · have k_22 : x_8.fKind = 0 := decide_eq_true_iff.1 h_15
                      have hF_40 := cnd_t h_15 hF_39
                      have f_107 := Frm.set f_106 107 (v := .bool (decide (x_8.fKind = 0))) (v' := .bool true) (by kernel_rfl) (congrArg Value.bool h_15)
                      have f_108 : Frm 142 [(11, .slice A_3 x_4.1.length cap_3), (13, .int .i64 x_4.2.2), (14, .slice A_7 s_1.1.length cap_7), (16, .pointer (some (⟨b_3, 0, none⟩))), (17, .int .i64 (((s_1.1.length : Nat) : Int) - 1)), (86, .slice A_2 x_3.1.length cap_2), (87, .int .i64 ((x_3.1.length : Nat) : Int)), (88, .int .i64 s_1.2), (107, .bool true)] a_62 := f_107.keep (ks := [11, 13, 14, 16, 17, 86, 87, 88, 107]) (by kernel_rfl)
                      refine W_run (L' := [(11, .slice A_3 x_4.1.length cap_3), (13, .int .i64 x_4.2.2), (14, .slice A_7 s_1.1.length cap_7), (16, .pointer (some (⟨b_3, 0, none⟩))), (17, .int .i64 (((s_1.1.length : Nat) : Int) - 1)), (86, .slice A_2 x_3.1.length cap_2), (87, .int .i64 ((x_3.1.length : Nat) : Int)), (88, .int .i64 s_1.2), (107, .bool true), (108, .slice A_7 s_1.1.length cap_7), (109, .int .i64 (((s_1.1.length : Nat) : Int) - 1))]) (w' := w_13) f_108 2 [11, 13, 14, 16, 17, 86, 87, 88, 107, 108, 109] (by kernel_rfl) (fun a_63 f_109 => ?_)
                      obtain ⟨x_9, hx_10, hF_41⟩ := bind_some' hF_40
                      obtain ⟨b_4, cap_10, hv_4, hcap_2⟩ := p_16.rowAddr 1 rfl (getI_pos hx_10)
                      have f_110 := Frm.set f_109 108 (v := .slice A_7 s_1.1.length cap_7) (v' := .slice (some ⟨b_4, 0, none⟩) s_1.1.length cap_10) (by kernel_rfl) (hv_4)
                      have f_111 : Frm 142 [(11, .slice A_3 x_4.1.length cap_3), (13, .int .i64 x_4.2.2), (14, .slice A_7 s_1.1.length cap_7), (16, .pointer (some (⟨b_3, 0, none⟩))), (17, .int .i64 (((s_1.1.length : Nat) : Int) - 1)), (86, .slice A_2 x_3.1.length cap_2), (87, .int .i64 ((x_3.1.length : Nat) : Int)), (88, .int .i64 s_1.2), (107, .bool true), (108, .slice (some ⟨b_4, 0, none⟩) s_1.1.length cap_10), (109, .int .i64 (((s_1.1.length : Nat) : Int) - 1))] a_63 := f_110.keep (ks := [11, 13, 14, 16, 17, 86, 87, 88, 107, 108, 109]) (by kernel_rfl)
                      refine W_eq (v := .pointer (some ((⟨b_4, 0, none⟩ : Addr).add ((((s_1.1.length : Nat) : Int) - 1).toNat * 6)))) f_111 (by kernel_rfl) (by kernel_rfl) rfl rfl (X_indexAddr rfl (ad := ⟨b_4, 0, none⟩) (len := s_1.1.length) (cap := cap_10) (k := .i64) (i := ((s_1.1.length : Nat) : Int) - 1) (by kernel_rfl) (by kernel_rfl) (e := 29) (by kernel_rfl) (sz := 6) (by kernel_rfl) (getI_nn hx_10) (getI_lt hx_10)) (fun a_64 f_112 => ?_)
                      have f_113 := Frm.set f_112 108 (v := .slice (some ⟨b_4, 0, none⟩) s_1.1.length cap_10) (v' := .slice A_7 s_1.1.length cap_7) (by kernel_rfl) (hv_4.symm)
                      have f_114 : Frm 142 [(11, .slice A_3 x_4.1.length cap_3), (13, .int .i64 x_4.2.2), (14, .slice A_7 s_1.1.length cap_7), (16, .pointer (some (⟨b_3, 0, none⟩))), (17, .int .i64 (((s_1.1.length : Nat) : Int) - 1)), (86, .slice A_2 x_3.1.length cap_2), (87, .int .i64 ((x_3.1.length : Nat) : Int)), (88, .int .i64 s_1.2), (107, .bool true), (108, .slice A_7 s_1.1.length cap_7), (109, .int .i64 (((s_1.1.length : Nat) : Int) - 1)), (110, .pointer (some ((⟨b_4, 0, none⟩ : Addr).add ((((s_1.1.length : Nat) : Int) - 1).toNat * 6))))] a_64 := f_113.keep (ks := [11, 13, 14, 16, 17, 86, 87, 88, 107, 108, 109, 110]) (by kernel_rfl)
                      refine W_run (L' := [(11, .slice A_3 x_4.1.length cap_3), (13, .int .i64 x_4.2.2), (14, .slice A_7 s_1.1.length cap_7), (16, .pointer (some (⟨b_3, 0, none⟩))), (17, .int .i64 (((s_1.1.length : Nat) : Int) - 1)), (86, .slice A_2 x_3.1.length cap_2), (87, .int .i64 ((x_3.1.length : Nat) : Int)), (88, .int .i64 s_1.2), (107, .bool true), (111, .pointer (some (((⟨b_4, 0, none⟩ : Addr).add ((((s_1.1.length : Nat) : Int) - 1).toNat * 6)).add 0)))]) (w' := w_13) f_114 1 [11, 13, 14, 16, 17, 86, 87, 88, 107, 111] (by kernel_rfl) (fun a_65 f_115 => ?_)
                      obtain ⟨c_3, hl_2, hr_8, hc_2⟩ := RepSeq.get (((s_1.1.length : Nat) : Int) - 1).toNat (szd_all szd_T_api_Expr) hr_6 (getI_map hx_10)
                      clear hl_2
                      obtain ⟨A_9, cap_11, rfl, h_16⟩ := T_api_Expr.opn hr_8
                      refine W_eq (v := .int .i8 x_9.fKind) f_115 (by kernel_rfl) (by kernel_rfl) rfl rfl (X_load1 (v := .int .i8 x_9.fKind) rfl (ad := ((⟨b_4, 0, none⟩ : Addr).add ((((s_1.1.length : Nat) : Int) - 1).toNat * 6)).add 0) (by kernel_rfl) (by kernel_rfl) ((fun j v h => row_at (p_16.rowCell 1 rfl hv_4) hc_2 j v h) 0 _ rfl)) (fun a_66 f_116 => ?_)
                      refine W_run (L' := [(11, .slice A_3 x_4.1.length cap_3), (13, .int .i64 x_4.2.2), (14, .slice A_7 s_1.1.length cap_7), (16, .pointer (some (⟨b_3, 0, none⟩))), (17, .int .i64 (((s_1.1.length : Nat) : Int) - 1)), (86, .slice A_2 x_3.1.length cap_2), (87, .int .i64 ((x_3.1.length : Nat) : Int)), (88, .int .i64 s_1.2), (114, .bool (decide (x_9.fKind = 0)))]) (w' := w_13) f_116 2 [11, 13, 14, 16, 17, 86, 87, 88, 114] (by kernel_rfl) (fun a_67 f_117 => ?_)
                      refine W_end rfl ?_
                      refine T_n ?_
                      exact ⟨(decide (x_9.fKind = 0)), (Option.some.inj hF_41).symm, M_7, (Mem.le_refl _), f_117.keep (ks := [11, 13, 14, 16, 17, 86, 87, 88, 114]) (by kernel_rfl), p_16⟩
                    · have k_23 : ¬ (x_8.fKind = 0) := iff_f decide_eq_true_iff h_15
                      have hF_42 := cnd_f h_15 hF_39
                      have f_118 := Frm.set f_106 107 (v := .bool (decide (x_8.fKind = 0))) (v' := .bool false) (by kernel_rfl) (congrArg Value.bool h_15)
                      have f_119 : Frm 142 [(11, .slice A_3 x_4.1.length cap_3), (13, .int .i64 x_4.2.2), (14, .slice A_7 s_1.1.length cap_7), (16, .pointer (some (⟨b_3, 0, none⟩))), (17, .int .i64 (((s_1.1.length : Nat) : Int) - 1)), (86, .slice A_2 x_3.1.length cap_2), (87, .int .i64 ((x_3.1.length : Nat) : Int)), (88, .int .i64 s_1.2), (107, .bool false)] a_62 := f_118.keep (ks := [11, 13, 14, 16, 17, 86, 87, 88, 107]) (by kernel_rfl)
                      refine W_run (L' := [(11, .slice A_3 x_4.1.length cap_3), (13, .int .i64 x_4.2.2), (14, .slice A_7 s_1.1.length cap_7), (16, .pointer (some (⟨b_3, 0, none⟩))), (17, .int .i64 (((s_1.1.length : Nat) : Int) - 1)), (86, .slice A_2 x_3.1.length cap_2), (87, .int .i64 ((x_3.1.length : Nat) : Int)), (88, .int .i64 s_1.2), (114, .bool false)]) (w' := w_13) f_119 7 [11, 13, 14, 16, 17, 86, 87, 88, 114] (by kernel_rfl) (fun a_68 f_120 => ?_)
                      refine W_end rfl ?_
                      refine T_n ?_
                      exact ⟨(false), (Option.some.inj hF_42).symm, M_7, (Mem.le_refl _), f_120.keep (ks := [11, 13, 14, 16, 17, 86, 87, 88, 114]) (by kernel_rfl), p_16⟩
                  · have k_24 : ¬ ((0 : Int) ≤ (((s_1.1.length : Nat) : Int) - 1)) := iff_f decide_eq_true_iff h_14
                    have hF_43 := cnd_f h_14 hF_38
                    have f_121 := Frm.set f_101 102 (v := .bool (decide ((0 : Int) ≤ (((s_1.1.length : Nat) : Int) - 1)))) (v' := .bool false) (by kernel_rfl) (congrArg Value.bool h_14)
                    have f_122 : Frm 142 [(11, .slice A_3 x_4.1.length cap_3), (13, .int .i64 x_4.2.2), (14, .slice A_7 s_1.1.length cap_7), (16, .pointer (some (⟨b_3, 0, none⟩))), (17, .int .i64 (((s_1.1.length : Nat) : Int) - 1)), (86, .slice A_2 x_3.1.length cap_2), (87, .int .i64 ((x_3.1.length : Nat) : Int)), (88, .int .i64 s_1.2), (102, .bool false)] a_59 := f_121.keep (ks := [11, 13, 14, 16, 17, 86, 87, 88, 102]) (by kernel_rfl)
                    refine W_run (L' := [(11, .slice A_3 x_4.1.length cap_3), (13, .int .i64 x_4.2.2), (14, .slice A_7 s_1.1.length cap_7), (16, .pointer (some (⟨b_3, 0, none⟩))), (17, .int .i64 (((s_1.1.length : Nat) : Int) - 1)), (86, .slice A_2 x_3.1.length cap_2), (87, .int .i64 ((x_3.1.length : Nat) : Int)), (88, .int .i64 s_1.2), (114, .bool false)]) (w' := w_13) f_122 12 [11, 13, 14, 16, 17, 86, 87, 88, 114] (by kernel_rfl) (fun a_69 f_123 => ?_)
                    refine W_end rfl ?_
                    refine T_n ?_
                    exact ⟨(false), (Option.some.inj hF_43).symm, M_7, (Mem.le_refl _), f_123.keep (ks := [11, 13, 14, 16, 17, 86, 87, 88, 114]) (by kernel_rfl), p_16⟩
                · have k_25 : ¬ (s_1.2 = 0) := iff_f decide_eq_true_iff h_13
                  have hF_44 := cnd_f h_13 hj_3
                  have f_124 := Frm.set f_98 98 (v := .bool (decide (s_1.2 = 0))) (v' := .bool false) (by kernel_rfl) (congrArg Value.bool h_13)
                  have f_125 : Frm 142 [(11, .slice A_3 x_4.1.length cap_3), (13, .int .i64 x_4.2.2), (14, .slice A_7 s_1.1.length cap_7), (16, .pointer (some (⟨b_3, 0, none⟩))), (17, .int .i64 (((s_1.1.length : Nat) : Int) - 1)), (86, .slice A_2 x_3.1.length cap_2), (87, .int .i64 ((x_3.1.length : Nat) : Int)), (88, .int .i64 s_1.2), (98, .bool false)] a_58 := f_124.keep (ks := [11, 13, 14, 16, 17, 86, 87, 88, 98]) (by kernel_rfl)
                  refine W_run (L' := [(11, .slice A_3 x_4.1.length cap_3), (13, .int .i64 x_4.2.2), (14, .slice A_7 s_1.1.length cap_7), (16, .pointer (some (⟨b_3, 0, none⟩))), (17, .int .i64 (((s_1.1.length : Nat) : Int) - 1)), (86, .slice A_2 x_3.1.length cap_2), (87, .int .i64 ((x_3.1.length : Nat) : Int)), (88, .int .i64 s_1.2), (114, .bool false)]) (w' := w_13) f_125 16 [11, 13, 14, 16, 17, 86, 87, 88, 114] (by kernel_rfl) (fun a_70 f_126 => ?_)
                  refine W_end rfl ?_
                  refine T_n ?_
                  exact ⟨(false), (Option.some.inj hF_44).symm, M_7, (Mem.le_refl _), f_126.keep (ks := [11, 13, 14, 16, 17, 86, 87, 88, 114]) (by kernel_rfl), p_16⟩
              · rintro a_71 w_14 ⟨y_3, hq_3, M_8, hM_8, f_127, p_17⟩
                subst j_3
                refine T_n ?_
                refine R_cond f_127 (b := y_3) (by kernel_rfl) (by kernel_rfl) (fun h_17 => ?_) (fun h_17 => ?_)
                · have hF_45 := cnd_t h_17 hF_37
                  refine R_seq ?_
                  refine R_drawT 12 p_17 (by kernel_rfl) (by kernel_rfl) (fun w_15 p_18 => ?_)
                  refine ST_eq (v := .slice A_7 s_1.1.length cap_7) f_127 (by kernel_rfl) (by kernel_rfl) rfl rfl (by kernel_rfl) (fun a_72 f_128 => ?_)
                  refine ST_eq (v := .int .i64 (((s_1.1.length : Nat) : Int) - 1)) f_128 (by kernel_rfl) (by kernel_rfl) rfl rfl (by kernel_rfl) (fun a_73 f_129 => ?_)
                  refine ST_eq (v := .slice A_7 s_1.1.length cap_7) f_129 (by kernel_rfl) (by kernel_rfl) rfl rfl (by kernel_rfl) (fun a_74 f_130 => ?_)
                  refine ST_eq (v := .int .i64 (((s_1.1.length : Nat) : Int) - 1)) f_130 (by kernel_rfl) (by kernel_rfl) rfl rfl (by kernel_rfl) (fun a_75 f_131 => ?_)
                  have f_132 : Frm 142 [(11, .slice A_3 x_4.1.length cap_3), (13, .int .i64 x_4.2.2), (14, .slice A_7 s_1.1.length cap_7), (16, .pointer (some (⟨b_3, 0, none⟩))), (86, .slice A_2 x_3.1.length cap_2), (87, .int .i64 ((x_3.1.length : Nat) : Int)), (88, .int .i64 s_1.2), (115, .slice A_7 s_1.1.length cap_7), (116, .int .i64 (((s_1.1.length : Nat) : Int) - 1)), (117, .slice A_7 s_1.1.length cap_7), (118, .int .i64 (((s_1.1.length : Nat) : Int) - 1))] a_75 := f_131.keep (ks := [11, 13, 14, 16, 86, 87, 88, 115, 116, 117, 118]) (by kernel_rfl)
                  obtain ⟨x_10, hx_11, hF_46⟩ := bind_some' hF_45
                  obtain ⟨b_5, cap_12, hv_5, hcap_3⟩ := p_18.rowAddr 1 rfl (getI_pos hx_11)
                  have f_133 := Frm.set f_132 117 (v := .slice A_7 s_1.1.length cap_7) (v' := .slice (some ⟨b_5, 0, none⟩) s_1.1.length cap_12) (by kernel_rfl) (hv_5)
                  have f_134 : Frm 142 [(11, .slice A_3 x_4.1.length cap_3), (13, .int .i64 x_4.2.2), (14, .slice A_7 s_1.1.length cap_7), (16, .pointer (some (⟨b_3, 0, none⟩))), (86, .slice A_2 x_3.1.length cap_2), (87, .int .i64 ((x_3.1.length : Nat) : Int)), (88, .int .i64 s_1.2), (115, .slice A_7 s_1.1.length cap_7), (116, .int .i64 (((s_1.1.length : Nat) : Int) - 1)), (117, .slice (some ⟨b_5, 0, none⟩) s_1.1.length cap_12), (118, .int .i64 (((s_1.1.length : Nat) : Int) - 1))] a_75 := f_133.keep (ks := [11, 13, 14, 16, 86, 87, 88, 115, 116, 117, 118]) (by kernel_rfl)
                  refine ST_eq (v := .pointer (some ((⟨b_5, 0, none⟩ : Addr).add ((((s_1.1.length : Nat) : Int) - 1).toNat * 6)))) f_134 (by kernel_rfl) (by kernel_rfl) rfl rfl (X_indexAddr rfl (ad := ⟨b_5, 0, none⟩) (len := s_1.1.length) (cap := cap_12) (k := .i64) (i := ((s_1.1.length : Nat) : Int) - 1) (by kernel_rfl) (by kernel_rfl) (e := 29) (by kernel_rfl) (sz := 6) (by kernel_rfl) (getI_nn hx_11) (getI_lt hx_11)) (fun a_76 f_135 => ?_)
                  have f_136 := Frm.set f_135 117 (v := .slice (some ⟨b_5, 0, none⟩) s_1.1.length cap_12) (v' := .slice A_7 s_1.1.length cap_7) (by kernel_rfl) (hv_5.symm)
                  have f_137 : Frm 142 [(11, .slice A_3 x_4.1.length cap_3), (13, .int .i64 x_4.2.2), (14, .slice A_7 s_1.1.length cap_7), (16, .pointer (some (⟨b_3, 0, none⟩))), (86, .slice A_2 x_3.1.length cap_2), (87, .int .i64 ((x_3.1.length : Nat) : Int)), (88, .int .i64 s_1.2), (115, .slice A_7 s_1.1.length cap_7), (116, .int .i64 (((s_1.1.length : Nat) : Int) - 1)), (117, .slice A_7 s_1.1.length cap_7), (118, .int .i64 (((s_1.1.length : Nat) : Int) - 1)), (119, .pointer (some ((⟨b_5, 0, none⟩ : Addr).add ((((s_1.1.length : Nat) : Int) - 1).toNat * 6))))] a_76 := f_136.keep (ks := [11, 13, 14, 16, 86, 87, 88, 115, 116, 117, 118, 119]) (by kernel_rfl)
                  refine ST_eq (v := .pointer (some (((⟨b_5, 0, none⟩ : Addr).add ((((s_1.1.length : Nat) : Int) - 1).toNat * 6)).add 1))) f_137 (by kernel_rfl) (by kernel_rfl) rfl rfl (by kernel_rfl) (fun a_77 f_138 => ?_)
                  have f_139 : Frm 142 [(11, .slice A_3 x_4.1.length cap_3), (13, .int .i64 x_4.2.2), (14, .slice A_7 s_1.1.length cap_7), (16, .pointer (some (⟨b_3, 0, none⟩))), (86, .slice A_2 x_3.1.length cap_2), (87, .int .i64 ((x_3.1.length : Nat) : Int)), (88, .int .i64 s_1.2), (115, .slice A_7 s_1.1.length cap_7), (116, .int .i64 (((s_1.1.length : Nat) : Int) - 1)), (120, .pointer (some (((⟨b_5, 0, none⟩ : Addr).add ((((s_1.1.length : Nat) : Int) - 1).toNat * 6)).add 1)))] a_77 := f_138.keep (ks := [11, 13, 14, 16, 86, 87, 88, 115, 116, 120]) (by kernel_rfl)
                  obtain ⟨c_4, hl_3, hr_9, hc_3⟩ := RepSeq.get (((s_1.1.length : Nat) : Int) - 1).toNat (szd_all szd_T_api_Expr) (RepSeq.mono hM_8 _ _ hr_6) (getI_map hx_11)
                  clear hl_3
                  obtain ⟨A_10, cap_13, rfl, h_18⟩ := T_api_Expr.opn hr_9
                  refine ST_eq (v := S x_10.fText) f_139 (by kernel_rfl) (by kernel_rfl) rfl rfl (X_load1 (v := S x_10.fText) rfl (ad := ((⟨b_5, 0, none⟩ : Addr).add ((((s_1.1.length : Nat) : Int) - 1).toNat * 6)).add 1) (by kernel_rfl) (by kernel_rfl) ((fun j v h => row_at (p_18.rowCell 1 rfl hv_5) hc_3 j v h) 1 _ rfl)) (fun a_78 f_140 => ?_)
                  refine ST_eq (v := .pointer (some (⟨b_3, 1, none⟩))) f_140 (by kernel_rfl) (by kernel_rfl) rfl rfl (by kernel_rfl) (fun a_79 f_141 => ?_)
                  have f_142 : Frm 142 [(11, .slice A_3 x_4.1.length cap_3), (13, .int .i64 x_4.2.2), (14, .slice A_7 s_1.1.length cap_7), (86, .slice A_2 x_3.1.length cap_2), (87, .int .i64 ((x_3.1.length : Nat) : Int)), (88, .int .i64 s_1.2), (115, .slice A_7 s_1.1.length cap_7), (116, .int .i64 (((s_1.1.length : Nat) : Int) - 1)), (121, S x_10.fText), (122, .pointer (some (⟨b_3, 1, none⟩)))] a_79 := f_141.keep (ks := [11, 13, 14, 86, 87, 88, 115, 116, 121, 122]) (by kernel_rfl)
                  refine ST_eq (v := S x_8.fText) f_142 (by kernel_rfl) (by kernel_rfl) rfl rfl (X_load1 (v := S x_8.fText) rfl (ad := ⟨b_3, 1, none⟩) (by kernel_rfl) (by kernel_rfl) (p_18.ownCell 0 rfl 1)) (fun a_80 f_143 => ?_)
                  obtain ⟨g_6, hF_47⟩ := need_some hF_46
                  refine ST_eq (v := S (x_10.fText ++ x_8.fText)) f_143 (by kernel_rfl) (by kernel_rfl) rfl rfl (X_concat rfl (l := x_10.fText) (m := x_8.fText) (by kernel_rfl) (by kernel_rfl) g_6) (fun a_81 f_144 => ?_)
                  refine ST_eq (v := .agg #[.int .i8 0, S (x_10.fText ++ x_8.fText), .int .i64 0, S [], S [], .slice none 0 0]) f_144 (by kernel_rfl) (by kernel_rfl) rfl rfl (by kernel_rfl) (fun a_82 f_145 => ?_)
                  have f_146 : Frm 142 [(11, .slice A_3 x_4.1.length cap_3), (13, .int .i64 x_4.2.2), (14, .slice A_7 s_1.1.length cap_7), (86, .slice A_2 x_3.1.length cap_2), (87, .int .i64 ((x_3.1.length : Nat) : Int)), (88, .int .i64 s_1.2), (115, .slice A_7 s_1.1.length cap_7), (116, .int .i64 (((s_1.1.length : Nat) : Int) - 1)), (125, .agg #[.int .i8 0, S (x_10.fText ++ x_8.fText), .int .i64 0, S [], S [], .slice none 0 0])] a_82 := f_145.keep (ks := [11, 13, 14, 86, 87, 88, 115, 116, 125]) (by kernel_rfl)
                  obtain ⟨x_11, hx_12, hF_48⟩ := bind_some' hF_47
                  obtain ⟨b_6, cap_14, hv_6, hcap_4⟩ := p_18.rowAddr 1 rfl (getI_pos hx_12)
                  have f_147 := Frm.set f_146 115 (v := .slice A_7 s_1.1.length cap_7) (v' := .slice (some ⟨b_6, 0, none⟩) s_1.1.length cap_14) (by kernel_rfl) (hv_6)
                  have f_148 : Frm 142 [(11, .slice A_3 x_4.1.length cap_3), (13, .int .i64 x_4.2.2), (14, .slice A_7 s_1.1.length cap_7), (86, .slice A_2 x_3.1.length cap_2), (87, .int .i64 ((x_3.1.length : Nat) : Int)), (88, .int .i64 s_1.2), (115, .slice (some ⟨b_6, 0, none⟩) s_1.1.length cap_14), (116, .int .i64 (((s_1.1.length : Nat) : Int) - 1)), (125, .agg #[.int .i8 0, S (x_10.fText ++ x_8.fText), .int .i64 0, S [], S [], .slice none 0 0])] a_82 := f_147.keep (ks := [11, 13, 14, 86, 87, 88, 115, 116, 125]) (by kernel_rfl)
                  refine ST_eq (v := .pointer (some ((⟨b_6, 0, none⟩ : Addr).add ((((s_1.1.length : Nat) : Int) - 1).toNat * 6)))) f_148 (by kernel_rfl) (by kernel_rfl) rfl rfl (X_indexAddr rfl (ad := ⟨b_6, 0, none⟩) (len := s_1.1.length) (cap := cap_14) (k := .i64) (i := ((s_1.1.length : Nat) : Int) - 1) (by kernel_rfl) (by kernel_rfl) (e := 29) (by kernel_rfl) (sz := 6) (by kernel_rfl) (getI_nn hx_12) (getI_lt hx_12)) (fun a_83 f_149 => ?_)
                  have f_150 := Frm.set f_149 115 (v := .slice (some ⟨b_6, 0, none⟩) s_1.1.length cap_14) (v' := .slice A_7 s_1.1.length cap_7) (by kernel_rfl) (hv_6.symm)
                  have f_151 : Frm 142 [(11, .slice A_3 x_4.1.length cap_3), (13, .int .i64 x_4.2.2), (14, .slice A_7 s_1.1.length cap_7), (86, .slice A_2 x_3.1.length cap_2), (87, .int .i64 ((x_3.1.length : Nat) : Int)), (88, .int .i64 s_1.2), (115, .slice A_7 s_1.1.length cap_7), (116, .int .i64 (((s_1.1.length : Nat) : Int) - 1)), (125, .agg #[.int .i8 0, S (x_10.fText ++ x_8.fText), .int .i64 0, S [], S [], .slice none 0 0]), (126, .pointer (some ((⟨b_6, 0, none⟩ : Addr).add ((((s_1.1.length : Nat) : Int) - 1).toNat * 6))))] a_83 := f_150.keep (ks := [11, 13, 14, 86, 87, 88, 115, 116, 125, 126]) (by kernel_rfl)
                  refine ST_end rfl ?_
                  have p_19 : Hp w0 M_8 ((Ent.row 29 6 (.slice A_7 s_1.1.length cap_7) s_1.1.length cs_5) :: (Ent.obj b_3 (.cells #[.int .i8 x_8.fKind, S x_8.fText, .int .i64 x_8.fNum, S x_8.fName, S x_8.fAttr, .slice A_8 x_8.fL.length cap_9] 29 (0, 0))) :: (Ent.row 29 6 (.slice A_3 x_4.1.length cap_3) x_4.1.length cs_3) :: (Ent.row 29 6 (.slice A_2 x_3.1.length cap_2) x_3.1.length cs_2) :: H) w_15 := p_18.pull 1 rfl rfl
                  refine W_rowstoreN (it := ((s_1.1.length : Nat) : Int) - 1) (d := s_1.1) (f := emb_T_api_Expr) (xv := (⟨(0 : Int), x_10.fText ++ x_8.fText, (0 : Int), ([] : List UInt8), ([] : List UInt8), ([] : List T_api_Expr)⟩ : T_api_Expr)) (vs := [.int .i8 0, S (x_10.fText ++ x_8.fText), .int .i64 0, S [], S [], .slice none 0 0]) f_151 p_19 hv_6 (by kernel_rfl) (by kernel_rfl) rfl rfl (by kernel_rfl) (by kernel_rfl) (by exact T_api_Expr.shut Sli.nil) (by kernel_rfl) szd_T_api_Expr hx_12 (RepSeq.mono hM_8 _ _ hr_6) (fun cs_6 w_16 p_20 hr_10 a_84 f_152 => ?_)
                  have p_21 : Hp w0 M_8 ((Ent.row 29 6 (.slice A_7 (s_1.1.set (((s_1.1.length : Nat) : Int) - 1).toNat (⟨(0 : Int), x_10.fText ++ x_8.fText, (0 : Int), ([] : List UInt8), ([] : List UInt8), ([] : List T_api_Expr)⟩ : T_api_Expr)).length cap_7) (s_1.1.set (((s_1.1.length : Nat) : Int) - 1).toNat (⟨(0 : Int), x_10.fText ++ x_8.fText, (0 : Int), ([] : List UInt8), ([] : List UInt8), ([] : List T_api_Expr)⟩ : T_api_Expr)).length cs_6) :: (Ent.obj b_3 (.cells #[.int .i8 x_8.fKind, S x_8.fText, .int .i64 x_8.fNum, S x_8.fName, S x_8.fAttr, .slice A_8 x_8.fL.length cap_9] 29 (0, 0))) :: (Ent.row 29 6 (.slice A_3 x_4.1.length cap_3) x_4.1.length cs_3) :: (Ent.row 29 6 (.slice A_2 x_3.1.length cap_2) x_3.1.length cs_2) :: H) w_16 := p_20.rowVal (by rw [List.length_set])
                  have f_153 := Frm.set f_152 14 (v := .slice A_7 s_1.1.length cap_7) (v' := .slice A_7 (s_1.1.set (((s_1.1.length : Nat) : Int) - 1).toNat (⟨(0 : Int), x_10.fText ++ x_8.fText, (0 : Int), ([] : List UInt8), ([] : List UInt8), ([] : List T_api_Expr)⟩ : T_api_Expr)).length cap_7) (by kernel_rfl) (by rw [List.length_set])
                  have f_154 := Frm.set f_153 115 (v := .slice A_7 s_1.1.length cap_7) (v' := .slice A_7 (s_1.1.set (((s_1.1.length : Nat) : Int) - 1).toNat (⟨(0 : Int), x_10.fText ++ x_8.fText, (0 : Int), ([] : List UInt8), ([] : List UInt8), ([] : List T_api_Expr)⟩ : T_api_Expr)).length cap_7) (by kernel_rfl) (by rw [List.length_set])
                  have f_155 : Frm 142 [(11, .slice A_3 x_4.1.length cap_3), (13, .int .i64 x_4.2.2), (14, .slice A_7 (s_1.1.set (((s_1.1.length : Nat) : Int) - 1).toNat (⟨(0 : Int), x_10.fText ++ x_8.fText, (0 : Int), ([] : List UInt8), ([] : List UInt8), ([] : List T_api_Expr)⟩ : T_api_Expr)).length cap_7), (86, .slice A_2 x_3.1.length cap_2), (87, .int .i64 ((x_3.1.length : Nat) : Int)), (88, .int .i64 s_1.2), (115, .slice A_7 (s_1.1.set (((s_1.1.length : Nat) : Int) - 1).toNat (⟨(0 : Int), x_10.fText ++ x_8.fText, (0 : Int), ([] : List UInt8), ([] : List UInt8), ([] : List T_api_Expr)⟩ : T_api_Expr)).length cap_7), (116, .int .i64 (((s_1.1.length : Nat) : Int) - 1)), (125, .agg #[.int .i8 0, S (x_10.fText ++ x_8.fText), .int .i64 0, S [], S [], .slice none 0 0]), (126, .pointer (some ((⟨b_6, 0, none⟩ : Addr).add ((((s_1.1.length : Nat) : Int) - 1).toNat * 6))))] a_84 := f_154.keep (ks := [11, 13, 14, 86, 87, 88, 115, 116, 125, 126]) (by kernel_rfl)
                  refine W_end rfl ?_
                  refine T_n ?_
                  refine wp_exit ?_
                  refine T_x ?_
                  refine B_x ?_
                  refine T_n ?_
                  refine R_reg ?_
                  obtain ⟨g_7, hF_49⟩ := need_some hF_48
                  refine W_run (L' := [(11, .slice A_3 x_4.1.length cap_3), (13, .int .i64 x_4.2.2), (14, .slice A_7 (s_1.1.set (((s_1.1.length : Nat) : Int) - 1).toNat (⟨(0 : Int), x_10.fText ++ x_8.fText, (0 : Int), ([] : List UInt8), ([] : List UInt8), ([] : List T_api_Expr)⟩ : T_api_Expr)).length cap_7), (86, .slice A_2 x_3.1.length cap_2), (87, .int .i64 ((x_3.1.length : Nat) : Int)), (88, .int .i64 s_1.2), (115, .slice A_7 (s_1.1.set (((s_1.1.length : Nat) : Int) - 1).toNat (⟨(0 : Int), x_10.fText ++ x_8.fText, (0 : Int), ([] : List UInt8), ([] : List UInt8), ([] : List T_api_Expr)⟩ : T_api_Expr)).length cap_7), (116, .int .i64 (((s_1.1.length : Nat) : Int) - 1)), (125, .agg #[.int .i8 0, S (x_10.fText ++ x_8.fText), .int .i64 0, S [], S [], .slice none 0 0]), (126, .pointer (some ((⟨b_6, 0, none⟩ : Addr).add ((((s_1.1.length : Nat) : Int) - 1).toNat * 6)))), (131, .int .i64 (IntKind.wrap .i64 (s_1.2 + 1)))]) (w' := w_16) f_155 1 [11, 13, 14, 86, 87, 88, 115, 116, 125, 126, 131] (by kernel_rfl) (fun a_85 f_156 => ?_)
                  have f_157 := Frm.set f_156 131 (v := .int .i64 (IntKind.wrap .i64 (s_1.2 + 1))) (v' := .int .i64 (s_1.2 + 1)) (by kernel_rfl) (congrArg (Value.int .i64) (inR_wrap g_7))
                  have f_158 : Frm 142 [(11, .slice A_3 x_4.1.length cap_3), (13, .int .i64 x_4.2.2), (14, .slice A_7 (s_1.1.set (((s_1.1.length : Nat) : Int) - 1).toNat (⟨(0 : Int), x_10.fText ++ x_8.fText, (0 : Int), ([] : List UInt8), ([] : List UInt8), ([] : List T_api_Expr)⟩ : T_api_Expr)).length cap_7), (86, .slice A_2 x_3.1.length cap_2), (87, .int .i64 ((x_3.1.length : Nat) : Int)), (88, .int .i64 s_1.2), (115, .slice A_7 (s_1.1.set (((s_1.1.length : Nat) : Int) - 1).toNat (⟨(0 : Int), x_10.fText ++ x_8.fText, (0 : Int), ([] : List UInt8), ([] : List UInt8), ([] : List T_api_Expr)⟩ : T_api_Expr)).length cap_7), (116, .int .i64 (((s_1.1.length : Nat) : Int) - 1)), (125, .agg #[.int .i8 0, S (x_10.fText ++ x_8.fText), .int .i64 0, S [], S [], .slice none 0 0]), (126, .pointer (some ((⟨b_6, 0, none⟩ : Addr).add ((((s_1.1.length : Nat) : Int) - 1).toNat * 6)))), (131, .int .i64 (s_1.2 + 1))] a_85 := f_157.keep (ks := [11, 13, 14, 86, 87, 88, 115, 116, 125, 126, 131]) (by kernel_rfl)
                  refine W_run (L' := [(11, .slice A_3 x_4.1.length cap_3), (13, .int .i64 x_4.2.2), (14, .slice A_7 (s_1.1.set (((s_1.1.length : Nat) : Int) - 1).toNat (⟨(0 : Int), x_10.fText ++ x_8.fText, (0 : Int), ([] : List UInt8), ([] : List UInt8), ([] : List T_api_Expr)⟩ : T_api_Expr)).length cap_7), (86, .slice A_2 x_3.1.length cap_2), (87, .int .i64 ((x_3.1.length : Nat) : Int)), (88, .int .i64 (s_1.2 + 1))]) (w' := w_16) f_158 1 [11, 13, 14, 86, 87, 88] (by kernel_rfl) (fun a_86 f_159 => ?_)
                  refine W_end rfl ?_
                  have p_28 : Hp w0 M_8 ((Ent.row 29 6 (.slice A_2 x_3.1.length cap_2) x_3.1.length cs_2) :: (Ent.row 29 6 (.slice A_7 (s_1.1.set (((s_1.1.length : Nat) : Int) - 1).toNat (⟨(0 : Int), x_10.fText ++ x_8.fText, (0 : Int), ([] : List UInt8), ([] : List UInt8), ([] : List T_api_Expr)⟩ : T_api_Expr)).length cap_7) (s_1.1.set (((s_1.1.length : Nat) : Int) - 1).toNat (⟨(0 : Int), x_10.fText ++ x_8.fText, (0 : Int), ([] : List UInt8), ([] : List UInt8), ([] : List T_api_Expr)⟩ : T_api_Expr)).length cs_6) :: (Ent.obj b_3 (.cells #[.int .i8 x_8.fKind, S x_8.fText, .int .i64 x_8.fNum, S x_8.fName, S x_8.fAttr, .slice A_8 x_8.fL.length cap_9] 29 (0, 0))) :: (Ent.row 29 6 (.slice A_3 x_4.1.length cap_3) x_4.1.length cs_3) :: H) w_16 := p_21.pull 3 rfl rfl
                  have p_29 : Hp w0 M_8 ((Ent.row 29 6 (.slice A_3 x_4.1.length cap_3) x_4.1.length cs_3) :: (Ent.row 29 6 (.slice A_2 x_3.1.length cap_2) x_3.1.length cs_2) :: (Ent.row 29 6 (.slice A_7 (s_1.1.set (((s_1.1.length : Nat) : Int) - 1).toNat (⟨(0 : Int), x_10.fText ++ x_8.fText, (0 : Int), ([] : List UInt8), ([] : List UInt8), ([] : List T_api_Expr)⟩ : T_api_Expr)).length cap_7) (s_1.1.set (((s_1.1.length : Nat) : Int) - 1).toNat (⟨(0 : Int), x_10.fText ++ x_8.fText, (0 : Int), ([] : List UInt8), ([] : List UInt8), ([] : List T_api_Expr)⟩ : T_api_Expr)).length cs_6) :: (Ent.obj b_3 (.cells #[.int .i8 x_8.fKind, S x_8.fText, .int .i64 x_8.fNum, S x_8.fName, S x_8.fAttr, .slice A_8 x_8.fL.length cap_9] 29 (0, 0))) :: H) w_16 := p_28.pull 3 rfl rfl
                  have p_30 : Hp w0 M_8 ((Ent.row 29 6 (.slice A_7 (s_1.1.set (((s_1.1.length : Nat) : Int) - 1).toNat (⟨(0 : Int), x_10.fText ++ x_8.fText, (0 : Int), ([] : List UInt8), ([] : List UInt8), ([] : List T_api_Expr)⟩ : T_api_Expr)).length cap_7) (s_1.1.set (((s_1.1.length : Nat) : Int) - 1).toNat (⟨(0 : Int), x_10.fText ++ x_8.fText, (0 : Int), ([] : List UInt8), ([] : List UInt8), ([] : List T_api_Expr)⟩ : T_api_Expr)).length cs_6) :: (Ent.row 29 6 (.slice A_3 x_4.1.length cap_3) x_4.1.length cs_3) :: (Ent.row 29 6 (.slice A_2 x_3.1.length cap_2) x_3.1.length cs_2) :: (Ent.obj b_3 (.cells #[.int .i8 x_8.fKind, S x_8.fText, .int .i64 x_8.fNum, S x_8.fName, S x_8.fAttr, .slice A_8 x_8.fL.length cap_9] 29 (0, 0))) :: H) w_16 := p_29.pull 2 rfl rfl
                  have p_31 : Hp w0 M_8 ((Ent.obj b_3 (.cells #[.int .i8 x_8.fKind, S x_8.fText, .int .i64 x_8.fNum, S x_8.fName, S x_8.fAttr, .slice A_8 x_8.fL.length cap_9] 29 (0, 0))) :: (Ent.row 29 6 (.slice A_7 (s_1.1.set (((s_1.1.length : Nat) : Int) - 1).toNat (⟨(0 : Int), x_10.fText ++ x_8.fText, (0 : Int), ([] : List UInt8), ([] : List UInt8), ([] : List T_api_Expr)⟩ : T_api_Expr)).length cap_7) (s_1.1.set (((s_1.1.length : Nat) : Int) - 1).toNat (⟨(0 : Int), x_10.fText ++ x_8.fText, (0 : Int), ([] : List UInt8), ([] : List UInt8), ([] : List T_api_Expr)⟩ : T_api_Expr)).length cs_6) :: (Ent.row 29 6 (.slice A_3 x_4.1.length cap_3) x_4.1.length cs_3) :: (Ent.row 29 6 (.slice A_2 x_3.1.length cap_2) x_3.1.length cs_2) :: H) w_16 := p_30.pull 3 rfl rfl
                  refine T_n ?_
                  obtain rfl := Option.some.inj hF_49
                  exact ⟨⟨m_2, (s_1.1.set (((s_1.1.length : Nat) : Int) - 1).toNat (⟨(0 : Int), x_10.fText ++ x_8.fText, (0 : Int), ([] : List UInt8), ([] : List UInt8), ([] : List T_api_Expr)⟩ : T_api_Expr), s_1.2 + 1), A_7, cap_7, cs_6⟩, Nat.lt_succ_self _, M_8, (hM_7.trans hM_8), ⟨hn_1, hr_10⟩, f_159.keep (ks := [11, 13, 14, 86, 87, 88]) (by kernel_rfl), (p_31.dropN 1)⟩
                · have hF_50 := cnd_f h_17 hF_37
                  refine wp_skip ?_
                  refine T_n ?_
                  refine R_reg ?_
                  refine W_run (L' := [(11, .slice A_3 x_4.1.length cap_3), (13, .int .i64 x_4.2.2), (16, .pointer (some (⟨b_3, 0, none⟩))), (86, .slice A_2 x_3.1.length cap_2), (87, .int .i64 ((x_3.1.length : Nat) : Int)), (88, .int .i64 s_1.2), (127, .slice A_7 s_1.1.length cap_7)]) (w' := w_14) f_127 1 [11, 13, 16, 86, 87, 88, 127] (by kernel_rfl) (fun a_87 f_160 => ?_)
                  refine W_eq (v := .agg #[.int .i8 x_8.fKind, S x_8.fText, .int .i64 x_8.fNum, S x_8.fName, S x_8.fAttr, .slice A_8 x_8.fL.length cap_9]) f_160 (by kernel_rfl) (by kernel_rfl) rfl rfl (X_loadN (cs := [.int .i8 x_8.fKind, S x_8.fText, .int .i64 x_8.fNum, S x_8.fName, S x_8.fAttr, .slice A_8 x_8.fL.length cap_9]) rfl (ad := ⟨b_3, 0, none⟩) (by kernel_rfl) (by kernel_rfl) (own_cells (p_17.ownCell 0 rfl) 0 rfl)) (fun a_88 f_161 => ?_)
                  refine W_alloc f_161 p_17 1 [11, 13, 16, 86, 87, 88, 127, 128, 129] (.cells #[.int .i8 x_8.fKind, S x_8.fText, .int .i64 x_8.fNum, S x_8.fName, S x_8.fAttr, .slice A_8 x_8.fL.length cap_9] 29 (0, 0)) (fun b_7 => [(11, .slice A_3 x_4.1.length cap_3), (13, .int .i64 x_4.2.2), (16, .pointer (some (⟨b_3, 0, none⟩))), (86, .slice A_2 x_3.1.length cap_2), (87, .int .i64 ((x_3.1.length : Nat) : Int)), (88, .int .i64 s_1.2), (127, .slice A_7 s_1.1.length cap_7), (128, .agg #[.int .i8 x_8.fKind, S x_8.fText, .int .i64 x_8.fNum, S x_8.fName, S x_8.fAttr, .slice A_8 x_8.fL.length cap_9]), (129, .slice (some ⟨b_7, 0, none⟩) 1 1)]) (fun _ => by kernel_rfl) (fun b_7 w_17 p_22 a_89 f_162 => ?_)
                  replace f_162 : Frm 142 [(11, .slice A_3 x_4.1.length cap_3), (13, .int .i64 x_4.2.2), (16, .pointer (some (⟨b_3, 0, none⟩))), (86, .slice A_2 x_3.1.length cap_2), (87, .int .i64 ((x_3.1.length : Nat) : Int)), (88, .int .i64 s_1.2), (127, .slice A_7 s_1.1.length cap_7), (128, .agg #[.int .i8 x_8.fKind, S x_8.fText, .int .i64 x_8.fNum, S x_8.fName, S x_8.fAttr, .slice A_8 x_8.fL.length cap_9]), (129, .slice (some ⟨b_7, 0, none⟩) 1 1)] a_89 := f_162
                  have p_23 : Hp w0 M_8 ((Ent.row 29 6 (.slice A_7 s_1.1.length cap_7) s_1.1.length cs_5) :: (Ent.obj b_7 (.cells #[.int .i8 x_8.fKind, S x_8.fText, .int .i64 x_8.fNum, S x_8.fName, S x_8.fAttr, .slice A_8 x_8.fL.length cap_9] 29 (0, 0))) :: (Ent.obj b_3 (.cells #[.int .i8 x_8.fKind, S x_8.fText, .int .i64 x_8.fNum, S x_8.fName, S x_8.fAttr, .slice A_8 x_8.fL.length cap_9] 29 (0, 0))) :: (Ent.row 29 6 (.slice A_3 x_4.1.length cap_3) x_4.1.length cs_3) :: (Ent.row 29 6 (.slice A_2 x_3.1.length cap_2) x_3.1.length cs_2) :: H) w_17 := p_22.pull 2 rfl rfl
                  obtain ⟨g_8, hF_51⟩ := need_some hF_50
                  refine W_appendL (z := .agg #[.int .i8 0, S [], .int .i64 0, S [], S [], .slice none 0 0]) (f := emb_T_api_Expr) (xs := s_1.1) (ys := [(⟨x_8.fKind, x_8.fText, x_8.fNum, x_8.fName, x_8.fAttr, x_8.fL⟩ : T_api_Expr)]) (news := [.int .i8 x_8.fKind, S x_8.fText, .int .i64 x_8.fNum, S x_8.fName, S x_8.fAttr, .slice A_8 x_8.fL.length cap_9]) (ad := ⟨b_7, 0, none⟩) (m := 1) (c := 1) f_162 p_23 (RepSeq.mono hM_8 _ _ hr_6) (by exact ⟨_, _, rfl, T_api_Expr.shut (h_12.mono hM_8), rfl⟩) (by kernel_rfl) (by kernel_rfl) rfl rfl rfl (by kernel_rfl) (by kernel_rfl) (by kernel_rfl) (by kernel_rfl) rfl (own_cells (p_23.ownCell 1 rfl) 0 rfl) (by exact g_8) (by have hg_ := g_8; first | omega | (simp only [List.length_cons, List.length_nil] at *; omega)) (fun A_11 cap_15 cs_7 w_18 p_24 hr_11 a_90 f_163 => ?_)
                  have p_25 : Hp w0 M_8 ((Ent.obj b_7 (.cells #[.int .i8 x_8.fKind, S x_8.fText, .int .i64 x_8.fNum, S x_8.fName, S x_8.fAttr, .slice A_8 x_8.fL.length cap_9] 29 (0, 0))) :: (Ent.row 29 6 (.slice A_11 (s_1.1 ++ [(⟨x_8.fKind, x_8.fText, x_8.fNum, x_8.fName, x_8.fAttr, x_8.fL⟩ : T_api_Expr)]).length cap_15) (s_1.1 ++ [(⟨x_8.fKind, x_8.fText, x_8.fNum, x_8.fName, x_8.fAttr, x_8.fL⟩ : T_api_Expr)]).length cs_7) :: (Ent.obj b_3 (.cells #[.int .i8 x_8.fKind, S x_8.fText, .int .i64 x_8.fNum, S x_8.fName, S x_8.fAttr, .slice A_8 x_8.fL.length cap_9] 29 (0, 0))) :: (Ent.row 29 6 (.slice A_3 x_4.1.length cap_3) x_4.1.length cs_3) :: (Ent.row 29 6 (.slice A_2 x_3.1.length cap_2) x_3.1.length cs_2) :: H) w_18 := p_24.pull 1 rfl rfl
                  have p_26 := p_25.drop
                  refine W_run (L' := [(11, .slice A_3 x_4.1.length cap_3), (13, .int .i64 x_4.2.2), (14, .slice A_11 (s_1.1 ++ [(⟨x_8.fKind, x_8.fText, x_8.fNum, x_8.fName, x_8.fAttr, x_8.fL⟩ : T_api_Expr)]).length cap_15), (86, .slice A_2 x_3.1.length cap_2), (87, .int .i64 ((x_3.1.length : Nat) : Int)), (88, .int .i64 s_1.2)]) (w' := w_18) f_163 1 [11, 13, 14, 86, 87, 88] (by kernel_rfl) (fun a_91 f_164 => ?_)
                  refine W_end rfl ?_
                  refine B_n ?_
                  refine T_n ?_
                  refine R_reg ?_
                  obtain ⟨g_9, hF_52⟩ := need_some hF_51
                  refine W_run (L' := [(11, .slice A_3 x_4.1.length cap_3), (13, .int .i64 x_4.2.2), (14, .slice A_11 (s_1.1 ++ [(⟨x_8.fKind, x_8.fText, x_8.fNum, x_8.fName, x_8.fAttr, x_8.fL⟩ : T_api_Expr)]).length cap_15), (86, .slice A_2 x_3.1.length cap_2), (87, .int .i64 ((x_3.1.length : Nat) : Int)), (88, .int .i64 s_1.2), (131, .int .i64 (IntKind.wrap .i64 (s_1.2 + 1)))]) (w' := w_18) f_164 1 [11, 13, 14, 86, 87, 88, 131] (by kernel_rfl) (fun a_92 f_165 => ?_)
                  have f_166 := Frm.set f_165 131 (v := .int .i64 (IntKind.wrap .i64 (s_1.2 + 1))) (v' := .int .i64 (s_1.2 + 1)) (by kernel_rfl) (congrArg (Value.int .i64) (inR_wrap g_9))
                  have f_167 : Frm 142 [(11, .slice A_3 x_4.1.length cap_3), (13, .int .i64 x_4.2.2), (14, .slice A_11 (s_1.1 ++ [(⟨x_8.fKind, x_8.fText, x_8.fNum, x_8.fName, x_8.fAttr, x_8.fL⟩ : T_api_Expr)]).length cap_15), (86, .slice A_2 x_3.1.length cap_2), (87, .int .i64 ((x_3.1.length : Nat) : Int)), (88, .int .i64 s_1.2), (131, .int .i64 (s_1.2 + 1))] a_92 := f_166.keep (ks := [11, 13, 14, 86, 87, 88, 131]) (by kernel_rfl)
                  refine W_run (L' := [(11, .slice A_3 x_4.1.length cap_3), (13, .int .i64 x_4.2.2), (14, .slice A_11 (s_1.1 ++ [(⟨x_8.fKind, x_8.fText, x_8.fNum, x_8.fName, x_8.fAttr, x_8.fL⟩ : T_api_Expr)]).length cap_15), (86, .slice A_2 x_3.1.length cap_2), (87, .int .i64 ((x_3.1.length : Nat) : Int)), (88, .int .i64 (s_1.2 + 1))]) (w' := w_18) f_167 1 [11, 13, 14, 86, 87, 88] (by kernel_rfl) (fun a_93 f_168 => ?_)
                  refine W_end rfl ?_
                  have p_32 : Hp w0 M_8 ((Ent.row 29 6 (.slice A_2 x_3.1.length cap_2) x_3.1.length cs_2) :: (Ent.row 29 6 (.slice A_11 (s_1.1 ++ [(⟨x_8.fKind, x_8.fText, x_8.fNum, x_8.fName, x_8.fAttr, x_8.fL⟩ : T_api_Expr)]).length cap_15) (s_1.1 ++ [(⟨x_8.fKind, x_8.fText, x_8.fNum, x_8.fName, x_8.fAttr, x_8.fL⟩ : T_api_Expr)]).length cs_7) :: (Ent.obj b_3 (.cells #[.int .i8 x_8.fKind, S x_8.fText, .int .i64 x_8.fNum, S x_8.fName, S x_8.fAttr, .slice A_8 x_8.fL.length cap_9] 29 (0, 0))) :: (Ent.row 29 6 (.slice A_3 x_4.1.length cap_3) x_4.1.length cs_3) :: H) w_18 := p_26.pull 3 rfl rfl
                  have p_33 : Hp w0 M_8 ((Ent.row 29 6 (.slice A_3 x_4.1.length cap_3) x_4.1.length cs_3) :: (Ent.row 29 6 (.slice A_2 x_3.1.length cap_2) x_3.1.length cs_2) :: (Ent.row 29 6 (.slice A_11 (s_1.1 ++ [(⟨x_8.fKind, x_8.fText, x_8.fNum, x_8.fName, x_8.fAttr, x_8.fL⟩ : T_api_Expr)]).length cap_15) (s_1.1 ++ [(⟨x_8.fKind, x_8.fText, x_8.fNum, x_8.fName, x_8.fAttr, x_8.fL⟩ : T_api_Expr)]).length cs_7) :: (Ent.obj b_3 (.cells #[.int .i8 x_8.fKind, S x_8.fText, .int .i64 x_8.fNum, S x_8.fName, S x_8.fAttr, .slice A_8 x_8.fL.length cap_9] 29 (0, 0))) :: H) w_18 := p_32.pull 3 rfl rfl
                  have p_34 : Hp w0 M_8 ((Ent.row 29 6 (.slice A_11 (s_1.1 ++ [(⟨x_8.fKind, x_8.fText, x_8.fNum, x_8.fName, x_8.fAttr, x_8.fL⟩ : T_api_Expr)]).length cap_15) (s_1.1 ++ [(⟨x_8.fKind, x_8.fText, x_8.fNum, x_8.fName, x_8.fAttr, x_8.fL⟩ : T_api_Expr)]).length cs_7) :: (Ent.row 29 6 (.slice A_3 x_4.1.length cap_3) x_4.1.length cs_3) :: (Ent.row 29 6 (.slice A_2 x_3.1.length cap_2) x_3.1.length cs_2) :: (Ent.obj b_3 (.cells #[.int .i8 x_8.fKind, S x_8.fText, .int .i64 x_8.fNum, S x_8.fName, S x_8.fAttr, .slice A_8 x_8.fL.length cap_9] 29 (0, 0))) :: H) w_18 := p_33.pull 2 rfl rfl
                  have p_35 : Hp w0 M_8 ((Ent.obj b_3 (.cells #[.int .i8 x_8.fKind, S x_8.fText, .int .i64 x_8.fNum, S x_8.fName, S x_8.fAttr, .slice A_8 x_8.fL.length cap_9] 29 (0, 0))) :: (Ent.row 29 6 (.slice A_11 (s_1.1 ++ [(⟨x_8.fKind, x_8.fText, x_8.fNum, x_8.fName, x_8.fAttr, x_8.fL⟩ : T_api_Expr)]).length cap_15) (s_1.1 ++ [(⟨x_8.fKind, x_8.fText, x_8.fNum, x_8.fName, x_8.fAttr, x_8.fL⟩ : T_api_Expr)]).length cs_7) :: (Ent.row 29 6 (.slice A_3 x_4.1.length cap_3) x_4.1.length cs_3) :: (Ent.row 29 6 (.slice A_2 x_3.1.length cap_2) x_3.1.length cs_2) :: H) w_18 := p_34.pull 3 rfl rfl
                  refine T_n ?_
                  obtain rfl := Option.some.inj hF_52
                  exact ⟨⟨m_2, (s_1.1 ++ [(⟨x_8.fKind, x_8.fText, x_8.fNum, x_8.fName, x_8.fAttr, x_8.fL⟩ : T_api_Expr)], s_1.2 + 1), A_11, cap_15, cs_7⟩, Nat.lt_succ_self _, M_8, (hM_7.trans hM_8), ⟨hn_1, hr_11⟩, f_168.keep (ks := [11, 13, 14, 86, 87, 88]) (by kernel_rfl), (p_35.dropN 1)⟩
            · have k_28 : ¬ (s_1.2 < ((x_3.1.length : Nat) : Int)) := iff_f decide_eq_true_iff h_11
              have hF_53 := cnd_f h_11 hs_1
              refine wp_exit ?_
              refine T_x ?_
              refine T_x ?_
              obtain rfl := Option.some.inj hF_53
              exact ⟨rfl, s_1.1, (Option.some.inj hn_1).symm, M_7, hM_7, A_7, cap_7, cs_5, hr_6, f_82.keep (ks := [11, 13, 14]) (by kernel_rfl), p_14⟩
          · rintro _ a_95 w_20 ⟨rfl, y_4, hq_, M_9, hM_9, A_12, cap_16, cs_8, hr_12, f_169, p_27⟩
            subst b_1
            refine B_x ?_
            refine T_n ?_
            refine R_seq ?_
            refine R_reg ?_
            refine W_run (L' := [(11, .slice A_3 x_4.1.length cap_3), (14, .slice A_12 y_4.length cap_16), (134, .bool (decide (x_4.2.2 = 0)))]) (w' := w_20) f_169 3 [11, 14, 134] (by kernel_rfl) (fun a_96 f_170 => ?_)
            rcases Bool.eq_false_or_eq_true (decide (x_4.2.2 = 0)) with h_19 | h_19
            · have k_29 : x_4.2.2 = 0 := decide_eq_true_iff.1 h_19
              have hF_54 := cnd_t h_19 hF_33
              have f_171 := Frm.set f_170 134 (v := .bool (decide (x_4.2.2 = 0))) (v' := .bool true) (by kernel_rfl) (congrArg Value.bool h_19)
              have f_172 : Frm 142 [(11, .slice A_3 x_4.1.length cap_3), (14, .slice A_12 y_4.length cap_16), (134, .bool true)] a_96 := f_171.keep (ks := [11, 14, 134]) (by kernel_rfl)
              refine W_run (L' := [(134, .bool true), (135, .slice A_3 x_4.1.length cap_3), (136, .slice A_12 y_4.length cap_16)]) (w' := w_20) f_172 2 [134, 135, 136] (by kernel_rfl) (fun a_97 f_173 => ?_)
              have p_36 : Hp w0 M_9 ((Ent.row 29 6 (.slice A_3 x_4.1.length cap_3) x_4.1.length cs_3) :: (Ent.row 29 6 (.slice A_12 y_4.length cap_16) y_4.length cs_8) :: (Ent.row 29 6 (.slice A_2 x_3.1.length cap_2) x_3.1.length cs_2) :: H) w_20 := p_27.pull 1 rfl rfl
              obtain ⟨M_10, A_13, cap_17, hM_10, hv_7, p_37, h_20, hb_1⟩ := p_36.lend (f := emb_T_api_Expr) (xs := x_4.1) szd_T_api_Expr (RepSeq.mono (hM_6.trans hM_9) _ _ hr_3)
              have f_174 := Frm.set f_173 135 (v := .slice A_3 x_4.1.length cap_3) (v' := .slice A_13 x_4.1.length cap_17) (by kernel_rfl) (hv_7)
              have f_175 : Frm 142 [(134, .bool true), (135, .slice A_13 x_4.1.length cap_17), (136, .slice A_12 y_4.length cap_16)] a_97 := f_174.keep (ks := [134, 135, 136]) (by kernel_rfl)
              obtain ⟨M_11, A_14, cap_18, hM_11, hv_8, p_38, h_21, hb_2⟩ := p_37.lend (f := emb_T_api_Expr) (xs := y_4) szd_T_api_Expr (RepSeq.mono hM_10 _ _ hr_12)
              have f_176 := Frm.set f_175 136 (v := .slice A_12 y_4.length cap_16) (v' := .slice A_14 y_4.length cap_18) (by kernel_rfl) (hv_8)
              have f_177 : Frm 142 [(134, .bool true), (135, .slice A_13 x_4.1.length cap_17), (136, .slice A_14 y_4.length cap_18)] a_97 := f_176.keep (ks := [134, 135, 136]) (by kernel_rfl)
              obtain ⟨x_12, hx_13, hF_55⟩ := bind_some' hF_54
              refine W_okv (v := .bool x_12) f_177 p_38 (by kernel_rfl) (by kernel_rfl) rfl rfl (fun _ => by kernel_rfl) (ref12_SameAll_ok n _ A_13 cap_17 x_4.1 (h_20.mono hM_11) A_14 cap_18 y_4 h_21 x_12 hx_13) (fun w_21 p_39 a_98 f_178 => ?_)
              obtain ⟨M_12, hM_12, p_40⟩ := hb_2 _ _ _ (Mem.le_refl _) p_39
              have f_179 := Frm.set f_178 136 (v := .slice A_14 y_4.length cap_18) (v' := .slice A_12 y_4.length cap_16) (by kernel_rfl) (hv_8.symm)
              have f_180 : Frm 142 [(134, .bool true), (135, .slice A_13 x_4.1.length cap_17), (136, .slice A_12 y_4.length cap_16), (137, .bool x_12)] a_98 := f_179.keep (ks := [134, 135, 136, 137]) (by kernel_rfl)
              obtain ⟨M_13, hM_13, p_41⟩ := hb_1 _ _ _ hM_12 p_40
              have f_181 := Frm.set f_180 135 (v := .slice A_13 x_4.1.length cap_17) (v' := .slice A_3 x_4.1.length cap_3) (by kernel_rfl) (hv_7.symm)
              have f_182 : Frm 142 [(134, .bool true), (135, .slice A_3 x_4.1.length cap_3), (136, .slice A_12 y_4.length cap_16), (137, .bool x_12)] a_98 := f_181.keep (ks := [134, 135, 136, 137]) (by kernel_rfl)
              refine W_run (L' := [(139, .bool x_12)]) (w' := w_21) f_182 2 [139] (by kernel_rfl) (fun a_99 f_183 => ?_)
              rcases Bool.eq_false_or_eq_true (x_12) with h_22 | h_22
              · have hF_56 := cnd_t h_22 hF_55
                have f_184 := Frm.set f_183 139 (v := .bool x_12) (v' := .bool true) (by kernel_rfl) (congrArg Value.bool h_22)
                have f_185 : Frm 142 [(139, .bool true)] a_99 := f_184.keep (ks := [139]) (by kernel_rfl)
                obtain ⟨x_13, hx_14, hF_57⟩ := bind_some' hF_56
                refine W_okv (v := .bool x_13) f_185 p_41 (by kernel_rfl) (by kernel_rfl) rfl rfl (fun _ => by kernel_rfl) (law12_wakes_ok n _ (GL.mono ((((((hM_1.trans hM_2).trans hM_3).trans hM_4).trans hM_6).trans hM_9).trans hM_13) hG) x_13 hx_14) (fun w_22 p_42 a_100 f_186 => ?_)
                refine W_run (L' := [(4, .bool x_13)]) (w' := w_22) f_186 2 [4] (by kernel_rfl) (fun a_101 f_187 => ?_)
                refine W_end rfl ?_
                refine T_n ?_
                refine wp_ret ?_
                refine E_ret1 f_187 rfl (by kernel_rfl : Vc.look _ 4 = some (.bool x_13)) ?_
                obtain rfl := Option.some.inj hF_57
                exact ⟨_, rfl, M_13, ((((((hM_1.trans hM_2).trans hM_3).trans hM_4).trans hM_6).trans hM_9).trans hM_13), (p_42.dropN 3), rfl⟩
              · have hF_58 := cnd_f h_22 hF_55
                have f_188 := Frm.set f_183 139 (v := .bool x_12) (v' := .bool false) (by kernel_rfl) (congrArg Value.bool h_22)
                have f_189 : Frm 142 [(139, .bool false)] a_99 := f_188.keep (ks := [139]) (by kernel_rfl)
                refine W_run (L' := [(4, .bool false)]) (w' := w_21) f_189 3 [4] (by kernel_rfl) (fun a_102 f_190 => ?_)
                refine W_end rfl ?_
                refine T_n ?_
                refine wp_ret ?_
                refine E_ret1 f_190 rfl (by kernel_rfl : Vc.look _ 4 = some (.bool false)) ?_
                obtain rfl := Option.some.inj hF_58
                exact ⟨_, rfl, M_13, ((((((hM_1.trans hM_2).trans hM_3).trans hM_4).trans hM_6).trans hM_9).trans hM_13), (p_41.dropN 3), rfl⟩
            · have k_32 : ¬ (x_4.2.2 = 0) := iff_f decide_eq_true_iff h_19
              have hF_59 := cnd_f h_19 hF_33
              have f_191 := Frm.set f_170 134 (v := .bool (decide (x_4.2.2 = 0))) (v' := .bool false) (by kernel_rfl) (congrArg Value.bool h_19)
              have f_192 : Frm 142 [(11, .slice A_3 x_4.1.length cap_3), (14, .slice A_12 y_4.length cap_16), (134, .bool false)] a_96 := f_191.keep (ks := [11, 14, 134]) (by kernel_rfl)
              refine W_run (L' := [(4, .bool false)]) (w' := w_20) f_192 8 [4] (by kernel_rfl) (fun a_103 f_193 => ?_)
              refine W_end rfl ?_
              refine T_n ?_
              refine wp_ret ?_
              refine E_ret1 f_193 rfl (by kernel_rfl : Vc.look _ 4 = some (.bool false)) ?_
              obtain rfl := Option.some.inj hF_59
              exact ⟨_, rfl, M_9, (((((hM_1.trans hM_2).trans hM_3).trans hM_4).trans hM_6).trans hM_9), (p_27.dropN 3), rfl⟩
end Go.Proofs.YtdmjgmleilgbpaaDoor
