/-
  Printed by a program: of each function its shallow reading, and the proof that the function gives what the reading gives. No condition.
-/
import Derived.Test.YtdmjgmleilgbpaaDoorQ7
import Derived.Test.YtdmjgmleilgbpaaDoorQ6h
import Derived.Test.YtdmjgmleilgbpaaDoorQ2
import Derived.Test.YtdmjgmleilgbpaaDoorQ2s
set_option linter.unusedVariables false
set_option linter.unusedSimpArgs false
namespace Go.Proofs.YtdmjgmleilgbpaaDoor
open Go Go.Vc Go.RowKit
def law12_SubTells (n : Nat) (d0 : List UInt8) : Option Bool :=
  bif (decide ((5000 : Int) < (d0.length : Int))) then
    ((law12_wakes n).bind fun x_1 =>
    some ((x_1)))
  else
    (sub_Lex n d0).bind fun x_2 =>
    (ref12_Lex n d0).bind fun x_3 =>
    (ref12_SameAll n x_2.1 x_3.1).bind fun x_4 =>
    bif x_4 then
      (bif (decide (x_2.2.1 = x_3.2.1)) then
        (bif (decide (x_2.2.2 = x_3.2.2)) then
          ((sub_Holes n d0).bind fun x_5 =>
          (ref12_Holes n d0).bind fun x_6 =>
          bif (decide (x_5 = x_6)) then
            ((sub_Attr n d0).bind fun x_7 =>
            (ref12_Attr n d0).bind fun x_8 =>
            bif (x_7 == x_8) then
              ((law12_wakes n).bind fun x_9 =>
              some ((x_9)))
            else
              some ((false)))
          else
            some ((false)))
        else
          some ((false)))
      else
        some ((false)))
    else
      some ((false))
theorem law12_SubTells_ok (n : Nat) (M : Mem) (hG : GL M) (d0 : List UInt8) (r : Bool) (hF : law12_SubTells n d0 = some r) : Ok Tryd.prog M 4 [S d0] (fun _ v => v = .bool r) := by
  unfold law12_SubTells at hF
  intro M1 hM0 w0 H w p0
  replace hG := GL.mono hM0 hG
  refine R_enter 55 Tryd.func4 rfl rfl (by simp) (fun a0 f0 => ?_)
  replace f0 : Frm 55 [(0, S d0)] a0 := f0
  refine R_seq ?_
  refine R_reg ?_
  refine W_run (L' := [(0, S d0)]) (w' := w) f0 1 [0] (by kernel_rfl) (fun a_1 f_1 => ?_)
  refine W_end rfl ?_
  refine T_n ?_
  refine R_seq ?_
  refine R_seq ?_
  refine R_reg ?_
  refine W_run (L' := [(0, S d0), (11, .bool (decide ((5000 : Int) < (d0.length : Int))))]) (w' := w) f_1 3 [0, 11] (by kernel_rfl) (fun a_2 f_2 => ?_)
  refine W_end rfl ?_
  refine T_n ?_
  refine R_cond f_2 (b := decide ((5000 : Int) < (d0.length : Int))) (by kernel_rfl) (by kernel_rfl) (fun h_1 => ?_) (fun h_1 => ?_)
  · have k_1 : (5000 : Int) < (d0.length : Int) := decide_eq_true_iff.1 h_1
    have hF_1 := cnd_t h_1 hF
    refine R_seq ?_
    refine R_reg ?_
    obtain ⟨x_1, hx_1, hF_2⟩ := bind_some' hF_1
    refine W_okv (v := .bool x_1) f_2 p0 (by kernel_rfl) (by kernel_rfl) rfl rfl (fun _ => by kernel_rfl) (law12_wakes_ok n _ hG x_1 hx_1) (fun w_1 p_1 a_3 f_3 => ?_)
    refine W_run (L' := [(2, .bool x_1)]) (w' := w_1) f_3 1 [2] (by kernel_rfl) (fun a_4 f_4 => ?_)
    refine W_end rfl ?_
    refine T_n ?_
    refine wp_ret ?_
    refine T_r ?_
    refine E_ret1 f_4 rfl (by kernel_rfl : Vc.look _ 2 = some (.bool x_1)) ?_
    obtain rfl := Option.some.inj hF_2
    exact ⟨_, rfl, M1, (Mem.le_refl _), p_1, rfl⟩
  · have k_2 : ¬ ((5000 : Int) < (d0.length : Int)) := iff_f decide_eq_true_iff h_1
    have hF_3 := cnd_f h_1 hF
    refine wp_skip ?_
    refine T_n ?_
    refine R_seq ?_
    refine R_reg ?_
    refine W_run (L' := [(0, S d0), (14, S d0)]) (w' := w) f_2 1 [0, 14] (by kernel_rfl) (fun a_5 f_5 => ?_)
    obtain ⟨x_2, hx_2, hF_4⟩ := bind_some' hF_3
    refine W_okH (E := []) (H := (H)) f_5 p0 (by kernel_rfl) (by kernel_rfl) rfl rfl (fun _ => by kernel_rfl) (sub_Lex_ok n _ hG d0 x_2 hx_2) (fun u_1 M_1 E_1 w_2 hM_1 p_2 q_1 a_6 f_6 => ?_)
    obtain ⟨A_1, cap_1, cs_1, rfl, rfl, hr_1⟩ := q_1
    replace p_2 : Hp w0 M_1 ((Ent.row 29 6 (.slice A_1 x_2.1.length cap_1) x_2.1.length cs_1) :: H) w_2 := p_2
    refine W_run (L' := [(0, S d0), (3, .slice A_1 x_2.1.length cap_1), (4, .int .i64 x_2.2.1), (5, .int .i64 x_2.2.2)]) (w' := w_2) f_6 7 [0, 3, 4, 5] (by kernel_rfl) (fun a_7 f_7 => ?_)
    refine W_end rfl ?_
    refine T_n ?_
    refine R_seq ?_
    refine R_reg ?_
    refine W_run (L' := [(0, S d0), (3, .slice A_1 x_2.1.length cap_1), (4, .int .i64 x_2.2.1), (5, .int .i64 x_2.2.2), (20, S d0)]) (w' := w_2) f_7 1 [0, 3, 4, 5, 20] (by kernel_rfl) (fun a_8 f_8 => ?_)
    obtain ⟨x_3, hx_3, hF_5⟩ := bind_some' hF_4
    refine W_okH (E := []) (H := ((Ent.row 29 6 (.slice A_1 x_2.1.length cap_1) x_2.1.length cs_1) :: H)) f_8 p_2 (by kernel_rfl) (by kernel_rfl) rfl rfl (fun _ => by kernel_rfl) (ref12_Lex_ok n _ d0 x_3 hx_3) (fun u_2 M_2 E_2 w_3 hM_2 p_3 q_2 a_9 f_9 => ?_)
    obtain ⟨A_2, cap_2, cs_2, rfl, rfl, hr_2⟩ := q_2
    replace p_3 : Hp w0 M_2 ((Ent.row 29 6 (.slice A_2 x_3.1.length cap_2) x_3.1.length cs_2) :: (Ent.row 29 6 (.slice A_1 x_2.1.length cap_1) x_2.1.length cs_1) :: H) w_3 := p_3
    refine W_run (L' := [(0, S d0), (3, .slice A_1 x_2.1.length cap_1), (4, .int .i64 x_2.2.1), (5, .int .i64 x_2.2.2), (6, .slice A_2 x_3.1.length cap_2), (7, .int .i64 x_3.2.1), (8, .int .i64 x_3.2.2)]) (w' := w_3) f_9 7 [0, 3, 4, 5, 6, 7, 8] (by kernel_rfl) (fun a_10 f_10 => ?_)
    refine W_end rfl ?_
    refine T_n ?_
    refine R_seq ?_
    refine R_reg ?_
    refine W_run (L' := [(0, S d0), (4, .int .i64 x_2.2.1), (5, .int .i64 x_2.2.2), (7, .int .i64 x_3.2.1), (8, .int .i64 x_3.2.2), (25, .slice A_1 x_2.1.length cap_1), (26, .slice A_2 x_3.1.length cap_2)]) (w' := w_3) f_10 2 [0, 4, 5, 7, 8, 25, 26] (by kernel_rfl) (fun a_11 f_11 => ?_)
    have p_4 : Hp w0 M_2 ((Ent.row 29 6 (.slice A_1 x_2.1.length cap_1) x_2.1.length cs_1) :: (Ent.row 29 6 (.slice A_2 x_3.1.length cap_2) x_3.1.length cs_2) :: H) w_3 := p_3.pull 1 rfl rfl
    obtain ⟨M_3, A_3, cap_3, hM_3, hv_1, p_5, h_2, hb_1⟩ := p_4.lend (f := emb_T_api_Expr) (xs := x_2.1) szd_T_api_Expr (RepSeq.mono hM_2 _ _ hr_1)
    have f_12 := Frm.set f_11 25 (v := .slice A_1 x_2.1.length cap_1) (v' := .slice A_3 x_2.1.length cap_3) (by kernel_rfl) (hv_1)
    have f_13 : Frm 55 [(0, S d0), (4, .int .i64 x_2.2.1), (5, .int .i64 x_2.2.2), (7, .int .i64 x_3.2.1), (8, .int .i64 x_3.2.2), (25, .slice A_3 x_2.1.length cap_3), (26, .slice A_2 x_3.1.length cap_2)] a_11 := f_12.keep (ks := [0, 4, 5, 7, 8, 25, 26]) (by kernel_rfl)
    obtain ⟨M_4, A_4, cap_4, hM_4, hv_2, p_6, h_3, hb_2⟩ := p_5.lend (f := emb_T_api_Expr) (xs := x_3.1) szd_T_api_Expr (RepSeq.mono hM_3 _ _ hr_2)
    have f_14 := Frm.set f_13 26 (v := .slice A_2 x_3.1.length cap_2) (v' := .slice A_4 x_3.1.length cap_4) (by kernel_rfl) (hv_2)
    have f_15 : Frm 55 [(0, S d0), (4, .int .i64 x_2.2.1), (5, .int .i64 x_2.2.2), (7, .int .i64 x_3.2.1), (8, .int .i64 x_3.2.2), (25, .slice A_3 x_2.1.length cap_3), (26, .slice A_4 x_3.1.length cap_4)] a_11 := f_14.keep (ks := [0, 4, 5, 7, 8, 25, 26]) (by kernel_rfl)
    obtain ⟨x_4, hx_4, hF_6⟩ := bind_some' hF_5
    refine W_okv (v := .bool x_4) f_15 p_6 (by kernel_rfl) (by kernel_rfl) rfl rfl (fun _ => by kernel_rfl) (ref12_SameAll_ok n _ A_3 cap_3 x_2.1 (h_2.mono hM_4) A_4 cap_4 x_3.1 h_3 x_4 hx_4) (fun w_4 p_7 a_12 f_16 => ?_)
    obtain ⟨M_5, hM_5, p_8⟩ := hb_2 _ _ _ (Mem.le_refl _) p_7
    have f_17 := Frm.set f_16 26 (v := .slice A_4 x_3.1.length cap_4) (v' := .slice A_2 x_3.1.length cap_2) (by kernel_rfl) (hv_2.symm)
    have f_18 : Frm 55 [(0, S d0), (4, .int .i64 x_2.2.1), (5, .int .i64 x_2.2.2), (7, .int .i64 x_3.2.1), (8, .int .i64 x_3.2.2), (25, .slice A_3 x_2.1.length cap_3), (26, .slice A_2 x_3.1.length cap_2), (27, .bool x_4)] a_12 := f_17.keep (ks := [0, 4, 5, 7, 8, 25, 26, 27]) (by kernel_rfl)
    obtain ⟨M_6, hM_6, p_9⟩ := hb_1 _ _ _ hM_5 p_8
    have f_19 := Frm.set f_18 25 (v := .slice A_3 x_2.1.length cap_3) (v' := .slice A_1 x_2.1.length cap_1) (by kernel_rfl) (hv_1.symm)
    have f_20 : Frm 55 [(0, S d0), (4, .int .i64 x_2.2.1), (5, .int .i64 x_2.2.2), (7, .int .i64 x_3.2.1), (8, .int .i64 x_3.2.2), (25, .slice A_1 x_2.1.length cap_1), (26, .slice A_2 x_3.1.length cap_2), (27, .bool x_4)] a_12 := f_19.keep (ks := [0, 4, 5, 7, 8, 25, 26, 27]) (by kernel_rfl)
    refine W_run (L' := [(0, S d0), (4, .int .i64 x_2.2.1), (5, .int .i64 x_2.2.2), (7, .int .i64 x_3.2.1), (8, .int .i64 x_3.2.2), (28, .bool x_4)]) (w' := w_4) f_20 1 [0, 4, 5, 7, 8, 28] (by kernel_rfl) (fun a_13 f_21 => ?_)
    rcases Bool.eq_false_or_eq_true (x_4) with h_4 | h_4
    · have hF_7 := cnd_t h_4 hF_6
      have f_22 := Frm.set f_21 28 (v := .bool x_4) (v' := .bool true) (by kernel_rfl) (congrArg Value.bool h_4)
      have f_23 : Frm 55 [(0, S d0), (4, .int .i64 x_2.2.1), (5, .int .i64 x_2.2.2), (7, .int .i64 x_3.2.1), (8, .int .i64 x_3.2.2), (28, .bool true)] a_13 := f_22.keep (ks := [0, 4, 5, 7, 8, 28]) (by kernel_rfl)
      refine W_run (L' := [(0, S d0), (5, .int .i64 x_2.2.2), (8, .int .i64 x_3.2.2), (33, .bool (decide (x_2.2.1 = x_3.2.1)))]) (w' := w_4) f_23 5 [0, 5, 8, 33] (by kernel_rfl) (fun a_14 f_24 => ?_)
      rcases Bool.eq_false_or_eq_true (decide (x_2.2.1 = x_3.2.1)) with h_5 | h_5
      · have k_4 : x_2.2.1 = x_3.2.1 := decide_eq_true_iff.1 h_5
        have hF_8 := cnd_t h_5 hF_7
        have f_25 := Frm.set f_24 33 (v := .bool (decide (x_2.2.1 = x_3.2.1))) (v' := .bool true) (by kernel_rfl) (congrArg Value.bool h_5)
        have f_26 : Frm 55 [(0, S d0), (5, .int .i64 x_2.2.2), (8, .int .i64 x_3.2.2), (33, .bool true)] a_14 := f_25.keep (ks := [0, 5, 8, 33]) (by kernel_rfl)
        refine W_run (L' := [(0, S d0), (38, .bool (decide (x_2.2.2 = x_3.2.2)))]) (w' := w_4) f_26 5 [0, 38] (by kernel_rfl) (fun a_15 f_27 => ?_)
        rcases Bool.eq_false_or_eq_true (decide (x_2.2.2 = x_3.2.2)) with h_6 | h_6
        · have k_5 : x_2.2.2 = x_3.2.2 := decide_eq_true_iff.1 h_6
          have hF_9 := cnd_t h_6 hF_8
          have f_28 := Frm.set f_27 38 (v := .bool (decide (x_2.2.2 = x_3.2.2))) (v' := .bool true) (by kernel_rfl) (congrArg Value.bool h_6)
          have f_29 : Frm 55 [(0, S d0), (38, .bool true)] a_15 := f_28.keep (ks := [0, 38]) (by kernel_rfl)
          refine W_run (L' := [(0, S d0), (38, .bool true), (39, S d0)]) (w' := w_4) f_29 1 [0, 38, 39] (by kernel_rfl) (fun a_16 f_30 => ?_)
          obtain ⟨x_5, hx_5, hF_10⟩ := bind_some' hF_9
          refine W_okv (v := .int .i64 x_5) f_30 p_9 (by kernel_rfl) (by kernel_rfl) rfl rfl (fun _ => by kernel_rfl) (sub_Holes_ok n _ (GL.mono ((hM_1.trans hM_2).trans hM_6) hG) d0 x_5 hx_5) (fun w_5 p_10 a_17 f_31 => ?_)
          refine W_run (L' := [(0, S d0), (38, .bool true), (40, .int .i64 x_5), (41, S d0)]) (w' := w_5) f_31 1 [0, 38, 40, 41] (by kernel_rfl) (fun a_18 f_32 => ?_)
          obtain ⟨x_6, hx_6, hF_11⟩ := bind_some' hF_10
          refine W_okv (v := .int .i64 x_6) f_32 p_10 (by kernel_rfl) (by kernel_rfl) rfl rfl (fun _ => by kernel_rfl) (ref12_Holes_ok n _ d0 x_6 hx_6) (fun w_6 p_11 a_19 f_33 => ?_)
          refine W_run (L' := [(0, S d0), (45, .bool (decide (x_5 = x_6)))]) (w' := w_6) f_33 3 [0, 45] (by kernel_rfl) (fun a_20 f_34 => ?_)
          rcases Bool.eq_false_or_eq_true (decide (x_5 = x_6)) with h_7 | h_7
          · have k_6 : x_5 = x_6 := decide_eq_true_iff.1 h_7
            have hF_12 := cnd_t h_7 hF_11
            have f_35 := Frm.set f_34 45 (v := .bool (decide (x_5 = x_6))) (v' := .bool true) (by kernel_rfl) (congrArg Value.bool h_7)
            have f_36 : Frm 55 [(0, S d0), (45, .bool true)] a_20 := f_35.keep (ks := [0, 45]) (by kernel_rfl)
            refine W_run (L' := [(0, S d0), (45, .bool true), (46, S d0)]) (w' := w_6) f_36 1 [0, 45, 46] (by kernel_rfl) (fun a_21 f_37 => ?_)
            obtain ⟨x_7, hx_7, hF_13⟩ := bind_some' hF_12
            refine W_okv (v := .bool x_7) f_37 p_11 (by kernel_rfl) (by kernel_rfl) rfl rfl (fun _ => by kernel_rfl) (sub_Attr_ok n _ (GL.mono ((hM_1.trans hM_2).trans hM_6) hG) d0 x_7 hx_7) (fun w_7 p_12 a_22 f_38 => ?_)
            refine W_run (L' := [(45, .bool true), (47, .bool x_7), (48, S d0)]) (w' := w_7) f_38 1 [45, 47, 48] (by kernel_rfl) (fun a_23 f_39 => ?_)
            obtain ⟨x_8, hx_8, hF_14⟩ := bind_some' hF_13
            refine W_okv (v := .bool x_8) f_39 p_12 (by kernel_rfl) (by kernel_rfl) rfl rfl (fun _ => by kernel_rfl) (ref12_Attr_ok n _ d0 x_8 hx_8) (fun w_8 p_13 a_24 f_40 => ?_)
            refine W_run (L' := [(52, .bool (x_7 == x_8))]) (w' := w_8) f_40 3 [52] (by kernel_rfl) (fun a_25 f_41 => ?_)
            rcases Bool.eq_false_or_eq_true (x_7 == x_8) with h_8 | h_8
            · have hF_15 := cnd_t h_8 hF_14
              have f_42 := Frm.set f_41 52 (v := .bool (x_7 == x_8)) (v' := .bool true) (by kernel_rfl) (congrArg Value.bool h_8)
              have f_43 : Frm 55 [(52, .bool true)] a_25 := f_42.keep (ks := [52]) (by kernel_rfl)
              obtain ⟨x_9, hx_9, hF_16⟩ := bind_some' hF_15
              refine W_okv (v := .bool x_9) f_43 p_13 (by kernel_rfl) (by kernel_rfl) rfl rfl (fun _ => by kernel_rfl) (law12_wakes_ok n _ (GL.mono ((hM_1.trans hM_2).trans hM_6) hG) x_9 hx_9) (fun w_9 p_14 a_26 f_44 => ?_)
              refine W_run (L' := [(2, .bool x_9)]) (w' := w_9) f_44 2 [2] (by kernel_rfl) (fun a_27 f_45 => ?_)
              refine W_end rfl ?_
              refine T_n ?_
              refine wp_ret ?_
              refine E_ret1 f_45 rfl (by kernel_rfl : Vc.look _ 2 = some (.bool x_9)) ?_
              obtain rfl := Option.some.inj hF_16
              exact ⟨_, rfl, M_6, ((hM_1.trans hM_2).trans hM_6), (p_14.dropN 2), rfl⟩
            · have hF_17 := cnd_f h_8 hF_14
              have f_46 := Frm.set f_41 52 (v := .bool (x_7 == x_8)) (v' := .bool false) (by kernel_rfl) (congrArg Value.bool h_8)
              have f_47 : Frm 55 [(52, .bool false)] a_25 := f_46.keep (ks := [52]) (by kernel_rfl)
              refine W_run (L' := [(2, .bool false)]) (w' := w_8) f_47 3 [2] (by kernel_rfl) (fun a_28 f_48 => ?_)
              refine W_end rfl ?_
              refine T_n ?_
              refine wp_ret ?_
              refine E_ret1 f_48 rfl (by kernel_rfl : Vc.look _ 2 = some (.bool false)) ?_
              obtain rfl := Option.some.inj hF_17
              exact ⟨_, rfl, M_6, ((hM_1.trans hM_2).trans hM_6), (p_13.dropN 2), rfl⟩
          · have k_9 : ¬ (x_5 = x_6) := iff_f decide_eq_true_iff h_7
            have hF_18 := cnd_f h_7 hF_11
            have f_49 := Frm.set f_34 45 (v := .bool (decide (x_5 = x_6))) (v' := .bool false) (by kernel_rfl) (congrArg Value.bool h_7)
            have f_50 : Frm 55 [(0, S d0), (45, .bool false)] a_20 := f_49.keep (ks := [0, 45]) (by kernel_rfl)
            refine W_run (L' := [(2, .bool false)]) (w' := w_6) f_50 10 [2] (by kernel_rfl) (fun a_29 f_51 => ?_)
            refine W_end rfl ?_
            refine T_n ?_
            refine wp_ret ?_
            refine E_ret1 f_51 rfl (by kernel_rfl : Vc.look _ 2 = some (.bool false)) ?_
            obtain rfl := Option.some.inj hF_18
            exact ⟨_, rfl, M_6, ((hM_1.trans hM_2).trans hM_6), (p_11.dropN 2), rfl⟩
        · have k_10 : ¬ (x_2.2.2 = x_3.2.2) := iff_f decide_eq_true_iff h_6
          have hF_19 := cnd_f h_6 hF_8
          have f_52 := Frm.set f_27 38 (v := .bool (decide (x_2.2.2 = x_3.2.2))) (v' := .bool false) (by kernel_rfl) (congrArg Value.bool h_6)
          have f_53 : Frm 55 [(0, S d0), (38, .bool false)] a_15 := f_52.keep (ks := [0, 38]) (by kernel_rfl)
          refine W_run (L' := [(2, .bool false)]) (w' := w_4) f_53 17 [2] (by kernel_rfl) (fun a_30 f_54 => ?_)
          refine W_end rfl ?_
          refine T_n ?_
          refine wp_ret ?_
          refine E_ret1 f_54 rfl (by kernel_rfl : Vc.look _ 2 = some (.bool false)) ?_
          obtain rfl := Option.some.inj hF_19
          exact ⟨_, rfl, M_6, ((hM_1.trans hM_2).trans hM_6), (p_9.dropN 2), rfl⟩
      · have k_11 : ¬ (x_2.2.1 = x_3.2.1) := iff_f decide_eq_true_iff h_5
        have hF_20 := cnd_f h_5 hF_7
        have f_55 := Frm.set f_24 33 (v := .bool (decide (x_2.2.1 = x_3.2.1))) (v' := .bool false) (by kernel_rfl) (congrArg Value.bool h_5)
        have f_56 : Frm 55 [(0, S d0), (5, .int .i64 x_2.2.2), (8, .int .i64 x_3.2.2), (33, .bool false)] a_14 := f_55.keep (ks := [0, 5, 8, 33]) (by kernel_rfl)
        refine W_run (L' := [(2, .bool false)]) (w' := w_4) f_56 22 [2] (by kernel_rfl) (fun a_31 f_57 => ?_)
        refine W_end rfl ?_
        refine T_n ?_
        refine wp_ret ?_
        refine E_ret1 f_57 rfl (by kernel_rfl : Vc.look _ 2 = some (.bool false)) ?_
        obtain rfl := Option.some.inj hF_20
        exact ⟨_, rfl, M_6, ((hM_1.trans hM_2).trans hM_6), (p_9.dropN 2), rfl⟩
    · have hF_21 := cnd_f h_4 hF_6
      have f_58 := Frm.set f_21 28 (v := .bool x_4) (v' := .bool false) (by kernel_rfl) (congrArg Value.bool h_4)
      have f_59 : Frm 55 [(0, S d0), (4, .int .i64 x_2.2.1), (5, .int .i64 x_2.2.2), (7, .int .i64 x_3.2.1), (8, .int .i64 x_3.2.2), (28, .bool false)] a_13 := f_58.keep (ks := [0, 4, 5, 7, 8, 28]) (by kernel_rfl)
      refine W_run (L' := [(2, .bool false)]) (w' := w_4) f_59 27 [2] (by kernel_rfl) (fun a_32 f_60 => ?_)
      refine W_end rfl ?_
      refine T_n ?_
      refine wp_ret ?_
      refine E_ret1 f_60 rfl (by kernel_rfl : Vc.look _ 2 = some (.bool false)) ?_
      obtain rfl := Option.some.inj hF_21
      exact ⟨_, rfl, M_6, ((hM_1.trans hM_2).trans hM_6), (p_9.dropN 2), rfl⟩
end Go.Proofs.YtdmjgmleilgbpaaDoor
