/-
  Printed by a program: of each function its shallow reading, and the proof that the function gives what the reading gives. No condition.
-/
import Derived.Test.YtdmjgmleilgbpaaDoorQ7g
import Derived.Test.YtdmjgmleilgbpaaDoorQ5
import Derived.Test.YtdmjgmleilgbpaaDoorQ2s
set_option linter.unusedVariables false
set_option linter.unusedSimpArgs false
namespace Go.Proofs.YtdmjgmleilgbpaaDoor
open Go Go.Vc Go.RowKit
def law12_SubBack (n : Nat) (d0 : List T_api_Expr) (d1 : List UInt8) : Option Bool :=
  (((law12_great n d0).bind fun x_1 =>
    bif x_1 then
      (some ((true)))
    else
      some ((decide ((1500 : Int) < (d1.length : Int)))) : Option Bool)).bind fun y_1 =>
  bif y_1 then
    ((law12_wakes n).bind fun x_2 =>
    some ((x_2)))
  else
    (sub_Write n d0).bind fun x_3 =>
    ((bif (decide (x_3.2 = 0)) then
        (some ((decide ((x_3.1.length : Int) ≤ 4096))))
      else
        some ((false)) : Option Bool)).bind fun y_2 =>
    ((bif y_2 then
        ((sub_Lex n x_3.1).bind fun x_4 =>
        bif (!(decide (x_4.2.2 = 0))) then
          (((some ((false)) : Option Bool)).map Lp.br)
        else
          bif (!(decide (x_4.2.1 = 0))) then
            (((some ((false)) : Option Bool)).map Lp.br)
          else
            (ref12_SameAll n x_4.1 d0).bind fun x_5 =>
            bif !x_5 then
              (((some ((false)) : Option Bool)).map Lp.br)
            else
              some (.nx ()))
      else
        some (.nx ()) : Option (Lp Unit Bool))).bind fun j => joinF j fun y_3 =>
    (sub_Lex n d1).bind fun x_6 =>
    bif (decide (x_6.2.2 = 0)) then
      ((sub_Write n x_6.1).bind fun x_7 =>
      ((bif (!(decide (x_7.2 = 0))) then
          (some ((true)))
        else
          some ((decide ((4096 : Int) < (x_7.1.length : Int)))) : Option Bool)).bind fun y_4 =>
      bif y_4 then
        (((bif (decide (x_7.2 = 0)) then
            ((law12_wakes n).bind fun x_8 =>
            some ((x_8)))
          else
            some ((false)) : Option Bool)).bind fun y_5 =>
        some ((y_5)))
      else
        (sub_Lex n x_7.1).bind fun x_9 =>
        ((bif (!(decide (x_9.2.2 = 0))) then
            (some ((true)))
          else
            (ref12_SameAll n x_9.1 x_6.1).bind fun x_10 =>
            some ((!x_10)) : Option Bool)).bind fun y_6 =>
        bif y_6 then
          (some ((false)))
        else
          (law12_wakes n).bind fun x_11 =>
          some ((x_11)))
    else
      (law12_wakes n).bind fun x_12 =>
      some ((x_12))
theorem law12_SubBack_ok (n : Nat) (M : Mem) (hG : GL M) (A0 : Option Addr) (cap0 : Nat) (d0 : List T_api_Expr) (h0 : Sli M 6 emb_T_api_Expr A0 cap0 d0) (d1 : List UInt8) (r : Bool) (hF : law12_SubBack n d0 d1 = some r) : Ok Tryd.prog M 7 [.slice A0 d0.length cap0, S d1] (fun _ v => v = .bool r) := by
  unfold law12_SubBack at hF
  intro M1 hM0 w0 H w p0
  replace hG := GL.mono hM0 hG
  replace h0 := h0.mono hM0
  refine R_enter 96 Tryd.func7 rfl rfl (by simp) (fun a0 f0 => ?_)
  replace f0 : Frm 96 [(0, .slice A0 d0.length cap0), (1, S d1)] a0 := f0
  refine R_seq ?_
  refine R_reg ?_
  refine W_run (L' := [(0, .slice A0 d0.length cap0), (1, S d1)]) (w' := w) f0 1 [0, 1] (by kernel_rfl) (fun a_1 f_1 => ?_)
  refine W_end rfl ?_
  refine T_n ?_
  refine R_seq ?_
  refine R_seq ?_
  obtain ⟨j_1, hj_1, hF_1⟩ := bind_some' hF
  refine R_mid (fun a_7 w_2 => ∃ y_1 : Bool, j_1 = y_1 ∧ ∃ M_1 : Mem, M1.le M_1 ∧ Frm 96 [(0, .slice A0 d0.length cap0), (1, S d1), (24, .bool y_1)] a_7 ∧ Hp w0 M_1 (H) w_2) ?_ ?_
  · refine R_reg ?_
    refine W_run (L' := [(0, .slice A0 d0.length cap0), (1, S d1), (18, .slice A0 d0.length cap0)]) (w' := w) f_1 1 [0, 1, 18] (by kernel_rfl) (fun a_2 f_2 => ?_)
    obtain ⟨x_1, hx_1, hF_2⟩ := bind_some' hj_1
    refine W_okv (v := .bool x_1) f_2 p0 (by kernel_rfl) (by kernel_rfl) rfl rfl (fun _ => by kernel_rfl) (law12_great_ok n _ hG A0 cap0 d0 h0 x_1 hx_1) (fun w_1 p_1 a_3 f_3 => ?_)
    refine W_run (L' := [(0, .slice A0 d0.length cap0), (1, S d1), (20, .bool x_1)]) (w' := w_1) f_3 1 [0, 1, 20] (by kernel_rfl) (fun a_4 f_4 => ?_)
    rcases Bool.eq_false_or_eq_true (x_1) with h_1 | h_1
    · have hF_3 := cnd_t h_1 hF_2
      have f_5 := Frm.set f_4 20 (v := .bool x_1) (v' := .bool true) (by kernel_rfl) (congrArg Value.bool h_1)
      have f_6 : Frm 96 [(0, .slice A0 d0.length cap0), (1, S d1), (20, .bool true)] a_4 := f_5.keep (ks := [0, 1, 20]) (by kernel_rfl)
      refine W_run (L' := [(0, .slice A0 d0.length cap0), (1, S d1), (24, .bool true)]) (w' := w_1) f_6 4 [0, 1, 24] (by kernel_rfl) (fun a_5 f_7 => ?_)
      refine W_end rfl ?_
      refine T_n ?_
      exact ⟨(true), (Option.some.inj hF_3).symm, M1, (Mem.le_refl _), f_7.keep (ks := [0, 1, 24]) (by kernel_rfl), p_1⟩
    · have hF_4 := cnd_f h_1 hF_2
      have f_8 := Frm.set f_4 20 (v := .bool x_1) (v' := .bool false) (by kernel_rfl) (congrArg Value.bool h_1)
      have f_9 : Frm 96 [(0, .slice A0 d0.length cap0), (1, S d1), (20, .bool false)] a_4 := f_8.keep (ks := [0, 1, 20]) (by kernel_rfl)
      refine W_run (L' := [(0, .slice A0 d0.length cap0), (1, S d1), (24, .bool (decide ((1500 : Int) < (d1.length : Int))))]) (w' := w_1) f_9 4 [0, 1, 24] (by kernel_rfl) (fun a_6 f_10 => ?_)
      refine W_end rfl ?_
      refine T_n ?_
      exact ⟨(decide ((1500 : Int) < (d1.length : Int))), (Option.some.inj hF_4).symm, M1, (Mem.le_refl _), f_10.keep (ks := [0, 1, 24]) (by kernel_rfl), p_1⟩
  · rintro a_7 w_2 ⟨y_1, hq_1, M_1, hM_1, f_11, p_2⟩
    subst j_1
    refine T_n ?_
    refine R_cond f_11 (b := y_1) (by kernel_rfl) (by kernel_rfl) (fun h_2 => ?_) (fun h_2 => ?_)
    · have hF_5 := cnd_t h_2 hF_1
      refine R_seq ?_
      refine R_reg ?_
      obtain ⟨x_2, hx_2, hF_6⟩ := bind_some' hF_5
      refine W_okv (v := .bool x_2) f_11 p_2 (by kernel_rfl) (by kernel_rfl) rfl rfl (fun _ => by kernel_rfl) (law12_wakes_ok n _ (GL.mono hM_1 hG) x_2 hx_2) (fun w_3 p_3 a_8 f_12 => ?_)
      refine W_run (L' := [(4, .bool x_2)]) (w' := w_3) f_12 1 [4] (by kernel_rfl) (fun a_9 f_13 => ?_)
      refine W_end rfl ?_
      refine T_n ?_
      refine wp_ret ?_
      refine T_r ?_
      refine E_ret1 f_13 rfl (by kernel_rfl : Vc.look _ 4 = some (.bool x_2)) ?_
      obtain rfl := Option.some.inj hF_6
      exact ⟨_, rfl, M_1, hM_1, p_3, rfl⟩
    · have hF_7 := cnd_f h_2 hF_1
      refine wp_skip ?_
      refine T_n ?_
      refine R_seq ?_
      refine R_reg ?_
      refine W_run (L' := [(0, .slice A0 d0.length cap0), (1, S d1), (27, .slice A0 d0.length cap0)]) (w' := w_2) f_11 1 [0, 1, 27] (by kernel_rfl) (fun a_10 f_14 => ?_)
      obtain ⟨x_3, hx_3, hF_8⟩ := bind_some' hF_7
      refine W_okv (v := .tuple #[S x_3.1, .int .i64 x_3.2]) f_14 p_2 (by kernel_rfl) (by kernel_rfl) rfl rfl (fun _ => by kernel_rfl) (sub_Write_ok n _ (GL.mono hM_1 hG) A0 cap0 d0 (h0.mono hM_1) x_3 hx_3) (fun w_4 p_4 a_11 f_15 => ?_)
      refine W_run (L' := [(0, .slice A0 d0.length cap0), (1, S d1), (5, S x_3.1), (6, .int .i64 x_3.2)]) (w' := w_4) f_15 5 [0, 1, 5, 6] (by kernel_rfl) (fun a_12 f_16 => ?_)
      refine W_end rfl ?_
      refine T_n ?_
      refine R_seq ?_
      refine R_seq ?_
      obtain ⟨j_2, hj_2, hF_9⟩ := bind_some' hF_8
      refine R_mid (fun a_16 w_5 => ∃ y_2 : Bool, j_2 = y_2 ∧ ∃ M_2 : Mem, M_1.le M_2 ∧ Frm 96 [(0, .slice A0 d0.length cap0), (1, S d1), (5, S x_3.1), (37, .bool y_2)] a_16 ∧ Hp w0 M_2 (H) w_5) ?_ ?_
      · refine R_reg ?_
        refine W_run (L' := [(0, .slice A0 d0.length cap0), (1, S d1), (5, S x_3.1), (33, .bool (decide (x_3.2 = 0)))]) (w' := w_4) f_16 3 [0, 1, 5, 33] (by kernel_rfl) (fun a_13 f_17 => ?_)
        rcases Bool.eq_false_or_eq_true (decide (x_3.2 = 0)) with h_3 | h_3
        · have k_5 : x_3.2 = 0 := decide_eq_true_iff.1 h_3
          have hF_10 := cnd_t h_3 hj_2
          have f_18 := Frm.set f_17 33 (v := .bool (decide (x_3.2 = 0))) (v' := .bool true) (by kernel_rfl) (congrArg Value.bool h_3)
          have f_19 : Frm 96 [(0, .slice A0 d0.length cap0), (1, S d1), (5, S x_3.1), (33, .bool true)] a_13 := f_18.keep (ks := [0, 1, 5, 33]) (by kernel_rfl)
          refine W_run (L' := [(0, .slice A0 d0.length cap0), (1, S d1), (5, S x_3.1), (37, .bool (decide ((x_3.1.length : Int) ≤ 4096)))]) (w' := w_4) f_19 4 [0, 1, 5, 37] (by kernel_rfl) (fun a_14 f_20 => ?_)
          refine W_end rfl ?_
          refine T_n ?_
          exact ⟨(decide ((x_3.1.length : Int) ≤ 4096)), (Option.some.inj hF_10).symm, M_1, (Mem.le_refl _), f_20.keep (ks := [0, 1, 5, 37]) (by kernel_rfl), p_4⟩
        · have k_6 : ¬ (x_3.2 = 0) := iff_f decide_eq_true_iff h_3
          have hF_11 := cnd_f h_3 hj_2
          have f_21 := Frm.set f_17 33 (v := .bool (decide (x_3.2 = 0))) (v' := .bool false) (by kernel_rfl) (congrArg Value.bool h_3)
          have f_22 : Frm 96 [(0, .slice A0 d0.length cap0), (1, S d1), (5, S x_3.1), (33, .bool false)] a_13 := f_21.keep (ks := [0, 1, 5, 33]) (by kernel_rfl)
          refine W_run (L' := [(0, .slice A0 d0.length cap0), (1, S d1), (5, S x_3.1), (37, .bool false)]) (w' := w_4) f_22 4 [0, 1, 5, 37] (by kernel_rfl) (fun a_15 f_23 => ?_)
          refine W_end rfl ?_
          refine T_n ?_
          exact ⟨(false), (Option.some.inj hF_11).symm, M_1, (Mem.le_refl _), f_23.keep (ks := [0, 1, 5, 37]) (by kernel_rfl), p_4⟩
      · rintro a_16 w_5 ⟨y_2, hq_2, M_2, hM_2, f_24, p_5⟩
        subst j_2
        refine T_n ?_
        obtain ⟨j_3, hj_3, hF_12⟩ := bind_some' hF_9
        refine R_mid (fun a_30 w_8 => ∃ y_3 : Unit, j_3 = .nx y_3 ∧ ∃ M_6 : Mem, M_2.le M_6 ∧ Frm 96 [(1, S d1)] a_30 ∧ Hp w0 M_6 (H) w_8) ?_ ?_
        · refine R_cond f_24 (b := y_2) (by kernel_rfl) (by kernel_rfl) (fun h_4 => ?_) (fun h_4 => ?_)
          · have hF_13 := cnd_t h_4 hj_3
            refine R_seq ?_
            refine R_reg ?_
            refine W_run (L' := [(0, .slice A0 d0.length cap0), (1, S d1), (39, S x_3.1)]) (w' := w_5) f_24 1 [0, 1, 39] (by kernel_rfl) (fun a_17 f_25 => ?_)
            obtain ⟨x_4, hx_4, hF_14⟩ := bind_some' hF_13
            refine W_okH (E := []) (H := (H)) f_25 p_5 (by kernel_rfl) (by kernel_rfl) rfl rfl (fun _ => by kernel_rfl) (sub_Lex_ok n _ (GL.mono (hM_1.trans hM_2) hG) x_3.1 x_4 hx_4) (fun u_1 M_3 E_1 w_6 hM_3 p_6 q_1 a_18 f_26 => ?_)
            obtain ⟨A_1, cap_1, cs_1, rfl, rfl, hr_1⟩ := q_1
            replace p_6 : Hp w0 M_3 ((Ent.row 29 6 (.slice A_1 x_4.1.length cap_1) x_4.1.length cs_1) :: H) w_6 := p_6
            refine W_run (L' := [(0, .slice A0 d0.length cap0), (1, S d1), (7, .slice A_1 x_4.1.length cap_1), (8, .int .i64 x_4.2.1), (9, .int .i64 x_4.2.2)]) (w' := w_6) f_26 7 [0, 1, 7, 8, 9] (by kernel_rfl) (fun a_19 f_27 => ?_)
            refine W_end rfl ?_
            refine T_n ?_
            refine R_seq ?_
            refine R_reg ?_
            refine W_run (L' := [(0, .slice A0 d0.length cap0), (1, S d1), (7, .slice A_1 x_4.1.length cap_1), (8, .int .i64 x_4.2.1), (46, .bool (!(decide (x_4.2.2 = 0))))]) (w' := w_6) f_27 3 [0, 1, 7, 8, 46] (by kernel_rfl) (fun a_20 f_28 => ?_)
            rcases Bool.eq_false_or_eq_true (!(decide (x_4.2.2 = 0))) with h_5 | h_5
            · have k_8 : ¬ (x_4.2.2 = 0) := (not_iff decide_eq_true_iff).1 h_5
              have hF_15 := cnd_t h_5 hF_14
              have f_29 := Frm.set f_28 46 (v := .bool (!(decide (x_4.2.2 = 0)))) (v' := .bool true) (by kernel_rfl) (congrArg Value.bool h_5)
              have f_30 : Frm 96 [(0, .slice A0 d0.length cap0), (1, S d1), (7, .slice A_1 x_4.1.length cap_1), (8, .int .i64 x_4.2.1), (46, .bool true)] a_20 := f_29.keep (ks := [0, 1, 7, 8, 46]) (by kernel_rfl)
              refine W_run (L' := [(1, S d1), (55, .bool true)]) (w' := w_6) f_30 9 [1, 55] (by kernel_rfl) (fun a_21 f_31 => ?_)
              refine W_end rfl ?_
              refine T_n ?_
              refine R_cond_t f_31 (by kernel_rfl) (by kernel_rfl) ?_
              refine R_seq ?_
              refine R_reg ?_
              refine W_run (L' := [(4, .bool false)]) (w' := w_6) f_31 1 [4] (by kernel_rfl) (fun a_22 f_32 => ?_)
              refine W_end rfl ?_
              refine T_n ?_
              refine wp_ret ?_
              have hF_16 := br_elim hF_15 hF_12
              refine T_r ?_
              refine T_r ?_
              refine E_ret1 f_32 rfl (by kernel_rfl : Vc.look _ 4 = some (.bool false)) ?_
              obtain rfl := Option.some.inj hF_16
              exact ⟨_, rfl, M_3, ((hM_1.trans hM_2).trans hM_3), (p_6.dropN 1), rfl⟩
            · have k_9 : ¬ (¬ (x_4.2.2 = 0)) := iff_f (not_iff decide_eq_true_iff) h_5
              have hF_17 := cnd_f h_5 hF_14
              have f_33 := Frm.set f_28 46 (v := .bool (!(decide (x_4.2.2 = 0)))) (v' := .bool false) (by kernel_rfl) (congrArg Value.bool h_5)
              have f_34 : Frm 96 [(0, .slice A0 d0.length cap0), (1, S d1), (7, .slice A_1 x_4.1.length cap_1), (8, .int .i64 x_4.2.1), (46, .bool false)] a_20 := f_33.keep (ks := [0, 1, 7, 8, 46]) (by kernel_rfl)
              refine W_run (L' := [(0, .slice A0 d0.length cap0), (1, S d1), (7, .slice A_1 x_4.1.length cap_1), (50, .bool (!(decide (x_4.2.1 = 0))))]) (w' := w_6) f_34 4 [0, 1, 7, 50] (by kernel_rfl) (fun a_23 f_35 => ?_)
              rcases Bool.eq_false_or_eq_true (!(decide (x_4.2.1 = 0))) with h_6 | h_6
              · have k_10 : ¬ (x_4.2.1 = 0) := (not_iff decide_eq_true_iff).1 h_6
                have hF_18 := cnd_t h_6 hF_17
                have f_36 := Frm.set f_35 50 (v := .bool (!(decide (x_4.2.1 = 0)))) (v' := .bool true) (by kernel_rfl) (congrArg Value.bool h_6)
                have f_37 : Frm 96 [(0, .slice A0 d0.length cap0), (1, S d1), (7, .slice A_1 x_4.1.length cap_1), (50, .bool true)] a_23 := f_36.keep (ks := [0, 1, 7, 50]) (by kernel_rfl)
                refine W_run (L' := [(1, S d1), (55, .bool true)]) (w' := w_6) f_37 5 [1, 55] (by kernel_rfl) (fun a_24 f_38 => ?_)
                refine W_end rfl ?_
                refine T_n ?_
                refine R_cond_t f_38 (by kernel_rfl) (by kernel_rfl) ?_
                refine R_seq ?_
                refine R_reg ?_
                refine W_run (L' := [(4, .bool false)]) (w' := w_6) f_38 1 [4] (by kernel_rfl) (fun a_25 f_39 => ?_)
                refine W_end rfl ?_
                refine T_n ?_
                refine wp_ret ?_
                have hF_19 := br_elim hF_18 hF_12
                refine T_r ?_
                refine T_r ?_
                refine E_ret1 f_39 rfl (by kernel_rfl : Vc.look _ 4 = some (.bool false)) ?_
                obtain rfl := Option.some.inj hF_19
                exact ⟨_, rfl, M_3, ((hM_1.trans hM_2).trans hM_3), (p_6.dropN 1), rfl⟩
              · have k_11 : ¬ (¬ (x_4.2.1 = 0)) := iff_f (not_iff decide_eq_true_iff) h_6
                have hF_20 := cnd_f h_6 hF_17
                have f_40 := Frm.set f_35 50 (v := .bool (!(decide (x_4.2.1 = 0)))) (v' := .bool false) (by kernel_rfl) (congrArg Value.bool h_6)
                have f_41 : Frm 96 [(0, .slice A0 d0.length cap0), (1, S d1), (7, .slice A_1 x_4.1.length cap_1), (50, .bool false)] a_23 := f_40.keep (ks := [0, 1, 7, 50]) (by kernel_rfl)
                refine W_run (L' := [(1, S d1), (50, .bool false), (51, .slice A_1 x_4.1.length cap_1), (52, .slice A0 d0.length cap0)]) (w' := w_6) f_41 2 [1, 50, 51, 52] (by kernel_rfl) (fun a_26 f_42 => ?_)
                obtain ⟨M_4, A_2, cap_2, hM_4, hv_1, p_7, h_7, hb_1⟩ := p_6.lend (f := emb_T_api_Expr) (xs := x_4.1) szd_T_api_Expr hr_1
                have f_43 := Frm.set f_42 51 (v := .slice A_1 x_4.1.length cap_1) (v' := .slice A_2 x_4.1.length cap_2) (by kernel_rfl) (hv_1)
                have f_44 : Frm 96 [(1, S d1), (50, .bool false), (51, .slice A_2 x_4.1.length cap_2), (52, .slice A0 d0.length cap0)] a_26 := f_43.keep (ks := [1, 50, 51, 52]) (by kernel_rfl)
                obtain ⟨x_5, hx_5, hF_21⟩ := bind_some' hF_20
                refine W_okv (v := .bool x_5) f_44 p_7 (by kernel_rfl) (by kernel_rfl) rfl rfl (fun _ => by kernel_rfl) (ref12_SameAll_ok n _ A_2 cap_2 x_4.1 h_7 A0 cap0 d0 (h0.mono (((hM_1.trans hM_2).trans hM_3).trans hM_4)) x_5 hx_5) (fun w_7 p_8 a_27 f_45 => ?_)
                obtain ⟨M_5, hM_5, p_9⟩ := hb_1 _ _ _ (Mem.le_refl _) p_8
                have f_46 := Frm.set f_45 51 (v := .slice A_2 x_4.1.length cap_2) (v' := .slice A_1 x_4.1.length cap_1) (by kernel_rfl) (hv_1.symm)
                have f_47 : Frm 96 [(1, S d1), (50, .bool false), (51, .slice A_1 x_4.1.length cap_1), (52, .slice A0 d0.length cap0), (53, .bool x_5)] a_27 := f_46.keep (ks := [1, 50, 51, 52, 53]) (by kernel_rfl)
                refine W_run (L' := [(1, S d1), (55, .bool !x_5)]) (w' := w_7) f_47 2 [1, 55] (by kernel_rfl) (fun a_28 f_48 => ?_)
                refine W_end rfl ?_
                refine T_n ?_
                refine R_cond f_48 (b := !x_5) (by kernel_rfl) (by kernel_rfl) (fun h_8 => ?_) (fun h_8 => ?_)
                · have k_12 : (x_5) = false := by simpa using h_8
                  have hF_22 := cnd_t h_8 hF_21
                  refine R_seq ?_
                  refine R_reg ?_
                  refine W_run (L' := [(4, .bool false)]) (w' := w_7) f_48 1 [4] (by kernel_rfl) (fun a_29 f_49 => ?_)
                  refine W_end rfl ?_
                  refine T_n ?_
                  refine wp_ret ?_
                  have hF_23 := br_elim hF_22 hF_12
                  refine T_r ?_
                  refine T_r ?_
                  refine E_ret1 f_49 rfl (by kernel_rfl : Vc.look _ 4 = some (.bool false)) ?_
                  obtain rfl := Option.some.inj hF_23
                  exact ⟨_, rfl, M_5, (((hM_1.trans hM_2).trans hM_3).trans hM_5), (p_9.dropN 1), rfl⟩
                · have k_13 : (x_5) = true := by simpa using h_8
                  have hF_24 := cnd_f h_8 hF_21
                  refine wp_skip ?_
                  refine T_n ?_
                  exact ⟨(), (Option.some.inj hF_24).symm, M_5, (hM_3.trans hM_5), f_48.keep (ks := [1]) (by kernel_rfl), (p_9.dropN 1)⟩
          · have hF_25 := cnd_f h_4 hj_3
            refine wp_skip ?_
            refine T_n ?_
            exact ⟨(), (Option.some.inj hF_25).symm, M_2, (Mem.le_refl _), f_24.keep (ks := [1]) (by kernel_rfl), p_5⟩
        · rintro a_30 w_8 ⟨y_3, rfl, M_6, hM_6, f_50, p_10⟩
          refine T_n ?_
          refine R_seq ?_
          refine R_reg ?_
          refine W_run (L' := [(57, S d1)]) (w' := w_8) f_50 1 [57] (by kernel_rfl) (fun a_31 f_51 => ?_)
          obtain ⟨x_6, hx_6, hF_26⟩ := bind_some' hF_12
          refine W_okH (E := []) (H := (H)) f_51 p_10 (by kernel_rfl) (by kernel_rfl) rfl rfl (fun _ => by kernel_rfl) (sub_Lex_ok n _ (GL.mono ((hM_1.trans hM_2).trans hM_6) hG) d1 x_6 hx_6) (fun u_2 M_7 E_2 w_9 hM_7 p_11 q_2 a_32 f_52 => ?_)
          obtain ⟨A_3, cap_3, cs_2, rfl, rfl, hr_2⟩ := q_2
          replace p_11 : Hp w0 M_7 ((Ent.row 29 6 (.slice A_3 x_6.1.length cap_3) x_6.1.length cs_2) :: H) w_9 := p_11
          refine W_run (L' := [(10, .slice A_3 x_6.1.length cap_3), (12, .int .i64 x_6.2.2)]) (w' := w_9) f_52 7 [10, 12] (by kernel_rfl) (fun a_33 f_53 => ?_)
          refine W_end rfl ?_
          refine T_n ?_
          refine R_seq ?_
          refine R_seq ?_
          refine R_reg ?_
          refine W_run (L' := [(10, .slice A_3 x_6.1.length cap_3), (63, .bool (decide (x_6.2.2 = 0)))]) (w' := w_9) f_53 2 [10, 63] (by kernel_rfl) (fun a_34 f_54 => ?_)
          refine W_end rfl ?_
          refine T_n ?_
          refine R_cond f_54 (b := decide (x_6.2.2 = 0)) (by kernel_rfl) (by kernel_rfl) (fun h_9 => ?_) (fun h_9 => ?_)
          · have k_15 : x_6.2.2 = 0 := decide_eq_true_iff.1 h_9
            have hF_27 := cnd_t h_9 hF_26
            refine R_seq ?_
            refine R_reg ?_
            refine W_run (L' := [(10, .slice A_3 x_6.1.length cap_3), (65, .slice A_3 x_6.1.length cap_3)]) (w' := w_9) f_54 1 [10, 65] (by kernel_rfl) (fun a_35 f_55 => ?_)
            obtain ⟨M_8, A_4, cap_4, hM_8, hv_2, p_12, h_10, hb_2⟩ := p_11.lend (f := emb_T_api_Expr) (xs := x_6.1) szd_T_api_Expr hr_2
            have f_56 := Frm.set f_55 10 (v := .slice A_3 x_6.1.length cap_3) (v' := .slice A_4 x_6.1.length cap_4) (by kernel_rfl) (hv_2)
            have f_57 := Frm.set f_56 65 (v := .slice A_3 x_6.1.length cap_3) (v' := .slice A_4 x_6.1.length cap_4) (by kernel_rfl) (hv_2)
            have f_58 : Frm 96 [(10, .slice A_4 x_6.1.length cap_4), (65, .slice A_4 x_6.1.length cap_4)] a_35 := f_57.keep (ks := [10, 65]) (by kernel_rfl)
            obtain ⟨x_7, hx_7, hF_28⟩ := bind_some' hF_27
            refine W_okv (v := .tuple #[S x_7.1, .int .i64 x_7.2]) f_58 p_12 (by kernel_rfl) (by kernel_rfl) rfl rfl (fun _ => by kernel_rfl) (sub_Write_ok n _ (GL.mono ((((hM_1.trans hM_2).trans hM_6).trans hM_7).trans hM_8) hG) A_4 cap_4 x_6.1 h_10 x_7 hx_7) (fun w_10 p_13 a_36 f_59 => ?_)
            obtain ⟨M_9, hM_9, p_14⟩ := hb_2 _ _ _ (Mem.le_refl _) p_13
            have f_60 := Frm.set f_59 10 (v := .slice A_4 x_6.1.length cap_4) (v' := .slice A_3 x_6.1.length cap_3) (by kernel_rfl) (hv_2.symm)
            have f_61 := Frm.set f_60 65 (v := .slice A_4 x_6.1.length cap_4) (v' := .slice A_3 x_6.1.length cap_3) (by kernel_rfl) (hv_2.symm)
            have f_62 : Frm 96 [(10, .slice A_3 x_6.1.length cap_3), (65, .slice A_3 x_6.1.length cap_3), (66, .tuple #[S x_7.1, .int .i64 x_7.2])] a_36 := f_61.keep (ks := [10, 65, 66]) (by kernel_rfl)
            refine W_run (L' := [(10, .slice A_3 x_6.1.length cap_3), (13, S x_7.1), (14, .int .i64 x_7.2)]) (w' := w_10) f_62 5 [10, 13, 14] (by kernel_rfl) (fun a_37 f_63 => ?_)
            refine W_end rfl ?_
            refine T_n ?_
            refine R_seq ?_
            refine R_seq ?_
            obtain ⟨j_4, hj_4, hF_29⟩ := bind_some' hF_28
            refine R_mid (fun a_41 w_11 => ∃ y_4 : Bool, j_4 = y_4 ∧ ∃ M_10 : Mem, M_9.le M_10 ∧ Frm 96 [(10, .slice A_3 x_6.1.length cap_3), (13, S x_7.1), (14, .int .i64 x_7.2), (75, .bool y_4)] a_41 ∧ Hp w0 M_10 ((Ent.row 29 6 (.slice A_3 x_6.1.length cap_3) x_6.1.length cs_2) :: H) w_11) ?_ ?_
            · refine R_reg ?_
              refine W_run (L' := [(10, .slice A_3 x_6.1.length cap_3), (13, S x_7.1), (14, .int .i64 x_7.2), (71, .bool (!(decide (x_7.2 = 0))))]) (w' := w_10) f_63 3 [10, 13, 14, 71] (by kernel_rfl) (fun a_38 f_64 => ?_)
              rcases Bool.eq_false_or_eq_true (!(decide (x_7.2 = 0))) with h_11 | h_11
              · have k_16 : ¬ (x_7.2 = 0) := (not_iff decide_eq_true_iff).1 h_11
                have hF_30 := cnd_t h_11 hj_4
                have f_65 := Frm.set f_64 71 (v := .bool (!(decide (x_7.2 = 0)))) (v' := .bool true) (by kernel_rfl) (congrArg Value.bool h_11)
                have f_66 : Frm 96 [(10, .slice A_3 x_6.1.length cap_3), (13, S x_7.1), (14, .int .i64 x_7.2), (71, .bool true)] a_38 := f_65.keep (ks := [10, 13, 14, 71]) (by kernel_rfl)
                refine W_run (L' := [(10, .slice A_3 x_6.1.length cap_3), (13, S x_7.1), (14, .int .i64 x_7.2), (75, .bool true)]) (w' := w_10) f_66 4 [10, 13, 14, 75] (by kernel_rfl) (fun a_39 f_67 => ?_)
                refine W_end rfl ?_
                refine T_n ?_
                exact ⟨(true), (Option.some.inj hF_30).symm, M_9, (Mem.le_refl _), f_67.keep (ks := [10, 13, 14, 75]) (by kernel_rfl), p_14⟩
              · have k_17 : ¬ (¬ (x_7.2 = 0)) := iff_f (not_iff decide_eq_true_iff) h_11
                have hF_31 := cnd_f h_11 hj_4
                have f_68 := Frm.set f_64 71 (v := .bool (!(decide (x_7.2 = 0)))) (v' := .bool false) (by kernel_rfl) (congrArg Value.bool h_11)
                have f_69 : Frm 96 [(10, .slice A_3 x_6.1.length cap_3), (13, S x_7.1), (14, .int .i64 x_7.2), (71, .bool false)] a_38 := f_68.keep (ks := [10, 13, 14, 71]) (by kernel_rfl)
                refine W_run (L' := [(10, .slice A_3 x_6.1.length cap_3), (13, S x_7.1), (14, .int .i64 x_7.2), (75, .bool (decide ((4096 : Int) < (x_7.1.length : Int))))]) (w' := w_10) f_69 4 [10, 13, 14, 75] (by kernel_rfl) (fun a_40 f_70 => ?_)
                refine W_end rfl ?_
                refine T_n ?_
                exact ⟨(decide ((4096 : Int) < (x_7.1.length : Int))), (Option.some.inj hF_31).symm, M_9, (Mem.le_refl _), f_70.keep (ks := [10, 13, 14, 75]) (by kernel_rfl), p_14⟩
            · rintro a_41 w_11 ⟨y_4, hq_4, M_10, hM_10, f_71, p_15⟩
              subst j_4
              refine T_n ?_
              refine R_cond f_71 (b := y_4) (by kernel_rfl) (by kernel_rfl) (fun h_12 => ?_) (fun h_12 => ?_)
              · have hF_32 := cnd_t h_12 hF_29
                refine R_seq ?_
                obtain ⟨j_5, hj_5, hF_33⟩ := bind_some' hF_32
                refine R_mid (fun a_46 w_13 => ∃ y_5 : Bool, j_5 = y_5 ∧ ∃ M_11 : Mem, M_10.le M_11 ∧ Frm 96 [(4, .bool y_5)] a_46 ∧ Hp w0 M_11 ((Ent.row 29 6 (.slice A_3 x_6.1.length cap_3) x_6.1.length cs_2) :: H) w_13) ?_ ?_
                · refine R_reg ?_
                  refine W_run (L' := [(78, .bool (decide (x_7.2 = 0)))]) (w' := w_11) f_71 3 [78] (by kernel_rfl) (fun a_42 f_72 => ?_)
                  rcases Bool.eq_false_or_eq_true (decide (x_7.2 = 0)) with h_13 | h_13
                  · have k_19 : x_7.2 = 0 := decide_eq_true_iff.1 h_13
                    have hF_34 := cnd_t h_13 hj_5
                    have f_73 := Frm.set f_72 78 (v := .bool (decide (x_7.2 = 0))) (v' := .bool true) (by kernel_rfl) (congrArg Value.bool h_13)
                    have f_74 : Frm 96 [(78, .bool true)] a_42 := f_73.keep (ks := [78]) (by kernel_rfl)
                    obtain ⟨x_8, hx_8, hF_35⟩ := bind_some' hF_34
                    refine W_okv (v := .bool x_8) f_74 p_15 (by kernel_rfl) (by kernel_rfl) rfl rfl (fun _ => by kernel_rfl) (law12_wakes_ok n _ (GL.mono (((((hM_1.trans hM_2).trans hM_6).trans hM_7).trans hM_9).trans hM_10) hG) x_8 hx_8) (fun w_12 p_16 a_43 f_75 => ?_)
                    refine W_run (L' := [(4, .bool x_8)]) (w' := w_12) f_75 2 [4] (by kernel_rfl) (fun a_44 f_76 => ?_)
                    refine W_end rfl ?_
                    refine T_n ?_
                    exact ⟨(x_8), (Option.some.inj hF_35).symm, M_10, (Mem.le_refl _), f_76.keep (ks := [4]) (by kernel_rfl), p_16⟩
                  · have k_20 : ¬ (x_7.2 = 0) := iff_f decide_eq_true_iff h_13
                    have hF_36 := cnd_f h_13 hj_5
                    have f_77 := Frm.set f_72 78 (v := .bool (decide (x_7.2 = 0))) (v' := .bool false) (by kernel_rfl) (congrArg Value.bool h_13)
                    have f_78 : Frm 96 [(78, .bool false)] a_42 := f_77.keep (ks := [78]) (by kernel_rfl)
                    refine W_run (L' := [(4, .bool false)]) (w' := w_11) f_78 3 [4] (by kernel_rfl) (fun a_45 f_79 => ?_)
                    refine W_end rfl ?_
                    refine T_n ?_
                    exact ⟨(false), (Option.some.inj hF_36).symm, M_10, (Mem.le_refl _), f_79.keep (ks := [4]) (by kernel_rfl), p_15⟩
                · rintro a_46 w_13 ⟨y_5, hq_5, M_11, hM_11, f_80, p_17⟩
                  subst j_5
                  refine T_n ?_
                  refine wp_ret ?_
                  refine T_r ?_
                  refine T_r ?_
                  refine E_ret1 f_80 rfl (by kernel_rfl : Vc.look _ 4 = some (.bool y_5)) ?_
                  obtain rfl := Option.some.inj hF_33
                  exact ⟨_, rfl, M_11, ((((((hM_1.trans hM_2).trans hM_6).trans hM_7).trans hM_9).trans hM_10).trans hM_11), (p_17.dropN 1), rfl⟩
              · have hF_37 := cnd_f h_12 hF_29
                refine wp_skip ?_
                refine T_n ?_
                refine R_seq ?_
                refine R_reg ?_
                refine W_run (L' := [(10, .slice A_3 x_6.1.length cap_3), (82, S x_7.1)]) (w' := w_11) f_71 1 [10, 82] (by kernel_rfl) (fun a_47 f_81 => ?_)
                obtain ⟨x_9, hx_9, hF_38⟩ := bind_some' hF_37
                refine W_okH (E := []) (H := ((Ent.row 29 6 (.slice A_3 x_6.1.length cap_3) x_6.1.length cs_2) :: H)) f_81 p_15 (by kernel_rfl) (by kernel_rfl) rfl rfl (fun _ => by kernel_rfl) (sub_Lex_ok n _ (GL.mono (((((hM_1.trans hM_2).trans hM_6).trans hM_7).trans hM_9).trans hM_10) hG) x_7.1 x_9 hx_9) (fun u_3 M_12 E_3 w_14 hM_12 p_18 q_3 a_48 f_82 => ?_)
                obtain ⟨A_5, cap_5, cs_3, rfl, rfl, hr_3⟩ := q_3
                replace p_18 : Hp w0 M_12 ((Ent.row 29 6 (.slice A_5 x_9.1.length cap_5) x_9.1.length cs_3) :: (Ent.row 29 6 (.slice A_3 x_6.1.length cap_3) x_6.1.length cs_2) :: H) w_14 := p_18
                refine W_run (L' := [(10, .slice A_3 x_6.1.length cap_3), (15, .slice A_5 x_9.1.length cap_5), (17, .int .i64 x_9.2.2)]) (w' := w_14) f_82 7 [10, 15, 17] (by kernel_rfl) (fun a_49 f_83 => ?_)
                refine W_end rfl ?_
                refine T_n ?_
                refine R_seq ?_
                obtain ⟨j_6, hj_6, hF_39⟩ := bind_some' hF_38
                refine R_mid (fun a_55 w_16 => ∃ y_6 : Bool, j_6 = y_6 ∧ ∃ M_17 : Mem, M_12.le M_17 ∧ Frm 96 [(94, .bool y_6)] a_55 ∧ Hp w0 M_17 ((Ent.row 29 6 (.slice A_5 x_9.1.length cap_5) x_9.1.length cs_3) :: (Ent.row 29 6 (.slice A_3 x_6.1.length cap_3) x_6.1.length cs_2) :: H) w_16) ?_ ?_
                · refine R_reg ?_
                  refine W_run (L' := [(10, .slice A_3 x_6.1.length cap_3), (15, .slice A_5 x_9.1.length cap_5), (89, .bool (!(decide (x_9.2.2 = 0))))]) (w' := w_14) f_83 3 [10, 15, 89] (by kernel_rfl) (fun a_50 f_84 => ?_)
                  rcases Bool.eq_false_or_eq_true (!(decide (x_9.2.2 = 0))) with h_14 | h_14
                  · have k_22 : ¬ (x_9.2.2 = 0) := (not_iff decide_eq_true_iff).1 h_14
                    have hF_40 := cnd_t h_14 hj_6
                    have f_85 := Frm.set f_84 89 (v := .bool (!(decide (x_9.2.2 = 0)))) (v' := .bool true) (by kernel_rfl) (congrArg Value.bool h_14)
                    have f_86 : Frm 96 [(10, .slice A_3 x_6.1.length cap_3), (15, .slice A_5 x_9.1.length cap_5), (89, .bool true)] a_50 := f_85.keep (ks := [10, 15, 89]) (by kernel_rfl)
                    refine W_run (L' := [(94, .bool true)]) (w' := w_14) f_86 5 [94] (by kernel_rfl) (fun a_51 f_87 => ?_)
                    refine W_end rfl ?_
                    refine T_n ?_
                    exact ⟨(true), (Option.some.inj hF_40).symm, M_12, (Mem.le_refl _), f_87.keep (ks := [94]) (by kernel_rfl), p_18⟩
                  · have k_23 : ¬ (¬ (x_9.2.2 = 0)) := iff_f (not_iff decide_eq_true_iff) h_14
                    have hF_41 := cnd_f h_14 hj_6
                    have f_88 := Frm.set f_84 89 (v := .bool (!(decide (x_9.2.2 = 0)))) (v' := .bool false) (by kernel_rfl) (congrArg Value.bool h_14)
                    have f_89 : Frm 96 [(10, .slice A_3 x_6.1.length cap_3), (15, .slice A_5 x_9.1.length cap_5), (89, .bool false)] a_50 := f_88.keep (ks := [10, 15, 89]) (by kernel_rfl)
                    refine W_run (L' := [(89, .bool false), (90, .slice A_5 x_9.1.length cap_5), (91, .slice A_3 x_6.1.length cap_3)]) (w' := w_14) f_89 2 [89, 90, 91] (by kernel_rfl) (fun a_52 f_90 => ?_)
                    obtain ⟨M_13, A_6, cap_6, hM_13, hv_3, p_19, h_15, hb_3⟩ := p_18.lend (f := emb_T_api_Expr) (xs := x_9.1) szd_T_api_Expr hr_3
                    have f_91 := Frm.set f_90 90 (v := .slice A_5 x_9.1.length cap_5) (v' := .slice A_6 x_9.1.length cap_6) (by kernel_rfl) (hv_3)
                    have f_92 : Frm 96 [(89, .bool false), (90, .slice A_6 x_9.1.length cap_6), (91, .slice A_3 x_6.1.length cap_3)] a_52 := f_91.keep (ks := [89, 90, 91]) (by kernel_rfl)
                    obtain ⟨M_14, A_7, cap_7, hM_14, hv_4, p_20, h_16, hb_4⟩ := p_19.lend (f := emb_T_api_Expr) (xs := x_6.1) szd_T_api_Expr (RepSeq.mono (((hM_9.trans hM_10).trans hM_12).trans hM_13) _ _ hr_2)
                    have f_93 := Frm.set f_92 91 (v := .slice A_3 x_6.1.length cap_3) (v' := .slice A_7 x_6.1.length cap_7) (by kernel_rfl) (hv_4)
                    have f_94 : Frm 96 [(89, .bool false), (90, .slice A_6 x_9.1.length cap_6), (91, .slice A_7 x_6.1.length cap_7)] a_52 := f_93.keep (ks := [89, 90, 91]) (by kernel_rfl)
                    obtain ⟨x_10, hx_10, hF_42⟩ := bind_some' hF_41
                    refine W_okv (v := .bool x_10) f_94 p_20 (by kernel_rfl) (by kernel_rfl) rfl rfl (fun _ => by kernel_rfl) (ref12_SameAll_ok n _ A_6 cap_6 x_9.1 (h_15.mono hM_14) A_7 cap_7 x_6.1 h_16 x_10 hx_10) (fun w_15 p_21 a_53 f_95 => ?_)
                    obtain ⟨M_15, hM_15, p_22⟩ := hb_4 _ _ _ (Mem.le_refl _) p_21
                    have f_96 := Frm.set f_95 91 (v := .slice A_7 x_6.1.length cap_7) (v' := .slice A_3 x_6.1.length cap_3) (by kernel_rfl) (hv_4.symm)
                    have f_97 : Frm 96 [(89, .bool false), (90, .slice A_6 x_9.1.length cap_6), (91, .slice A_3 x_6.1.length cap_3), (92, .bool x_10)] a_53 := f_96.keep (ks := [89, 90, 91, 92]) (by kernel_rfl)
                    obtain ⟨M_16, hM_16, p_23⟩ := hb_3 _ _ _ hM_15 p_22
                    have f_98 := Frm.set f_97 90 (v := .slice A_6 x_9.1.length cap_6) (v' := .slice A_5 x_9.1.length cap_5) (by kernel_rfl) (hv_3.symm)
                    have f_99 : Frm 96 [(89, .bool false), (90, .slice A_5 x_9.1.length cap_5), (91, .slice A_3 x_6.1.length cap_3), (92, .bool x_10)] a_53 := f_98.keep (ks := [89, 90, 91, 92]) (by kernel_rfl)
                    refine W_run (L' := [(94, .bool !x_10)]) (w' := w_15) f_99 2 [94] (by kernel_rfl) (fun a_54 f_100 => ?_)
                    refine W_end rfl ?_
                    refine T_n ?_
                    exact ⟨(!x_10), (Option.some.inj hF_42).symm, M_16, hM_16, f_100.keep (ks := [94]) (by kernel_rfl), p_23⟩
                · rintro a_55 w_16 ⟨y_6, hq_6, M_17, hM_17, f_101, p_24⟩
                  subst j_6
                  refine T_n ?_
                  refine R_cond f_101 (b := y_6) (by kernel_rfl) (by kernel_rfl) (fun h_17 => ?_) (fun h_17 => ?_)
                  · have hF_43 := cnd_t h_17 hF_39
                    refine R_seq ?_
                    refine R_reg ?_
                    refine W_run (L' := [(4, .bool false)]) (w' := w_16) f_101 1 [4] (by kernel_rfl) (fun a_56 f_102 => ?_)
                    refine W_end rfl ?_
                    refine T_n ?_
                    refine wp_ret ?_
                    refine T_r ?_
                    refine E_ret1 f_102 rfl (by kernel_rfl : Vc.look _ 4 = some (.bool false)) ?_
                    obtain rfl := Option.some.inj hF_43
                    exact ⟨_, rfl, M_17, (((((((hM_1.trans hM_2).trans hM_6).trans hM_7).trans hM_9).trans hM_10).trans hM_12).trans hM_17), (p_24.dropN 2), rfl⟩
                  · have hF_44 := cnd_f h_17 hF_39
                    refine wp_skip ?_
                    refine T_n ?_
                    refine R_seq ?_
                    refine R_reg ?_
                    obtain ⟨x_11, hx_11, hF_45⟩ := bind_some' hF_44
                    refine W_okv (v := .bool x_11) f_101 p_24 (by kernel_rfl) (by kernel_rfl) rfl rfl (fun _ => by kernel_rfl) (law12_wakes_ok n _ (GL.mono (((((((hM_1.trans hM_2).trans hM_6).trans hM_7).trans hM_9).trans hM_10).trans hM_12).trans hM_17) hG) x_11 hx_11) (fun w_17 p_25 a_57 f_103 => ?_)
                    refine W_run (L' := [(4, .bool x_11)]) (w' := w_17) f_103 1 [4] (by kernel_rfl) (fun a_58 f_104 => ?_)
                    refine W_end rfl ?_
                    refine T_n ?_
                    refine wp_ret ?_
                    refine E_ret1 f_104 rfl (by kernel_rfl : Vc.look _ 4 = some (.bool x_11)) ?_
                    obtain rfl := Option.some.inj hF_45
                    exact ⟨_, rfl, M_17, (((((((hM_1.trans hM_2).trans hM_6).trans hM_7).trans hM_9).trans hM_10).trans hM_12).trans hM_17), (p_25.dropN 2), rfl⟩
          · have k_26 : ¬ (x_6.2.2 = 0) := iff_f decide_eq_true_iff h_9
            have hF_46 := cnd_f h_9 hF_26
            refine wp_skip ?_
            refine T_n ?_
            refine R_seq ?_
            refine R_reg ?_
            obtain ⟨x_12, hx_12, hF_47⟩ := bind_some' hF_46
            refine W_okv (v := .bool x_12) f_54 p_11 (by kernel_rfl) (by kernel_rfl) rfl rfl (fun _ => by kernel_rfl) (law12_wakes_ok n _ (GL.mono (((hM_1.trans hM_2).trans hM_6).trans hM_7) hG) x_12 hx_12) (fun w_18 p_26 a_59 f_105 => ?_)
            refine W_run (L' := [(4, .bool x_12)]) (w' := w_18) f_105 1 [4] (by kernel_rfl) (fun a_60 f_106 => ?_)
            refine W_end rfl ?_
            refine T_n ?_
            refine wp_ret ?_
            refine E_ret1 f_106 rfl (by kernel_rfl : Vc.look _ 4 = some (.bool x_12)) ?_
            obtain rfl := Option.some.inj hF_47
            exact ⟨_, rfl, M_7, (((hM_1.trans hM_2).trans hM_6).trans hM_7), (p_26.dropN 1), rfl⟩
end Go.Proofs.YtdmjgmleilgbpaaDoor
