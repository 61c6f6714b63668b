/-
  Printed by a program: of each function its shallow reading, and the proof that the function gives what the reading gives. No condition.
-/
import Derived.Test.YtdmjgmleilgbpaaDoorTy
import Derived.Test.YtdmjgmleilgbpaaDoorRows
set_option linter.unusedVariables false
set_option linter.unusedSimpArgs false
namespace Go.Proofs.YtdmjgmleilgbpaaDoor
open Go Go.Vc Go.RowKit
def ref12_weight_s1 (n : Nat) (rec_ref12_weight : T_api_Expr → Int → Option Int) (d0 : T_api_Expr) (d1 : Int) (s_1 : Int × Int) : Option (Lp (Int × Int) Int) :=
    ((bif (decide (s_1.2 < ((d0.fL.length : Nat) : Int))) then
        (some ((decide (s_1.1 ≤ 10000))))
      else
        some ((false)) : Option Bool)).bind fun y_2 =>
    bif y_2 then
      ((getI d0.fL s_1.2).bind fun x_1 =>
      need (inR .i64 (d1 - 1)) <|
      (rec_ref12_weight x_1 (d1 - 1)).bind fun x_2 =>
      need (inR .i64 (s_1.1 + x_2)) <|
      need (inR .i64 (s_1.2 + 1)) <|
      some (.nx (s_1.1 + x_2, s_1.2 + 1)))
    else
      some (.br s_1.1)
def ref12_weight_b (n : Nat) (rec_ref12_weight : T_api_Expr → Int → Option Int) (d0 : T_api_Expr) (d1 : Int) : Option Int :=
  ((bif (decide (d1 = 0)) then
      (some ((true)))
    else
      some ((decide ((500 : Int) < ((d0.fL.length : Nat) : Int)))) : Option Bool)).bind fun y_1 =>
  bif y_1 then
    (some ((10000 : Int)))
  else
    need (inR .i64 ((d0.fText.length : Int) + (d0.fName.length : Int))) <|
    need (inR .i64 (((d0.fText.length : Int) + (d0.fName.length : Int)) + (d0.fAttr.length : Int))) <|
    need (inR .i64 ((1 : Int) + (min (((d0.fText.length : Int) + (d0.fName.length : Int)) + (d0.fAttr.length : Int)) (10000 : Int)))) <|
    (loopF (ref12_weight_s1 n rec_ref12_weight d0 d1) n ((1 : Int) + (min (((d0.fText.length : Int) + (d0.fName.length : Int)) + (d0.fAttr.length : Int)) (10000 : Int)), (0 : Int))).bind fun y_3 =>
    some (y_3)
theorem ref12_weight_b_ok (n : Nat) (rec_ref12_weight : T_api_Expr → Int → Option Int) (hrec_ref12_weight : ∀ (M : Mem) (c0 : List Value) (d0 : T_api_Expr) (h0 : Rep M (emb_T_api_Expr d0) c0) (d1 : Int) (r : Int) (hF : rec_ref12_weight d0 d1 = some r), Ok Tryd.prog M 51 [.agg c0.toArray, .int .i64 d1] (fun _ v => v = .int .i64 r)) (M : Mem) (c0 : List Value) (d0 : T_api_Expr) (h0 : Rep M (emb_T_api_Expr d0) c0) (d1 : Int) (r : Int) (hF : ref12_weight_b n rec_ref12_weight d0 d1 = some r) : Ok Tryd.prog M 51 [.agg c0.toArray, .int .i64 d1] (fun _ v => v = .int .i64 r) := by
  unfold ref12_weight_b at hF
  intro M1 hM0 w0 H w p0
  replace h0 := Rep.mono hM0 _ _ h0
  obtain ⟨A_1, cap_1, rfl, h_1⟩ := T_api_Expr.opn h0
  refine R_enter 50 Tryd.func51 rfl rfl (by simp) (fun a0 f0 => ?_)
  replace f0 : Frm 50 [(0, .agg #[.int .i8 d0.fKind, S d0.fText, .int .i64 d0.fNum, S d0.fName, S d0.fAttr, .slice A_1 d0.fL.length cap_1]), (1, .int .i64 d1)] a0 := f0
  refine R_seq ?_
  refine R_reg ?_
  refine W_box (cs := #[.int .i8 d0.fKind, S d0.fText, .int .i64 d0.fNum, S d0.fName, S d0.fAttr, .slice A_1 d0.fL.length cap_1]) (T := 29) f0 p0 1 [0, 1, 2] (fun b_1 => [(0, .agg #[.int .i8 d0.fKind, S d0.fText, .int .i64 d0.fNum, S d0.fName, S d0.fAttr, .slice A_1 d0.fL.length cap_1]), (1, .int .i64 d1), (2, .pointer (some (⟨b_1, 0, none⟩)))]) (fun _ => by kernel_rfl) (fun b_1 M_1 w_1 hM_1 hc_1 p_1 a_1 f_1 => ?_)
  replace f_1 : Frm 50 [(0, .agg #[.int .i8 d0.fKind, S d0.fText, .int .i64 d0.fNum, S d0.fName, S d0.fAttr, .slice A_1 d0.fL.length cap_1]), (1, .int .i64 d1), (2, .pointer (some (⟨b_1, 0, none⟩)))] a_1 := f_1
  have hc_2 := fz_box hc_1
  refine W_run (L' := [(1, .int .i64 d1), (2, .pointer (some (⟨b_1, 0, none⟩)))]) (w' := w_1) f_1 1 [1, 2] (by kernel_rfl) (fun a_2 f_2 => ?_)
  refine W_end rfl ?_
  refine T_n ?_
  refine R_seq ?_
  refine R_seq ?_
  obtain ⟨j_1, hj_1, hF_1⟩ := bind_some' hF
  refine R_mid (fun a_8 w_2 => ∃ y_1 : Bool, j_1 = y_1 ∧ ∃ M_2 : Mem, M_1.le M_2 ∧ Frm 50 [(1, .int .i64 d1), (2, .pointer (some (⟨b_1, 0, none⟩))), (14, .bool y_1)] a_8 ∧ Hp w0 M_2 (H) w_2) ?_ ?_
  · refine R_reg ?_
    refine W_run (L' := [(1, .int .i64 d1), (2, .pointer (some (⟨b_1, 0, none⟩))), (9, .bool (decide (d1 = 0)))]) (w' := w_1) f_2 3 [1, 2, 9] (by kernel_rfl) (fun a_3 f_3 => ?_)
    rcases Bool.eq_false_or_eq_true (decide (d1 = 0)) with h_2 | h_2
    · have k_1 : d1 = 0 := decide_eq_true_iff.1 h_2
      have hF_2 := cnd_t h_2 hj_1
      have f_4 := Frm.set f_3 9 (v := .bool (decide (d1 = 0))) (v' := .bool true) (by kernel_rfl) (congrArg Value.bool h_2)
      have f_5 : Frm 50 [(1, .int .i64 d1), (2, .pointer (some (⟨b_1, 0, none⟩))), (9, .bool true)] a_3 := f_4.keep (ks := [1, 2, 9]) (by kernel_rfl)
      refine W_run (L' := [(1, .int .i64 d1), (2, .pointer (some (⟨b_1, 0, none⟩))), (14, .bool true)]) (w' := w_1) f_5 5 [1, 2, 14] (by kernel_rfl) (fun a_4 f_6 => ?_)
      refine W_end rfl ?_
      refine T_n ?_
      exact ⟨(true), (Option.some.inj hF_2).symm, M_1, (Mem.le_refl _), f_6.keep (ks := [1, 2, 14]) (by kernel_rfl), p_1⟩
    · have k_2 : ¬ (d1 = 0) := iff_f decide_eq_true_iff h_2
      have hF_3 := cnd_f h_2 hj_1
      have f_7 := Frm.set f_3 9 (v := .bool (decide (d1 = 0))) (v' := .bool false) (by kernel_rfl) (congrArg Value.bool h_2)
      have f_8 : Frm 50 [(1, .int .i64 d1), (2, .pointer (some (⟨b_1, 0, none⟩))), (9, .bool false)] a_3 := f_7.keep (ks := [1, 2, 9]) (by kernel_rfl)
      refine W_run (L' := [(1, .int .i64 d1), (2, .pointer (some (⟨b_1, 0, none⟩))), (9, .bool false), (10, .pointer (some ((⟨b_1, 0, none⟩ : Addr).add 5)))]) (w' := w_1) f_8 1 [1, 2, 9, 10] (by kernel_rfl) (fun a_5 f_9 => ?_)
      refine W_eq (v := .slice A_1 d0.fL.length cap_1) f_9 (by kernel_rfl) (by kernel_rfl) rfl rfl (X_load1 (v := .slice A_1 d0.fL.length cap_1) rfl (ad := (⟨b_1, 0, none⟩ : Addr).add 5) (by kernel_rfl) (by kernel_rfl) (p_1.cell (hc_2 5 _ rfl))) (fun a_6 f_10 => ?_)
      refine W_run (L' := [(1, .int .i64 d1), (2, .pointer (some (⟨b_1, 0, none⟩))), (14, .bool (decide ((500 : Int) < ((d0.fL.length : Nat) : Int))))]) (w' := w_1) f_10 3 [1, 2, 14] (by kernel_rfl) (fun a_7 f_11 => ?_)
      refine W_end rfl ?_
      refine T_n ?_
      exact ⟨(decide ((500 : Int) < ((d0.fL.length : Nat) : Int))), (Option.some.inj hF_3).symm, M_1, (Mem.le_refl _), f_11.keep (ks := [1, 2, 14]) (by kernel_rfl), p_1⟩
  · rintro a_8 w_2 ⟨y_1, hq_1, M_2, hM_2, f_12, p_2⟩
    subst j_1
    refine T_n ?_
    refine R_cond f_12 (b := y_1) (by kernel_rfl) (by kernel_rfl) (fun h_3 => ?_) (fun h_3 => ?_)
    · have hF_4 := cnd_t h_3 hF_1
      refine R_seq ?_
      refine R_reg ?_
      refine W_run (L' := [(4, .int .i64 10000)]) (w' := w_2) f_12 1 [4] (by kernel_rfl) (fun a_9 f_13 => ?_)
      refine W_end rfl ?_
      refine T_n ?_
      refine wp_ret ?_
      refine T_r ?_
      refine E_ret1 f_13 rfl (by kernel_rfl : Vc.look _ 4 = some (.int .i64 10000)) ?_
      obtain rfl := Option.some.inj hF_4
      exact ⟨_, rfl, M_2, (hM_1.trans hM_2), p_2, rfl⟩
    · have hF_5 := cnd_f h_3 hF_1
      refine wp_skip ?_
      refine T_n ?_
      refine R_seq ?_
      refine R_reg ?_
      refine W_run (L' := [(1, .int .i64 d1), (2, .pointer (some (⟨b_1, 0, none⟩))), (15, .pointer (some ((⟨b_1, 0, none⟩ : Addr).add 1)))]) (w' := w_2) f_12 1 [1, 2, 15] (by kernel_rfl) (fun a_10 f_14 => ?_)
      refine W_eq (v := S d0.fText) f_14 (by kernel_rfl) (by kernel_rfl) rfl rfl (X_load1 (v := S d0.fText) rfl (ad := (⟨b_1, 0, none⟩ : Addr).add 1) (by kernel_rfl) (by kernel_rfl) (p_2.cell ((fun j v h => hM_2.cell (hc_2 j v h)) 1 _ rfl))) (fun a_11 f_15 => ?_)
      refine W_run (L' := [(1, .int .i64 d1), (2, .pointer (some (⟨b_1, 0, none⟩))), (17, .int .i64 (d0.fText.length : Int)), (18, .pointer (some ((⟨b_1, 0, none⟩ : Addr).add 3)))]) (w' := w_2) f_15 2 [1, 2, 17, 18] (by kernel_rfl) (fun a_12 f_16 => ?_)
      refine W_eq (v := S d0.fName) f_16 (by kernel_rfl) (by kernel_rfl) rfl rfl (X_load1 (v := S d0.fName) rfl (ad := (⟨b_1, 0, none⟩ : Addr).add 3) (by kernel_rfl) (by kernel_rfl) (p_2.cell ((fun j v h => hM_2.cell (hc_2 j v h)) 3 _ rfl))) (fun a_13 f_17 => ?_)
      refine W_run (L' := [(1, .int .i64 d1), (2, .pointer (some (⟨b_1, 0, none⟩))), (17, .int .i64 (d0.fText.length : Int)), (20, .int .i64 (d0.fName.length : Int))]) (w' := w_2) f_17 1 [1, 2, 17, 20] (by kernel_rfl) (fun a_14 f_18 => ?_)
      obtain ⟨g_1, hF_6⟩ := need_some hF_5
      refine W_run (L' := [(1, .int .i64 d1), (2, .pointer (some (⟨b_1, 0, none⟩))), (17, .int .i64 (d0.fText.length : Int)), (20, .int .i64 (d0.fName.length : Int)), (21, .int .i64 (IntKind.wrap .i64 ((d0.fText.length : Int) + (d0.fName.length : Int))))]) (w' := w_2) f_18 1 [1, 2, 17, 20, 21] (by kernel_rfl) (fun a_15 f_19 => ?_)
      have f_20 := Frm.set f_19 21 (v := .int .i64 (IntKind.wrap .i64 ((d0.fText.length : Int) + (d0.fName.length : Int)))) (v' := .int .i64 ((d0.fText.length : Int) + (d0.fName.length : Int))) (by kernel_rfl) (congrArg (Value.int .i64) (inR_wrap g_1))
      have f_21 : Frm 50 [(1, .int .i64 d1), (2, .pointer (some (⟨b_1, 0, none⟩))), (17, .int .i64 (d0.fText.length : Int)), (20, .int .i64 (d0.fName.length : Int)), (21, .int .i64 ((d0.fText.length : Int) + (d0.fName.length : Int)))] a_15 := f_20.keep (ks := [1, 2, 17, 20, 21]) (by kernel_rfl)
      refine W_run (L' := [(1, .int .i64 d1), (2, .pointer (some (⟨b_1, 0, none⟩))), (21, .int .i64 ((d0.fText.length : Int) + (d0.fName.length : Int))), (22, .pointer (some ((⟨b_1, 0, none⟩ : Addr).add 4)))]) (w' := w_2) f_21 1 [1, 2, 21, 22] (by kernel_rfl) (fun a_16 f_22 => ?_)
      refine W_eq (v := S d0.fAttr) f_22 (by kernel_rfl) (by kernel_rfl) rfl rfl (X_load1 (v := S d0.fAttr) rfl (ad := (⟨b_1, 0, none⟩ : Addr).add 4) (by kernel_rfl) (by kernel_rfl) (p_2.cell ((fun j v h => hM_2.cell (hc_2 j v h)) 4 _ rfl))) (fun a_17 f_23 => ?_)
      refine W_run (L' := [(1, .int .i64 d1), (2, .pointer (some (⟨b_1, 0, none⟩))), (21, .int .i64 ((d0.fText.length : Int) + (d0.fName.length : Int))), (24, .int .i64 (d0.fAttr.length : Int))]) (w' := w_2) f_23 1 [1, 2, 21, 24] (by kernel_rfl) (fun a_18 f_24 => ?_)
      obtain ⟨g_2, hF_7⟩ := need_some hF_6
      refine W_run (L' := [(1, .int .i64 d1), (2, .pointer (some (⟨b_1, 0, none⟩))), (21, .int .i64 ((d0.fText.length : Int) + (d0.fName.length : Int))), (24, .int .i64 (d0.fAttr.length : Int)), (25, .int .i64 (IntKind.wrap .i64 (((d0.fText.length : Int) + (d0.fName.length : Int)) + (d0.fAttr.length : Int))))]) (w' := w_2) f_24 1 [1, 2, 21, 24, 25] (by kernel_rfl) (fun a_19 f_25 => ?_)
      have f_26 := Frm.set f_25 25 (v := .int .i64 (IntKind.wrap .i64 (((d0.fText.length : Int) + (d0.fName.length : Int)) + (d0.fAttr.length : Int)))) (v' := .int .i64 (((d0.fText.length : Int) + (d0.fName.length : Int)) + (d0.fAttr.length : Int))) (by kernel_rfl) (congrArg (Value.int .i64) (inR_wrap g_2))
      have f_27 : Frm 50 [(1, .int .i64 d1), (2, .pointer (some (⟨b_1, 0, none⟩))), (21, .int .i64 ((d0.fText.length : Int) + (d0.fName.length : Int))), (24, .int .i64 (d0.fAttr.length : Int)), (25, .int .i64 (((d0.fText.length : Int) + (d0.fName.length : Int)) + (d0.fAttr.length : Int)))] a_19 := f_26.keep (ks := [1, 2, 21, 24, 25]) (by kernel_rfl)
      refine W_eq (v := .int .i64 (min (((d0.fText.length : Int) + (d0.fName.length : Int)) + (d0.fAttr.length : Int)) (10000 : Int))) f_27 (by kernel_rfl) (by kernel_rfl) rfl rfl (X_min (k := .i64) (a := ((d0.fText.length : Int) + (d0.fName.length : Int)) + (d0.fAttr.length : Int)) (b := (10000 : Int)) rfl (by kernel_rfl) (by kernel_rfl)) (fun a_20 f_28 => ?_)
      obtain ⟨g_3, hF_8⟩ := need_some hF_7
      refine W_run (L' := [(1, .int .i64 d1), (2, .pointer (some (⟨b_1, 0, none⟩))), (21, .int .i64 ((d0.fText.length : Int) + (d0.fName.length : Int))), (24, .int .i64 (d0.fAttr.length : Int)), (25, .int .i64 (((d0.fText.length : Int) + (d0.fName.length : Int)) + (d0.fAttr.length : Int))), (26, .int .i64 (min (((d0.fText.length : Int) + (d0.fName.length : Int)) + (d0.fAttr.length : Int)) (10000 : Int))), (27, .int .i64 (IntKind.wrap .i64 ((1 : Int) + (min (((d0.fText.length : Int) + (d0.fName.length : Int)) + (d0.fAttr.length : Int)) (10000 : Int)))))]) (w' := w_2) f_28 1 [1, 2, 21, 24, 25, 26, 27] (by kernel_rfl) (fun a_21 f_29 => ?_)
      have f_30 := Frm.set f_29 27 (v := .int .i64 (IntKind.wrap .i64 ((1 : Int) + (min (((d0.fText.length : Int) + (d0.fName.length : Int)) + (d0.fAttr.length : Int)) (10000 : Int))))) (v' := .int .i64 ((1 : Int) + (min (((d0.fText.length : Int) + (d0.fName.length : Int)) + (d0.fAttr.length : Int)) (10000 : Int)))) (by kernel_rfl) (congrArg (Value.int .i64) (inR_wrap g_3))
      have f_31 : Frm 50 [(1, .int .i64 d1), (2, .pointer (some (⟨b_1, 0, none⟩))), (21, .int .i64 ((d0.fText.length : Int) + (d0.fName.length : Int))), (24, .int .i64 (d0.fAttr.length : Int)), (25, .int .i64 (((d0.fText.length : Int) + (d0.fName.length : Int)) + (d0.fAttr.length : Int))), (26, .int .i64 (min (((d0.fText.length : Int) + (d0.fName.length : Int)) + (d0.fAttr.length : Int)) (10000 : Int))), (27, .int .i64 ((1 : Int) + (min (((d0.fText.length : Int) + (d0.fName.length : Int)) + (d0.fAttr.length : Int)) (10000 : Int))))] a_21 := f_30.keep (ks := [1, 2, 21, 24, 25, 26, 27]) (by kernel_rfl)
      refine W_run (L' := [(1, .int .i64 d1), (2, .pointer (some (⟨b_1, 0, none⟩))), (5, .int .i64 ((1 : Int) + (min (((d0.fText.length : Int) + (d0.fName.length : Int)) + (d0.fAttr.length : Int)) (10000 : Int))))]) (w' := w_2) f_31 1 [1, 2, 5] (by kernel_rfl) (fun a_22 f_32 => ?_)
      refine W_end rfl ?_
      refine T_n ?_
      refine R_seq ?_
      refine R_seq ?_
      refine R_reg ?_
      refine W_run (L' := [(1, .int .i64 d1), (2, .pointer (some (⟨b_1, 0, none⟩))), (5, .int .i64 ((1 : Int) + (min (((d0.fText.length : Int) + (d0.fName.length : Int)) + (d0.fAttr.length : Int)) (10000 : Int)))), (6, .int .i64 0)]) (w' := w_2) f_32 1 [1, 2, 5, 6] (by kernel_rfl) (fun a_23 f_33 => ?_)
      refine W_end rfl ?_
      refine T_n ?_
      refine wp_block ?_
      obtain ⟨b_2, hL_1, hF_9⟩ := bind_some' hF_8
      refine wp_mono (Q := fun e a w => (e = .exit 0 ∧ (∃ y_3 : Int, b_2 = y_3 ∧ ∃ M_5 : Mem, M_2.le M_5 ∧ Frm 50 [(5, .int .i64 y_3)] a ∧ Hp w0 M_5 (H) w))) (R_loop (n := 50) (w0 := w0) (M := M_2) (fun (x : Nat × (Int × Int)) => match x with | (m_1, s_1) => [(1, .int .i64 d1), (2, .pointer (some (⟨b_1, 0, none⟩))), (5, .int .i64 s_1.1), (6, .int .i64 s_1.2)]) (fun (x : Nat × (Int × Int)) => match x with | (m_1, s_1) => (H)) (fun (x : Nat × (Int × Int)) (MM : Mem) => match x with | (m_1, s_1) => loopF (ref12_weight_s1 n rec_ref12_weight d0 d1) m_1 s_1 = some b_2) (fun (x : Nat × (Int × Int)) => match x with | (m_1, s_1) => m_1) (n, ((1 : Int) + (min (((d0.fText.length : Int) + (d0.fName.length : Int)) + (d0.fAttr.length : Int)) (10000 : Int)), (0 : Int))) (f_33.keep (ks := [1, 2, 5, 6]) (by kernel_rfl)) p_2 hL_1 ?_) ?_
      · rintro ⟨m_1, s_1⟩ M_3 a_24 w_3 hM_3 I_1 f_34 p_3
        replace f_34 : Frm 50 [(1, .int .i64 d1), (2, .pointer (some (⟨b_1, 0, none⟩))), (5, .int .i64 s_1.1), (6, .int .i64 s_1.2)] a_24 := f_34
        replace p_3 : Hp w0 M_3 (H) w_3 := p_3
        have I_1L := I_1
        obtain ⟨m_2, r_1, rfl, hs_1, hn_1⟩ := loop_step I_1L
        unfold ref12_weight_s1 at hs_1
        refine R_seq ?_
        refine R_seq ?_
        obtain ⟨j_2, hj_2, hF_10⟩ := bind_some' hs_1
        refine R_mid (fun a_30 w_4 => ∃ y_2 : Bool, j_2 = y_2 ∧ ∃ M_4 : Mem, M_3.le M_4 ∧ Frm 50 [(1, .int .i64 d1), (2, .pointer (some (⟨b_1, 0, none⟩))), (5, .int .i64 s_1.1), (6, .int .i64 s_1.2), (36, .bool y_2)] a_30 ∧ Hp w0 M_4 (H) w_4) ?_ ?_
        · refine R_reg ?_
          refine W_run (L' := [(1, .int .i64 d1), (2, .pointer (some (⟨b_1, 0, none⟩))), (5, .int .i64 s_1.1), (6, .int .i64 s_1.2), (28, .int .i64 s_1.2), (29, .pointer (some ((⟨b_1, 0, none⟩ : Addr).add 5)))]) (w' := w_3) f_34 2 [1, 2, 5, 6, 28, 29] (by kernel_rfl) (fun a_25 f_35 => ?_)
          refine W_eq (v := .slice A_1 d0.fL.length cap_1) f_35 (by kernel_rfl) (by kernel_rfl) rfl rfl (X_load1 (v := .slice A_1 d0.fL.length cap_1) rfl (ad := (⟨b_1, 0, none⟩ : Addr).add 5) (by kernel_rfl) (by kernel_rfl) (p_3.cell ((fun j v h => (hM_2.trans hM_3).cell (hc_2 j v h)) 5 _ rfl))) (fun a_26 f_36 => ?_)
          refine W_run (L' := [(1, .int .i64 d1), (2, .pointer (some (⟨b_1, 0, none⟩))), (5, .int .i64 s_1.1), (6, .int .i64 s_1.2), (33, .bool (decide (s_1.2 < ((d0.fL.length : Nat) : Int))))]) (w' := w_3) f_36 3 [1, 2, 5, 6, 33] (by kernel_rfl) (fun a_27 f_37 => ?_)
          rcases Bool.eq_false_or_eq_true (decide (s_1.2 < ((d0.fL.length : Nat) : Int))) with h_4 | h_4
          · have k_5 : s_1.2 < ((d0.fL.length : Nat) : Int) := decide_eq_true_iff.1 h_4
            have hF_11 := cnd_t h_4 hj_2
            have f_38 := Frm.set f_37 33 (v := .bool (decide (s_1.2 < ((d0.fL.length : Nat) : Int)))) (v' := .bool true) (by kernel_rfl) (congrArg Value.bool h_4)
            have f_39 : Frm 50 [(1, .int .i64 d1), (2, .pointer (some (⟨b_1, 0, none⟩))), (5, .int .i64 s_1.1), (6, .int .i64 s_1.2), (33, .bool true)] a_27 := f_38.keep (ks := [1, 2, 5, 6, 33]) (by kernel_rfl)
            refine W_run (L' := [(1, .int .i64 d1), (2, .pointer (some (⟨b_1, 0, none⟩))), (5, .int .i64 s_1.1), (6, .int .i64 s_1.2), (36, .bool (decide (s_1.1 ≤ 10000)))]) (w' := w_3) f_39 3 [1, 2, 5, 6, 36] (by kernel_rfl) (fun a_28 f_40 => ?_)
            refine W_end rfl ?_
            refine T_n ?_
            exact ⟨(decide (s_1.1 ≤ 10000)), (Option.some.inj hF_11).symm, M_3, (Mem.le_refl _), f_40.keep (ks := [1, 2, 5, 6, 36]) (by kernel_rfl), p_3⟩
          · have k_6 : ¬ (s_1.2 < ((d0.fL.length : Nat) : Int)) := iff_f decide_eq_true_iff h_4
            have hF_12 := cnd_f h_4 hj_2
            have f_41 := Frm.set f_37 33 (v := .bool (decide (s_1.2 < ((d0.fL.length : Nat) : Int)))) (v' := .bool false) (by kernel_rfl) (congrArg Value.bool h_4)
            have f_42 : Frm 50 [(1, .int .i64 d1), (2, .pointer (some (⟨b_1, 0, none⟩))), (5, .int .i64 s_1.1), (6, .int .i64 s_1.2), (33, .bool false)] a_27 := f_41.keep (ks := [1, 2, 5, 6, 33]) (by kernel_rfl)
            refine W_run (L' := [(1, .int .i64 d1), (2, .pointer (some (⟨b_1, 0, none⟩))), (5, .int .i64 s_1.1), (6, .int .i64 s_1.2), (36, .bool false)]) (w' := w_3) f_42 3 [1, 2, 5, 6, 36] (by kernel_rfl) (fun a_29 f_43 => ?_)
            refine W_end rfl ?_
            refine T_n ?_
            exact ⟨(false), (Option.some.inj hF_12).symm, M_3, (Mem.le_refl _), f_43.keep (ks := [1, 2, 5, 6, 36]) (by kernel_rfl), p_3⟩
        · rintro a_30 w_4 ⟨y_2, hq_2, M_4, hM_4, f_44, p_4⟩
          subst j_2
          refine T_n ?_
          refine R_cond f_44 (b := y_2) (by kernel_rfl) (by kernel_rfl) (fun h_5 => ?_) (fun h_5 => ?_)
          · have hF_13 := cnd_t h_5 hF_10
            refine wp_skip ?_
            refine T_n ?_
            refine R_seq ?_
            refine wp_block ?_
            refine R_reg ?_
            refine W_run (L' := [(1, .int .i64 d1), (2, .pointer (some (⟨b_1, 0, none⟩))), (6, .int .i64 s_1.2), (39, .int .i64 s_1.1), (40, .pointer (some ((⟨b_1, 0, none⟩ : Addr).add 5)))]) (w' := w_4) f_44 2 [1, 2, 6, 39, 40] (by kernel_rfl) (fun a_31 f_45 => ?_)
            refine W_eq (v := .slice A_1 d0.fL.length cap_1) f_45 (by kernel_rfl) (by kernel_rfl) rfl rfl (X_load1 (v := .slice A_1 d0.fL.length cap_1) rfl (ad := (⟨b_1, 0, none⟩ : Addr).add 5) (by kernel_rfl) (by kernel_rfl) (p_4.cell ((fun j v h => ((hM_2.trans hM_3).trans hM_4).cell (hc_2 j v h)) 5 _ rfl))) (fun a_32 f_46 => ?_)
            refine W_run (L' := [(1, .int .i64 d1), (2, .pointer (some (⟨b_1, 0, none⟩))), (6, .int .i64 s_1.2), (39, .int .i64 s_1.1), (41, .slice A_1 d0.fL.length cap_1), (42, .int .i64 s_1.2)]) (w' := w_4) f_46 1 [1, 2, 6, 39, 41, 42] (by kernel_rfl) (fun a_33 f_47 => ?_)
            obtain ⟨x_1, hx_1, hF_14⟩ := bind_some' hF_13
            obtain ⟨ad_1, c_1, e_1, hl_1, hr_1, hc_3⟩ := Sli.at_ (h_1.mono (((hM_1.trans hM_2).trans hM_3).trans hM_4)) hx_1
            clear hl_1
            obtain ⟨A_2, cap_2, rfl, h_6⟩ := T_api_Expr.opn hr_1
            refine W_eq (v := .pointer (some (ad_1.add (s_1.2.toNat * 6)))) f_47 (by kernel_rfl) (by kernel_rfl) rfl rfl (X_indexAddrA e_1 rfl (len := d0.fL.length) (cap := cap_1) (k := .i64) (i := s_1.2) (by kernel_rfl) (by kernel_rfl) (e := 29) (by kernel_rfl) (sz := 6) (by kernel_rfl) (getI_nn hx_1) (getI_lt hx_1)) (fun a_34 f_48 => ?_)
            refine W_eq (v := .agg #[.int .i8 x_1.fKind, S x_1.fText, .int .i64 x_1.fNum, S x_1.fName, S x_1.fAttr, .slice A_2 x_1.fL.length cap_2]) f_48 (by kernel_rfl) (by kernel_rfl) rfl rfl (X_loadN (cs := [.int .i8 x_1.fKind, S x_1.fText, .int .i64 x_1.fNum, S x_1.fName, S x_1.fAttr, .slice A_2 x_1.fL.length cap_2]) rfl (ad := ad_1.add (s_1.2.toNat * 6)) (by kernel_rfl) (by kernel_rfl) (fun j v h => p_4.cell (hc_3 j v h))) (fun a_35 f_49 => ?_)
            refine W_run (L' := [(1, .int .i64 d1), (2, .pointer (some (⟨b_1, 0, none⟩))), (6, .int .i64 s_1.2), (39, .int .i64 s_1.1), (44, .agg #[.int .i8 x_1.fKind, S x_1.fText, .int .i64 x_1.fNum, S x_1.fName, S x_1.fAttr, .slice A_2 x_1.fL.length cap_2]), (45, .int .i64 d1)]) (w' := w_4) f_49 1 [1, 2, 6, 39, 44, 45] (by kernel_rfl) (fun a_36 f_50 => ?_)
            obtain ⟨g_4, hF_15⟩ := need_some hF_14
            refine W_run (L' := [(1, .int .i64 d1), (2, .pointer (some (⟨b_1, 0, none⟩))), (6, .int .i64 s_1.2), (39, .int .i64 s_1.1), (44, .agg #[.int .i8 x_1.fKind, S x_1.fText, .int .i64 x_1.fNum, S x_1.fName, S x_1.fAttr, .slice A_2 x_1.fL.length cap_2]), (45, .int .i64 d1), (46, .int .i64 (IntKind.wrap .i64 (d1 - 1)))]) (w' := w_4) f_50 1 [1, 2, 6, 39, 44, 45, 46] (by kernel_rfl) (fun a_37 f_51 => ?_)
            have f_52 := Frm.set f_51 46 (v := .int .i64 (IntKind.wrap .i64 (d1 - 1))) (v' := .int .i64 (d1 - 1)) (by kernel_rfl) (congrArg (Value.int .i64) (inR_wrap g_4))
            have f_53 : Frm 50 [(1, .int .i64 d1), (2, .pointer (some (⟨b_1, 0, none⟩))), (6, .int .i64 s_1.2), (39, .int .i64 s_1.1), (44, .agg #[.int .i8 x_1.fKind, S x_1.fText, .int .i64 x_1.fNum, S x_1.fName, S x_1.fAttr, .slice A_2 x_1.fL.length cap_2]), (45, .int .i64 d1), (46, .int .i64 (d1 - 1))] a_37 := f_52.keep (ks := [1, 2, 6, 39, 44, 45, 46]) (by kernel_rfl)
            obtain ⟨x_2, hx_2, hF_16⟩ := bind_some' hF_15
            refine W_okv (v := .int .i64 x_2) f_53 p_4 (by kernel_rfl) (by kernel_rfl) rfl rfl (fun _ => by kernel_rfl) (hrec_ref12_weight _ [.int .i8 x_1.fKind, S x_1.fText, .int .i64 x_1.fNum, S x_1.fName, S x_1.fAttr, .slice A_2 x_1.fL.length cap_2] x_1 (T_api_Expr.shutx (x := x_1) h_6) (d1 - 1) x_2 hx_2) (fun w_5 p_5 a_38 f_54 => ?_)
            obtain ⟨g_5, hF_17⟩ := need_some hF_16
            refine W_run (L' := [(1, .int .i64 d1), (2, .pointer (some (⟨b_1, 0, none⟩))), (6, .int .i64 s_1.2), (39, .int .i64 s_1.1), (44, .agg #[.int .i8 x_1.fKind, S x_1.fText, .int .i64 x_1.fNum, S x_1.fName, S x_1.fAttr, .slice A_2 x_1.fL.length cap_2]), (45, .int .i64 d1), (46, .int .i64 (d1 - 1)), (47, .int .i64 x_2), (48, .int .i64 (IntKind.wrap .i64 (s_1.1 + x_2)))]) (w' := w_5) f_54 1 [1, 2, 6, 39, 44, 45, 46, 47, 48] (by kernel_rfl) (fun a_39 f_55 => ?_)
            have f_56 := Frm.set f_55 48 (v := .int .i64 (IntKind.wrap .i64 (s_1.1 + x_2))) (v' := .int .i64 (s_1.1 + x_2)) (by kernel_rfl) (congrArg (Value.int .i64) (inR_wrap g_5))
            have f_57 : Frm 50 [(1, .int .i64 d1), (2, .pointer (some (⟨b_1, 0, none⟩))), (6, .int .i64 s_1.2), (39, .int .i64 s_1.1), (44, .agg #[.int .i8 x_1.fKind, S x_1.fText, .int .i64 x_1.fNum, S x_1.fName, S x_1.fAttr, .slice A_2 x_1.fL.length cap_2]), (45, .int .i64 d1), (46, .int .i64 (d1 - 1)), (47, .int .i64 x_2), (48, .int .i64 (s_1.1 + x_2))] a_39 := f_56.keep (ks := [1, 2, 6, 39, 44, 45, 46, 47, 48]) (by kernel_rfl)
            refine W_run (L' := [(1, .int .i64 d1), (2, .pointer (some (⟨b_1, 0, none⟩))), (5, .int .i64 (s_1.1 + x_2)), (6, .int .i64 s_1.2)]) (w' := w_5) f_57 1 [1, 2, 5, 6] (by kernel_rfl) (fun a_40 f_58 => ?_)
            refine W_end rfl ?_
            refine B_n ?_
            refine T_n ?_
            refine R_reg ?_
            refine W_run (L' := [(1, .int .i64 d1), (2, .pointer (some (⟨b_1, 0, none⟩))), (5, .int .i64 (s_1.1 + x_2)), (37, .int .i64 s_1.2)]) (w' := w_5) f_58 1 [1, 2, 5, 37] (by kernel_rfl) (fun a_41 f_59 => ?_)
            obtain ⟨g_6, hF_18⟩ := need_some hF_17
            refine W_run (L' := [(1, .int .i64 d1), (2, .pointer (some (⟨b_1, 0, none⟩))), (5, .int .i64 (s_1.1 + x_2)), (37, .int .i64 s_1.2), (38, .int .i64 (IntKind.wrap .i64 (s_1.2 + 1)))]) (w' := w_5) f_59 1 [1, 2, 5, 37, 38] (by kernel_rfl) (fun a_42 f_60 => ?_)
            have f_61 := Frm.set f_60 38 (v := .int .i64 (IntKind.wrap .i64 (s_1.2 + 1))) (v' := .int .i64 (s_1.2 + 1)) (by kernel_rfl) (congrArg (Value.int .i64) (inR_wrap g_6))
            have f_62 : Frm 50 [(1, .int .i64 d1), (2, .pointer (some (⟨b_1, 0, none⟩))), (5, .int .i64 (s_1.1 + x_2)), (37, .int .i64 s_1.2), (38, .int .i64 (s_1.2 + 1))] a_42 := f_61.keep (ks := [1, 2, 5, 37, 38]) (by kernel_rfl)
            refine W_run (L' := [(1, .int .i64 d1), (2, .pointer (some (⟨b_1, 0, none⟩))), (5, .int .i64 (s_1.1 + x_2)), (6, .int .i64 (s_1.2 + 1))]) (w' := w_5) f_62 1 [1, 2, 5, 6] (by kernel_rfl) (fun a_43 f_63 => ?_)
            refine W_end rfl ?_
            refine T_n ?_
            obtain rfl := Option.some.inj hF_18
            exact ⟨⟨m_2, (s_1.1 + x_2, s_1.2 + 1)⟩, Nat.lt_succ_self _, M_4, (hM_3.trans hM_4), hn_1, f_63.keep (ks := [1, 2, 5, 6]) (by kernel_rfl), p_5⟩
          · have hF_19 := cnd_f h_5 hF_10
            refine wp_exit ?_
            refine T_x ?_
            refine T_x ?_
            obtain rfl := Option.some.inj hF_19
            exact ⟨rfl, s_1.1, (Option.some.inj hn_1).symm, M_4, (hM_3.trans hM_4), f_44.keep (ks := [5]) (by kernel_rfl), p_4⟩
      · rintro _ a_45 w_7 ⟨rfl, y_3, hq_, M_5, hM_5, f_64, p_6⟩
        subst b_2
        refine B_x ?_
        refine T_n ?_
        refine R_seq ?_
        refine R_reg ?_
        refine W_run (L' := [(4, .int .i64 y_3)]) (w' := w_7) f_64 2 [4] (by kernel_rfl) (fun a_46 f_65 => ?_)
        refine W_end rfl ?_
        refine T_n ?_
        refine wp_ret ?_
        refine E_ret1 f_65 rfl (by kernel_rfl : Vc.look _ 4 = some (.int .i64 y_3)) ?_
        obtain rfl := Option.some.inj hF_9
        exact ⟨_, rfl, M_5, ((hM_1.trans hM_2).trans hM_5), p_6, rfl⟩
def ref12_weight_k (n : Nat) : Nat → T_api_Expr → Int → Option Int
  | 0 => fun _ _ => none
  | k + 1 => ref12_weight_b n (ref12_weight_k n k)
def ref12_weight (n : Nat) (d0 : T_api_Expr) (d1 : Int) : Option Int := ref12_weight_k n n d0 d1
theorem ref12_weight_ok (n : Nat) (M : Mem) (c0 : List Value) (d0 : T_api_Expr) (h0 : Rep M (emb_T_api_Expr d0) c0) (d1 : Int) (r : Int) (hF : ref12_weight n d0 d1 = some r) : Ok Tryd.prog M 51 [.agg c0.toArray, .int .i64 d1] (fun _ v => v = .int .i64 r) := by
  have key : ∀ (k : Nat) (M : Mem) (c0 : List Value) (d0 : T_api_Expr) (h0 : Rep M (emb_T_api_Expr d0) c0) (d1 : Int) (r : Int) (hF : ref12_weight_k n k d0 d1 = some r), Ok Tryd.prog M 51 [.agg c0.toArray, .int .i64 d1] (fun _ v => v = .int .i64 r) := by
    intro k
    induction k with
    | zero => intro M c0 d0 h0 d1 r hF; simp [ref12_weight_k] at hF
    | succ k ih => intro M c0 d0 h0 d1 r hF; exact ref12_weight_b_ok n (ref12_weight_k n k) ih M c0 d0 h0 d1 r hF
  exact key n M c0 d0 h0 d1 r hF

def ref12_Great (n : Nat) (d0 : T_api_Expr) : Option Bool :=
  (ref12_weight n d0 (30 : Int)).bind fun x_1 =>
  some ((decide ((3000 : Int) < x_1)))
theorem ref12_Great_ok (n : Nat) (M : Mem) (c0 : List Value) (d0 : T_api_Expr) (h0 : Rep M (emb_T_api_Expr d0) c0) (r : Bool) (hF : ref12_Great n d0 = some r) : Ok Tryd.prog M 37 [.agg c0.toArray] (fun _ v => v = .bool r) := by
  unfold ref12_Great at hF
  intro M1 hM0 w0 H w p0
  replace h0 := Rep.mono hM0 _ _ h0
  obtain ⟨A_1, cap_1, rfl, h_1⟩ := T_api_Expr.opn h0
  refine R_enter 6 Tryd.func37 rfl rfl (by simp) (fun a0 f0 => ?_)
  replace f0 : Frm 6 [(0, .agg #[.int .i8 d0.fKind, S d0.fText, .int .i64 d0.fNum, S d0.fName, S d0.fAttr, .slice A_1 d0.fL.length cap_1])] a0 := f0
  refine R_seq ?_
  refine R_reg ?_
  refine W_box (cs := #[.int .i8 d0.fKind, S d0.fText, .int .i64 d0.fNum, S d0.fName, S d0.fAttr, .slice A_1 d0.fL.length cap_1]) (T := 29) f0 p0 1 [0, 1] (fun b_1 => [(0, .agg #[.int .i8 d0.fKind, S d0.fText, .int .i64 d0.fNum, S d0.fName, S d0.fAttr, .slice A_1 d0.fL.length cap_1]), (1, .pointer (some (⟨b_1, 0, none⟩)))]) (fun _ => by kernel_rfl) (fun b_1 M_1 w_1 hM_1 hc_1 p_1 a_1 f_1 => ?_)
  replace f_1 : Frm 6 [(0, .agg #[.int .i8 d0.fKind, S d0.fText, .int .i64 d0.fNum, S d0.fName, S d0.fAttr, .slice A_1 d0.fL.length cap_1]), (1, .pointer (some (⟨b_1, 0, none⟩)))] a_1 := f_1
  have hc_2 := fz_box hc_1
  refine W_run (L' := [(1, .pointer (some (⟨b_1, 0, none⟩)))]) (w' := w_1) f_1 1 [1] (by kernel_rfl) (fun a_2 f_2 => ?_)
  refine W_end rfl ?_
  refine T_n ?_
  refine R_seq ?_
  refine R_reg ?_
  refine W_eq (v := .agg #[.int .i8 d0.fKind, S d0.fText, .int .i64 d0.fNum, S d0.fName, S d0.fAttr, .slice A_1 d0.fL.length cap_1]) f_2 (by kernel_rfl) (by kernel_rfl) rfl rfl (X_loadN (cs := [.int .i8 d0.fKind, S d0.fText, .int .i64 d0.fNum, S d0.fName, S d0.fAttr, .slice A_1 d0.fL.length cap_1]) rfl (ad := ⟨b_1, 0, none⟩) (by kernel_rfl) (by kernel_rfl) (fun j v h => p_1.cell (hc_2 j v h))) (fun a_3 f_3 => ?_)
  obtain ⟨x_1, hx_1, hF_1⟩ := bind_some' hF
  refine W_okv (v := .int .i64 x_1) f_3 p_1 (by kernel_rfl) (by kernel_rfl) rfl rfl (fun _ => by kernel_rfl) (ref12_weight_ok n _ [.int .i8 d0.fKind, S d0.fText, .int .i64 d0.fNum, S d0.fName, S d0.fAttr, .slice A_1 d0.fL.length cap_1] d0 (T_api_Expr.shutx (x := d0) (h_1.mono hM_1)) (30 : Int) x_1 hx_1) (fun w_2 p_2 a_4 f_4 => ?_)
  refine W_run (L' := [(2, .bool (decide ((3000 : Int) < x_1)))]) (w' := w_2) f_4 2 [2] (by kernel_rfl) (fun a_5 f_5 => ?_)
  refine W_end rfl ?_
  refine T_n ?_
  refine wp_ret ?_
  refine E_ret1 f_5 rfl (by kernel_rfl : Vc.look _ 2 = some (.bool (decide ((3000 : Int) < x_1)))) ?_
  obtain rfl := Option.some.inj hF_1
  exact ⟨_, rfl, M_1, hM_1, p_2, rfl⟩
end Go.Proofs.YtdmjgmleilgbpaaDoor
