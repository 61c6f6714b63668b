/-
  Printed by a program: of each function its shallow reading, and the proof that the function gives what the reading gives. No condition.
-/
import Derived.Test.YtdmjgmleilgbpaaDoorQ7g
import Derived.Test.YtdmjgmleilgbpaaDoorQ5
import Derived.Test.YtdmjgmleilgbpaaDoorQ2w
set_option linter.unusedVariables false
set_option linter.unusedSimpArgs false
namespace Go.Proofs.YtdmjgmleilgbpaaDoor
open Go Go.Vc Go.RowKit
def law12_SubWrites (n : Nat) (d0 : List T_api_Expr) : Option Bool :=
  (law12_great n d0).bind fun x_1 =>
  bif x_1 then
    ((law12_wakes n).bind fun x_2 =>
    some ((x_2)))
  else
    (sub_Write n d0).bind fun x_3 =>
    (ref12_Write n d0).bind fun x_4 =>
    bif (decide (x_3.1 = x_4.1)) then
      (bif (decide (x_3.2 = x_4.2)) then
        ((law12_wakes n).bind fun x_5 =>
        some ((x_5)))
      else
        some ((false)))
    else
      some ((false))
theorem law12_SubWrites_ok (n : Nat) (M : Mem) (hG : GL M) (A0 : Option Addr) (cap0 : Nat) (d0 : List T_api_Expr) (h0 : Sli M 6 emb_T_api_Expr A0 cap0 d0) (r : Bool) (hF : law12_SubWrites n d0 = some r) : Ok Tryd.prog M 6 [.slice A0 d0.length cap0] (fun _ v => v = .bool r) := by
  unfold law12_SubWrites at hF
  intro M1 hM0 w0 H w p0
  replace hG := GL.mono hM0 hG
  replace h0 := h0.mono hM0
  refine R_enter 31 Tryd.func6 rfl rfl (by simp) (fun a0 f0 => ?_)
  replace f0 : Frm 31 [(0, .slice A0 d0.length cap0)] a0 := f0
  refine R_seq ?_
  refine R_reg ?_
  refine W_run (L' := [(0, .slice A0 d0.length cap0)]) (w' := w) f0 1 [0] (by kernel_rfl) (fun a_1 f_1 => ?_)
  refine W_end rfl ?_
  refine T_n ?_
  refine R_seq ?_
  refine R_seq ?_
  refine R_reg ?_
  refine W_run (L' := [(0, .slice A0 d0.length cap0), (7, .slice A0 d0.length cap0)]) (w' := w) f_1 1 [0, 7] (by kernel_rfl) (fun a_2 f_2 => ?_)
  obtain ⟨x_1, hx_1, hF_1⟩ := bind_some' hF
  refine W_okv (v := .bool x_1) f_2 p0 (by kernel_rfl) (by kernel_rfl) rfl rfl (fun _ => by kernel_rfl) (law12_great_ok n _ hG A0 cap0 d0 h0 x_1 hx_1) (fun w_1 p_1 a_3 f_3 => ?_)
  refine W_end rfl ?_
  refine T_n ?_
  refine R_cond f_3 (b := x_1) (by kernel_rfl) (by kernel_rfl) (fun h_1 => ?_) (fun h_1 => ?_)
  · have hF_2 := cnd_t h_1 hF_1
    refine R_seq ?_
    refine R_reg ?_
    obtain ⟨x_2, hx_2, hF_3⟩ := bind_some' hF_2
    refine W_okv (v := .bool x_2) f_3 p_1 (by kernel_rfl) (by kernel_rfl) rfl rfl (fun _ => by kernel_rfl) (law12_wakes_ok n _ hG x_2 hx_2) (fun w_2 p_2 a_4 f_4 => ?_)
    refine W_run (L' := [(2, .bool x_2)]) (w' := w_2) f_4 1 [2] (by kernel_rfl) (fun a_5 f_5 => ?_)
    refine W_end rfl ?_
    refine T_n ?_
    refine wp_ret ?_
    refine T_r ?_
    refine E_ret1 f_5 rfl (by kernel_rfl : Vc.look _ 2 = some (.bool x_2)) ?_
    obtain rfl := Option.some.inj hF_3
    exact ⟨_, rfl, M1, (Mem.le_refl _), p_2, rfl⟩
  · have hF_4 := cnd_f h_1 hF_1
    refine wp_skip ?_
    refine T_n ?_
    refine R_seq ?_
    refine R_reg ?_
    refine W_run (L' := [(0, .slice A0 d0.length cap0), (11, .slice A0 d0.length cap0)]) (w' := w_1) f_3 1 [0, 11] (by kernel_rfl) (fun a_6 f_6 => ?_)
    obtain ⟨x_3, hx_3, hF_5⟩ := bind_some' hF_4
    refine W_okv (v := .tuple #[S x_3.1, .int .i64 x_3.2]) f_6 p_1 (by kernel_rfl) (by kernel_rfl) rfl rfl (fun _ => by kernel_rfl) (sub_Write_ok n _ hG A0 cap0 d0 h0 x_3 hx_3) (fun w_3 p_3 a_7 f_7 => ?_)
    refine W_run (L' := [(0, .slice A0 d0.length cap0), (3, S x_3.1), (4, .int .i64 x_3.2)]) (w' := w_3) f_7 5 [0, 3, 4] (by kernel_rfl) (fun a_8 f_8 => ?_)
    refine W_end rfl ?_
    refine T_n ?_
    refine R_seq ?_
    refine R_reg ?_
    refine W_run (L' := [(3, S x_3.1), (4, .int .i64 x_3.2), (16, .slice A0 d0.length cap0)]) (w' := w_3) f_8 1 [3, 4, 16] (by kernel_rfl) (fun a_9 f_9 => ?_)
    obtain ⟨x_4, hx_4, hF_6⟩ := bind_some' hF_5
    refine W_okv (v := .tuple #[S x_4.1, .int .i64 x_4.2]) f_9 p_3 (by kernel_rfl) (by kernel_rfl) rfl rfl (fun _ => by kernel_rfl) (ref12_Write_ok n _ A0 cap0 d0 h0 x_4 hx_4) (fun w_4 p_4 a_10 f_10 => ?_)
    refine W_run (L' := [(3, S x_3.1), (4, .int .i64 x_3.2), (5, S x_4.1), (6, .int .i64 x_4.2)]) (w' := w_4) f_10 5 [3, 4, 5, 6] (by kernel_rfl) (fun a_11 f_11 => ?_)
    refine W_end rfl ?_
    refine T_n ?_
    refine R_seq ?_
    refine R_reg ?_
    refine W_run (L' := [(4, .int .i64 x_3.2), (6, .int .i64 x_4.2), (20, S x_3.1), (21, S x_4.1)]) (w' := w_4) f_11 2 [4, 6, 20, 21] (by kernel_rfl) (fun a_12 f_12 => ?_)
    refine W_eq (v := .bool (decide (x_3.1 = x_4.1))) f_12 (by kernel_rfl) (by kernel_rfl) rfl rfl (X_streq rfl (l := x_3.1) (m := x_4.1) (by kernel_rfl) (by kernel_rfl)) (fun a_13 f_13 => ?_)
    refine W_run (L' := [(4, .int .i64 x_3.2), (6, .int .i64 x_4.2), (23, .bool (decide (x_3.1 = x_4.1)))]) (w' := w_4) f_13 1 [4, 6, 23] (by kernel_rfl) (fun a_14 f_14 => ?_)
    rcases Bool.eq_false_or_eq_true (decide (x_3.1 = x_4.1)) with h_2 | h_2
    · have k_3 : x_3.1 = x_4.1 := decide_eq_true_iff.1 h_2
      have hF_7 := cnd_t h_2 hF_6
      have f_15 := Frm.set f_14 23 (v := .bool (decide (x_3.1 = x_4.1))) (v' := .bool true) (by kernel_rfl) (congrArg Value.bool h_2)
      have f_16 : Frm 31 [(4, .int .i64 x_3.2), (6, .int .i64 x_4.2), (23, .bool true)] a_14 := f_15.keep (ks := [4, 6, 23]) (by kernel_rfl)
      refine W_run (L' := [(28, .bool (decide (x_3.2 = x_4.2)))]) (w' := w_4) f_16 5 [28] (by kernel_rfl) (fun a_15 f_17 => ?_)
      rcases Bool.eq_false_or_eq_true (decide (x_3.2 = x_4.2)) with h_3 | h_3
      · have k_4 : x_3.2 = x_4.2 := decide_eq_true_iff.1 h_3
        have hF_8 := cnd_t h_3 hF_7
        have f_18 := Frm.set f_17 28 (v := .bool (decide (x_3.2 = x_4.2))) (v' := .bool true) (by kernel_rfl) (congrArg Value.bool h_3)
        have f_19 : Frm 31 [(28, .bool true)] a_15 := f_18.keep (ks := [28]) (by kernel_rfl)
        obtain ⟨x_5, hx_5, hF_9⟩ := bind_some' hF_8
        refine W_okv (v := .bool x_5) f_19 p_4 (by kernel_rfl) (by kernel_rfl) rfl rfl (fun _ => by kernel_rfl) (law12_wakes_ok n _ hG x_5 hx_5) (fun w_5 p_5 a_16 f_20 => ?_)
        refine W_run (L' := [(2, .bool x_5)]) (w' := w_5) f_20 2 [2] (by kernel_rfl) (fun a_17 f_21 => ?_)
        refine W_end rfl ?_
        refine T_n ?_
        refine wp_ret ?_
        refine E_ret1 f_21 rfl (by kernel_rfl : Vc.look _ 2 = some (.bool x_5)) ?_
        obtain rfl := Option.some.inj hF_9
        exact ⟨_, rfl, M1, (Mem.le_refl _), p_5, rfl⟩
      · have k_5 : ¬ (x_3.2 = x_4.2) := iff_f decide_eq_true_iff h_3
        have hF_10 := cnd_f h_3 hF_7
        have f_22 := Frm.set f_17 28 (v := .bool (decide (x_3.2 = x_4.2))) (v' := .bool false) (by kernel_rfl) (congrArg Value.bool h_3)
        have f_23 : Frm 31 [(28, .bool false)] a_15 := f_22.keep (ks := [28]) (by kernel_rfl)
        refine W_run (L' := [(2, .bool false)]) (w' := w_4) f_23 3 [2] (by kernel_rfl) (fun a_18 f_24 => ?_)
        refine W_end rfl ?_
        refine T_n ?_
        refine wp_ret ?_
        refine E_ret1 f_24 rfl (by kernel_rfl : Vc.look _ 2 = some (.bool false)) ?_
        obtain rfl := Option.some.inj hF_10
        exact ⟨_, rfl, M1, (Mem.le_refl _), p_4, rfl⟩
    · have k_6 : ¬ (x_3.1 = x_4.1) := iff_f decide_eq_true_iff h_2
      have hF_11 := cnd_f h_2 hF_6
      have f_25 := Frm.set f_14 23 (v := .bool (decide (x_3.1 = x_4.1))) (v' := .bool false) (by kernel_rfl) (congrArg Value.bool h_2)
      have f_26 : Frm 31 [(4, .int .i64 x_3.2), (6, .int .i64 x_4.2), (23, .bool false)] a_14 := f_25.keep (ks := [4, 6, 23]) (by kernel_rfl)
      refine W_run (L' := [(2, .bool false)]) (w' := w_4) f_26 8 [2] (by kernel_rfl) (fun a_19 f_27 => ?_)
      refine W_end rfl ?_
      refine T_n ?_
      refine wp_ret ?_
      refine E_ret1 f_27 rfl (by kernel_rfl : Vc.look _ 2 = some (.bool false)) ?_
      obtain rfl := Option.some.inj hF_11
      exact ⟨_, rfl, M1, (Mem.le_refl _), p_4, rfl⟩
end Go.Proofs.YtdmjgmleilgbpaaDoor
