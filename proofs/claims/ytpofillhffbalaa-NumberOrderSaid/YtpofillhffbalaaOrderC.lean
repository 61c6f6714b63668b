/-
  The contract of the law NumberOrder: it answers true.
-/
import Derived.Test.YtpofillhffbalaaTextC
import Derived.Test.YtpofillhffbalaaNum2
set_option linter.unusedVariables false
set_option linter.unusedSimpArgs false
namespace Go.Proofs.Ytpofillhffbalaa
open Go Go.Vc Go.RowKit Go.Num
theorem not_or3 {a b c : Prop} (h : ¬ (¬ a ∨ (¬ b ∨ ¬ c))) : a ∧ b ∧ c := by simpa [not_or] using h
theorem numberOrder_ok (M : Mem) (n m : Int) : Ok Try.prog M 4 [.int .i64 n, .int .i64 m] (fun _ v => v = .bool true) := by
  intro w0 H w p0
  refine R_enter 75 Try.func4 rfl rfl (by simp) (fun a0 f0 => ?_)
  replace f0 : Frm 75 [(0, .int .i64 n), (1, .int .i64 m)] a0 := f0
  refine R_seq ?_
  refine R_reg ?_
  refine W_run (L' := [(0, .int .i64 n), (1, .int .i64 m)]) (w' := w) f0 1 [0, 1] (by kernel_rfl) (fun a_1 f_1 => ?_)
  refine W_end rfl ?_
  refine T_n ?_
  refine R_seq ?_
  refine R_reg ?_
  refine W_run (L' := [(0, .int .i64 n), (1, .int .i64 m), (10, .int .i64 n)]) (w' := w) f_1 1 [0, 1, 10] (by kernel_rfl) (fun a_2 f_2 => ?_)
  refine W_okv (v := .tuple #[S (text n).1, .int .i64 (text n).2]) f_2 p0 (by kernel_rfl) (by kernel_rfl) rfl rfl (fun _ => by kernel_rfl) (textP_ok _ (n)) (fun w_1 p_1 a_3 f_3 => ?_)
  refine W_run (L' := [(0, .int .i64 n), (1, .int .i64 m), (5, S (text n).1), (6, .int .i64 (text n).2)]) (w' := w_1) f_3 5 [0, 1, 5, 6] (by kernel_rfl) (fun a_4 f_4 => ?_)
  refine W_end rfl ?_
  refine T_n ?_
  refine R_seq ?_
  refine R_reg ?_
  refine W_run (L' := [(0, .int .i64 n), (1, .int .i64 m), (5, S (text n).1), (6, .int .i64 (text n).2), (15, .int .i64 m)]) (w' := w_1) f_4 1 [0, 1, 5, 6, 15] (by kernel_rfl) (fun a_5 f_5 => ?_)
  refine W_okv (v := .tuple #[S (text m).1, .int .i64 (text m).2]) f_5 p_1 (by kernel_rfl) (by kernel_rfl) rfl rfl (fun _ => by kernel_rfl) (textP_ok _ (m)) (fun w_2 p_2 a_6 f_6 => ?_)
  refine W_run (L' := [(0, .int .i64 n), (1, .int .i64 m), (5, S (text n).1), (6, .int .i64 (text n).2), (7, S (text m).1), (8, .int .i64 (text m).2)]) (w' := w_2) f_6 5 [0, 1, 5, 6, 7, 8] (by kernel_rfl) (fun a_7 f_7 => ?_)
  refine W_end rfl ?_
  refine T_n ?_
  refine R_seq ?_
  refine R_seq ?_
  refine R_mid (fun a_8 w_3 => Frm 75 [(0, .int .i64 n), (1, .int .i64 m), (5, S (text n).1), (7, S (text m).1), (31, .bool ((!(decide ((text n).2 = 0))) || ((!(decide ((text m).2 = 0))) || (!((decide (n < 0)) == (decide (m < 0)))))))] a_8 ∧ Hp w0 M (H) w_3) ?_ ?_
  · refine R_reg ?_
    refine W_run (L' := [(0, .int .i64 n), (1, .int .i64 m), (5, S (text n).1), (7, S (text m).1), (8, .int .i64 (text m).2), (21, .bool (!(decide ((text n).2 = 0))))]) (w' := w_2) f_7 3 [0, 1, 5, 7, 8, 21] (by kernel_rfl) (fun a_9 f_9 => ?_)
    rcases Bool.eq_false_or_eq_true (!(decide ((text n).2 = 0))) with h_1 | h_1
    · have k_1 : ¬ ((text n).2 = 0) := (not_iff decide_eq_true_iff).1 h_1
      have f_10 := Frm.set f_9 21 (v := .bool (!(decide ((text n).2 = 0)))) (v' := .bool true) (by kernel_rfl) (congrArg Value.bool h_1)
      have f_11 : Frm 75 [(0, .int .i64 n), (1, .int .i64 m), (5, S (text n).1), (7, S (text m).1), (8, .int .i64 (text m).2), (21, .bool true)] a_9 := f_10.keep (ks := [0, 1, 5, 7, 8, 21]) (by kernel_rfl)
      refine W_run (L' := [(0, .int .i64 n), (1, .int .i64 m), (5, S (text n).1), (7, S (text m).1), (31, .bool true)]) (w' := w_2) f_11 10 [0, 1, 5, 7, 31] (by kernel_rfl) (fun a_10 f_12 => ?_)
      refine W_end rfl ?_
      refine T_n ?_
      have f_13 := Frm.set f_12 31 (v := .bool true) (v' := .bool ((!(decide ((text n).2 = 0))) || ((!(decide ((text m).2 = 0))) || (!((decide (n < 0)) == (decide (m < 0))))))) (by kernel_rfl) (by simp only [h_1, Bool.and_true, Bool.true_and, Bool.false_and, Bool.and_false, Bool.or_true, Bool.true_or, Bool.or_false, Bool.false_or, Bool.not_true, Bool.not_false, cond_true, cond_false])
      exact ⟨f_13.keep (ks := [0, 1, 5, 7, 31]) (by kernel_rfl), p_2⟩
    · have k_2 : ¬ (¬ ((text n).2 = 0)) := iff_f (not_iff decide_eq_true_iff) h_1
      have f_14 := Frm.set f_9 21 (v := .bool (!(decide ((text n).2 = 0)))) (v' := .bool false) (by kernel_rfl) (congrArg Value.bool h_1)
      have f_15 : Frm 75 [(0, .int .i64 n), (1, .int .i64 m), (5, S (text n).1), (7, S (text m).1), (8, .int .i64 (text m).2), (21, .bool false)] a_9 := f_14.keep (ks := [0, 1, 5, 7, 8, 21]) (by kernel_rfl)
      refine W_run (L' := [(0, .int .i64 n), (1, .int .i64 m), (5, S (text n).1), (7, S (text m).1), (25, .bool (!(decide ((text m).2 = 0))))]) (w' := w_2) f_15 4 [0, 1, 5, 7, 25] (by kernel_rfl) (fun a_11 f_16 => ?_)
      rcases Bool.eq_false_or_eq_true (!(decide ((text m).2 = 0))) with h_2 | h_2
      · have k_3 : ¬ ((text m).2 = 0) := (not_iff decide_eq_true_iff).1 h_2
        have f_17 := Frm.set f_16 25 (v := .bool (!(decide ((text m).2 = 0)))) (v' := .bool true) (by kernel_rfl) (congrArg Value.bool h_2)
        have f_18 : Frm 75 [(0, .int .i64 n), (1, .int .i64 m), (5, S (text n).1), (7, S (text m).1), (25, .bool true)] a_11 := f_17.keep (ks := [0, 1, 5, 7, 25]) (by kernel_rfl)
        refine W_run (L' := [(0, .int .i64 n), (1, .int .i64 m), (5, S (text n).1), (7, S (text m).1), (31, .bool true)]) (w' := w_2) f_18 6 [0, 1, 5, 7, 31] (by kernel_rfl) (fun a_12 f_19 => ?_)
        refine W_end rfl ?_
        refine T_n ?_
        have f_20 := Frm.set f_19 31 (v := .bool true) (v' := .bool ((!(decide ((text n).2 = 0))) || ((!(decide ((text m).2 = 0))) || (!((decide (n < 0)) == (decide (m < 0))))))) (by kernel_rfl) (by simp only [h_1, h_2, Bool.and_true, Bool.true_and, Bool.false_and, Bool.and_false, Bool.or_true, Bool.true_or, Bool.or_false, Bool.false_or, Bool.not_true, Bool.not_false, cond_true, cond_false])
        exact ⟨f_20.keep (ks := [0, 1, 5, 7, 31]) (by kernel_rfl), p_2⟩
      · have k_4 : ¬ (¬ ((text m).2 = 0)) := iff_f (not_iff decide_eq_true_iff) h_2
        have f_21 := Frm.set f_16 25 (v := .bool (!(decide ((text m).2 = 0)))) (v' := .bool false) (by kernel_rfl) (congrArg Value.bool h_2)
        have f_22 : Frm 75 [(0, .int .i64 n), (1, .int .i64 m), (5, S (text n).1), (7, S (text m).1), (25, .bool false)] a_11 := f_21.keep (ks := [0, 1, 5, 7, 25]) (by kernel_rfl)
        refine W_run (L' := [(0, .int .i64 n), (1, .int .i64 m), (5, S (text n).1), (7, S (text m).1), (31, .bool (!((decide (n < 0)) == (decide (m < 0)))))]) (w' := w_2) f_22 6 [0, 1, 5, 7, 31] (by kernel_rfl) (fun a_13 f_23 => ?_)
        refine W_end rfl ?_
        refine T_n ?_
        have f_24 := Frm.set f_23 31 (v := .bool (!((decide (n < 0)) == (decide (m < 0))))) (v' := .bool ((!(decide ((text n).2 = 0))) || ((!(decide ((text m).2 = 0))) || (!((decide (n < 0)) == (decide (m < 0))))))) (by kernel_rfl) (by simp only [h_1, h_2, Bool.and_true, Bool.true_and, Bool.false_and, Bool.and_false, Bool.or_true, Bool.true_or, Bool.or_false, Bool.false_or, Bool.not_true, Bool.not_false, cond_true, cond_false])
        exact ⟨f_24.keep (ks := [0, 1, 5, 7, 31]) (by kernel_rfl), p_2⟩
  · rintro a_8 w_3 ⟨f_8, p_3⟩
    refine T_n ?_
    refine R_cond f_8 (b := (!(decide ((text n).2 = 0))) || ((!(decide ((text m).2 = 0))) || (!((decide (n < 0)) == (decide (m < 0)))))) (by kernel_rfl) (by kernel_rfl) (fun h_3 => ?_) (fun h_3 => ?_)
    · have k_5 : (¬ ((text n).2 = 0)) ∨ ((¬ ((text m).2 = 0)) ∨ (¬ (((decide (n < 0)) == (decide (m < 0))) = true))) := (or_iff (not_iff decide_eq_true_iff) (or_iff (not_iff decide_eq_true_iff) (not_iff Iff.rfl))).1 h_3
      refine R_seq ?_
      refine R_reg ?_
      refine W_okv (v := .bool true) f_8 p_3 (by kernel_rfl) (by kernel_rfl) rfl rfl (fun _ => by kernel_rfl) (wakes02_ok _) (fun w_4 p_4 a_14 f_25 => ?_)
      refine W_run (L' := [(4, .bool true)]) (w' := w_4) f_25 1 [4] (by kernel_rfl) (fun a_15 f_26 => ?_)
      refine W_end rfl ?_
      refine T_n ?_
      refine wp_ret ?_
      refine T_r ?_
      refine E_ret1 f_26 rfl (by kernel_rfl : Vc.look _ 4 = some (.bool true)) ?_
      refine ⟨_, rfl, M, (Mem.le_refl _), p_4, ?_⟩
      rfl
    · have k_6 : ¬ ((¬ ((text n).2 = 0)) ∨ ((¬ ((text m).2 = 0)) ∨ (¬ (((decide (n < 0)) == (decide (m < 0))) = true)))) := iff_f (or_iff (not_iff decide_eq_true_iff) (or_iff (not_iff decide_eq_true_iff) (not_iff Iff.rfl))) h_3
      refine wp_skip ?_
      refine T_n ?_
      refine R_seq ?_
      refine R_seq ?_
      obtain ⟨hA, hB, hS⟩ := not_or3 k_6
      refine R_reg ?_
      refine W_run (L' := [(0, .int .i64 n), (1, .int .i64 m), (5, S (text n).1), (7, S (text m).1), (37, .bool (!(decide (((text n).1.length : Int) = ((text m).1.length : Int)))))]) (w' := w_3) f_8 5 [0, 1, 5, 7, 37] (by kernel_rfl) (fun a_16 f_27 => ?_)
      refine W_end rfl ?_
      refine T_n ?_
      refine R_cond f_27 (b := !(decide (((text n).1.length : Int) = ((text m).1.length : Int)))) (by kernel_rfl) (by kernel_rfl) (fun h_4 => ?_) (fun h_4 => ?_)
      · have k_7 : ¬ (((text n).1.length : Int) = ((text m).1.length : Int)) := (not_iff decide_eq_true_iff).1 h_4
        refine R_seq ?_
        refine R_reg ?_
        refine W_run (L' := [(49, .bool ((decide (((text n).1.length : Int) < ((text m).1.length : Int))) == (!((decide (n < m)) == (decide (n < 0))))))]) (w' := w_3) f_27 12 [49] (by kernel_rfl) (fun a_17 f_28 => ?_)
        have f_29 := Frm.set f_28 49 (v := .bool ((decide (((text n).1.length : Int) < ((text m).1.length : Int))) == (!((decide (n < m)) == (decide (n < 0)))))) (v' := .bool true) (by kernel_rfl) (congrArg Value.bool (order_len hA hB hS k_7))
        have f_30 : Frm 75 [(49, .bool true)] a_17 := f_29.keep (ks := [49]) (by kernel_rfl)
        refine W_run (L' := [(50, .bool true)]) (w' := w_3) f_30 1 [50] (by kernel_rfl) (fun a_18 f_31 => ?_)
        refine W_okv (v := .bool true) f_31 p_3 (by kernel_rfl) (by kernel_rfl) rfl rfl (fun _ => by kernel_rfl) (wakes02_ok _) (fun w_5 p_5 a_19 f_32 => ?_)
        refine W_run (L' := [(4, .bool true)]) (w' := w_5) f_32 2 [4] (by kernel_rfl) (fun a_20 f_33 => ?_)
        refine W_end rfl ?_
        refine T_n ?_
        refine wp_ret ?_
        refine T_r ?_
        refine E_ret1 f_33 rfl (by kernel_rfl : Vc.look _ 4 = some (.bool true)) ?_
        refine ⟨_, rfl, M, (Mem.le_refl _), p_5, ?_⟩
        rfl
      · have k_8 : ¬ (¬ (((text n).1.length : Int) = ((text m).1.length : Int))) := iff_f (not_iff decide_eq_true_iff) h_4
        refine wp_skip ?_
        refine T_n ?_
        refine R_seq ?_
        refine R_seq ?_
        refine R_reg ?_
        refine W_run (L' := [(0, .int .i64 n), (1, .int .i64 m), (5, S (text n).1), (7, S (text m).1), (54, .bool (decide (n < 0)))]) (w' := w_3) f_27 2 [0, 1, 5, 7, 54] (by kernel_rfl) (fun a_21 f_34 => ?_)
        refine W_end rfl ?_
        refine T_n ?_
        refine R_cond f_34 (b := decide (n < 0)) (by kernel_rfl) (by kernel_rfl) (fun h_5 => ?_) (fun h_5 => ?_)
        · have k_9 : n < 0 := decide_eq_true_iff.1 h_5
          refine R_seq ?_
          refine R_reg ?_
          refine W_run (L' := [(0, .int .i64 n), (1, .int .i64 m), (55, S (text n).1), (56, S (text m).1)]) (w' := w_3) f_34 2 [0, 1, 55, 56] (by kernel_rfl) (fun a_22 f_35 => ?_)
          refine W_eq f_35 (by kernel_rfl) (by kernel_rfl) rfl rfl (X_strlt rfl (l := (text n).1) (m := (text m).1) (by kernel_rfl) (by kernel_rfl)) (fun a_23 f_36 => ?_)
          refine W_run (L' := [(61, .bool ((Op.bytesLess (text n).1 (text m).1) == (decide (m < n))))]) (w' := w_3) f_36 4 [61] (by kernel_rfl) (fun a_24 f_37 => ?_)
          have hL := Classical.not_not.1 k_8
          have f_38 := Frm.set f_37 61 (v := .bool ((Op.bytesLess (text n).1 (text m).1) == (decide (m < n)))) (v' := .bool true) (by kernel_rfl) (congrArg Value.bool (order_neg hA hB hS hL k_9))
          have f_39 : Frm 75 [(61, .bool true)] a_24 := f_38.keep (ks := [61]) (by kernel_rfl)
          refine W_run (L' := [(62, .bool true)]) (w' := w_3) f_39 1 [62] (by kernel_rfl) (fun a_25 f_40 => ?_)
          refine W_okv (v := .bool true) f_40 p_3 (by kernel_rfl) (by kernel_rfl) rfl rfl (fun _ => by kernel_rfl) (wakes02_ok _) (fun w_6 p_6 a_26 f_41 => ?_)
          refine W_run (L' := [(4, .bool true)]) (w' := w_6) f_41 2 [4] (by kernel_rfl) (fun a_27 f_42 => ?_)
          refine W_end rfl ?_
          refine T_n ?_
          refine wp_ret ?_
          refine T_r ?_
          refine E_ret1 f_42 rfl (by kernel_rfl : Vc.look _ 4 = some (.bool true)) ?_
          refine ⟨_, rfl, M, (Mem.le_refl _), p_6, ?_⟩
          rfl
        · have k_10 : ¬ (n < 0) := iff_f decide_eq_true_iff h_5
          refine wp_skip ?_
          refine T_n ?_
          refine R_seq ?_
          refine R_reg ?_
          refine W_run (L' := [(0, .int .i64 n), (1, .int .i64 m), (65, S (text n).1), (66, S (text m).1)]) (w' := w_3) f_34 2 [0, 1, 65, 66] (by kernel_rfl) (fun a_28 f_43 => ?_)
          refine W_eq f_43 (by kernel_rfl) (by kernel_rfl) rfl rfl (X_strlt rfl (l := (text n).1) (m := (text m).1) (by kernel_rfl) (by kernel_rfl)) (fun a_29 f_44 => ?_)
          refine W_run (L' := [(71, .bool ((Op.bytesLess (text n).1 (text m).1) == (decide (n < m))))]) (w' := w_3) f_44 4 [71] (by kernel_rfl) (fun a_30 f_45 => ?_)
          have hL := Classical.not_not.1 k_8
          have f_46 := Frm.set f_45 71 (v := .bool ((Op.bytesLess (text n).1 (text m).1) == (decide (n < m)))) (v' := .bool true) (by kernel_rfl) (congrArg Value.bool (order_pos hA hB hS hL k_10))
          have f_47 : Frm 75 [(71, .bool true)] a_30 := f_46.keep (ks := [71]) (by kernel_rfl)
          refine W_run (L' := [(72, .bool true)]) (w' := w_3) f_47 1 [72] (by kernel_rfl) (fun a_31 f_48 => ?_)
          refine W_okv (v := .bool true) f_48 p_3 (by kernel_rfl) (by kernel_rfl) rfl rfl (fun _ => by kernel_rfl) (wakes02_ok _) (fun w_7 p_7 a_32 f_49 => ?_)
          refine W_run (L' := [(4, .bool true)]) (w' := w_7) f_49 2 [4] (by kernel_rfl) (fun a_33 f_50 => ?_)
          refine W_end rfl ?_
          refine T_n ?_
          refine wp_ret ?_
          refine E_ret1 f_50 rfl (by kernel_rfl : Vc.look _ 4 = some (.bool true)) ?_
          refine ⟨_, rfl, M, (Mem.le_refl _), p_7, ?_⟩
          rfl
end Go.Proofs.Ytpofillhffbalaa
