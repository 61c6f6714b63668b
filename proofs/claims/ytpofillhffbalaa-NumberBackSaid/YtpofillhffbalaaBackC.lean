/-
  The contract of the law NumberBack: it answers true.
-/
import Derived.Test.YtpofillhffbalaaTextC
import Derived.Test.YtpofillhffbalaaNum2
set_option linter.unusedVariables false
set_option linter.unusedSimpArgs false
namespace Go.Proofs.Ytpofillhffbalaa
open Go Go.Vc Go.RowKit Go.Num
theorem numberBack_ok (M : Mem) (n m : Int) (ahead behind : List UInt8) : Ok Try.prog M 6 [.int .i64 n, .int .i64 m, S ahead, S behind] (fun _ v => v = .bool true) := by
  intro w0 H w p0
  refine R_enter 166 Try.func6 rfl rfl (by simp) (fun a0 f0 => ?_)
  replace f0 : Frm 166 [(0, .int .i64 n), (1, .int .i64 m), (2, S ahead), (3, S behind)] a0 := f0
  refine R_seq ?_
  refine R_reg ?_
  refine W_run (L' := [(0, .int .i64 n), (1, .int .i64 m), (2, S ahead), (3, S behind)]) (w' := w) f0 1 [0, 1, 2, 3] (by kernel_rfl) (fun a_1 f_1 => ?_)
  refine W_end rfl ?_
  refine T_n ?_
  refine R_seq ?_
  refine R_seq ?_
  refine R_mid (fun a_2 w_1 => Frm 166 [(0, .int .i64 n), (1, .int .i64 m), (2, S ahead), (3, S behind), (29, .bool ((decide ((400 : Int) < (ahead.length : Int))) || (decide ((400 : Int) < (behind.length : Int)))))] a_2 ∧ Hp w0 M (H) w_1) ?_ ?_
  · refine R_reg ?_
    refine W_run (L' := [(0, .int .i64 n), (1, .int .i64 m), (2, S ahead), (3, S behind), (25, .bool (decide ((400 : Int) < (ahead.length : Int))))]) (w' := w) f_1 4 [0, 1, 2, 3, 25] (by kernel_rfl) (fun a_3 f_3 => ?_)
    rcases Bool.eq_false_or_eq_true (decide ((400 : Int) < (ahead.length : Int))) with h_1 | h_1
    · have k_1 : (400 : Int) < (ahead.length : Int) := decide_eq_true_iff.1 h_1
      have f_4 := Frm.set f_3 25 (v := .bool (decide ((400 : Int) < (ahead.length : Int)))) (v' := .bool true) (by kernel_rfl) (congrArg Value.bool h_1)
      have f_5 : Frm 166 [(0, .int .i64 n), (1, .int .i64 m), (2, S ahead), (3, S behind), (25, .bool true)] a_3 := f_4.keep (ks := [0, 1, 2, 3, 25]) (by kernel_rfl)
      refine W_run (L' := [(0, .int .i64 n), (1, .int .i64 m), (2, S ahead), (3, S behind), (29, .bool true)]) (w' := w) f_5 4 [0, 1, 2, 3, 29] (by kernel_rfl) (fun a_4 f_6 => ?_)
      refine W_end rfl ?_
      refine T_n ?_
      have f_7 := Frm.set f_6 29 (v := .bool true) (v' := .bool ((decide ((400 : Int) < (ahead.length : Int))) || (decide ((400 : Int) < (behind.length : Int))))) (by kernel_rfl) (by simp only [h_1, Bool.and_true, Bool.true_and, Bool.false_and, Bool.and_false, Bool.or_true, Bool.true_or, Bool.or_false, Bool.false_or, Bool.not_true, Bool.not_false, cond_true, cond_false])
      exact ⟨f_7.keep (ks := [0, 1, 2, 3, 29]) (by kernel_rfl), p0⟩
    · have k_2 : ¬ ((400 : Int) < (ahead.length : Int)) := iff_f decide_eq_true_iff h_1
      have f_8 := Frm.set f_3 25 (v := .bool (decide ((400 : Int) < (ahead.length : Int)))) (v' := .bool false) (by kernel_rfl) (congrArg Value.bool h_1)
      have f_9 : Frm 166 [(0, .int .i64 n), (1, .int .i64 m), (2, S ahead), (3, S behind), (25, .bool false)] a_3 := f_8.keep (ks := [0, 1, 2, 3, 25]) (by kernel_rfl)
      refine W_run (L' := [(0, .int .i64 n), (1, .int .i64 m), (2, S ahead), (3, S behind), (29, .bool (decide ((400 : Int) < (behind.length : Int))))]) (w' := w) f_9 4 [0, 1, 2, 3, 29] (by kernel_rfl) (fun a_5 f_10 => ?_)
      refine W_end rfl ?_
      refine T_n ?_
      have f_11 := Frm.set f_10 29 (v := .bool (decide ((400 : Int) < (behind.length : Int)))) (v' := .bool ((decide ((400 : Int) < (ahead.length : Int))) || (decide ((400 : Int) < (behind.length : Int))))) (by kernel_rfl) (by simp only [h_1, Bool.and_true, Bool.true_and, Bool.false_and, Bool.and_false, Bool.or_true, Bool.true_or, Bool.or_false, Bool.false_or, Bool.not_true, Bool.not_false, cond_true, cond_false])
      exact ⟨f_11.keep (ks := [0, 1, 2, 3, 29]) (by kernel_rfl), p0⟩
  · rintro a_2 w_1 ⟨f_2, p_1⟩
    refine T_n ?_
    refine R_cond f_2 (b := (decide ((400 : Int) < (ahead.length : Int))) || (decide ((400 : Int) < (behind.length : Int)))) (by kernel_rfl) (by kernel_rfl) (fun h_2 => ?_) (fun h_2 => ?_)
    · have k_3 : ((400 : Int) < (ahead.length : Int)) ∨ ((400 : Int) < (behind.length : Int)) := (or_iff decide_eq_true_iff decide_eq_true_iff).1 h_2
      refine R_seq ?_
      refine R_reg ?_
      refine W_okv (v := .bool true) f_2 p_1 (by kernel_rfl) (by kernel_rfl) rfl rfl (fun _ => by kernel_rfl) (wakes02_ok _) (fun w_2 p_2 a_6 f_12 => ?_)
      refine W_run (L' := [(8, .bool true)]) (w' := w_2) f_12 1 [8] (by kernel_rfl) (fun a_7 f_13 => ?_)
      refine W_end rfl ?_
      refine T_n ?_
      refine wp_ret ?_
      refine T_r ?_
      refine E_ret1 f_13 rfl (by kernel_rfl : Vc.look _ 8 = some (.bool true)) ?_
      refine ⟨_, rfl, M, (Mem.le_refl _), p_2, ?_⟩
      rfl
    · have k_4 : ¬ (((400 : Int) < (ahead.length : Int)) ∨ ((400 : Int) < (behind.length : Int))) := iff_f (or_iff decide_eq_true_iff decide_eq_true_iff) h_2
      refine wp_skip ?_
      refine T_n ?_
      refine R_seq ?_
      refine R_reg ?_
      refine W_run (L' := [(0, .int .i64 n), (1, .int .i64 m), (2, S ahead), (3, S behind), (32, .int .i64 n)]) (w' := w_1) f_2 1 [0, 1, 2, 3, 32] (by kernel_rfl) (fun a_8 f_14 => ?_)
      refine W_okv (v := .tuple #[S (text n).1, .int .i64 (text n).2]) f_14 p_1 (by kernel_rfl) (by kernel_rfl) rfl rfl (fun _ => by kernel_rfl) (textP_ok _ (n)) (fun w_3 p_3 a_9 f_15 => ?_)
      refine W_run (L' := [(0, .int .i64 n), (1, .int .i64 m), (2, S ahead), (3, S behind), (9, S (text n).1), (10, .int .i64 (text n).2)]) (w' := w_3) f_15 5 [0, 1, 2, 3, 9, 10] (by kernel_rfl) (fun a_10 f_16 => ?_)
      refine W_end rfl ?_
      refine T_n ?_
      refine R_seq ?_
      refine R_seq ?_
      refine R_mid (fun a_11 w_4 => Frm 166 [(0, .int .i64 n), (1, .int .i64 m), (2, S ahead), (3, S behind), (9, S (text n).1), (10, .int .i64 (text n).2), (44, .bool false)] a_11 ∧ Hp w0 M (H) w_4) ?_ ?_
      · refine R_reg ?_
        refine W_run (L' := [(0, .int .i64 n), (1, .int .i64 m), (2, S ahead), (3, S behind), (9, S (text n).1), (10, .int .i64 (text n).2), (37, .bool (decide ((text n).2 = 0))), (40, .bool (decide ((-9007199254740992 : Int) ≤ n)))]) (w' := w_3) f_16 5 [0, 1, 2, 3, 9, 10, 37, 40] (by kernel_rfl) (fun a_12 f_18 => ?_)
        rcases Bool.eq_false_or_eq_true (decide ((-9007199254740992 : Int) ≤ n)) with h_3 | h_3
        · have k_5 : (-9007199254740992 : Int) ≤ n := decide_eq_true_iff.1 h_3
          have f_19 := Frm.set f_18 40 (v := .bool (decide ((-9007199254740992 : Int) ≤ n))) (v' := .bool true) (by kernel_rfl) (congrArg Value.bool h_3)
          have f_20 : Frm 166 [(0, .int .i64 n), (1, .int .i64 m), (2, S ahead), (3, S behind), (9, S (text n).1), (10, .int .i64 (text n).2), (37, .bool (decide ((text n).2 = 0))), (40, .bool true)] a_12 := f_19.keep (ks := [0, 1, 2, 3, 9, 10, 37, 40]) (by kernel_rfl)
          refine W_run (L' := [(0, .int .i64 n), (1, .int .i64 m), (2, S ahead), (3, S behind), (9, S (text n).1), (10, .int .i64 (text n).2), (44, .bool (!((decide ((text n).2 = 0)) == (decide (n ≤ 9007199254740992)))))]) (w' := w_3) f_20 4 [0, 1, 2, 3, 9, 10, 44] (by kernel_rfl) (fun a_13 f_21 => ?_)
          refine W_end rfl ?_
          refine T_n ?_
          have f_22 := Frm.set f_21 44 (v := .bool (!((decide ((text n).2 = 0)) == (decide (n ≤ 9007199254740992))))) (v' := .bool false) (by kernel_rfl) (congrArg Value.bool (back4_t k_5))
          exact ⟨f_22.keep (ks := [0, 1, 2, 3, 9, 10, 44]) (by kernel_rfl), p_3⟩
        · have k_6 : ¬ ((-9007199254740992 : Int) ≤ n) := iff_f decide_eq_true_iff h_3
          have f_23 := Frm.set f_18 40 (v := .bool (decide ((-9007199254740992 : Int) ≤ n))) (v' := .bool false) (by kernel_rfl) (congrArg Value.bool h_3)
          have f_24 : Frm 166 [(0, .int .i64 n), (1, .int .i64 m), (2, S ahead), (3, S behind), (9, S (text n).1), (10, .int .i64 (text n).2), (37, .bool (decide ((text n).2 = 0))), (40, .bool false)] a_12 := f_23.keep (ks := [0, 1, 2, 3, 9, 10, 37, 40]) (by kernel_rfl)
          refine W_run (L' := [(0, .int .i64 n), (1, .int .i64 m), (2, S ahead), (3, S behind), (9, S (text n).1), (10, .int .i64 (text n).2), (44, .bool (!((decide ((text n).2 = 0)) == false)))]) (w' := w_3) f_24 4 [0, 1, 2, 3, 9, 10, 44] (by kernel_rfl) (fun a_14 f_25 => ?_)
          refine W_end rfl ?_
          refine T_n ?_
          have f_26 := Frm.set f_25 44 (v := .bool (!((decide ((text n).2 = 0)) == false))) (v' := .bool false) (by kernel_rfl) (congrArg Value.bool (back4_f k_6))
          exact ⟨f_26.keep (ks := [0, 1, 2, 3, 9, 10, 44]) (by kernel_rfl), p_3⟩
      · rintro a_11 w_4 ⟨f_17, p_4⟩
        refine T_n ?_
        refine R_cond_f f_17 (by kernel_rfl) (by kernel_rfl) ?_
        refine wp_skip ?_
        refine T_n ?_
        refine R_seq ?_
        refine R_reg ?_
        refine W_run (L' := [(0, .int .i64 n), (1, .int .i64 m), (2, S ahead), (3, S behind), (9, S (text n).1), (10, .int .i64 (text n).2), (46, S behind)]) (w' := w_4) f_17 1 [0, 1, 2, 3, 9, 10, 46] (by kernel_rfl) (fun a_15 f_27 => ?_)
        refine W_okv (v := .tuple #[.int .i64 (read behind).1, .int .i64 (read behind).2]) f_27 p_4 (by kernel_rfl) (by kernel_rfl) rfl rfl (fun _ => by kernel_rfl) (readP_ok _ behind (by first | omega | decide | assumption | (simp only [List.length_append, List.length_cons, List.length_nil]; omega))) (fun w_5 p_5 a_16 f_28 => ?_)
        refine W_run (L' := [(0, .int .i64 n), (1, .int .i64 m), (2, S ahead), (3, S behind), (9, S (text n).1), (10, .int .i64 (text n).2), (11, .int .i64 (read behind).1), (12, .int .i64 (read behind).2)]) (w' := w_5) f_28 5 [0, 1, 2, 3, 9, 10, 11, 12] (by kernel_rfl) (fun a_17 f_29 => ?_)
        refine W_end rfl ?_
        refine T_n ?_
        refine R_seq ?_
        refine R_seq ?_
        refine R_reg ?_
        refine W_run (L' := [(0, .int .i64 n), (1, .int .i64 m), (2, S ahead), (3, S behind), (9, S (text n).1), (10, .int .i64 (text n).2), (11, .int .i64 (read behind).1), (51, .bool (decide ((read behind).2 = 0)))]) (w' := w_5) f_29 2 [0, 1, 2, 3, 9, 10, 11, 51] (by kernel_rfl) (fun a_18 f_30 => ?_)
        refine W_end rfl ?_
        refine T_n ?_
        refine R_mid (fun a_19 w_6 => Frm 166 [(0, .int .i64 n), (1, .int .i64 m), (2, S ahead), (3, S behind), (9, S (text n).1), (10, .int .i64 (text n).2)] a_19 ∧ Hp w0 M (H) w_6) ?_ ?_
        · refine R_cond f_30 (b := decide ((read behind).2 = 0)) (by kernel_rfl) (by kernel_rfl) (fun h_4 => ?_) (fun h_4 => ?_)
          · have k_7 : (read behind).2 = 0 := decide_eq_true_iff.1 h_4
            refine R_seq ?_
            refine R_reg ?_
            refine W_run (L' := [(0, .int .i64 n), (1, .int .i64 m), (2, S ahead), (3, S behind), (9, S (text n).1), (10, .int .i64 (text n).2), (53, .int .i64 (read behind).1)]) (w' := w_5) f_30 1 [0, 1, 2, 3, 9, 10, 53] (by kernel_rfl) (fun a_20 f_32 => ?_)
            refine W_okv (v := .tuple #[S (text (read behind).1).1, .int .i64 (text (read behind).1).2]) f_32 p_5 (by kernel_rfl) (by kernel_rfl) rfl rfl (fun _ => by kernel_rfl) (textP_ok _ ((read behind).1)) (fun w_7 p_7 a_21 f_33 => ?_)
            have f_34 := Frm.set f_33 54 (v := .tuple #[S (text (read behind).1).1, .int .i64 (text (read behind).1).2]) (v' := .tuple #[S behind, .int .i64 0]) (by kernel_rfl) (by rw [text_read k_7])
            have f_35 : Frm 166 [(0, .int .i64 n), (1, .int .i64 m), (2, S ahead), (3, S behind), (9, S (text n).1), (10, .int .i64 (text n).2), (53, .int .i64 (read behind).1), (54, .tuple #[S behind, .int .i64 0])] a_21 := f_34.keep (ks := [0, 1, 2, 3, 9, 10, 53, 54]) (by kernel_rfl)
            refine W_run (L' := [(0, .int .i64 n), (1, .int .i64 m), (2, S ahead), (3, S behind), (9, S (text n).1), (10, .int .i64 (text n).2), (13, S behind), (14, .int .i64 0)]) (w' := w_7) f_35 5 [0, 1, 2, 3, 9, 10, 13, 14] (by kernel_rfl) (fun a_22 f_36 => ?_)
            refine W_end rfl ?_
            refine T_n ?_
            refine R_seq ?_
            refine R_reg ?_
            refine W_run (L' := [(0, .int .i64 n), (1, .int .i64 m), (2, S ahead), (3, S behind), (9, S (text n).1), (10, .int .i64 (text n).2), (59, .bool false), (60, S behind), (61, S behind)]) (w' := w_7) f_36 5 [0, 1, 2, 3, 9, 10, 59, 60, 61] (by kernel_rfl) (fun a_23 f_37 => ?_)
            refine W_eq f_37 (by kernel_rfl) (by kernel_rfl) rfl rfl (X_strne rfl (l := behind) (m := behind) (by kernel_rfl) (by kernel_rfl)) (fun a_24 f_38 => ?_)
            have f_39 := Frm.set f_38 62 (v := .bool (!(decide (behind = behind)))) (v' := .bool false) (by kernel_rfl) (congrArg Value.bool (congrArg (!·) (decide_eq_true rfl)))
            have f_40 : Frm 166 [(0, .int .i64 n), (1, .int .i64 m), (2, S ahead), (3, S behind), (9, S (text n).1), (10, .int .i64 (text n).2), (59, .bool false), (60, S behind), (61, S behind), (62, .bool false)] a_24 := f_39.keep (ks := [0, 1, 2, 3, 9, 10, 59, 60, 61, 62]) (by kernel_rfl)
            refine W_run (L' := [(0, .int .i64 n), (1, .int .i64 m), (2, S ahead), (3, S behind), (9, S (text n).1), (10, .int .i64 (text n).2), (63, .bool false)]) (w' := w_7) f_40 1 [0, 1, 2, 3, 9, 10, 63] (by kernel_rfl) (fun a_25 f_41 => ?_)
            refine W_end rfl ?_
            refine T_n ?_
            refine R_cond_f f_41 (by kernel_rfl) (by kernel_rfl) ?_
            refine wp_skip ?_
            refine T_n ?_
            exact ⟨f_41.keep (ks := [0, 1, 2, 3, 9, 10]) (by kernel_rfl), p_7⟩
          · have k_8 : ¬ ((read behind).2 = 0) := iff_f decide_eq_true_iff h_4
            refine wp_skip ?_
            refine T_n ?_
            exact ⟨f_30.keep (ks := [0, 1, 2, 3, 9, 10]) (by kernel_rfl), p_5⟩
        · rintro a_19 w_6 ⟨f_31, p_6⟩
          refine T_n ?_
          refine R_seq ?_
          refine R_seq ?_
          refine R_reg ?_
          refine W_run (L' := [(0, .int .i64 n), (1, .int .i64 m), (2, S ahead), (3, S behind), (9, S (text n).1), (65, .bool (!(decide ((text n).2 = 0))))]) (w' := w_6) f_31 2 [0, 1, 2, 3, 9, 65] (by kernel_rfl) (fun a_26 f_42 => ?_)
          refine W_end rfl ?_
          refine T_n ?_
          refine R_cond f_42 (b := !(decide ((text n).2 = 0))) (by kernel_rfl) (by kernel_rfl) (fun h_5 => ?_) (fun h_5 => ?_)
          · have k_9 : ¬ ((text n).2 = 0) := (not_iff decide_eq_true_iff).1 h_5
            refine R_seq ?_
            refine R_reg ?_
            refine W_run (L' := [(66, S (text n).1)]) (w' := w_6) f_42 1 [66] (by kernel_rfl) (fun a_27 f_43 => ?_)
            refine W_eq f_43 (by kernel_rfl) (by kernel_rfl) rfl rfl (X_streq rfl (l := (text n).1) (m := []) (by kernel_rfl) (by kernel_rfl)) (fun a_28 f_44 => ?_)
            have f_45 := Frm.set f_44 67 (v := .bool (decide ((text n).1 = []))) (v' := .bool true) (by kernel_rfl) (congrArg Value.bool (decide_eq_true (text_bad k_9)))
            have f_46 : Frm 166 [(66, S (text n).1), (67, .bool true)] a_28 := f_45.keep (ks := [66, 67]) (by kernel_rfl)
            refine W_run (L' := [(68, .bool true)]) (w' := w_6) f_46 1 [68] (by kernel_rfl) (fun a_29 f_47 => ?_)
            refine W_okv (v := .bool true) f_47 p_6 (by kernel_rfl) (by kernel_rfl) rfl rfl (fun _ => by kernel_rfl) (wakes02_ok _) (fun w_8 p_8 a_30 f_48 => ?_)
            refine W_run (L' := [(8, .bool true)]) (w' := w_8) f_48 2 [8] (by kernel_rfl) (fun a_31 f_49 => ?_)
            refine W_end rfl ?_
            refine T_n ?_
            refine wp_ret ?_
            refine T_r ?_
            refine E_ret1 f_49 rfl (by kernel_rfl : Vc.look _ 8 = some (.bool true)) ?_
            refine ⟨_, rfl, M, (Mem.le_refl _), p_8, ?_⟩
            rfl
          · have k_10 : ¬ (¬ ((text n).2 = 0)) := iff_f (not_iff decide_eq_true_iff) h_5
            refine wp_skip ?_
            refine T_n ?_
            refine R_seq ?_
            have hE := Classical.not_not.1 k_10
            have hfit := text_fit hE
            have hln := text_len hfit
            refine R_reg ?_
            refine W_run (L' := [(0, .int .i64 n), (1, .int .i64 m), (2, S ahead), (3, S behind), (9, S (text n).1), (72, .int .i64 m)]) (w' := w_6) f_42 1 [0, 1, 2, 3, 9, 72] (by kernel_rfl) (fun a_32 f_50 => ?_)
            refine W_okv (v := .tuple #[S (text m).1, .int .i64 (text m).2]) f_50 p_6 (by kernel_rfl) (by kernel_rfl) rfl rfl (fun _ => by kernel_rfl) (textP_ok _ (m)) (fun w_9 p_9 a_33 f_51 => ?_)
            refine W_run (L' := [(0, .int .i64 n), (1, .int .i64 m), (2, S ahead), (3, S behind), (9, S (text n).1), (15, S (text m).1), (16, .int .i64 (text m).2)]) (w' := w_9) f_51 5 [0, 1, 2, 3, 9, 15, 16] (by kernel_rfl) (fun a_34 f_52 => ?_)
            refine W_end rfl ?_
            refine T_n ?_
            refine R_seq ?_
            refine R_seq ?_
            refine R_mid (fun a_35 w_10 => Frm 166 [(0, .int .i64 n), (2, S ahead), (3, S behind), (9, S (text n).1), (93, .bool false)] a_35 ∧ Hp w0 M (H) w_10) ?_ ?_
            · refine R_reg ?_
              refine W_run (L' := [(0, .int .i64 n), (1, .int .i64 m), (2, S ahead), (3, S behind), (9, S (text n).1), (15, S (text m).1), (78, .bool (decide ((text m).2 = 0)))]) (w' := w_9) f_52 3 [0, 1, 2, 3, 9, 15, 78] (by kernel_rfl) (fun a_36 f_54 => ?_)
              rcases Bool.eq_false_or_eq_true (decide ((text m).2 = 0)) with h_6 | h_6
              · have k_11 : (text m).2 = 0 := decide_eq_true_iff.1 h_6
                have f_55 := Frm.set f_54 78 (v := .bool (decide ((text m).2 = 0))) (v' := .bool true) (by kernel_rfl) (congrArg Value.bool h_6)
                have f_56 : Frm 166 [(0, .int .i64 n), (1, .int .i64 m), (2, S ahead), (3, S behind), (9, S (text n).1), (15, S (text m).1), (78, .bool true)] a_36 := f_55.keep (ks := [0, 1, 2, 3, 9, 15, 78]) (by kernel_rfl)
                refine W_run (L' := [(0, .int .i64 n), (1, .int .i64 m), (2, S ahead), (3, S behind), (9, S (text n).1), (78, .bool true), (79, S (text n).1), (80, S (text m).1)]) (w' := w_9) f_56 2 [0, 1, 2, 3, 9, 78, 79, 80] (by kernel_rfl) (fun a_37 f_57 => ?_)
                refine W_eq f_57 (by kernel_rfl) (by kernel_rfl) rfl rfl (X_streq rfl (l := (text n).1) (m := (text m).1) (by kernel_rfl) (by kernel_rfl)) (fun a_38 f_58 => ?_)
                refine W_run (L' := [(0, .int .i64 n), (2, S ahead), (3, S behind), (9, S (text n).1), (78, .bool true), (85, .bool (!((decide ((text n).1 = (text m).1)) == (decide (n = m)))))]) (w' := w_9) f_58 4 [0, 2, 3, 9, 78, 85] (by kernel_rfl) (fun a_39 f_59 => ?_)
                have f_60 := Frm.set f_59 85 (v := .bool (!((decide ((text n).1 = (text m).1)) == (decide (n = m))))) (v' := .bool false) (by kernel_rfl) (congrArg Value.bool (text_same hfit (text_fit k_11)))
                have f_61 : Frm 166 [(0, .int .i64 n), (2, S ahead), (3, S behind), (9, S (text n).1), (78, .bool true), (85, .bool false)] a_39 := f_60.keep (ks := [0, 2, 3, 9, 78, 85]) (by kernel_rfl)
                refine W_run (L' := [(0, .int .i64 n), (2, S ahead), (3, S behind), (9, S (text n).1), (87, .bool false), (88, .int .i64 n)]) (w' := w_9) f_61 3 [0, 2, 3, 9, 87, 88] (by kernel_rfl) (fun a_40 f_62 => ?_)
                refine W_okv (v := .int .i64 ((text n).1.length : Int)) f_62 p_9 (by kernel_rfl) (by kernel_rfl) rfl rfl (fun _ => by kernel_rfl) (lenP_ok _ (n)) (fun w_11 p_11 a_41 f_63 => ?_)
                refine W_run (L' := [(0, .int .i64 n), (2, S ahead), (3, S behind), (9, S (text n).1), (87, .bool false), (89, .int .i64 ((text n).1.length : Int)), (91, .int .i64 ((text n).1.length : Int))]) (w' := w_11) f_63 2 [0, 2, 3, 9, 87, 89, 91] (by kernel_rfl) (fun a_42 f_64 => ?_)
                refine W_run (L' := [(0, .int .i64 n), (2, S ahead), (3, S behind), (9, S (text n).1), (87, .bool false), (89, .int .i64 ((text n).1.length : Int)), (91, .int .i64 ((text n).1.length : Int)), (92, .bool (!(decide (((text n).1.length : Int) = ((text n).1.length : Int)))))]) (w' := w_11) f_64 1 [0, 2, 3, 9, 87, 89, 91, 92] (by kernel_rfl) (fun a_43 f_65 => ?_)
                have f_66 := Frm.set f_65 92 (v := .bool (!(decide (((text n).1.length : Int) = ((text n).1.length : Int))))) (v' := .bool false) (by kernel_rfl) (congrArg Value.bool (congrArg (!·) (decide_eq_true rfl)))
                have f_67 : Frm 166 [(0, .int .i64 n), (2, S ahead), (3, S behind), (9, S (text n).1), (87, .bool false), (89, .int .i64 ((text n).1.length : Int)), (91, .int .i64 ((text n).1.length : Int)), (92, .bool false)] a_43 := f_66.keep (ks := [0, 2, 3, 9, 87, 89, 91, 92]) (by kernel_rfl)
                refine W_run (L' := [(0, .int .i64 n), (2, S ahead), (3, S behind), (9, S (text n).1), (93, .bool false)]) (w' := w_11) f_67 1 [0, 2, 3, 9, 93] (by kernel_rfl) (fun a_44 f_68 => ?_)
                refine W_end rfl ?_
                refine T_n ?_
                exact ⟨f_68.keep (ks := [0, 2, 3, 9, 93]) (by kernel_rfl), p_11⟩
              · have k_12 : ¬ ((text m).2 = 0) := iff_f decide_eq_true_iff h_6
                have f_69 := Frm.set f_54 78 (v := .bool (decide ((text m).2 = 0))) (v' := .bool false) (by kernel_rfl) (congrArg Value.bool h_6)
                have f_70 : Frm 166 [(0, .int .i64 n), (1, .int .i64 m), (2, S ahead), (3, S behind), (9, S (text n).1), (15, S (text m).1), (78, .bool false)] a_36 := f_69.keep (ks := [0, 1, 2, 3, 9, 15, 78]) (by kernel_rfl)
                refine W_run (L' := [(0, .int .i64 n), (2, S ahead), (3, S behind), (9, S (text n).1), (87, .bool false), (88, .int .i64 n)]) (w' := w_9) f_70 10 [0, 2, 3, 9, 87, 88] (by kernel_rfl) (fun a_45 f_71 => ?_)
                refine W_okv (v := .int .i64 ((text n).1.length : Int)) f_71 p_9 (by kernel_rfl) (by kernel_rfl) rfl rfl (fun _ => by kernel_rfl) (lenP_ok _ (n)) (fun w_12 p_12 a_46 f_72 => ?_)
                refine W_run (L' := [(0, .int .i64 n), (2, S ahead), (3, S behind), (9, S (text n).1), (87, .bool false), (89, .int .i64 ((text n).1.length : Int)), (91, .int .i64 ((text n).1.length : Int))]) (w' := w_12) f_72 2 [0, 2, 3, 9, 87, 89, 91] (by kernel_rfl) (fun a_47 f_73 => ?_)
                refine W_run (L' := [(0, .int .i64 n), (2, S ahead), (3, S behind), (9, S (text n).1), (87, .bool false), (89, .int .i64 ((text n).1.length : Int)), (91, .int .i64 ((text n).1.length : Int)), (92, .bool (!(decide (((text n).1.length : Int) = ((text n).1.length : Int)))))]) (w' := w_12) f_73 1 [0, 2, 3, 9, 87, 89, 91, 92] (by kernel_rfl) (fun a_48 f_74 => ?_)
                have f_75 := Frm.set f_74 92 (v := .bool (!(decide (((text n).1.length : Int) = ((text n).1.length : Int))))) (v' := .bool false) (by kernel_rfl) (congrArg Value.bool (congrArg (!·) (decide_eq_true rfl)))
                have f_76 : Frm 166 [(0, .int .i64 n), (2, S ahead), (3, S behind), (9, S (text n).1), (87, .bool false), (89, .int .i64 ((text n).1.length : Int)), (91, .int .i64 ((text n).1.length : Int)), (92, .bool false)] a_48 := f_75.keep (ks := [0, 2, 3, 9, 87, 89, 91, 92]) (by kernel_rfl)
                refine W_run (L' := [(0, .int .i64 n), (2, S ahead), (3, S behind), (9, S (text n).1), (93, .bool false)]) (w' := w_12) f_76 1 [0, 2, 3, 9, 93] (by kernel_rfl) (fun a_49 f_77 => ?_)
                refine W_end rfl ?_
                refine T_n ?_
                exact ⟨f_77.keep (ks := [0, 2, 3, 9, 93]) (by kernel_rfl), p_12⟩
            · rintro a_35 w_10 ⟨f_53, p_10⟩
              refine T_n ?_
              refine R_cond_f f_53 (by kernel_rfl) (by kernel_rfl) ?_
              refine wp_skip ?_
              refine T_n ?_
              refine R_seq ?_
              refine R_reg ?_
              refine W_run (L' := [(0, .int .i64 n), (2, S ahead), (3, S behind), (9, S (text n).1), (95, S (text n).1)]) (w' := w_10) f_53 1 [0, 2, 3, 9, 95] (by kernel_rfl) (fun a_50 f_78 => ?_)
              refine W_okv (v := .tuple #[.int .i64 (read (text n).1).1, .int .i64 (read (text n).1).2]) f_78 p_10 (by kernel_rfl) (by kernel_rfl) rfl rfl (fun _ => by kernel_rfl) (readP_ok _ (text n).1 (by first | omega | decide | assumption | (simp only [List.length_append, List.length_cons, List.length_nil]; omega))) (fun w_13 p_13 a_51 f_79 => ?_)
              have f_80 := Frm.set f_79 96 (v := .tuple #[.int .i64 (read (text n).1).1, .int .i64 (read (text n).1).2]) (v' := .tuple #[.int .i64 n, .int .i64 0]) (by kernel_rfl) (by rw [read_text hfit])
              have f_81 : Frm 166 [(0, .int .i64 n), (2, S ahead), (3, S behind), (9, S (text n).1), (95, S (text n).1), (96, .tuple #[.int .i64 n, .int .i64 0])] a_51 := f_80.keep (ks := [0, 2, 3, 9, 95, 96]) (by kernel_rfl)
              refine W_run (L' := [(0, .int .i64 n), (2, S ahead), (3, S behind), (9, S (text n).1), (17, .int .i64 n), (18, .int .i64 0)]) (w' := w_13) f_81 5 [0, 2, 3, 9, 17, 18] (by kernel_rfl) (fun a_52 f_82 => ?_)
              refine W_end rfl ?_
              refine T_n ?_
              refine R_seq ?_
              refine R_seq ?_
              refine R_reg ?_
              refine W_run (L' := [(0, .int .i64 n), (2, S ahead), (3, S behind), (9, S (text n).1), (101, .bool false), (102, .int .i64 n), (103, .int .i64 n)]) (w' := w_13) f_82 5 [0, 2, 3, 9, 101, 102, 103] (by kernel_rfl) (fun a_53 f_83 => ?_)
              refine W_run (L' := [(0, .int .i64 n), (2, S ahead), (3, S behind), (9, S (text n).1), (101, .bool false), (102, .int .i64 n), (103, .int .i64 n), (104, .bool (!(decide (n = n))))]) (w' := w_13) f_83 1 [0, 2, 3, 9, 101, 102, 103, 104] (by kernel_rfl) (fun a_54 f_84 => ?_)
              have f_85 := Frm.set f_84 104 (v := .bool (!(decide (n = n)))) (v' := .bool false) (by kernel_rfl) (congrArg Value.bool (congrArg (!·) (decide_eq_true rfl)))
              have f_86 : Frm 166 [(0, .int .i64 n), (2, S ahead), (3, S behind), (9, S (text n).1), (101, .bool false), (102, .int .i64 n), (103, .int .i64 n), (104, .bool false)] a_54 := f_85.keep (ks := [0, 2, 3, 9, 101, 102, 103, 104]) (by kernel_rfl)
              refine W_run (L' := [(0, .int .i64 n), (2, S ahead), (3, S behind), (9, S (text n).1), (105, .bool false)]) (w' := w_13) f_86 1 [0, 2, 3, 9, 105] (by kernel_rfl) (fun a_55 f_87 => ?_)
              refine W_end rfl ?_
              refine T_n ?_
              refine R_cond_f f_87 (by kernel_rfl) (by kernel_rfl) ?_
              refine wp_skip ?_
              refine T_n ?_
              refine R_seq ?_
              refine R_seq ?_
              refine R_mid (fun a_56 w_14 => Frm 166 [(0, .int .i64 n), (2, S ahead), (3, S behind), (9, S (text n).1), (133, .bool ((decide ((0 : Int) < (behind.length : Int))) && (bif (decide ((48 : Int) ≤ ((behind.getD 0 0).toNat : Int))) then ((decide (((behind.getD 0 0).toNat : Int) ≤ 57)) || ((decide (((behind.getD 0 0).toNat : Int) = 46)) || ((decide (((behind.getD 0 0).toNat : Int) = 101)) || (decide (((behind.getD 0 0).toNat : Int) = 69))))) else ((decide (((behind.getD 0 0).toNat : Int) = 46)) || ((decide (((behind.getD 0 0).toNat : Int) = 101)) || (decide (((behind.getD 0 0).toNat : Int) = 69)))))))] a_56 ∧ Hp w0 M (H) w_14) ?_ ?_
              · refine R_reg ?_
                refine W_run (L' := [(0, .int .i64 n), (2, S ahead), (3, S behind), (9, S (text n).1), (109, .bool (decide ((0 : Int) < (behind.length : Int))))]) (w' := w_13) f_87 4 [0, 2, 3, 9, 109] (by kernel_rfl) (fun a_57 f_89 => ?_)
                rcases Bool.eq_false_or_eq_true (decide ((0 : Int) < (behind.length : Int))) with h_7 | h_7
                · have k_13 : (0 : Int) < (behind.length : Int) := decide_eq_true_iff.1 h_7
                  have f_90 := Frm.set f_89 109 (v := .bool (decide ((0 : Int) < (behind.length : Int)))) (v' := .bool true) (by kernel_rfl) (congrArg Value.bool h_7)
                  have f_91 : Frm 166 [(0, .int .i64 n), (2, S ahead), (3, S behind), (9, S (text n).1), (109, .bool true)] a_57 := f_90.keep (ks := [0, 2, 3, 9, 109]) (by kernel_rfl)
                  refine W_run (L' := [(0, .int .i64 n), (2, S ahead), (3, S behind), (9, S (text n).1), (109, .bool true), (110, S behind)]) (w' := w_13) f_91 1 [0, 2, 3, 9, 109, 110] (by kernel_rfl) (fun a_58 f_92 => ?_)
                  refine W_eq f_92 (by kernel_rfl) (by kernel_rfl) rfl rfl (X_strIndex rfl (l := behind) (k := .i64) (i := 0) (by kernel_rfl) (by kernel_rfl) (by kernel_rfl) (by omega) (by omega)) (fun a_59 f_93 => ?_)
                  have hb_1 := byte_lt (behind.getD 0 0)
                  refine W_run (L' := [(0, .int .i64 n), (2, S ahead), (3, S behind), (9, S (text n).1), (109, .bool true), (113, .bool (decide ((48 : Int) ≤ ((behind.getD 0 0).toNat : Int))))]) (w' := w_13) f_93 2 [0, 2, 3, 9, 109, 113] (by kernel_rfl) (fun a_60 f_94 => ?_)
                  rcases Bool.eq_false_or_eq_true (decide ((48 : Int) ≤ ((behind.getD 0 0).toNat : Int))) with h_8 | h_8
                  · have k_14 : (48 : Int) ≤ ((behind.getD 0 0).toNat : Int) := decide_eq_true_iff.1 h_8
                    have f_95 := Frm.set f_94 113 (v := .bool (decide ((48 : Int) ≤ ((behind.getD 0 0).toNat : Int)))) (v' := .bool true) (by kernel_rfl) (congrArg Value.bool h_8)
                    have f_96 : Frm 166 [(0, .int .i64 n), (2, S ahead), (3, S behind), (9, S (text n).1), (109, .bool true), (113, .bool true)] a_60 := f_95.keep (ks := [0, 2, 3, 9, 109, 113]) (by kernel_rfl)
                    refine W_run (L' := [(0, .int .i64 n), (2, S ahead), (3, S behind), (9, S (text n).1), (109, .bool true), (113, .bool true), (114, S behind)]) (w' := w_13) f_96 1 [0, 2, 3, 9, 109, 113, 114] (by kernel_rfl) (fun a_61 f_97 => ?_)
                    refine W_eq f_97 (by kernel_rfl) (by kernel_rfl) rfl rfl (X_strIndex rfl (l := behind) (k := .i64) (i := 0) (by kernel_rfl) (by kernel_rfl) (by kernel_rfl) (by omega) (by omega)) (fun a_62 f_98 => ?_)
                    have hb_2 := byte_lt (behind.getD 0 0)
                    refine W_run (L' := [(0, .int .i64 n), (2, S ahead), (3, S behind), (9, S (text n).1), (109, .bool true), (118, .bool (decide (((behind.getD 0 0).toNat : Int) ≤ 57)))]) (w' := w_13) f_98 3 [0, 2, 3, 9, 109, 118] (by kernel_rfl) (fun a_63 f_99 => ?_)
                    rcases Bool.eq_false_or_eq_true (decide (((behind.getD 0 0).toNat : Int) ≤ 57)) with h_9 | h_9
                    · have k_15 : ((behind.getD 0 0).toNat : Int) ≤ 57 := decide_eq_true_iff.1 h_9
                      have f_100 := Frm.set f_99 118 (v := .bool (decide (((behind.getD 0 0).toNat : Int) ≤ 57))) (v' := .bool true) (by kernel_rfl) (congrArg Value.bool h_9)
                      have f_101 : Frm 166 [(0, .int .i64 n), (2, S ahead), (3, S behind), (9, S (text n).1), (109, .bool true), (118, .bool true)] a_63 := f_100.keep (ks := [0, 2, 3, 9, 109, 118]) (by kernel_rfl)
                      refine W_run (L' := [(0, .int .i64 n), (2, S ahead), (3, S behind), (9, S (text n).1), (133, .bool true)]) (w' := w_13) f_101 15 [0, 2, 3, 9, 133] (by kernel_rfl) (fun a_64 f_102 => ?_)
                      refine W_end rfl ?_
                      refine T_n ?_
                      have f_103 := Frm.set f_102 133 (v := .bool true) (v' := .bool ((decide ((0 : Int) < (behind.length : Int))) && (bif (decide ((48 : Int) ≤ ((behind.getD 0 0).toNat : Int))) then ((decide (((behind.getD 0 0).toNat : Int) ≤ 57)) || ((decide (((behind.getD 0 0).toNat : Int) = 46)) || ((decide (((behind.getD 0 0).toNat : Int) = 101)) || (decide (((behind.getD 0 0).toNat : Int) = 69))))) else ((decide (((behind.getD 0 0).toNat : Int) = 46)) || ((decide (((behind.getD 0 0).toNat : Int) = 101)) || (decide (((behind.getD 0 0).toNat : Int) = 69))))))) (by kernel_rfl) (by simp only [h_7, h_8, h_9, Bool.and_true, Bool.true_and, Bool.false_and, Bool.and_false, Bool.or_true, Bool.true_or, Bool.or_false, Bool.false_or, Bool.not_true, Bool.not_false, cond_true, cond_false])
                      exact ⟨f_103.keep (ks := [0, 2, 3, 9, 133]) (by kernel_rfl), p_13⟩
                    · have k_16 : ¬ (((behind.getD 0 0).toNat : Int) ≤ 57) := iff_f decide_eq_true_iff h_9
                      have f_104 := Frm.set f_99 118 (v := .bool (decide (((behind.getD 0 0).toNat : Int) ≤ 57))) (v' := .bool false) (by kernel_rfl) (congrArg Value.bool h_9)
                      have f_105 : Frm 166 [(0, .int .i64 n), (2, S ahead), (3, S behind), (9, S (text n).1), (109, .bool true), (118, .bool false)] a_63 := f_104.keep (ks := [0, 2, 3, 9, 109, 118]) (by kernel_rfl)
                      refine W_run (L' := [(0, .int .i64 n), (2, S ahead), (3, S behind), (9, S (text n).1), (109, .bool true), (118, .bool false), (119, S behind)]) (w' := w_13) f_105 1 [0, 2, 3, 9, 109, 118, 119] (by kernel_rfl) (fun a_65 f_106 => ?_)
                      refine W_eq f_106 (by kernel_rfl) (by kernel_rfl) rfl rfl (X_strIndex rfl (l := behind) (k := .i64) (i := 0) (by kernel_rfl) (by kernel_rfl) (by kernel_rfl) (by omega) (by omega)) (fun a_66 f_107 => ?_)
                      have hb_3 := byte_lt (behind.getD 0 0)
                      refine W_run (L' := [(0, .int .i64 n), (2, S ahead), (3, S behind), (9, S (text n).1), (109, .bool true), (123, .bool (decide (((behind.getD 0 0).toNat : Int) = 46)))]) (w' := w_13) f_107 3 [0, 2, 3, 9, 109, 123] (by kernel_rfl) (fun a_67 f_108 => ?_)
                      rcases Bool.eq_false_or_eq_true (decide (((behind.getD 0 0).toNat : Int) = 46)) with h_10 | h_10
                      · have k_17 : ((behind.getD 0 0).toNat : Int) = 46 := decide_eq_true_iff.1 h_10
                        have f_109 := Frm.set f_108 123 (v := .bool (decide (((behind.getD 0 0).toNat : Int) = 46))) (v' := .bool true) (by kernel_rfl) (congrArg Value.bool h_10)
                        have f_110 : Frm 166 [(0, .int .i64 n), (2, S ahead), (3, S behind), (9, S (text n).1), (109, .bool true), (123, .bool true)] a_67 := f_109.keep (ks := [0, 2, 3, 9, 109, 123]) (by kernel_rfl)
                        refine W_run (L' := [(0, .int .i64 n), (2, S ahead), (3, S behind), (9, S (text n).1), (133, .bool true)]) (w' := w_13) f_110 10 [0, 2, 3, 9, 133] (by kernel_rfl) (fun a_68 f_111 => ?_)
                        refine W_end rfl ?_
                        refine T_n ?_
                        have f_112 := Frm.set f_111 133 (v := .bool true) (v' := .bool ((decide ((0 : Int) < (behind.length : Int))) && (bif (decide ((48 : Int) ≤ ((behind.getD 0 0).toNat : Int))) then ((decide (((behind.getD 0 0).toNat : Int) ≤ 57)) || ((decide (((behind.getD 0 0).toNat : Int) = 46)) || ((decide (((behind.getD 0 0).toNat : Int) = 101)) || (decide (((behind.getD 0 0).toNat : Int) = 69))))) else ((decide (((behind.getD 0 0).toNat : Int) = 46)) || ((decide (((behind.getD 0 0).toNat : Int) = 101)) || (decide (((behind.getD 0 0).toNat : Int) = 69))))))) (by kernel_rfl) (by simp only [h_7, h_8, h_9, h_10, Bool.and_true, Bool.true_and, Bool.false_and, Bool.and_false, Bool.or_true, Bool.true_or, Bool.or_false, Bool.false_or, Bool.not_true, Bool.not_false, cond_true, cond_false])
                        exact ⟨f_112.keep (ks := [0, 2, 3, 9, 133]) (by kernel_rfl), p_13⟩
                      · have k_18 : ¬ (((behind.getD 0 0).toNat : Int) = 46) := iff_f decide_eq_true_iff h_10
                        have f_113 := Frm.set f_108 123 (v := .bool (decide (((behind.getD 0 0).toNat : Int) = 46))) (v' := .bool false) (by kernel_rfl) (congrArg Value.bool h_10)
                        have f_114 : Frm 166 [(0, .int .i64 n), (2, S ahead), (3, S behind), (9, S (text n).1), (109, .bool true), (123, .bool false)] a_67 := f_113.keep (ks := [0, 2, 3, 9, 109, 123]) (by kernel_rfl)
                        refine W_run (L' := [(0, .int .i64 n), (2, S ahead), (3, S behind), (9, S (text n).1), (109, .bool true), (123, .bool false), (124, S behind)]) (w' := w_13) f_114 1 [0, 2, 3, 9, 109, 123, 124] (by kernel_rfl) (fun a_69 f_115 => ?_)
                        refine W_eq f_115 (by kernel_rfl) (by kernel_rfl) rfl rfl (X_strIndex rfl (l := behind) (k := .i64) (i := 0) (by kernel_rfl) (by kernel_rfl) (by kernel_rfl) (by omega) (by omega)) (fun a_70 f_116 => ?_)
                        have hb_4 := byte_lt (behind.getD 0 0)
                        refine W_run (L' := [(0, .int .i64 n), (2, S ahead), (3, S behind), (9, S (text n).1), (109, .bool true), (128, .bool (decide (((behind.getD 0 0).toNat : Int) = 101)))]) (w' := w_13) f_116 3 [0, 2, 3, 9, 109, 128] (by kernel_rfl) (fun a_71 f_117 => ?_)
                        rcases Bool.eq_false_or_eq_true (decide (((behind.getD 0 0).toNat : Int) = 101)) with h_11 | h_11
                        · have k_19 : ((behind.getD 0 0).toNat : Int) = 101 := decide_eq_true_iff.1 h_11
                          have f_118 := Frm.set f_117 128 (v := .bool (decide (((behind.getD 0 0).toNat : Int) = 101))) (v' := .bool true) (by kernel_rfl) (congrArg Value.bool h_11)
                          have f_119 : Frm 166 [(0, .int .i64 n), (2, S ahead), (3, S behind), (9, S (text n).1), (109, .bool true), (128, .bool true)] a_71 := f_118.keep (ks := [0, 2, 3, 9, 109, 128]) (by kernel_rfl)
                          refine W_run (L' := [(0, .int .i64 n), (2, S ahead), (3, S behind), (9, S (text n).1), (133, .bool true)]) (w' := w_13) f_119 5 [0, 2, 3, 9, 133] (by kernel_rfl) (fun a_72 f_120 => ?_)
                          refine W_end rfl ?_
                          refine T_n ?_
                          have f_121 := Frm.set f_120 133 (v := .bool true) (v' := .bool ((decide ((0 : Int) < (behind.length : Int))) && (bif (decide ((48 : Int) ≤ ((behind.getD 0 0).toNat : Int))) then ((decide (((behind.getD 0 0).toNat : Int) ≤ 57)) || ((decide (((behind.getD 0 0).toNat : Int) = 46)) || ((decide (((behind.getD 0 0).toNat : Int) = 101)) || (decide (((behind.getD 0 0).toNat : Int) = 69))))) else ((decide (((behind.getD 0 0).toNat : Int) = 46)) || ((decide (((behind.getD 0 0).toNat : Int) = 101)) || (decide (((behind.getD 0 0).toNat : Int) = 69))))))) (by kernel_rfl) (by simp only [h_7, h_8, h_9, h_10, h_11, Bool.and_true, Bool.true_and, Bool.false_and, Bool.and_false, Bool.or_true, Bool.true_or, Bool.or_false, Bool.false_or, Bool.not_true, Bool.not_false, cond_true, cond_false])
                          exact ⟨f_121.keep (ks := [0, 2, 3, 9, 133]) (by kernel_rfl), p_13⟩
                        · have k_20 : ¬ (((behind.getD 0 0).toNat : Int) = 101) := iff_f decide_eq_true_iff h_11
                          have f_122 := Frm.set f_117 128 (v := .bool (decide (((behind.getD 0 0).toNat : Int) = 101))) (v' := .bool false) (by kernel_rfl) (congrArg Value.bool h_11)
                          have f_123 : Frm 166 [(0, .int .i64 n), (2, S ahead), (3, S behind), (9, S (text n).1), (109, .bool true), (128, .bool false)] a_71 := f_122.keep (ks := [0, 2, 3, 9, 109, 128]) (by kernel_rfl)
                          refine W_run (L' := [(0, .int .i64 n), (2, S ahead), (3, S behind), (9, S (text n).1), (109, .bool true), (128, .bool false), (129, S behind)]) (w' := w_13) f_123 1 [0, 2, 3, 9, 109, 128, 129] (by kernel_rfl) (fun a_73 f_124 => ?_)
                          refine W_eq f_124 (by kernel_rfl) (by kernel_rfl) rfl rfl (X_strIndex rfl (l := behind) (k := .i64) (i := 0) (by kernel_rfl) (by kernel_rfl) (by kernel_rfl) (by omega) (by omega)) (fun a_74 f_125 => ?_)
                          have hb_5 := byte_lt (behind.getD 0 0)
                          refine W_run (L' := [(0, .int .i64 n), (2, S ahead), (3, S behind), (9, S (text n).1), (133, .bool (decide (((behind.getD 0 0).toNat : Int) = 69)))]) (w' := w_13) f_125 3 [0, 2, 3, 9, 133] (by kernel_rfl) (fun a_75 f_126 => ?_)
                          refine W_end rfl ?_
                          refine T_n ?_
                          have f_127 := Frm.set f_126 133 (v := .bool (decide (((behind.getD 0 0).toNat : Int) = 69))) (v' := .bool ((decide ((0 : Int) < (behind.length : Int))) && (bif (decide ((48 : Int) ≤ ((behind.getD 0 0).toNat : Int))) then ((decide (((behind.getD 0 0).toNat : Int) ≤ 57)) || ((decide (((behind.getD 0 0).toNat : Int) = 46)) || ((decide (((behind.getD 0 0).toNat : Int) = 101)) || (decide (((behind.getD 0 0).toNat : Int) = 69))))) else ((decide (((behind.getD 0 0).toNat : Int) = 46)) || ((decide (((behind.getD 0 0).toNat : Int) = 101)) || (decide (((behind.getD 0 0).toNat : Int) = 69))))))) (by kernel_rfl) (by simp only [h_7, h_8, h_9, h_10, h_11, Bool.and_true, Bool.true_and, Bool.false_and, Bool.and_false, Bool.or_true, Bool.true_or, Bool.or_false, Bool.false_or, Bool.not_true, Bool.not_false, cond_true, cond_false])
                          exact ⟨f_127.keep (ks := [0, 2, 3, 9, 133]) (by kernel_rfl), p_13⟩
                  · have k_21 : ¬ ((48 : Int) ≤ ((behind.getD 0 0).toNat : Int)) := iff_f decide_eq_true_iff h_8
                    have f_128 := Frm.set f_94 113 (v := .bool (decide ((48 : Int) ≤ ((behind.getD 0 0).toNat : Int)))) (v' := .bool false) (by kernel_rfl) (congrArg Value.bool h_8)
                    have f_129 : Frm 166 [(0, .int .i64 n), (2, S ahead), (3, S behind), (9, S (text n).1), (109, .bool true), (113, .bool false)] a_60 := f_128.keep (ks := [0, 2, 3, 9, 109, 113]) (by kernel_rfl)
                    refine W_run (L' := [(0, .int .i64 n), (2, S ahead), (3, S behind), (9, S (text n).1), (109, .bool true), (118, .bool false), (119, S behind)]) (w' := w_13) f_129 6 [0, 2, 3, 9, 109, 118, 119] (by kernel_rfl) (fun a_76 f_130 => ?_)
                    refine W_eq f_130 (by kernel_rfl) (by kernel_rfl) rfl rfl (X_strIndex rfl (l := behind) (k := .i64) (i := 0) (by kernel_rfl) (by kernel_rfl) (by kernel_rfl) (by omega) (by omega)) (fun a_77 f_131 => ?_)
                    have hb_6 := byte_lt (behind.getD 0 0)
                    refine W_run (L' := [(0, .int .i64 n), (2, S ahead), (3, S behind), (9, S (text n).1), (109, .bool true), (123, .bool (decide (((behind.getD 0 0).toNat : Int) = 46)))]) (w' := w_13) f_131 3 [0, 2, 3, 9, 109, 123] (by kernel_rfl) (fun a_78 f_132 => ?_)
                    rcases Bool.eq_false_or_eq_true (decide (((behind.getD 0 0).toNat : Int) = 46)) with h_12 | h_12
                    · have k_22 : ((behind.getD 0 0).toNat : Int) = 46 := decide_eq_true_iff.1 h_12
                      have f_133 := Frm.set f_132 123 (v := .bool (decide (((behind.getD 0 0).toNat : Int) = 46))) (v' := .bool true) (by kernel_rfl) (congrArg Value.bool h_12)
                      have f_134 : Frm 166 [(0, .int .i64 n), (2, S ahead), (3, S behind), (9, S (text n).1), (109, .bool true), (123, .bool true)] a_78 := f_133.keep (ks := [0, 2, 3, 9, 109, 123]) (by kernel_rfl)
                      refine W_run (L' := [(0, .int .i64 n), (2, S ahead), (3, S behind), (9, S (text n).1), (133, .bool true)]) (w' := w_13) f_134 10 [0, 2, 3, 9, 133] (by kernel_rfl) (fun a_79 f_135 => ?_)
                      refine W_end rfl ?_
                      refine T_n ?_
                      have f_136 := Frm.set f_135 133 (v := .bool true) (v' := .bool ((decide ((0 : Int) < (behind.length : Int))) && (bif (decide ((48 : Int) ≤ ((behind.getD 0 0).toNat : Int))) then ((decide (((behind.getD 0 0).toNat : Int) ≤ 57)) || ((decide (((behind.getD 0 0).toNat : Int) = 46)) || ((decide (((behind.getD 0 0).toNat : Int) = 101)) || (decide (((behind.getD 0 0).toNat : Int) = 69))))) else ((decide (((behind.getD 0 0).toNat : Int) = 46)) || ((decide (((behind.getD 0 0).toNat : Int) = 101)) || (decide (((behind.getD 0 0).toNat : Int) = 69))))))) (by kernel_rfl) (by simp only [h_7, h_8, h_12, Bool.and_true, Bool.true_and, Bool.false_and, Bool.and_false, Bool.or_true, Bool.true_or, Bool.or_false, Bool.false_or, Bool.not_true, Bool.not_false, cond_true, cond_false])
                      exact ⟨f_136.keep (ks := [0, 2, 3, 9, 133]) (by kernel_rfl), p_13⟩
                    · have k_23 : ¬ (((behind.getD 0 0).toNat : Int) = 46) := iff_f decide_eq_true_iff h_12
                      have f_137 := Frm.set f_132 123 (v := .bool (decide (((behind.getD 0 0).toNat : Int) = 46))) (v' := .bool false) (by kernel_rfl) (congrArg Value.bool h_12)
                      have f_138 : Frm 166 [(0, .int .i64 n), (2, S ahead), (3, S behind), (9, S (text n).1), (109, .bool true), (123, .bool false)] a_78 := f_137.keep (ks := [0, 2, 3, 9, 109, 123]) (by kernel_rfl)
                      refine W_run (L' := [(0, .int .i64 n), (2, S ahead), (3, S behind), (9, S (text n).1), (109, .bool true), (123, .bool false), (124, S behind)]) (w' := w_13) f_138 1 [0, 2, 3, 9, 109, 123, 124] (by kernel_rfl) (fun a_80 f_139 => ?_)
                      refine W_eq f_139 (by kernel_rfl) (by kernel_rfl) rfl rfl (X_strIndex rfl (l := behind) (k := .i64) (i := 0) (by kernel_rfl) (by kernel_rfl) (by kernel_rfl) (by omega) (by omega)) (fun a_81 f_140 => ?_)
                      have hb_7 := byte_lt (behind.getD 0 0)
                      refine W_run (L' := [(0, .int .i64 n), (2, S ahead), (3, S behind), (9, S (text n).1), (109, .bool true), (128, .bool (decide (((behind.getD 0 0).toNat : Int) = 101)))]) (w' := w_13) f_140 3 [0, 2, 3, 9, 109, 128] (by kernel_rfl) (fun a_82 f_141 => ?_)
                      rcases Bool.eq_false_or_eq_true (decide (((behind.getD 0 0).toNat : Int) = 101)) with h_13 | h_13
                      · have k_24 : ((behind.getD 0 0).toNat : Int) = 101 := decide_eq_true_iff.1 h_13
                        have f_142 := Frm.set f_141 128 (v := .bool (decide (((behind.getD 0 0).toNat : Int) = 101))) (v' := .bool true) (by kernel_rfl) (congrArg Value.bool h_13)
                        have f_143 : Frm 166 [(0, .int .i64 n), (2, S ahead), (3, S behind), (9, S (text n).1), (109, .bool true), (128, .bool true)] a_82 := f_142.keep (ks := [0, 2, 3, 9, 109, 128]) (by kernel_rfl)
                        refine W_run (L' := [(0, .int .i64 n), (2, S ahead), (3, S behind), (9, S (text n).1), (133, .bool true)]) (w' := w_13) f_143 5 [0, 2, 3, 9, 133] (by kernel_rfl) (fun a_83 f_144 => ?_)
                        refine W_end rfl ?_
                        refine T_n ?_
                        have f_145 := Frm.set f_144 133 (v := .bool true) (v' := .bool ((decide ((0 : Int) < (behind.length : Int))) && (bif (decide ((48 : Int) ≤ ((behind.getD 0 0).toNat : Int))) then ((decide (((behind.getD 0 0).toNat : Int) ≤ 57)) || ((decide (((behind.getD 0 0).toNat : Int) = 46)) || ((decide (((behind.getD 0 0).toNat : Int) = 101)) || (decide (((behind.getD 0 0).toNat : Int) = 69))))) else ((decide (((behind.getD 0 0).toNat : Int) = 46)) || ((decide (((behind.getD 0 0).toNat : Int) = 101)) || (decide (((behind.getD 0 0).toNat : Int) = 69))))))) (by kernel_rfl) (by simp only [h_7, h_8, h_12, h_13, Bool.and_true, Bool.true_and, Bool.false_and, Bool.and_false, Bool.or_true, Bool.true_or, Bool.or_false, Bool.false_or, Bool.not_true, Bool.not_false, cond_true, cond_false])
                        exact ⟨f_145.keep (ks := [0, 2, 3, 9, 133]) (by kernel_rfl), p_13⟩
                      · have k_25 : ¬ (((behind.getD 0 0).toNat : Int) = 101) := iff_f decide_eq_true_iff h_13
                        have f_146 := Frm.set f_141 128 (v := .bool (decide (((behind.getD 0 0).toNat : Int) = 101))) (v' := .bool false) (by kernel_rfl) (congrArg Value.bool h_13)
                        have f_147 : Frm 166 [(0, .int .i64 n), (2, S ahead), (3, S behind), (9, S (text n).1), (109, .bool true), (128, .bool false)] a_82 := f_146.keep (ks := [0, 2, 3, 9, 109, 128]) (by kernel_rfl)
                        refine W_run (L' := [(0, .int .i64 n), (2, S ahead), (3, S behind), (9, S (text n).1), (109, .bool true), (128, .bool false), (129, S behind)]) (w' := w_13) f_147 1 [0, 2, 3, 9, 109, 128, 129] (by kernel_rfl) (fun a_84 f_148 => ?_)
                        refine W_eq f_148 (by kernel_rfl) (by kernel_rfl) rfl rfl (X_strIndex rfl (l := behind) (k := .i64) (i := 0) (by kernel_rfl) (by kernel_rfl) (by kernel_rfl) (by omega) (by omega)) (fun a_85 f_149 => ?_)
                        have hb_8 := byte_lt (behind.getD 0 0)
                        refine W_run (L' := [(0, .int .i64 n), (2, S ahead), (3, S behind), (9, S (text n).1), (133, .bool (decide (((behind.getD 0 0).toNat : Int) = 69)))]) (w' := w_13) f_149 3 [0, 2, 3, 9, 133] (by kernel_rfl) (fun a_86 f_150 => ?_)
                        refine W_end rfl ?_
                        refine T_n ?_
                        have f_151 := Frm.set f_150 133 (v := .bool (decide (((behind.getD 0 0).toNat : Int) = 69))) (v' := .bool ((decide ((0 : Int) < (behind.length : Int))) && (bif (decide ((48 : Int) ≤ ((behind.getD 0 0).toNat : Int))) then ((decide (((behind.getD 0 0).toNat : Int) ≤ 57)) || ((decide (((behind.getD 0 0).toNat : Int) = 46)) || ((decide (((behind.getD 0 0).toNat : Int) = 101)) || (decide (((behind.getD 0 0).toNat : Int) = 69))))) else ((decide (((behind.getD 0 0).toNat : Int) = 46)) || ((decide (((behind.getD 0 0).toNat : Int) = 101)) || (decide (((behind.getD 0 0).toNat : Int) = 69))))))) (by kernel_rfl) (by simp only [h_7, h_8, h_12, h_13, Bool.and_true, Bool.true_and, Bool.false_and, Bool.and_false, Bool.or_true, Bool.true_or, Bool.or_false, Bool.false_or, Bool.not_true, Bool.not_false, cond_true, cond_false])
                        exact ⟨f_151.keep (ks := [0, 2, 3, 9, 133]) (by kernel_rfl), p_13⟩
                · have k_26 : ¬ ((0 : Int) < (behind.length : Int)) := iff_f decide_eq_true_iff h_7
                  have f_152 := Frm.set f_89 109 (v := .bool (decide ((0 : Int) < (behind.length : Int)))) (v' := .bool false) (by kernel_rfl) (congrArg Value.bool h_7)
                  have f_153 : Frm 166 [(0, .int .i64 n), (2, S ahead), (3, S behind), (9, S (text n).1), (109, .bool false)] a_57 := f_152.keep (ks := [0, 2, 3, 9, 109]) (by kernel_rfl)
                  refine W_run (L' := [(0, .int .i64 n), (2, S ahead), (3, S behind), (9, S (text n).1), (133, .bool false)]) (w' := w_13) f_153 24 [0, 2, 3, 9, 133] (by kernel_rfl) (fun a_87 f_154 => ?_)
                  refine W_end rfl ?_
                  refine T_n ?_
                  have f_155 := Frm.set f_154 133 (v := .bool false) (v' := .bool ((decide ((0 : Int) < (behind.length : Int))) && (bif (decide ((48 : Int) ≤ ((behind.getD 0 0).toNat : Int))) then ((decide (((behind.getD 0 0).toNat : Int) ≤ 57)) || ((decide (((behind.getD 0 0).toNat : Int) = 46)) || ((decide (((behind.getD 0 0).toNat : Int) = 101)) || (decide (((behind.getD 0 0).toNat : Int) = 69))))) else ((decide (((behind.getD 0 0).toNat : Int) = 46)) || ((decide (((behind.getD 0 0).toNat : Int) = 101)) || (decide (((behind.getD 0 0).toNat : Int) = 69))))))) (by kernel_rfl) (by simp only [h_7, Bool.and_true, Bool.true_and, Bool.false_and, Bool.and_false, Bool.or_true, Bool.true_or, Bool.or_false, Bool.false_or, Bool.not_true, Bool.not_false, cond_true, cond_false])
                  exact ⟨f_155.keep (ks := [0, 2, 3, 9, 133]) (by kernel_rfl), p_13⟩
              · rintro a_56 w_14 ⟨f_88, p_14⟩
                refine T_n ?_
                refine R_cond f_88 (b := (decide ((0 : Int) < (behind.length : Int))) && (bif (decide ((48 : Int) ≤ ((behind.getD 0 0).toNat : Int))) then ((decide (((behind.getD 0 0).toNat : Int) ≤ 57)) || ((decide (((behind.getD 0 0).toNat : Int) = 46)) || ((decide (((behind.getD 0 0).toNat : Int) = 101)) || (decide (((behind.getD 0 0).toNat : Int) = 69))))) else ((decide (((behind.getD 0 0).toNat : Int) = 46)) || ((decide (((behind.getD 0 0).toNat : Int) = 101)) || (decide (((behind.getD 0 0).toNat : Int) = 69)))))) (by kernel_rfl) (by kernel_rfl) (fun h_14 => ?_) (fun h_14 => ?_)
                · have k_27 : ((0 : Int) < (behind.length : Int)) ∧ ((bif (decide ((48 : Int) ≤ ((behind.getD 0 0).toNat : Int))) then ((decide (((behind.getD 0 0).toNat : Int) ≤ 57)) || ((decide (((behind.getD 0 0).toNat : Int) = 46)) || ((decide (((behind.getD 0 0).toNat : Int) = 101)) || (decide (((behind.getD 0 0).toNat : Int) = 69))))) else ((decide (((behind.getD 0 0).toNat : Int) = 46)) || ((decide (((behind.getD 0 0).toNat : Int) = 101)) || (decide (((behind.getD 0 0).toNat : Int) = 69))))) = true) := (and_iff decide_eq_true_iff Iff.rfl).1 h_14
                  refine R_seq ?_
                  refine R_reg ?_
                  refine W_okv (v := .bool true) f_88 p_14 (by kernel_rfl) (by kernel_rfl) rfl rfl (fun _ => by kernel_rfl) (wakes02_ok _) (fun w_15 p_15 a_88 f_156 => ?_)
                  refine W_run (L' := [(8, .bool true)]) (w' := w_15) f_156 1 [8] (by kernel_rfl) (fun a_89 f_157 => ?_)
                  refine W_end rfl ?_
                  refine T_n ?_
                  refine wp_ret ?_
                  refine T_r ?_
                  refine E_ret1 f_157 rfl (by kernel_rfl : Vc.look _ 8 = some (.bool true)) ?_
                  refine ⟨_, rfl, M, (Mem.le_refl _), p_15, ?_⟩
                  rfl
                · have k_28 : ¬ (((0 : Int) < (behind.length : Int)) ∧ ((bif (decide ((48 : Int) ≤ ((behind.getD 0 0).toNat : Int))) then ((decide (((behind.getD 0 0).toNat : Int) ≤ 57)) || ((decide (((behind.getD 0 0).toNat : Int) = 46)) || ((decide (((behind.getD 0 0).toNat : Int) = 101)) || (decide (((behind.getD 0 0).toNat : Int) = 69))))) else ((decide (((behind.getD 0 0).toNat : Int) = 46)) || ((decide (((behind.getD 0 0).toNat : Int) = 101)) || (decide (((behind.getD 0 0).toNat : Int) = 69))))) = true)) := iff_f (and_iff decide_eq_true_iff Iff.rfl) h_14
                  refine wp_skip ?_
                  refine T_n ?_
                  refine R_seq ?_
                  have hst := stops_of k_28
                  have hal := k_4
                  refine R_reg ?_
                  refine W_run (L' := [(0, .int .i64 n), (2, S ahead), (3, S behind), (9, S (text n).1), (136, S ahead), (137, S (text n).1)]) (w' := w_14) f_88 2 [0, 2, 3, 9, 136, 137] (by kernel_rfl) (fun a_90 f_158 => ?_)
                  refine W_eq f_158 (by kernel_rfl) (by kernel_rfl) rfl rfl (X_concat rfl (l := ahead) (m := (text n).1) (by kernel_rfl) (by kernel_rfl) (by first | omega | (simp only [List.length_cons, List.length_nil, List.length_append]; omega))) (fun a_91 f_159 => ?_)
                  refine W_run (L' := [(0, .int .i64 n), (2, S ahead), (9, S (text n).1), (138, S (ahead ++ (text n).1)), (139, S behind)]) (w' := w_14) f_159 1 [0, 2, 9, 138, 139] (by kernel_rfl) (fun a_92 f_160 => ?_)
                  refine W_eq f_160 (by kernel_rfl) (by kernel_rfl) rfl rfl (X_concat rfl (l := ahead ++ (text n).1) (m := behind) (by kernel_rfl) (by kernel_rfl) (by first | omega | (simp only [List.length_cons, List.length_nil, List.length_append]; omega))) (fun a_93 f_161 => ?_)
                  refine W_run (L' := [(0, .int .i64 n), (2, S ahead), (9, S (text n).1), (140, S ((ahead ++ (text n).1) ++ behind)), (142, .int .i64 (ahead.length : Int))]) (w' := w_14) f_161 2 [0, 2, 9, 140, 142] (by kernel_rfl) (fun a_94 f_162 => ?_)
                  refine W_okv (v := .tuple #[.int .i64 (scan ((ahead ++ (text n).1) ++ behind) (ahead.length : Int)).1, .int .i64 (scan ((ahead ++ (text n).1) ++ behind) (ahead.length : Int)).2.1, .int .i64 (scan ((ahead ++ (text n).1) ++ behind) (ahead.length : Int)).2.2]) f_162 p_14 (by kernel_rfl) (by kernel_rfl) rfl rfl (fun _ => by kernel_rfl) (scanP_ok _ ((ahead ++ (text n).1) ++ behind) (ahead.length : Int) (by first | omega | decide | assumption | (simp only [List.length_append, List.length_cons, List.length_nil]; omega))) (fun w_16 p_16 a_95 f_163 => ?_)
                  have f_164 := Frm.set f_163 143 (v := .tuple #[.int .i64 (scan ((ahead ++ (text n).1) ++ behind) (ahead.length : Int)).1, .int .i64 (scan ((ahead ++ (text n).1) ++ behind) (ahead.length : Int)).2.1, .int .i64 (scan ((ahead ++ (text n).1) ++ behind) (ahead.length : Int)).2.2]) (v' := .tuple #[.int .i64 n, .int .i64 ((ahead.length : Int) + ((text n).1.length : Int)), .int .i64 0]) (by kernel_rfl) (by rw [scan_text hfit ahead behind hst])
                  have f_165 : Frm 166 [(0, .int .i64 n), (2, S ahead), (9, S (text n).1), (140, S ((ahead ++ (text n).1) ++ behind)), (142, .int .i64 (ahead.length : Int)), (143, .tuple #[.int .i64 n, .int .i64 ((ahead.length : Int) + ((text n).1.length : Int)), .int .i64 0])] a_95 := f_164.keep (ks := [0, 2, 9, 140, 142, 143]) (by kernel_rfl)
                  refine W_run (L' := [(0, .int .i64 n), (2, S ahead), (9, S (text n).1), (19, .int .i64 n), (20, .int .i64 ((ahead.length : Int) + ((text n).1.length : Int))), (21, .int .i64 0)]) (w' := w_16) f_165 7 [0, 2, 9, 19, 20, 21] (by kernel_rfl) (fun a_96 f_166 => ?_)
                  refine W_end rfl ?_
                  refine T_n ?_
                  refine R_seq ?_
                  refine R_reg ?_
                  refine W_run (L' := [(2, S ahead), (9, S (text n).1), (20, .int .i64 ((ahead.length : Int) + ((text n).1.length : Int))), (21, .int .i64 0), (147, .int .i64 n), (148, .int .i64 n)]) (w' := w_16) f_166 2 [2, 9, 20, 21, 147, 148] (by kernel_rfl) (fun a_97 f_167 => ?_)
                  refine W_run (L' := [(2, S ahead), (9, S (text n).1), (20, .int .i64 ((ahead.length : Int) + ((text n).1.length : Int))), (21, .int .i64 0), (147, .int .i64 n), (148, .int .i64 n), (149, .bool (decide (n = n)))]) (w' := w_16) f_167 1 [2, 9, 20, 21, 147, 148, 149] (by kernel_rfl) (fun a_98 f_168 => ?_)
                  have f_169 := Frm.set f_168 149 (v := .bool (decide (n = n))) (v' := .bool true) (by kernel_rfl) (congrArg Value.bool (decide_eq_true rfl))
                  have f_170 : Frm 166 [(2, S ahead), (9, S (text n).1), (20, .int .i64 ((ahead.length : Int) + ((text n).1.length : Int))), (21, .int .i64 0), (147, .int .i64 n), (148, .int .i64 n), (149, .bool true)] a_98 := f_169.keep (ks := [2, 9, 20, 21, 147, 148, 149]) (by kernel_rfl)
                  refine W_run (L' := [(21, .int .i64 0), (150, .bool true), (151, .int .i64 ((ahead.length : Int) + ((text n).1.length : Int))), (153, .int .i64 (ahead.length : Int)), (155, .int .i64 ((text n).1.length : Int))]) (w' := w_16) f_170 6 [21, 150, 151, 153, 155] (by kernel_rfl) (fun a_99 f_171 => ?_)
                  refine W_run (L' := [(21, .int .i64 0), (150, .bool true), (151, .int .i64 ((ahead.length : Int) + ((text n).1.length : Int))), (153, .int .i64 (ahead.length : Int)), (155, .int .i64 ((text n).1.length : Int)), (156, .int .i64 (IntKind.wrap .i64 ((ahead.length : Int) + ((text n).1.length : Int))))]) (w' := w_16) f_171 1 [21, 150, 151, 153, 155, 156] (by kernel_rfl) (fun a_100 f_172 => ?_)
                  have f_173 := Frm.set f_172 156 (v := .int .i64 (IntKind.wrap .i64 ((ahead.length : Int) + ((text n).1.length : Int)))) (v' := .int .i64 ((ahead.length : Int) + ((text n).1.length : Int))) (by kernel_rfl) (congrArg (Value.int .i64) (IntWalk.i64_in _ (by omega)))
                  have f_174 : Frm 166 [(21, .int .i64 0), (150, .bool true), (151, .int .i64 ((ahead.length : Int) + ((text n).1.length : Int))), (153, .int .i64 (ahead.length : Int)), (155, .int .i64 ((text n).1.length : Int)), (156, .int .i64 ((ahead.length : Int) + ((text n).1.length : Int)))] a_100 := f_173.keep (ks := [21, 150, 151, 153, 155, 156]) (by kernel_rfl)
                  refine W_run (L' := [(21, .int .i64 0), (150, .bool true), (151, .int .i64 ((ahead.length : Int) + ((text n).1.length : Int))), (153, .int .i64 (ahead.length : Int)), (155, .int .i64 ((text n).1.length : Int)), (156, .int .i64 ((ahead.length : Int) + ((text n).1.length : Int))), (157, .bool (decide (((ahead.length : Int) + ((text n).1.length : Int)) = ((ahead.length : Int) + ((text n).1.length : Int)))))]) (w' := w_16) f_174 1 [21, 150, 151, 153, 155, 156, 157] (by kernel_rfl) (fun a_101 f_175 => ?_)
                  have f_176 := Frm.set f_175 157 (v := .bool (decide (((ahead.length : Int) + ((text n).1.length : Int)) = ((ahead.length : Int) + ((text n).1.length : Int))))) (v' := .bool true) (by kernel_rfl) (congrArg Value.bool (decide_eq_true rfl))
                  have f_177 : Frm 166 [(21, .int .i64 0), (150, .bool true), (151, .int .i64 ((ahead.length : Int) + ((text n).1.length : Int))), (153, .int .i64 (ahead.length : Int)), (155, .int .i64 ((text n).1.length : Int)), (156, .int .i64 ((ahead.length : Int) + ((text n).1.length : Int))), (157, .bool true)] a_101 := f_176.keep (ks := [21, 150, 151, 153, 155, 156, 157]) (by kernel_rfl)
                  refine W_run (L' := [(163, .bool true)]) (w' := w_16) f_177 6 [163] (by kernel_rfl) (fun a_102 f_178 => ?_)
                  refine W_okv (v := .bool true) f_178 p_16 (by kernel_rfl) (by kernel_rfl) rfl rfl (fun _ => by kernel_rfl) (wakes02_ok _) (fun w_17 p_17 a_103 f_179 => ?_)
                  refine W_run (L' := [(8, .bool true)]) (w' := w_17) f_179 2 [8] (by kernel_rfl) (fun a_104 f_180 => ?_)
                  refine W_end rfl ?_
                  refine T_n ?_
                  refine wp_ret ?_
                  refine E_ret1 f_180 rfl (by kernel_rfl : Vc.look _ 8 = some (.bool true)) ?_
                  refine ⟨_, rfl, M, (Mem.le_refl _), p_17, ?_⟩
                  rfl
end Go.Proofs.Ytpofillhffbalaa
