/-
  The contract of the law NumberScans: it answers true.
-/
import Derived.Test.YtpofillhffbalaaNumC
set_option linter.unusedVariables false
set_option linter.unusedSimpArgs false
namespace Go.Proofs.Ytpofillhffbalaa
open Go Go.Vc Go.RowKit Go.Num
theorem numberScans_ok (M : Mem) (s : List UInt8) (at_ : Int) : Ok Try.prog M 3 [S s, .int .i64 at_] (fun _ v => v = .bool true) := by
  intro w0 H w p0
  refine R_enter 69 Try.func3 rfl rfl (by simp) (fun a0 f0 => ?_)
  replace f0 : Frm 69 [(0, S s), (1, .int .i64 at_)] a0 := f0
  refine R_seq ?_
  refine R_reg ?_
  refine W_run (L' := [(0, S s), (1, .int .i64 at_)]) (w' := w) f0 1 [0, 1] (by kernel_rfl) (fun a_1 f_1 => ?_)
  refine W_end rfl ?_
  refine T_n ?_
  refine R_seq ?_
  refine R_seq ?_
  refine R_reg ?_
  refine W_run (L' := [(0, S s), (1, .int .i64 at_), (17, .bool (decide ((400 : Int) < (s.length : Int))))]) (w' := w) f_1 3 [0, 1, 17] (by kernel_rfl) (fun a_2 f_2 => ?_)
  refine W_end rfl ?_
  refine T_n ?_
  refine R_cond f_2 (b := decide ((400 : Int) < (s.length : Int))) (by kernel_rfl) (by kernel_rfl) (fun h_1 => ?_) (fun h_1 => ?_)
  · have k_1 : (400 : Int) < (s.length : Int) := decide_eq_true_iff.1 h_1
    refine R_seq ?_
    refine R_reg ?_
    refine W_okv (v := .bool true) f_2 p0 (by kernel_rfl) (by kernel_rfl) rfl rfl (fun _ => by kernel_rfl) (wakes02_ok _) (fun w_1 p_1 a_3 f_3 => ?_)
    refine W_run (L' := [(4, .bool true)]) (w' := w_1) f_3 1 [4] (by kernel_rfl) (fun a_4 f_4 => ?_)
    refine W_end rfl ?_
    refine T_n ?_
    refine wp_ret ?_
    refine T_r ?_
    refine E_ret1 f_4 rfl (by kernel_rfl : Vc.look _ 4 = some (.bool true)) ?_
    refine ⟨_, rfl, M, (Mem.le_refl _), p_1, ?_⟩
    rfl
  · have k_2 : ¬ ((400 : Int) < (s.length : Int)) := iff_f decide_eq_true_iff h_1
    refine wp_skip ?_
    refine T_n ?_
    refine R_seq ?_
    refine R_reg ?_
    refine W_run (L' := [(0, S s), (1, .int .i64 at_), (20, S s), (21, .int .i64 at_)]) (w' := w) f_2 2 [0, 1, 20, 21] (by kernel_rfl) (fun a_5 f_5 => ?_)
    refine W_okv (v := .tuple #[.int .i64 (scan s at_).1, .int .i64 (scan s at_).2.1, .int .i64 (scan s at_).2.2]) f_5 p0 (by kernel_rfl) (by kernel_rfl) rfl rfl (fun _ => by kernel_rfl) (scanP_ok _ s at_ (by first | omega | decide | assumption | (simp only [List.length_append, List.length_cons, List.length_nil]; omega))) (fun w_2 p_2 a_6 f_6 => ?_)
    refine W_run (L' := [(0, S s), (1, .int .i64 at_), (5, .int .i64 (scan s at_).1), (6, .int .i64 (scan s at_).2.1), (7, .int .i64 (scan s at_).2.2)]) (w' := w_2) f_6 7 [0, 1, 5, 6, 7] (by kernel_rfl) (fun a_7 f_7 => ?_)
    refine W_end rfl ?_
    refine T_n ?_
    refine R_seq ?_
    refine R_reg ?_
    refine W_run (L' := [(0, S s), (5, .int .i64 (scan s at_).1), (6, .int .i64 (scan s at_).2.1), (7, .int .i64 (scan s at_).2.2), (27, S s), (28, .int .i64 at_)]) (w' := w_2) f_7 2 [0, 5, 6, 7, 27, 28] (by kernel_rfl) (fun a_8 f_8 => ?_)
    refine W_okv (v := .tuple #[.int .i64 (scan s at_).1, .int .i64 (scan s at_).2.1, .int .i64 (scan s at_).2.2]) f_8 p_2 (by kernel_rfl) (by kernel_rfl) rfl rfl (fun _ => by kernel_rfl) (scanR_ok _ s at_ (by first | omega | decide | assumption | (simp only [List.length_append, List.length_cons, List.length_nil]; omega))) (fun w_3 p_3 a_9 f_9 => ?_)
    refine W_run (L' := [(0, S s), (5, .int .i64 (scan s at_).1), (6, .int .i64 (scan s at_).2.1), (7, .int .i64 (scan s at_).2.2), (8, .int .i64 (scan s at_).1), (9, .int .i64 (scan s at_).2.1), (10, .int .i64 (scan s at_).2.2)]) (w' := w_3) f_9 7 [0, 5, 6, 7, 8, 9, 10] (by kernel_rfl) (fun a_10 f_10 => ?_)
    refine W_end rfl ?_
    refine T_n ?_
    refine R_seq ?_
    refine R_reg ?_
    refine W_run (L' := [(0, S s), (5, .int .i64 (scan s at_).1), (6, .int .i64 (scan s at_).2.1), (7, .int .i64 (scan s at_).2.2), (8, .int .i64 (scan s at_).1), (9, .int .i64 (scan s at_).2.1), (10, .int .i64 (scan s at_).2.2), (34, S s)]) (w' := w_3) f_10 1 [0, 5, 6, 7, 8, 9, 10, 34] (by kernel_rfl) (fun a_11 f_11 => ?_)
    refine W_okv (v := .tuple #[.int .i64 (read s).1, .int .i64 (read s).2]) f_11 p_3 (by kernel_rfl) (by kernel_rfl) rfl rfl (fun _ => by kernel_rfl) (readP_ok _ s (by first | omega | decide | assumption | (simp only [List.length_append, List.length_cons, List.length_nil]; omega))) (fun w_4 p_4 a_12 f_12 => ?_)
    refine W_run (L' := [(0, S s), (5, .int .i64 (scan s at_).1), (6, .int .i64 (scan s at_).2.1), (7, .int .i64 (scan s at_).2.2), (8, .int .i64 (scan s at_).1), (9, .int .i64 (scan s at_).2.1), (10, .int .i64 (scan s at_).2.2), (11, .int .i64 (read s).1), (12, .int .i64 (read s).2)]) (w' := w_4) f_12 5 [0, 5, 6, 7, 8, 9, 10, 11, 12] (by kernel_rfl) (fun a_13 f_13 => ?_)
    refine W_end rfl ?_
    refine T_n ?_
    refine R_seq ?_
    refine R_reg ?_
    refine W_run (L' := [(5, .int .i64 (scan s at_).1), (6, .int .i64 (scan s at_).2.1), (7, .int .i64 (scan s at_).2.2), (8, .int .i64 (scan s at_).1), (9, .int .i64 (scan s at_).2.1), (10, .int .i64 (scan s at_).2.2), (11, .int .i64 (read s).1), (12, .int .i64 (read s).2), (39, S s)]) (w' := w_4) f_13 1 [5, 6, 7, 8, 9, 10, 11, 12, 39] (by kernel_rfl) (fun a_14 f_14 => ?_)
    refine W_okv (v := .tuple #[.int .i64 (read s).1, .int .i64 (read s).2]) f_14 p_4 (by kernel_rfl) (by kernel_rfl) rfl rfl (fun _ => by kernel_rfl) (readR_ok _ s (by first | omega | decide | assumption | (simp only [List.length_append, List.length_cons, List.length_nil]; omega))) (fun w_5 p_5 a_15 f_15 => ?_)
    refine W_run (L' := [(5, .int .i64 (scan s at_).1), (6, .int .i64 (scan s at_).2.1), (7, .int .i64 (scan s at_).2.2), (8, .int .i64 (scan s at_).1), (9, .int .i64 (scan s at_).2.1), (10, .int .i64 (scan s at_).2.2), (11, .int .i64 (read s).1), (12, .int .i64 (read s).2), (13, .int .i64 (read s).1), (14, .int .i64 (read s).2)]) (w' := w_5) f_15 5 [5, 6, 7, 8, 9, 10, 11, 12, 13, 14] (by kernel_rfl) (fun a_16 f_16 => ?_)
    refine W_end rfl ?_
    refine T_n ?_
    refine R_seq ?_
    refine R_reg ?_
    refine W_run (L' := [(6, .int .i64 (scan s at_).2.1), (7, .int .i64 (scan s at_).2.2), (9, .int .i64 (scan s at_).2.1), (10, .int .i64 (scan s at_).2.2), (11, .int .i64 (read s).1), (12, .int .i64 (read s).2), (13, .int .i64 (read s).1), (14, .int .i64 (read s).2), (43, .int .i64 (scan s at_).1), (44, .int .i64 (scan s at_).1)]) (w' := w_5) f_16 2 [6, 7, 9, 10, 11, 12, 13, 14, 43, 44] (by kernel_rfl) (fun a_17 f_17 => ?_)
    refine W_run (L' := [(6, .int .i64 (scan s at_).2.1), (7, .int .i64 (scan s at_).2.2), (9, .int .i64 (scan s at_).2.1), (10, .int .i64 (scan s at_).2.2), (11, .int .i64 (read s).1), (12, .int .i64 (read s).2), (13, .int .i64 (read s).1), (14, .int .i64 (read s).2), (43, .int .i64 (scan s at_).1), (44, .int .i64 (scan s at_).1), (45, .bool (decide ((scan s at_).1 = (scan s at_).1)))]) (w' := w_5) f_17 1 [6, 7, 9, 10, 11, 12, 13, 14, 43, 44, 45] (by kernel_rfl) (fun a_18 f_18 => ?_)
    have f_19 := Frm.set f_18 45 (v := .bool (decide ((scan s at_).1 = (scan s at_).1))) (v' := .bool true) (by kernel_rfl) (congrArg Value.bool (decide_eq_true rfl))
    have f_20 : Frm 69 [(6, .int .i64 (scan s at_).2.1), (7, .int .i64 (scan s at_).2.2), (9, .int .i64 (scan s at_).2.1), (10, .int .i64 (scan s at_).2.2), (11, .int .i64 (read s).1), (12, .int .i64 (read s).2), (13, .int .i64 (read s).1), (14, .int .i64 (read s).2), (43, .int .i64 (scan s at_).1), (44, .int .i64 (scan s at_).1), (45, .bool true)] a_18 := f_19.keep (ks := [6, 7, 9, 10, 11, 12, 13, 14, 43, 44, 45]) (by kernel_rfl)
    refine W_run (L' := [(7, .int .i64 (scan s at_).2.2), (10, .int .i64 (scan s at_).2.2), (11, .int .i64 (read s).1), (12, .int .i64 (read s).2), (13, .int .i64 (read s).1), (14, .int .i64 (read s).2), (46, .bool true), (47, .int .i64 (scan s at_).2.1), (48, .int .i64 (scan s at_).2.1)]) (w' := w_5) f_20 3 [7, 10, 11, 12, 13, 14, 46, 47, 48] (by kernel_rfl) (fun a_19 f_21 => ?_)
    refine W_run (L' := [(7, .int .i64 (scan s at_).2.2), (10, .int .i64 (scan s at_).2.2), (11, .int .i64 (read s).1), (12, .int .i64 (read s).2), (13, .int .i64 (read s).1), (14, .int .i64 (read s).2), (46, .bool true), (47, .int .i64 (scan s at_).2.1), (48, .int .i64 (scan s at_).2.1), (49, .bool (decide ((scan s at_).2.1 = (scan s at_).2.1)))]) (w' := w_5) f_21 1 [7, 10, 11, 12, 13, 14, 46, 47, 48, 49] (by kernel_rfl) (fun a_20 f_22 => ?_)
    have f_23 := Frm.set f_22 49 (v := .bool (decide ((scan s at_).2.1 = (scan s at_).2.1))) (v' := .bool true) (by kernel_rfl) (congrArg Value.bool (decide_eq_true rfl))
    have f_24 : Frm 69 [(7, .int .i64 (scan s at_).2.2), (10, .int .i64 (scan s at_).2.2), (11, .int .i64 (read s).1), (12, .int .i64 (read s).2), (13, .int .i64 (read s).1), (14, .int .i64 (read s).2), (46, .bool true), (47, .int .i64 (scan s at_).2.1), (48, .int .i64 (scan s at_).2.1), (49, .bool true)] a_20 := f_23.keep (ks := [7, 10, 11, 12, 13, 14, 46, 47, 48, 49]) (by kernel_rfl)
    refine W_run (L' := [(11, .int .i64 (read s).1), (12, .int .i64 (read s).2), (13, .int .i64 (read s).1), (14, .int .i64 (read s).2), (51, .bool true), (52, .int .i64 (scan s at_).2.2), (53, .int .i64 (scan s at_).2.2)]) (w' := w_5) f_24 4 [11, 12, 13, 14, 51, 52, 53] (by kernel_rfl) (fun a_21 f_25 => ?_)
    refine W_run (L' := [(11, .int .i64 (read s).1), (12, .int .i64 (read s).2), (13, .int .i64 (read s).1), (14, .int .i64 (read s).2), (51, .bool true), (52, .int .i64 (scan s at_).2.2), (53, .int .i64 (scan s at_).2.2), (54, .bool (decide ((scan s at_).2.2 = (scan s at_).2.2)))]) (w' := w_5) f_25 1 [11, 12, 13, 14, 51, 52, 53, 54] (by kernel_rfl) (fun a_22 f_26 => ?_)
    have f_27 := Frm.set f_26 54 (v := .bool (decide ((scan s at_).2.2 = (scan s at_).2.2))) (v' := .bool true) (by kernel_rfl) (congrArg Value.bool (decide_eq_true rfl))
    have f_28 : Frm 69 [(11, .int .i64 (read s).1), (12, .int .i64 (read s).2), (13, .int .i64 (read s).1), (14, .int .i64 (read s).2), (51, .bool true), (52, .int .i64 (scan s at_).2.2), (53, .int .i64 (scan s at_).2.2), (54, .bool true)] a_22 := f_27.keep (ks := [11, 12, 13, 14, 51, 52, 53, 54]) (by kernel_rfl)
    refine W_run (L' := [(12, .int .i64 (read s).2), (14, .int .i64 (read s).2), (56, .bool true), (57, .int .i64 (read s).1), (58, .int .i64 (read s).1)]) (w' := w_5) f_28 4 [12, 14, 56, 57, 58] (by kernel_rfl) (fun a_23 f_29 => ?_)
    refine W_run (L' := [(12, .int .i64 (read s).2), (14, .int .i64 (read s).2), (56, .bool true), (57, .int .i64 (read s).1), (58, .int .i64 (read s).1), (59, .bool (decide ((read s).1 = (read s).1)))]) (w' := w_5) f_29 1 [12, 14, 56, 57, 58, 59] (by kernel_rfl) (fun a_24 f_30 => ?_)
    have f_31 := Frm.set f_30 59 (v := .bool (decide ((read s).1 = (read s).1))) (v' := .bool true) (by kernel_rfl) (congrArg Value.bool (decide_eq_true rfl))
    have f_32 : Frm 69 [(12, .int .i64 (read s).2), (14, .int .i64 (read s).2), (56, .bool true), (57, .int .i64 (read s).1), (58, .int .i64 (read s).1), (59, .bool true)] a_24 := f_31.keep (ks := [12, 14, 56, 57, 58, 59]) (by kernel_rfl)
    refine W_run (L' := [(61, .bool true), (62, .int .i64 (read s).2), (63, .int .i64 (read s).2)]) (w' := w_5) f_32 4 [61, 62, 63] (by kernel_rfl) (fun a_25 f_33 => ?_)
    refine W_run (L' := [(61, .bool true), (62, .int .i64 (read s).2), (63, .int .i64 (read s).2), (64, .bool (decide ((read s).2 = (read s).2)))]) (w' := w_5) f_33 1 [61, 62, 63, 64] (by kernel_rfl) (fun a_26 f_34 => ?_)
    have f_35 := Frm.set f_34 64 (v := .bool (decide ((read s).2 = (read s).2))) (v' := .bool true) (by kernel_rfl) (congrArg Value.bool (decide_eq_true rfl))
    have f_36 : Frm 69 [(61, .bool true), (62, .int .i64 (read s).2), (63, .int .i64 (read s).2), (64, .bool true)] a_26 := f_35.keep (ks := [61, 62, 63, 64]) (by kernel_rfl)
    refine W_run (L' := [(66, .bool true)]) (w' := w_5) f_36 2 [66] (by kernel_rfl) (fun a_27 f_37 => ?_)
    refine W_okv (v := .bool true) f_37 p_5 (by kernel_rfl) (by kernel_rfl) rfl rfl (fun _ => by kernel_rfl) (wakes02_ok _) (fun w_6 p_6 a_28 f_38 => ?_)
    refine W_run (L' := [(4, .bool true)]) (w' := w_6) f_38 2 [4] (by kernel_rfl) (fun a_29 f_39 => ?_)
    refine W_end rfl ?_
    refine T_n ?_
    refine wp_ret ?_
    refine E_ret1 f_39 rfl (by kernel_rfl : Vc.look _ 4 = some (.bool true)) ?_
    refine ⟨_, rfl, M, (Mem.le_refl _), p_6, ?_⟩
    rfl
end Go.Proofs.Ytpofillhffbalaa
