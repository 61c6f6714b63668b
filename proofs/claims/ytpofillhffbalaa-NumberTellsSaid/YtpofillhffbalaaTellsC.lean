/-
  The contract of the law NumberTells: it answers true.
-/
import Derived.Test.YtpofillhffbalaaTextC
set_option linter.unusedVariables false
set_option linter.unusedSimpArgs false
namespace Go.Proofs.Ytpofillhffbalaa
open Go Go.Vc Go.RowKit Go.Num
theorem numberTells_ok (M : Mem) (n : Int) (c : UInt8) : Ok Try.prog M 5 [.int .i64 n, .int .u8 (c.toNat : Int)] (fun _ v => v = .bool true) := by
  intro w0 H w p0
  refine R_enter 51 Try.func5 rfl rfl (by simp) (fun a0 f0 => ?_)
  replace f0 : Frm 51 [(0, .int .i64 n), (1, .int .u8 (c.toNat : Int))] a0 := f0
  refine R_seq ?_
  refine R_reg ?_
  refine W_run (L' := [(0, .int .i64 n), (1, .int .u8 (c.toNat : Int))]) (w' := w) f0 1 [0, 1] (by kernel_rfl) (fun a_1 f_1 => ?_)
  refine W_end rfl ?_
  refine T_n ?_
  refine R_seq ?_
  refine R_reg ?_
  refine W_run (L' := [(0, .int .i64 n), (1, .int .u8 (c.toNat : Int)), (10, .int .i64 n)]) (w' := w) f_1 1 [0, 1, 10] (by kernel_rfl) (fun a_2 f_2 => ?_)
  refine W_okv (v := .tuple #[S (text n).1, .int .i64 (text n).2]) f_2 p0 (by kernel_rfl) (by kernel_rfl) rfl rfl (fun _ => by kernel_rfl) (textP_ok _ (n)) (fun w_1 p_1 a_3 f_3 => ?_)
  refine W_run (L' := [(0, .int .i64 n), (1, .int .u8 (c.toNat : Int)), (5, S (text n).1), (6, .int .i64 (text n).2)]) (w' := w_1) f_3 5 [0, 1, 5, 6] (by kernel_rfl) (fun a_4 f_4 => ?_)
  refine W_end rfl ?_
  refine T_n ?_
  refine R_seq ?_
  refine R_reg ?_
  refine W_run (L' := [(0, .int .i64 n), (1, .int .u8 (c.toNat : Int)), (5, S (text n).1), (6, .int .i64 (text n).2), (15, .int .i64 n)]) (w' := w_1) f_4 1 [0, 1, 5, 6, 15] (by kernel_rfl) (fun a_5 f_5 => ?_)
  refine W_okv (v := .tuple #[S (text n).1, .int .i64 (text n).2]) f_5 p_1 (by kernel_rfl) (by kernel_rfl) rfl rfl (fun _ => by kernel_rfl) (textR_ok _ (n)) (fun w_2 p_2 a_6 f_6 => ?_)
  refine W_run (L' := [(0, .int .i64 n), (1, .int .u8 (c.toNat : Int)), (5, S (text n).1), (6, .int .i64 (text n).2), (7, S (text n).1), (8, .int .i64 (text n).2)]) (w' := w_2) f_6 5 [0, 1, 5, 6, 7, 8] (by kernel_rfl) (fun a_7 f_7 => ?_)
  refine W_end rfl ?_
  refine T_n ?_
  refine R_seq ?_
  refine R_reg ?_
  refine W_run (L' := [(0, .int .i64 n), (1, .int .u8 (c.toNat : Int)), (6, .int .i64 (text n).2), (8, .int .i64 (text n).2), (19, S (text n).1), (20, S (text n).1)]) (w' := w_2) f_7 2 [0, 1, 6, 8, 19, 20] (by kernel_rfl) (fun a_8 f_8 => ?_)
  refine W_eq f_8 (by kernel_rfl) (by kernel_rfl) rfl rfl (X_streq rfl (l := (text n).1) (m := (text n).1) (by kernel_rfl) (by kernel_rfl)) (fun a_9 f_9 => ?_)
  have f_10 := Frm.set f_9 21 (v := .bool (decide ((text n).1 = (text n).1))) (v' := .bool true) (by kernel_rfl) (congrArg Value.bool (decide_eq_true rfl))
  have f_11 : Frm 51 [(0, .int .i64 n), (1, .int .u8 (c.toNat : Int)), (6, .int .i64 (text n).2), (8, .int .i64 (text n).2), (19, S (text n).1), (20, S (text n).1), (21, .bool true)] a_9 := f_10.keep (ks := [0, 1, 6, 8, 19, 20, 21]) (by kernel_rfl)
  refine W_run (L' := [(0, .int .i64 n), (1, .int .u8 (c.toNat : Int)), (22, .bool true), (23, .int .i64 (text n).2), (24, .int .i64 (text n).2)]) (w' := w_2) f_11 3 [0, 1, 22, 23, 24] (by kernel_rfl) (fun a_10 f_12 => ?_)
  refine W_run (L' := [(0, .int .i64 n), (1, .int .u8 (c.toNat : Int)), (22, .bool true), (23, .int .i64 (text n).2), (24, .int .i64 (text n).2), (25, .bool (decide ((text n).2 = (text n).2)))]) (w' := w_2) f_12 1 [0, 1, 22, 23, 24, 25] (by kernel_rfl) (fun a_11 f_13 => ?_)
  have f_14 := Frm.set f_13 25 (v := .bool (decide ((text n).2 = (text n).2))) (v' := .bool true) (by kernel_rfl) (congrArg Value.bool (decide_eq_true rfl))
  have f_15 : Frm 51 [(0, .int .i64 n), (1, .int .u8 (c.toNat : Int)), (22, .bool true), (23, .int .i64 (text n).2), (24, .int .i64 (text n).2), (25, .bool true)] a_11 := f_14.keep (ks := [0, 1, 22, 23, 24, 25]) (by kernel_rfl)
  refine W_run (L' := [(0, .int .i64 n), (1, .int .u8 (c.toNat : Int)), (27, .bool true), (28, .int .i64 n)]) (w' := w_2) f_15 3 [0, 1, 27, 28] (by kernel_rfl) (fun a_12 f_16 => ?_)
  refine W_okv (v := .bool (fitsB n)) f_16 p_2 (by kernel_rfl) (by kernel_rfl) rfl rfl (fun _ => by kernel_rfl) (fits_ok _ (n)) (fun w_3 p_3 a_13 f_17 => ?_)
  refine W_run (L' := [(0, .int .i64 n), (1, .int .u8 (c.toNat : Int)), (27, .bool true), (29, .bool (fitsB n)), (30, .int .i64 n)]) (w' := w_3) f_17 1 [0, 1, 27, 29, 30] (by kernel_rfl) (fun a_14 f_18 => ?_)
  refine W_okv (v := .bool (fitsB n)) f_18 p_3 (by kernel_rfl) (by kernel_rfl) rfl rfl (fun _ => by kernel_rfl) (fitsR_ok _ (n)) (fun w_4 p_4 a_15 f_19 => ?_)
  refine W_run (L' := [(0, .int .i64 n), (1, .int .u8 (c.toNat : Int)), (27, .bool true), (29, .bool (fitsB n)), (30, .int .i64 n), (31, .bool (fitsB n)), (32, .bool ((fitsB n) == (fitsB n)))]) (w' := w_4) f_19 1 [0, 1, 27, 29, 30, 31, 32] (by kernel_rfl) (fun a_16 f_20 => ?_)
  have f_21 := Frm.set f_20 32 (v := .bool ((fitsB n) == (fitsB n))) (v' := .bool true) (by kernel_rfl) (congrArg Value.bool (beq_self_eq_true _))
  have f_22 : Frm 51 [(0, .int .i64 n), (1, .int .u8 (c.toNat : Int)), (27, .bool true), (29, .bool (fitsB n)), (30, .int .i64 n), (31, .bool (fitsB n)), (32, .bool true)] a_16 := f_21.keep (ks := [0, 1, 27, 29, 30, 31, 32]) (by kernel_rfl)
  refine W_run (L' := [(0, .int .i64 n), (1, .int .u8 (c.toNat : Int)), (34, .bool true), (35, .int .i64 n)]) (w' := w_4) f_22 3 [0, 1, 34, 35] (by kernel_rfl) (fun a_17 f_23 => ?_)
  refine W_okv (v := .int .i64 ((text n).1.length : Int)) f_23 p_4 (by kernel_rfl) (by kernel_rfl) rfl rfl (fun _ => by kernel_rfl) (lenP_ok _ (n)) (fun w_5 p_5 a_18 f_24 => ?_)
  refine W_run (L' := [(1, .int .u8 (c.toNat : Int)), (34, .bool true), (36, .int .i64 ((text n).1.length : Int)), (37, .int .i64 n)]) (w' := w_5) f_24 1 [1, 34, 36, 37] (by kernel_rfl) (fun a_19 f_25 => ?_)
  refine W_okv (v := .int .i64 ((text n).1.length : Int)) f_25 p_5 (by kernel_rfl) (by kernel_rfl) rfl rfl (fun _ => by kernel_rfl) (lenR_ok _ (n)) (fun w_6 p_6 a_20 f_26 => ?_)
  refine W_run (L' := [(1, .int .u8 (c.toNat : Int)), (34, .bool true), (36, .int .i64 ((text n).1.length : Int)), (37, .int .i64 n), (38, .int .i64 ((text n).1.length : Int)), (39, .bool (decide (((text n).1.length : Int) = ((text n).1.length : Int))))]) (w' := w_6) f_26 1 [1, 34, 36, 37, 38, 39] (by kernel_rfl) (fun a_21 f_27 => ?_)
  have f_28 := Frm.set f_27 39 (v := .bool (decide (((text n).1.length : Int) = ((text n).1.length : Int)))) (v' := .bool true) (by kernel_rfl) (congrArg Value.bool (decide_eq_true rfl))
  have f_29 : Frm 51 [(1, .int .u8 (c.toNat : Int)), (34, .bool true), (36, .int .i64 ((text n).1.length : Int)), (37, .int .i64 n), (38, .int .i64 ((text n).1.length : Int)), (39, .bool true)] a_21 := f_28.keep (ks := [1, 34, 36, 37, 38, 39]) (by kernel_rfl)
  refine W_run (L' := [(1, .int .u8 (c.toNat : Int)), (41, .bool true), (42, .int .u8 (c.toNat : Int))]) (w' := w_6) f_29 3 [1, 41, 42] (by kernel_rfl) (fun a_22 f_30 => ?_)
  refine W_okv (v := .bool (dig c)) f_30 p_6 (by kernel_rfl) (by kernel_rfl) rfl rfl (fun _ => by kernel_rfl) (digit_ok _ (c)) (fun w_7 p_7 a_23 f_31 => ?_)
  refine W_run (L' := [(41, .bool true), (43, .bool (dig c)), (44, .int .u8 (c.toNat : Int))]) (w' := w_7) f_31 1 [41, 43, 44] (by kernel_rfl) (fun a_24 f_32 => ?_)
  refine W_okv (v := .bool (dig c)) f_32 p_7 (by kernel_rfl) (by kernel_rfl) rfl rfl (fun _ => by kernel_rfl) (digitR_ok _ (c)) (fun w_8 p_8 a_25 f_33 => ?_)
  refine W_run (L' := [(41, .bool true), (43, .bool (dig c)), (44, .int .u8 (c.toNat : Int)), (45, .bool (dig c)), (46, .bool ((dig c) == (dig c)))]) (w' := w_8) f_33 1 [41, 43, 44, 45, 46] (by kernel_rfl) (fun a_26 f_34 => ?_)
  have f_35 := Frm.set f_34 46 (v := .bool ((dig c) == (dig c))) (v' := .bool true) (by kernel_rfl) (congrArg Value.bool (beq_self_eq_true _))
  have f_36 : Frm 51 [(41, .bool true), (43, .bool (dig c)), (44, .int .u8 (c.toNat : Int)), (45, .bool (dig c)), (46, .bool true)] a_26 := f_35.keep (ks := [41, 43, 44, 45, 46]) (by kernel_rfl)
  refine W_run (L' := [(48, .bool true)]) (w' := w_8) f_36 2 [48] (by kernel_rfl) (fun a_27 f_37 => ?_)
  refine W_okv (v := .bool true) f_37 p_8 (by kernel_rfl) (by kernel_rfl) rfl rfl (fun _ => by kernel_rfl) (wakes02_ok _) (fun w_9 p_9 a_28 f_38 => ?_)
  refine W_run (L' := [(4, .bool true)]) (w' := w_9) f_38 2 [4] (by kernel_rfl) (fun a_29 f_39 => ?_)
  refine W_end rfl ?_
  refine T_n ?_
  refine wp_ret ?_
  refine E_ret1 f_39 rfl (by kernel_rfl : Vc.look _ 4 = some (.bool true)) ?_
  refine ⟨_, rfl, M, (Mem.le_refl _), p_9, ?_⟩
  rfl
end Go.Proofs.Ytpofillhffbalaa
