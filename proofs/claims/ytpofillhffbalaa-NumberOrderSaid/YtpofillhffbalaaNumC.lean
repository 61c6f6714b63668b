/-
  Contracts of the functions of package number, of its reference, and of what the laws of chapter 2 call. No condition but that a text is shorter than 2 to the 47.
-/
import Derived.Test.YtpofillhffbalaaVc6
import Derived.Test.YtpofillhffbalaaNum
import Derived.Test.YtpofillhffbalaaRows
set_option linter.unusedVariables false
set_option linter.unusedSimpArgs false
namespace Go.Proofs.Ytpofillhffbalaa
open Go Go.Vc Go.RowKit Go.Num
theorem tup3 {x : Int × Int × Int} {a b c : Int} (h : x = (a, b, c)) : Value.tuple #[.int .i64 a, .int .i64 b, .int .i64 c] = .tuple #[.int .i64 x.1, .int .i64 x.2.1, .int .i64 x.2.2] := by rw [h]
theorem tup2 {x : Int × Int} {a b : Int} (h : x = (a, b)) : Value.tuple #[.int .i64 a, .int .i64 b] = .tuple #[.int .i64 x.1, .int .i64 x.2] := by rw [h]
theorem fits_ok (M : Mem) (n : Int) : Ok Try.prog M 14 [.int .i64 n] (fun _ v => v = .bool (fitsB n)) := by
  intro w0 H w p0
  refine R_enter 9 Try.func14 rfl rfl (by simp) (fun a0 f0 => ?_)
  replace f0 : Frm 9 [(0, .int .i64 n)] a0 := f0
  refine R_seq ?_
  refine R_reg ?_
  refine W_run (L' := [(0, .int .i64 n)]) (w' := w) f0 1 [0] (by kernel_rfl) (fun a_1 f_1 => ?_)
  refine W_end rfl ?_
  refine T_n ?_
  refine R_seq ?_
  refine R_mid (fun a_2 w_1 => Frm 9 [(2, .bool ((decide ((-9007199254740992 : Int) ≤ n)) && (decide (n ≤ 9007199254740992))))] a_2 ∧ Hp w0 M (H) w_1) ?_ ?_
  · refine R_reg ?_
    refine W_run (L' := [(0, .int .i64 n), (5, .bool (decide ((-9007199254740992 : Int) ≤ n)))]) (w' := w) f_1 3 [0, 5] (by kernel_rfl) (fun a_3 f_3 => ?_)
    rcases Bool.eq_false_or_eq_true (decide ((-9007199254740992 : Int) ≤ n)) with h_1 | h_1
    · have k_1 : (-9007199254740992 : Int) ≤ n := decide_eq_true_iff.1 h_1
      have f_4 := Frm.set f_3 5 (v := .bool (decide ((-9007199254740992 : Int) ≤ n))) (v' := .bool true) (by kernel_rfl) (congrArg Value.bool h_1)
      have f_5 : Frm 9 [(0, .int .i64 n), (5, .bool true)] a_3 := f_4.keep (ks := [0, 5]) (by kernel_rfl)
      refine W_run (L' := [(2, .bool (decide (n ≤ 9007199254740992)))]) (w' := w) f_5 4 [2] (by kernel_rfl) (fun a_4 f_6 => ?_)
      refine W_end rfl ?_
      refine T_n ?_
      have f_7 := Frm.set f_6 2 (v := .bool (decide (n ≤ 9007199254740992))) (v' := .bool ((decide ((-9007199254740992 : Int) ≤ n)) && (decide (n ≤ 9007199254740992)))) (by kernel_rfl) (by simp only [h_1, Bool.and_true, Bool.true_and, Bool.false_and, Bool.and_false, Bool.or_true, Bool.true_or, Bool.or_false, Bool.false_or, Bool.not_true, Bool.not_false, cond_true, cond_false])
      exact ⟨f_7.keep (ks := [2]) (by kernel_rfl), p0⟩
    · have k_2 : ¬ ((-9007199254740992 : Int) ≤ n) := iff_f decide_eq_true_iff h_1
      have f_8 := Frm.set f_3 5 (v := .bool (decide ((-9007199254740992 : Int) ≤ n))) (v' := .bool false) (by kernel_rfl) (congrArg Value.bool h_1)
      have f_9 : Frm 9 [(0, .int .i64 n), (5, .bool false)] a_3 := f_8.keep (ks := [0, 5]) (by kernel_rfl)
      refine W_run (L' := [(2, .bool false)]) (w' := w) f_9 4 [2] (by kernel_rfl) (fun a_5 f_10 => ?_)
      refine W_end rfl ?_
      refine T_n ?_
      have f_11 := Frm.set f_10 2 (v := .bool false) (v' := .bool ((decide ((-9007199254740992 : Int) ≤ n)) && (decide (n ≤ 9007199254740992)))) (by kernel_rfl) (by simp only [h_1, Bool.and_true, Bool.true_and, Bool.false_and, Bool.and_false, Bool.or_true, Bool.true_or, Bool.or_false, Bool.false_or, Bool.not_true, Bool.not_false, cond_true, cond_false])
      exact ⟨f_11.keep (ks := [2]) (by kernel_rfl), p0⟩
  · rintro a_2 w_1 ⟨f_2, p_1⟩
    refine T_n ?_
    refine wp_ret ?_
    refine E_ret1 f_2 rfl (by kernel_rfl : Vc.look _ 2 = some (.bool ((decide ((-9007199254740992 : Int) ≤ n)) && (decide (n ≤ 9007199254740992))))) ?_
    refine ⟨_, rfl, M, (Mem.le_refl _), p_1, ?_⟩
    exact congrArg Value.bool (fits_eq _)

theorem fitsR_ok (M : Mem) (n : Int) : Ok Try.prog M 15 [.int .i64 n] (fun _ v => v = .bool (fitsB n)) := by
  intro w0 H w p0
  refine R_enter 9 Try.func15 rfl rfl (by simp) (fun a0 f0 => ?_)
  replace f0 : Frm 9 [(0, .int .i64 n)] a0 := f0
  refine R_seq ?_
  refine R_reg ?_
  refine W_run (L' := [(0, .int .i64 n)]) (w' := w) f0 1 [0] (by kernel_rfl) (fun a_1 f_1 => ?_)
  refine W_end rfl ?_
  refine T_n ?_
  refine R_seq ?_
  refine R_mid (fun a_2 w_1 => Frm 9 [(2, .bool ((decide ((-9007199254740992 : Int) ≤ n)) && (decide (n ≤ 9007199254740992))))] a_2 ∧ Hp w0 M (H) w_1) ?_ ?_
  · refine R_reg ?_
    refine W_run (L' := [(0, .int .i64 n), (5, .bool (decide ((-9007199254740992 : Int) ≤ n)))]) (w' := w) f_1 3 [0, 5] (by kernel_rfl) (fun a_3 f_3 => ?_)
    rcases Bool.eq_false_or_eq_true (decide ((-9007199254740992 : Int) ≤ n)) with h_1 | h_1
    · have k_1 : (-9007199254740992 : Int) ≤ n := decide_eq_true_iff.1 h_1
      have f_4 := Frm.set f_3 5 (v := .bool (decide ((-9007199254740992 : Int) ≤ n))) (v' := .bool true) (by kernel_rfl) (congrArg Value.bool h_1)
      have f_5 : Frm 9 [(0, .int .i64 n), (5, .bool true)] a_3 := f_4.keep (ks := [0, 5]) (by kernel_rfl)
      refine W_run (L' := [(2, .bool (decide (n ≤ 9007199254740992)))]) (w' := w) f_5 4 [2] (by kernel_rfl) (fun a_4 f_6 => ?_)
      refine W_end rfl ?_
      refine T_n ?_
      have f_7 := Frm.set f_6 2 (v := .bool (decide (n ≤ 9007199254740992))) (v' := .bool ((decide ((-9007199254740992 : Int) ≤ n)) && (decide (n ≤ 9007199254740992)))) (by kernel_rfl) (by simp only [h_1, Bool.and_true, Bool.true_and, Bool.false_and, Bool.and_false, Bool.or_true, Bool.true_or, Bool.or_false, Bool.false_or, Bool.not_true, Bool.not_false, cond_true, cond_false])
      exact ⟨f_7.keep (ks := [2]) (by kernel_rfl), p0⟩
    · have k_2 : ¬ ((-9007199254740992 : Int) ≤ n) := iff_f decide_eq_true_iff h_1
      have f_8 := Frm.set f_3 5 (v := .bool (decide ((-9007199254740992 : Int) ≤ n))) (v' := .bool false) (by kernel_rfl) (congrArg Value.bool h_1)
      have f_9 : Frm 9 [(0, .int .i64 n), (5, .bool false)] a_3 := f_8.keep (ks := [0, 5]) (by kernel_rfl)
      refine W_run (L' := [(2, .bool false)]) (w' := w) f_9 4 [2] (by kernel_rfl) (fun a_5 f_10 => ?_)
      refine W_end rfl ?_
      refine T_n ?_
      have f_11 := Frm.set f_10 2 (v := .bool false) (v' := .bool ((decide ((-9007199254740992 : Int) ≤ n)) && (decide (n ≤ 9007199254740992)))) (by kernel_rfl) (by simp only [h_1, Bool.and_true, Bool.true_and, Bool.false_and, Bool.and_false, Bool.or_true, Bool.true_or, Bool.or_false, Bool.false_or, Bool.not_true, Bool.not_false, cond_true, cond_false])
      exact ⟨f_11.keep (ks := [2]) (by kernel_rfl), p0⟩
  · rintro a_2 w_1 ⟨f_2, p_1⟩
    refine T_n ?_
    refine wp_ret ?_
    refine E_ret1 f_2 rfl (by kernel_rfl : Vc.look _ 2 = some (.bool ((decide ((-9007199254740992 : Int) ≤ n)) && (decide (n ≤ 9007199254740992))))) ?_
    refine ⟨_, rfl, M, (Mem.le_refl _), p_1, ?_⟩
    exact congrArg Value.bool (fits_eqR _)

theorem digit_ok (M : Mem) (c : UInt8) : Ok Try.prog M 18 [.int .u8 (c.toNat : Int)] (fun _ v => v = .bool (dig c)) := by
  intro w0 H w p0
  refine R_enter 6 Try.func18 rfl rfl (by simp) (fun a0 f0 => ?_)
  replace f0 : Frm 6 [(0, .int .u8 (c.toNat : Int))] a0 := f0
  refine R_seq ?_
  refine R_reg ?_
  refine W_run (L' := [(0, .int .u8 (c.toNat : Int))]) (w' := w) f0 1 [0] (by kernel_rfl) (fun a_1 f_1 => ?_)
  refine W_end rfl ?_
  refine T_n ?_
  refine R_seq ?_
  refine R_reg ?_
  refine W_run (L' := [(3, .int .u8 (c.toNat : Int))]) (w' := w) f_1 1 [3] (by kernel_rfl) (fun a_2 f_2 => ?_)
  refine W_run (L' := [(3, .int .u8 (c.toNat : Int)), (4, .int .u8 (IntKind.wrap .u8 ((c.toNat : Int) - 48)))]) (w' := w) f_2 1 [3, 4] (by kernel_rfl) (fun a_3 f_3 => ?_)
  have f_4 := Frm.set f_3 4 (v := .int .u8 (IntKind.wrap .u8 ((c.toNat : Int) - 48))) (v' := .int .u8 (((c.toNat : Int) - 48) % 256)) (by kernel_rfl) (congrArg (Value.int .u8) (IntKind.wrap_u8 _))
  have f_5 : Frm 6 [(3, .int .u8 (c.toNat : Int)), (4, .int .u8 (((c.toNat : Int) - 48) % 256))] a_3 := f_4.keep (ks := [3, 4]) (by kernel_rfl)
  refine W_run (L' := [(2, .bool (decide ((((c.toNat : Int) - 48) % 256) < 10)))]) (w' := w) f_5 2 [2] (by kernel_rfl) (fun a_4 f_6 => ?_)
  refine W_end rfl ?_
  refine T_n ?_
  refine wp_ret ?_
  refine E_ret1 f_6 rfl (by kernel_rfl : Vc.look _ 2 = some (.bool (decide ((((c.toNat : Int) - 48) % 256) < 10)))) ?_
  refine ⟨_, rfl, M, (Mem.le_refl _), p0, ?_⟩
  exact congrArg Value.bool (dig_prog c)

theorem digitR_ok (M : Mem) (c : UInt8) : Ok Try.prog M 19 [.int .u8 (c.toNat : Int)] (fun _ v => v = .bool (dig c)) := by
  intro w0 H w p0
  refine R_enter 9 Try.func19 rfl rfl (by simp) (fun a0 f0 => ?_)
  replace f0 : Frm 9 [(0, .int .u8 (c.toNat : Int))] a0 := f0
  refine R_seq ?_
  refine R_reg ?_
  refine W_run (L' := [(0, .int .u8 (c.toNat : Int))]) (w' := w) f0 1 [0] (by kernel_rfl) (fun a_1 f_1 => ?_)
  refine W_end rfl ?_
  refine T_n ?_
  refine R_seq ?_
  refine R_mid (fun a_2 w_1 => Frm 9 [(2, .bool ((decide ((48 : Int) ≤ (c.toNat : Int))) && (decide ((c.toNat : Int) ≤ 57))))] a_2 ∧ Hp w0 M (H) w_1) ?_ ?_
  · refine R_reg ?_
    refine W_run (L' := [(0, .int .u8 (c.toNat : Int)), (5, .bool (decide ((48 : Int) ≤ (c.toNat : Int))))]) (w' := w) f_1 3 [0, 5] (by kernel_rfl) (fun a_3 f_3 => ?_)
    rcases Bool.eq_false_or_eq_true (decide ((48 : Int) ≤ (c.toNat : Int))) with h_1 | h_1
    · have k_1 : (48 : Int) ≤ (c.toNat : Int) := decide_eq_true_iff.1 h_1
      have f_4 := Frm.set f_3 5 (v := .bool (decide ((48 : Int) ≤ (c.toNat : Int)))) (v' := .bool true) (by kernel_rfl) (congrArg Value.bool h_1)
      have f_5 : Frm 9 [(0, .int .u8 (c.toNat : Int)), (5, .bool true)] a_3 := f_4.keep (ks := [0, 5]) (by kernel_rfl)
      refine W_run (L' := [(2, .bool (decide ((c.toNat : Int) ≤ 57)))]) (w' := w) f_5 4 [2] (by kernel_rfl) (fun a_4 f_6 => ?_)
      refine W_end rfl ?_
      refine T_n ?_
      have f_7 := Frm.set f_6 2 (v := .bool (decide ((c.toNat : Int) ≤ 57))) (v' := .bool ((decide ((48 : Int) ≤ (c.toNat : Int))) && (decide ((c.toNat : Int) ≤ 57)))) (by kernel_rfl) (by simp only [h_1, Bool.and_true, Bool.true_and, Bool.false_and, Bool.and_false, Bool.or_true, Bool.true_or, Bool.or_false, Bool.false_or, Bool.not_true, Bool.not_false, cond_true, cond_false])
      exact ⟨f_7.keep (ks := [2]) (by kernel_rfl), p0⟩
    · have k_2 : ¬ ((48 : Int) ≤ (c.toNat : Int)) := iff_f decide_eq_true_iff h_1
      have f_8 := Frm.set f_3 5 (v := .bool (decide ((48 : Int) ≤ (c.toNat : Int)))) (v' := .bool false) (by kernel_rfl) (congrArg Value.bool h_1)
      have f_9 : Frm 9 [(0, .int .u8 (c.toNat : Int)), (5, .bool false)] a_3 := f_8.keep (ks := [0, 5]) (by kernel_rfl)
      refine W_run (L' := [(2, .bool false)]) (w' := w) f_9 4 [2] (by kernel_rfl) (fun a_5 f_10 => ?_)
      refine W_end rfl ?_
      refine T_n ?_
      have f_11 := Frm.set f_10 2 (v := .bool false) (v' := .bool ((decide ((48 : Int) ≤ (c.toNat : Int))) && (decide ((c.toNat : Int) ≤ 57)))) (by kernel_rfl) (by simp only [h_1, Bool.and_true, Bool.true_and, Bool.false_and, Bool.and_false, Bool.or_true, Bool.true_or, Bool.or_false, Bool.false_or, Bool.not_true, Bool.not_false, cond_true, cond_false])
      exact ⟨f_11.keep (ks := [2]) (by kernel_rfl), p0⟩
  · rintro a_2 w_1 ⟨f_2, p_1⟩
    refine T_n ?_
    refine wp_ret ?_
    refine E_ret1 f_2 rfl (by kernel_rfl : Vc.look _ 2 = some (.bool ((decide ((48 : Int) ≤ (c.toNat : Int))) && (decide ((c.toNat : Int) ≤ 57))))) ?_
    refine ⟨_, rfl, M, (Mem.le_refl _), p_1, ?_⟩
    exact congrArg Value.bool (dig_ref c)

theorem scanP_ok (M : Mem) (s : List UInt8) (at_ : Int) (hs : s.length ≤ 140737488351232) : Ok Try.prog M 8 [S s, .int .i64 at_] (fun _ v => v = .tuple #[.int .i64 (scan s at_).1, .int .i64 (scan s at_).2.1, .int .i64 (scan s at_).2.2]) := by
  intro w0 H w p0
  refine R_enter 110 Try.func8 rfl rfl (by simp) (fun a0 f0 => ?_)
  replace f0 : Frm 110 [(0, S s), (1, .int .i64 at_)] a0 := f0
  refine R_seq ?_
  refine R_reg ?_
  refine W_run (L' := [(0, S s), (1, .int .i64 at_), (4, .int .i64 0)]) (w' := w) f0 3 [0, 1, 4] (by kernel_rfl) (fun a_1 f_1 => ?_)
  refine W_end rfl ?_
  refine T_n ?_
  refine R_seq ?_
  refine R_seq ?_
  refine R_mid (fun a_2 w_1 => Frm 110 [(0, S s), (1, .int .i64 at_), (4, .int .i64 0), (19, .bool ((decide (at_ < 0)) || (decide ((s.length : Int) < at_))))] a_2 ∧ Hp w0 M (H) w_1) ?_ ?_
  · refine R_reg ?_
    refine W_run (L' := [(0, S s), (1, .int .i64 at_), (4, .int .i64 0), (14, .bool (decide (at_ < 0)))]) (w' := w) f_1 3 [0, 1, 4, 14] (by kernel_rfl) (fun a_3 f_3 => ?_)
    rcases Bool.eq_false_or_eq_true (decide (at_ < 0)) with h_1 | h_1
    · have k_1 : at_ < 0 := decide_eq_true_iff.1 h_1
      have f_4 := Frm.set f_3 14 (v := .bool (decide (at_ < 0))) (v' := .bool true) (by kernel_rfl) (congrArg Value.bool h_1)
      have f_5 : Frm 110 [(0, S s), (1, .int .i64 at_), (4, .int .i64 0), (14, .bool true)] a_3 := f_4.keep (ks := [0, 1, 4, 14]) (by kernel_rfl)
      refine W_run (L' := [(0, S s), (1, .int .i64 at_), (4, .int .i64 0), (19, .bool true)]) (w' := w) f_5 5 [0, 1, 4, 19] (by kernel_rfl) (fun a_4 f_6 => ?_)
      refine W_end rfl ?_
      refine T_n ?_
      have f_7 := Frm.set f_6 19 (v := .bool true) (v' := .bool ((decide (at_ < 0)) || (decide ((s.length : Int) < at_)))) (by kernel_rfl) (by simp only [h_1, Bool.and_true, Bool.true_and, Bool.false_and, Bool.and_false, Bool.or_true, Bool.true_or, Bool.or_false, Bool.false_or, Bool.not_true, Bool.not_false, cond_true, cond_false])
      exact ⟨f_7.keep (ks := [0, 1, 4, 19]) (by kernel_rfl), p0⟩
    · have k_2 : ¬ (at_ < 0) := iff_f decide_eq_true_iff h_1
      have f_8 := Frm.set f_3 14 (v := .bool (decide (at_ < 0))) (v' := .bool false) (by kernel_rfl) (congrArg Value.bool h_1)
      have f_9 : Frm 110 [(0, S s), (1, .int .i64 at_), (4, .int .i64 0), (14, .bool false)] a_3 := f_8.keep (ks := [0, 1, 4, 14]) (by kernel_rfl)
      refine W_run (L' := [(0, S s), (1, .int .i64 at_), (4, .int .i64 0), (19, .bool (decide ((s.length : Int) < at_)))]) (w' := w) f_9 5 [0, 1, 4, 19] (by kernel_rfl) (fun a_5 f_10 => ?_)
      refine W_end rfl ?_
      refine T_n ?_
      have f_11 := Frm.set f_10 19 (v := .bool (decide ((s.length : Int) < at_))) (v' := .bool ((decide (at_ < 0)) || (decide ((s.length : Int) < at_)))) (by kernel_rfl) (by simp only [h_1, Bool.and_true, Bool.true_and, Bool.false_and, Bool.and_false, Bool.or_true, Bool.true_or, Bool.or_false, Bool.false_or, Bool.not_true, Bool.not_false, cond_true, cond_false])
      exact ⟨f_11.keep (ks := [0, 1, 4, 19]) (by kernel_rfl), p0⟩
  · rintro a_2 w_1 ⟨f_2, p_1⟩
    refine T_n ?_
    refine R_cond f_2 (b := (decide (at_ < 0)) || (decide ((s.length : Int) < at_))) (by kernel_rfl) (by kernel_rfl) (fun h_2 => ?_) (fun h_2 => ?_)
    · have k_3 : (at_ < 0) ∨ ((s.length : Int) < at_) := (or_iff decide_eq_true_iff decide_eq_true_iff).1 h_2
      refine R_seq ?_
      refine R_reg ?_
      refine W_run (L' := [(4, .int .i64 0), (5, .int .i64 0), (6, .int .i64 2)]) (w' := w_1) f_2 3 [4, 5, 6] (by kernel_rfl) (fun a_6 f_12 => ?_)
      refine W_end rfl ?_
      refine T_n ?_
      refine wp_ret ?_
      refine T_r ?_
      refine E_ret3 f_12 rfl (by kernel_rfl : Vc.look _ 4 = some (.int .i64 0)) (by kernel_rfl : Vc.look _ 5 = some (.int .i64 0)) (by kernel_rfl : Vc.look _ 6 = some (.int .i64 2)) ?_
      refine ⟨_, rfl, M, (Mem.le_refl _), p_1, ?_⟩
      exact tup3 (scan_out (by omega))
    · have k_4 : ¬ ((at_ < 0) ∨ ((s.length : Int) < at_)) := iff_f (or_iff decide_eq_true_iff decide_eq_true_iff) h_2
      refine wp_skip ?_
      refine T_n ?_
      refine R_seq ?_
      refine R_reg ?_
      refine W_run (L' := [(0, S s), (1, .int .i64 at_), (4, .int .i64 0), (20, S s), (21, .int .i64 at_)]) (w' := w_1) f_2 2 [0, 1, 4, 20, 21] (by kernel_rfl) (fun a_7 f_13 => ?_)
      refine W_eq f_13 (by kernel_rfl) (by kernel_rfl) rfl rfl (X_strFrom rfl (l := s) (k := .i64) (a := at_) (by kernel_rfl) (by kernel_rfl) (by kernel_rfl) (by omega) (by omega)) (fun a_8 f_14 => ?_)
      obtain ⟨l, hl⟩ : ∃ l, l = s.drop at_.toNat := ⟨_, rfl⟩
      have hll : (l.length : Int) = s.length - at_ := by rw [hl, List.length_drop]; omega
      have hf1 := fst_le1 l
      have hf2 := fst_le l
      have hsc : scan s at_ = scanL l at_ := by rw [hl]; exact scan_inside (by omega)
      have f_15 := Frm.set f_14 22 (v := S (s.drop at_.toNat)) (v' := S l) (by kernel_rfl) (by rw [hl])
      have f_16 : Frm 110 [(0, S s), (1, .int .i64 at_), (4, .int .i64 0), (20, S s), (21, .int .i64 at_), (22, S l)] a_8 := f_15.keep (ks := [0, 1, 4, 20, 21, 22]) (by kernel_rfl)
      refine W_bytes f_16 p_1 (by kernel_rfl) (by kernel_rfl) rfl rfl rfl (l := l) (by kernel_rfl) (e := 5) (by kernel_rfl) (by kernel_rfl) (by kernel_rfl) (fun b_1 cap_1 w_2 hcap_1 p_2 a_9 f_17 => ?_)
      refine W_alloc f_17 p_2 1 [0, 1, 4, 20, 21, 22, 23, 24] (.cells #[.int .u8 0] 5 (0, 0)) (fun b_2 => [(0, S s), (1, .int .i64 at_), (4, .int .i64 0), (20, S s), (21, .int .i64 at_), (22, S l), (23, .slice (some ⟨b_1, 0, none⟩) l.length cap_1), (24, .slice (some ⟨b_2, 0, none⟩) 1 1)]) (fun _ => by kernel_rfl) (fun b_2 w_3 p_3 a_10 f_18 => ?_)
      replace f_18 : Frm 110 [(0, S s), (1, .int .i64 at_), (4, .int .i64 0), (20, S s), (21, .int .i64 at_), (22, S l), (23, .slice (some ⟨b_1, 0, none⟩) l.length cap_1), (24, .slice (some ⟨b_2, 0, none⟩) 1 1)] a_10 := f_18
      refine W_bytes_push f_18 p_3 (by kernel_rfl) (by kernel_rfl) rfl rfl rfl (l := l) (c := 0) (by kernel_rfl) (by kernel_rfl) (by kernel_rfl) (by kernel_rfl) rfl (by omega) (by omega) (fun ad_1 cap_2 M_1 w_4 hM_1 p_4 kb_1 hc_1 a_11 f_19 => ?_)
      have kz_1 := KB.z kb_1
      refine W_run (L' := [(0, S s), (1, .int .i64 at_), (4, .int .i64 0), (7, .slice (some ad_1) (l.length + 1) cap_2)]) (w' := w_4) f_19 1 [0, 1, 4, 7] (by kernel_rfl) (fun a_12 f_20 => ?_)
      refine W_end rfl ?_
      refine T_n ?_
      refine R_seq ?_
      refine R_reg ?_
      refine W_run (L' := [(0, S s), (1, .int .i64 at_), (4, .int .i64 0), (7, .slice (some ad_1) (l.length + 1) cap_2), (26, .slice (some ad_1) (l.length + 1) cap_2)]) (w' := w_4) f_20 1 [0, 1, 4, 7, 26] (by kernel_rfl) (fun a_13 f_21 => ?_)
      refine W_eq f_21 (by kernel_rfl) (by kernel_rfl) rfl rfl (X_indexAddr rfl (ad := ad_1) (len := l.length + 1) (cap := cap_2) (k := .i64) (i := 0) (by kernel_rfl) (by kernel_rfl) (e := 5) (by kernel_rfl) (sz := 1) (by kernel_rfl) (by omega) (by omega)) (fun a_14 f_22 => ?_)
      refine W_eq f_22 (by kernel_rfl) (by kernel_rfl) rfl rfl (X_load1 (v := .int .u8 ((l.getD 0 0).toNat : Int)) rfl (ad := ad_1.add (((0 : Int)).toNat * 1)) (by kernel_rfl) (by kernel_rfl) (p_4.cell (KZ.get kz_1 (by omega) (by omega)))) (fun a_15 f_23 => ?_)
      have hb_1 := byte_lt (l.getD 0 0)
      refine W_run (L' := [(0, S s), (1, .int .i64 at_), (4, .int .i64 0), (7, .slice (some ad_1) (l.length + 1) cap_2), (29, .bool (decide (((l.getD 0 0).toNat : Int) = 45)))]) (w' := w_4) f_23 1 [0, 1, 4, 7, 29] (by kernel_rfl) (fun a_16 f_24 => ?_)
      have f_25 := Frm.set f_24 29 (v := .bool (decide (((l.getD 0 0).toNat : Int) = 45))) (v' := .bool (neg l)) (by kernel_rfl) (congrArg Value.bool (neg_byte l))
      have f_26 : Frm 110 [(0, S s), (1, .int .i64 at_), (4, .int .i64 0), (7, .slice (some ad_1) (l.length + 1) cap_2), (29, .bool (neg l))] a_16 := f_25.keep (ks := [0, 1, 4, 7, 29]) (by kernel_rfl)
      refine W_run (L' := [(0, S s), (1, .int .i64 at_), (4, .int .i64 0), (7, .slice (some ad_1) (l.length + 1) cap_2), (8, .bool (neg l))]) (w' := w_4) f_26 1 [0, 1, 4, 7, 8] (by kernel_rfl) (fun a_17 f_27 => ?_)
      refine W_end rfl ?_
      refine T_n ?_
      refine R_seq ?_
      refine R_reg ?_
      refine W_run (L' := [(0, S s), (1, .int .i64 at_), (4, .int .i64 0), (7, .slice (some ad_1) (l.length + 1) cap_2), (8, .bool (neg l)), (9, .int .i64 0)]) (w' := w_4) f_27 1 [0, 1, 4, 7, 8, 9] (by kernel_rfl) (fun a_18 f_28 => ?_)
      refine W_end rfl ?_
      refine T_n ?_
      refine R_seq ?_
      refine R_seq ?_
      refine R_reg ?_
      refine W_run (L' := [(0, S s), (1, .int .i64 at_), (4, .int .i64 0), (7, .slice (some ad_1) (l.length + 1) cap_2), (8, .bool (neg l)), (9, .int .i64 0), (30, .bool (neg l))]) (w' := w_4) f_28 1 [0, 1, 4, 7, 8, 9, 30] (by kernel_rfl) (fun a_19 f_29 => ?_)
      refine W_end rfl ?_
      refine T_n ?_
      refine R_mid (fun a_20 w_5 => Frm 110 [(0, S s), (1, .int .i64 at_), (4, .int .i64 0), (7, .slice (some ad_1) (l.length + 1) cap_2), (8, .bool (neg l)), (9, .int .i64 (fst l : Int))] a_20 ∧ Hp w0 M_1 (H) w_5) ?_ ?_
      · refine R_cond f_29 (b := neg l) (by kernel_rfl) (by kernel_rfl) (fun h_3 => ?_) (fun h_3 => ?_)
        · refine R_reg ?_
          refine W_run (L' := [(0, S s), (1, .int .i64 at_), (4, .int .i64 0), (7, .slice (some ad_1) (l.length + 1) cap_2), (8, .bool (neg l)), (9, .int .i64 1)]) (w' := w_4) f_29 1 [0, 1, 4, 7, 8, 9] (by kernel_rfl) (fun a_21 f_31 => ?_)
          refine W_end rfl ?_
          refine T_n ?_
          have f_32 := Frm.set f_31 9 (v := .int .i64 1) (v' := .int .i64 (fst l : Int)) (by kernel_rfl) (by rw [fst_t h_3]; rfl)
          exact ⟨f_32.keep (ks := [0, 1, 4, 7, 8, 9]) (by kernel_rfl), p_4⟩
        · refine wp_skip ?_
          refine T_n ?_
          have f_33 := Frm.set f_29 9 (v := .int .i64 0) (v' := .int .i64 (fst l : Int)) (by kernel_rfl) (by rw [fst_f h_3]; rfl)
          exact ⟨f_33.keep (ks := [0, 1, 4, 7, 8, 9]) (by kernel_rfl), p_4⟩
      · rintro a_20 w_5 ⟨f_30, p_5⟩
        refine T_n ?_
        refine R_seq ?_
        refine R_reg ?_
        refine W_run (L' := [(0, S s), (1, .int .i64 at_), (4, .int .i64 0), (7, .slice (some ad_1) (l.length + 1) cap_2), (8, .bool (neg l)), (9, .int .i64 (fst l : Int)), (10, .int .i64 (fst l : Int))]) (w' := w_5) f_30 2 [0, 1, 4, 7, 8, 9, 10] (by kernel_rfl) (fun a_22 f_34 => ?_)
        refine W_end rfl ?_
        refine T_n ?_
        refine R_seq ?_
        refine wp_block ?_
        have f_35 := Frm.set f_34 9 (v := .int .i64 (fst l : Int)) (v' := .int .i64 ((fst l) : Int)) (by kernel_rfl) (by first | rfl | (congr 1; omega) | simp)
        refine R_loop (n := 110) (w0 := w0) (M := M_1) (fun (x : Nat × Int × Nat) => match x with | (k, n, v) => [(0, S s), (1, .int .i64 at_), (4, .int .i64 n), (7, .slice (some ad_1) (l.length + 1) cap_2), (8, .bool (neg l)), (9, .int .i64 (k : Int)), (10, .int .i64 (fst l : Int))]) (fun (x : Nat × Int × Nat) => match x with | (k, n, v) => (H)) (fun (x : Nat × Int × Nat) (_ : Mem) => match x with | (k, n, v) => (ScanI l k v) ∧ (KeepP n v)) (fun (x : Nat × Int × Nat) => match x with | (k, n, v) => l.length + 1 - k) (fst l, 0, 0) (f_35.keep (ks := [0, 1, 4, 7, 8, 9, 10]) (by kernel_rfl)) p_5 ?_ ?_
        · exact ⟨ScanI.start l, KeepP.start⟩
        · rintro ⟨k, n, v⟩ M_2 a_23 w_6 hM_2 I_1 f_36 p_6
          replace f_36 : Frm 110 [(0, S s), (1, .int .i64 at_), (4, .int .i64 n), (7, .slice (some ad_1) (l.length + 1) cap_2), (8, .bool (neg l)), (9, .int .i64 (k : Int)), (10, .int .i64 (fst l : Int))] a_23 := f_36
          replace p_6 : Hp w0 M_2 (H) w_6 := p_6
          replace I_1 : (ScanI l k v) ∧ (KeepP n v) := I_1
          obtain ⟨I_s, K_s⟩ := I_1
          have hk1 := I_s.ge
          have hk2 := I_s.le
          obtain ⟨hn1, hn2, hn3, hn4⟩ := id K_s
          refine R_seq ?_
          refine R_seq ?_
          refine R_reg ?_
          refine W_run (L' := [(0, S s), (1, .int .i64 at_), (4, .int .i64 n), (7, .slice (some ad_1) (l.length + 1) cap_2), (8, .bool (neg l)), (9, .int .i64 (k : Int)), (10, .int .i64 (fst l : Int)), (32, .slice (some ad_1) (l.length + 1) cap_2), (33, .int .i64 (k : Int))]) (w' := w_6) f_36 2 [0, 1, 4, 7, 8, 9, 10, 32, 33] (by kernel_rfl) (fun a_24 f_37 => ?_)
          refine W_eq f_37 (by kernel_rfl) (by kernel_rfl) rfl rfl (X_indexAddr rfl (ad := ad_1) (len := l.length + 1) (cap := cap_2) (k := .i64) (i := (k : Int)) (by kernel_rfl) (by kernel_rfl) (e := 5) (by kernel_rfl) (sz := 1) (by kernel_rfl) (by omega) (by omega)) (fun a_25 f_38 => ?_)
          refine W_eq f_38 (by kernel_rfl) (by kernel_rfl) rfl rfl (X_load1 (v := .int .u8 ((l.getD k 0).toNat : Int)) rfl (ad := ad_1.add (((k : Int)).toNat * 1)) (by kernel_rfl) (by kernel_rfl) (p_6.cell (KZ.get (kz_1.mono hM_2) (by omega) (by omega)))) (fun a_26 f_39 => ?_)
          have hb_2 := byte_lt (l.getD k 0)
          refine W_okv (v := .bool (dig (l.getD k 0))) f_39 p_6 (by kernel_rfl) (by kernel_rfl) rfl rfl (fun _ => by kernel_rfl) (digit_ok _ (l.getD k 0)) (fun w_7 p_7 a_27 f_40 => ?_)
          refine W_end rfl ?_
          refine T_n ?_
          refine R_cond f_40 (b := dig (l.getD k 0)) (by kernel_rfl) (by kernel_rfl) (fun h_4 => ?_) (fun h_4 => ?_)
          · refine wp_skip ?_
            refine T_n ?_
            refine R_seq ?_
            refine wp_block ?_
            refine R_seq ?_
            refine R_seq ?_
            refine R_mid (fun a_28 w_8 => Frm 110 [(0, S s), (1, .int .i64 at_), (4, .int .i64 n), (7, .slice (some ad_1) (l.length + 1) cap_2), (8, .bool (neg l)), (9, .int .i64 (k : Int)), (10, .int .i64 (fst l : Int)), (49, .bool ((decide ((k : Int) = ((fst l : Int) + 1))) && (decide (((l.getD (fst l) 0).toNat : Int) = 48))))] a_28 ∧ Hp w0 M_2 (H) w_8) ?_ ?_
            · refine R_reg ?_
              refine W_run (L' := [(0, S s), (1, .int .i64 at_), (4, .int .i64 n), (7, .slice (some ad_1) (l.length + 1) cap_2), (8, .bool (neg l)), (9, .int .i64 (k : Int)), (10, .int .i64 (fst l : Int)), (39, .int .i64 (k : Int)), (40, .int .i64 (fst l : Int))]) (w' := w_7) f_40 2 [0, 1, 4, 7, 8, 9, 10, 39, 40] (by kernel_rfl) (fun a_29 f_42 => ?_)
              refine W_run (L' := [(0, S s), (1, .int .i64 at_), (4, .int .i64 n), (7, .slice (some ad_1) (l.length + 1) cap_2), (8, .bool (neg l)), (9, .int .i64 (k : Int)), (10, .int .i64 (fst l : Int)), (39, .int .i64 (k : Int)), (40, .int .i64 (fst l : Int)), (41, .int .i64 (IntKind.wrap .i64 ((fst l : Int) + 1)))]) (w' := w_7) f_42 1 [0, 1, 4, 7, 8, 9, 10, 39, 40, 41] (by kernel_rfl) (fun a_30 f_43 => ?_)
              have f_44 := Frm.set f_43 41 (v := .int .i64 (IntKind.wrap .i64 ((fst l : Int) + 1))) (v' := .int .i64 ((fst l : Int) + 1)) (by kernel_rfl) (congrArg (Value.int .i64) (IntWalk.i64_in _ (by omega)))
              have f_45 : Frm 110 [(0, S s), (1, .int .i64 at_), (4, .int .i64 n), (7, .slice (some ad_1) (l.length + 1) cap_2), (8, .bool (neg l)), (9, .int .i64 (k : Int)), (10, .int .i64 (fst l : Int)), (39, .int .i64 (k : Int)), (40, .int .i64 (fst l : Int)), (41, .int .i64 ((fst l : Int) + 1))] a_30 := f_44.keep (ks := [0, 1, 4, 7, 8, 9, 10, 39, 40, 41]) (by kernel_rfl)
              refine W_run (L' := [(0, S s), (1, .int .i64 at_), (4, .int .i64 n), (7, .slice (some ad_1) (l.length + 1) cap_2), (8, .bool (neg l)), (9, .int .i64 (k : Int)), (10, .int .i64 (fst l : Int)), (43, .bool (decide ((k : Int) = ((fst l : Int) + 1))))]) (w' := w_7) f_45 2 [0, 1, 4, 7, 8, 9, 10, 43] (by kernel_rfl) (fun a_31 f_46 => ?_)
              rcases Bool.eq_false_or_eq_true (decide ((k : Int) = ((fst l : Int) + 1))) with h_5 | h_5
              · have k_8 : (k : Int) = ((fst l : Int) + 1) := decide_eq_true_iff.1 h_5
                have f_47 := Frm.set f_46 43 (v := .bool (decide ((k : Int) = ((fst l : Int) + 1)))) (v' := .bool true) (by kernel_rfl) (congrArg Value.bool h_5)
                have f_48 : Frm 110 [(0, S s), (1, .int .i64 at_), (4, .int .i64 n), (7, .slice (some ad_1) (l.length + 1) cap_2), (8, .bool (neg l)), (9, .int .i64 (k : Int)), (10, .int .i64 (fst l : Int)), (43, .bool true)] a_31 := f_47.keep (ks := [0, 1, 4, 7, 8, 9, 10, 43]) (by kernel_rfl)
                refine W_run (L' := [(0, S s), (1, .int .i64 at_), (4, .int .i64 n), (7, .slice (some ad_1) (l.length + 1) cap_2), (8, .bool (neg l)), (9, .int .i64 (k : Int)), (10, .int .i64 (fst l : Int)), (43, .bool true), (44, .slice (some ad_1) (l.length + 1) cap_2), (45, .int .i64 (fst l : Int))]) (w' := w_7) f_48 2 [0, 1, 4, 7, 8, 9, 10, 43, 44, 45] (by kernel_rfl) (fun a_32 f_49 => ?_)
                refine W_eq f_49 (by kernel_rfl) (by kernel_rfl) rfl rfl (X_indexAddr rfl (ad := ad_1) (len := l.length + 1) (cap := cap_2) (k := .i64) (i := (fst l : Int)) (by kernel_rfl) (by kernel_rfl) (e := 5) (by kernel_rfl) (sz := 1) (by kernel_rfl) (by omega) (by omega)) (fun a_33 f_50 => ?_)
                refine W_eq f_50 (by kernel_rfl) (by kernel_rfl) rfl rfl (X_load1 (v := .int .u8 ((l.getD (fst l) 0).toNat : Int)) rfl (ad := ad_1.add (((fst l : Int)).toNat * 1)) (by kernel_rfl) (by kernel_rfl) (p_7.cell (KZ.get (kz_1.mono hM_2) (by omega) (by omega)))) (fun a_34 f_51 => ?_)
                have hb_3 := byte_lt (l.getD (fst l) 0)
                refine W_run (L' := [(0, S s), (1, .int .i64 at_), (4, .int .i64 n), (7, .slice (some ad_1) (l.length + 1) cap_2), (8, .bool (neg l)), (9, .int .i64 (k : Int)), (10, .int .i64 (fst l : Int)), (49, .bool (decide (((l.getD (fst l) 0).toNat : Int) = 48)))]) (w' := w_7) f_51 2 [0, 1, 4, 7, 8, 9, 10, 49] (by kernel_rfl) (fun a_35 f_52 => ?_)
                refine W_end rfl ?_
                refine T_n ?_
                have f_53 := Frm.set f_52 49 (v := .bool (decide (((l.getD (fst l) 0).toNat : Int) = 48))) (v' := .bool ((decide ((k : Int) = ((fst l : Int) + 1))) && (decide (((l.getD (fst l) 0).toNat : Int) = 48)))) (by kernel_rfl) (by simp only [h_5, Bool.and_true, Bool.true_and, Bool.false_and, Bool.and_false, Bool.or_true, Bool.true_or, Bool.or_false, Bool.false_or, Bool.not_true, Bool.not_false, cond_true, cond_false])
                exact ⟨f_53.keep (ks := [0, 1, 4, 7, 8, 9, 10, 49]) (by kernel_rfl), p_7⟩
              · have k_9 : ¬ ((k : Int) = ((fst l : Int) + 1)) := iff_f decide_eq_true_iff h_5
                have f_54 := Frm.set f_46 43 (v := .bool (decide ((k : Int) = ((fst l : Int) + 1)))) (v' := .bool false) (by kernel_rfl) (congrArg Value.bool h_5)
                have f_55 : Frm 110 [(0, S s), (1, .int .i64 at_), (4, .int .i64 n), (7, .slice (some ad_1) (l.length + 1) cap_2), (8, .bool (neg l)), (9, .int .i64 (k : Int)), (10, .int .i64 (fst l : Int)), (43, .bool false)] a_31 := f_54.keep (ks := [0, 1, 4, 7, 8, 9, 10, 43]) (by kernel_rfl)
                refine W_run (L' := [(0, S s), (1, .int .i64 at_), (4, .int .i64 n), (7, .slice (some ad_1) (l.length + 1) cap_2), (8, .bool (neg l)), (9, .int .i64 (k : Int)), (10, .int .i64 (fst l : Int)), (49, .bool false)]) (w' := w_7) f_55 6 [0, 1, 4, 7, 8, 9, 10, 49] (by kernel_rfl) (fun a_36 f_56 => ?_)
                refine W_end rfl ?_
                refine T_n ?_
                have f_57 := Frm.set f_56 49 (v := .bool false) (v' := .bool ((decide ((k : Int) = ((fst l : Int) + 1))) && (decide (((l.getD (fst l) 0).toNat : Int) = 48)))) (by kernel_rfl) (by simp only [h_5, Bool.and_true, Bool.true_and, Bool.false_and, Bool.and_false, Bool.or_true, Bool.true_or, Bool.or_false, Bool.false_or, Bool.not_true, Bool.not_false, cond_true, cond_false])
                exact ⟨f_57.keep (ks := [0, 1, 4, 7, 8, 9, 10, 49]) (by kernel_rfl), p_7⟩
            · rintro a_28 w_8 ⟨f_41, p_8⟩
              refine T_n ?_
              refine R_cond f_41 (b := (decide ((k : Int) = ((fst l : Int) + 1))) && (decide (((l.getD (fst l) 0).toNat : Int) = 48))) (by kernel_rfl) (by kernel_rfl) (fun h_6 => ?_) (fun h_6 => ?_)
              · have k_10 : ((k : Int) = ((fst l : Int) + 1)) ∧ (((l.getD (fst l) 0).toNat : Int) = 48) := (and_iff decide_eq_true_iff decide_eq_true_iff).1 h_6
                refine R_seq ?_
                refine R_reg ?_
                refine W_run (L' := [(50, .int .i64 at_), (51, .int .i64 (k : Int))]) (w' := w_8) f_41 2 [50, 51] (by kernel_rfl) (fun a_37 f_58 => ?_)
                refine W_run (L' := [(50, .int .i64 at_), (51, .int .i64 (k : Int)), (52, .int .i64 (IntKind.wrap .i64 (at_ + (k : Int))))]) (w' := w_8) f_58 1 [50, 51, 52] (by kernel_rfl) (fun a_38 f_59 => ?_)
                have f_60 := Frm.set f_59 52 (v := .int .i64 (IntKind.wrap .i64 (at_ + (k : Int)))) (v' := .int .i64 (at_ + (k : Int))) (by kernel_rfl) (congrArg (Value.int .i64) (IntWalk.i64_in _ (by omega)))
                have f_61 : Frm 110 [(50, .int .i64 at_), (51, .int .i64 (k : Int)), (52, .int .i64 (at_ + (k : Int)))] a_38 := f_60.keep (ks := [50, 51, 52]) (by kernel_rfl)
                refine W_run (L' := [(4, .int .i64 0), (5, .int .i64 (at_ + (k : Int))), (6, .int .i64 20)]) (w' := w_8) f_61 3 [4, 5, 6] (by kernel_rfl) (fun a_39 f_62 => ?_)
                refine W_end rfl ?_
                refine T_n ?_
                refine wp_ret ?_
                refine T_r ?_
                refine B_r ?_
                refine T_r ?_
                refine T_r ?_
                refine B_r ?_
                refine T_r ?_
                refine E_ret3 f_62 rfl (by kernel_rfl : Vc.look _ 4 = some (.int .i64 0)) (by kernel_rfl : Vc.look _ 5 = some (.int .i64 (at_ + (k : Int)))) (by kernel_rfl : Vc.look _ 6 = some (.int .i64 20)) ?_
                refine ⟨_, rfl, M_2, (hM_1.trans hM_2), p_8, ?_⟩
                obtain ⟨e1, e2⟩ := isboth k_10
                exact tup3 (hsc.trans (I_s.early at_ h_4 e1 e2))
              · have k_11 : ¬ (((k : Int) = ((fst l : Int) + 1)) ∧ (((l.getD (fst l) 0).toNat : Int) = 48)) := iff_f (and_iff decide_eq_true_iff decide_eq_true_iff) h_6
                refine wp_skip ?_
                refine T_n ?_
                refine R_seq ?_
                refine R_reg ?_
                refine W_run (L' := [(0, S s), (1, .int .i64 at_), (4, .int .i64 n), (7, .slice (some ad_1) (l.length + 1) cap_2), (8, .bool (neg l)), (9, .int .i64 (k : Int)), (10, .int .i64 (fst l : Int)), (54, .bool (decide (n ≤ 9007199254740992)))]) (w' := w_8) f_41 2 [0, 1, 4, 7, 8, 9, 10, 54] (by kernel_rfl) (fun a_40 f_63 => ?_)
                refine W_end rfl ?_
                refine T_n ?_
                refine R_cond f_63 (b := decide (n ≤ 9007199254740992)) (by kernel_rfl) (by kernel_rfl) (fun h_7 => ?_) (fun h_7 => ?_)
                · have k_12 : n ≤ 9007199254740992 := decide_eq_true_iff.1 h_7
                  refine R_reg ?_
                  refine W_run (L' := [(0, S s), (1, .int .i64 at_), (7, .slice (some ad_1) (l.length + 1) cap_2), (8, .bool (neg l)), (9, .int .i64 (k : Int)), (10, .int .i64 (fst l : Int)), (55, .int .i64 n)]) (w' := w_8) f_63 1 [0, 1, 7, 8, 9, 10, 55] (by kernel_rfl) (fun a_41 f_64 => ?_)
                  refine W_run (L' := [(0, S s), (1, .int .i64 at_), (7, .slice (some ad_1) (l.length + 1) cap_2), (8, .bool (neg l)), (9, .int .i64 (k : Int)), (10, .int .i64 (fst l : Int)), (55, .int .i64 n), (56, .int .i64 (IntKind.wrap .i64 ((10 : Int) * n)))]) (w' := w_8) f_64 1 [0, 1, 7, 8, 9, 10, 55, 56] (by kernel_rfl) (fun a_42 f_65 => ?_)
                  have f_66 := Frm.set f_65 56 (v := .int .i64 (IntKind.wrap .i64 ((10 : Int) * n))) (v' := .int .i64 ((10 : Int) * n)) (by kernel_rfl) (congrArg (Value.int .i64) (IntWalk.i64_in _ (by omega)))
                  have f_67 : Frm 110 [(0, S s), (1, .int .i64 at_), (7, .slice (some ad_1) (l.length + 1) cap_2), (8, .bool (neg l)), (9, .int .i64 (k : Int)), (10, .int .i64 (fst l : Int)), (55, .int .i64 n), (56, .int .i64 ((10 : Int) * n))] a_42 := f_66.keep (ks := [0, 1, 7, 8, 9, 10, 55, 56]) (by kernel_rfl)
                  refine W_run (L' := [(0, S s), (1, .int .i64 at_), (7, .slice (some ad_1) (l.length + 1) cap_2), (8, .bool (neg l)), (9, .int .i64 (k : Int)), (10, .int .i64 (fst l : Int)), (56, .int .i64 ((10 : Int) * n)), (57, .slice (some ad_1) (l.length + 1) cap_2), (58, .int .i64 (k : Int))]) (w' := w_8) f_67 2 [0, 1, 7, 8, 9, 10, 56, 57, 58] (by kernel_rfl) (fun a_43 f_68 => ?_)
                  refine W_eq f_68 (by kernel_rfl) (by kernel_rfl) rfl rfl (X_indexAddr rfl (ad := ad_1) (len := l.length + 1) (cap := cap_2) (k := .i64) (i := (k : Int)) (by kernel_rfl) (by kernel_rfl) (e := 5) (by kernel_rfl) (sz := 1) (by kernel_rfl) (by omega) (by omega)) (fun a_44 f_69 => ?_)
                  refine W_eq f_69 (by kernel_rfl) (by kernel_rfl) rfl rfl (X_load1 (v := .int .u8 ((l.getD k 0).toNat : Int)) rfl (ad := ad_1.add (((k : Int)).toNat * 1)) (by kernel_rfl) (by kernel_rfl) (p_8.cell (KZ.get (kz_1.mono hM_2) (by omega) (by omega)))) (fun a_45 f_70 => ?_)
                  have hb_4 := byte_lt (l.getD k 0)
                  refine W_run (L' := [(0, S s), (1, .int .i64 at_), (7, .slice (some ad_1) (l.length + 1) cap_2), (8, .bool (neg l)), (9, .int .i64 (k : Int)), (10, .int .i64 (fst l : Int)), (56, .int .i64 ((10 : Int) * n)), (57, .slice (some ad_1) (l.length + 1) cap_2), (58, .int .i64 (k : Int)), (59, .pointer (some (ad_1.add (((k : Int)).toNat * 1)))), (60, .int .u8 ((l.getD k 0).toNat : Int)), (61, .int .u8 (IntKind.wrap .u8 (((l.getD k 0).toNat : Int) - 48)))]) (w' := w_8) f_70 1 [0, 1, 7, 8, 9, 10, 56, 57, 58, 59, 60, 61] (by kernel_rfl) (fun a_46 f_71 => ?_)
                  have f_72 := Frm.set f_71 61 (v := .int .u8 (IntKind.wrap .u8 (((l.getD k 0).toNat : Int) - 48))) (v' := .int .u8 ((((l.getD k 0).toNat : Int) - 48) % 256)) (by kernel_rfl) (congrArg (Value.int .u8) (IntKind.wrap_u8 _))
                  have f_73 : Frm 110 [(0, S s), (1, .int .i64 at_), (7, .slice (some ad_1) (l.length + 1) cap_2), (8, .bool (neg l)), (9, .int .i64 (k : Int)), (10, .int .i64 (fst l : Int)), (56, .int .i64 ((10 : Int) * n)), (57, .slice (some ad_1) (l.length + 1) cap_2), (58, .int .i64 (k : Int)), (59, .pointer (some (ad_1.add (((k : Int)).toNat * 1)))), (60, .int .u8 ((l.getD k 0).toNat : Int)), (61, .int .u8 ((((l.getD k 0).toNat : Int) - 48) % 256))] a_46 := f_72.keep (ks := [0, 1, 7, 8, 9, 10, 56, 57, 58, 59, 60, 61]) (by kernel_rfl)
                  refine W_run (L' := [(0, S s), (1, .int .i64 at_), (7, .slice (some ad_1) (l.length + 1) cap_2), (8, .bool (neg l)), (9, .int .i64 (k : Int)), (10, .int .i64 (fst l : Int)), (56, .int .i64 ((10 : Int) * n)), (57, .slice (some ad_1) (l.length + 1) cap_2), (58, .int .i64 (k : Int)), (59, .pointer (some (ad_1.add (((k : Int)).toNat * 1)))), (60, .int .u8 ((l.getD k 0).toNat : Int)), (61, .int .u8 ((((l.getD k 0).toNat : Int) - 48) % 256)), (62, .int .i64 (IntKind.wrap .i64 ((((l.getD k 0).toNat : Int) - 48) % 256)))]) (w' := w_8) f_73 1 [0, 1, 7, 8, 9, 10, 56, 57, 58, 59, 60, 61, 62] (by kernel_rfl) (fun a_47 f_74 => ?_)
                  have f_75 := Frm.set f_74 62 (v := .int .i64 (IntKind.wrap .i64 ((((l.getD k 0).toNat : Int) - 48) % 256))) (v' := .int .i64 ((((l.getD k 0).toNat : Int) - 48) % 256)) (by kernel_rfl) (congrArg (Value.int .i64) (IntWalk.i64_in _ (by omega)))
                  have f_76 : Frm 110 [(0, S s), (1, .int .i64 at_), (7, .slice (some ad_1) (l.length + 1) cap_2), (8, .bool (neg l)), (9, .int .i64 (k : Int)), (10, .int .i64 (fst l : Int)), (56, .int .i64 ((10 : Int) * n)), (57, .slice (some ad_1) (l.length + 1) cap_2), (58, .int .i64 (k : Int)), (59, .pointer (some (ad_1.add (((k : Int)).toNat * 1)))), (60, .int .u8 ((l.getD k 0).toNat : Int)), (61, .int .u8 ((((l.getD k 0).toNat : Int) - 48) % 256)), (62, .int .i64 ((((l.getD k 0).toNat : Int) - 48) % 256))] a_47 := f_75.keep (ks := [0, 1, 7, 8, 9, 10, 56, 57, 58, 59, 60, 61, 62]) (by kernel_rfl)
                  refine W_run (L' := [(0, S s), (1, .int .i64 at_), (7, .slice (some ad_1) (l.length + 1) cap_2), (8, .bool (neg l)), (9, .int .i64 (k : Int)), (10, .int .i64 (fst l : Int)), (56, .int .i64 ((10 : Int) * n)), (57, .slice (some ad_1) (l.length + 1) cap_2), (58, .int .i64 (k : Int)), (59, .pointer (some (ad_1.add (((k : Int)).toNat * 1)))), (60, .int .u8 ((l.getD k 0).toNat : Int)), (61, .int .u8 ((((l.getD k 0).toNat : Int) - 48) % 256)), (62, .int .i64 ((((l.getD k 0).toNat : Int) - 48) % 256)), (63, .int .i64 (IntKind.wrap .i64 (((10 : Int) * n) + ((((l.getD k 0).toNat : Int) - 48) % 256))))]) (w' := w_8) f_76 1 [0, 1, 7, 8, 9, 10, 56, 57, 58, 59, 60, 61, 62, 63] (by kernel_rfl) (fun a_48 f_77 => ?_)
                  have f_78 := Frm.set f_77 63 (v := .int .i64 (IntKind.wrap .i64 (((10 : Int) * n) + ((((l.getD k 0).toNat : Int) - 48) % 256)))) (v' := .int .i64 (((10 : Int) * n) + ((((l.getD k 0).toNat : Int) - 48) % 256))) (by kernel_rfl) (congrArg (Value.int .i64) (IntWalk.i64_in _ (by omega)))
                  have f_79 : Frm 110 [(0, S s), (1, .int .i64 at_), (7, .slice (some ad_1) (l.length + 1) cap_2), (8, .bool (neg l)), (9, .int .i64 (k : Int)), (10, .int .i64 (fst l : Int)), (56, .int .i64 ((10 : Int) * n)), (57, .slice (some ad_1) (l.length + 1) cap_2), (58, .int .i64 (k : Int)), (59, .pointer (some (ad_1.add (((k : Int)).toNat * 1)))), (60, .int .u8 ((l.getD k 0).toNat : Int)), (61, .int .u8 ((((l.getD k 0).toNat : Int) - 48) % 256)), (62, .int .i64 ((((l.getD k 0).toNat : Int) - 48) % 256)), (63, .int .i64 (((10 : Int) * n) + ((((l.getD k 0).toNat : Int) - 48) % 256)))] a_48 := f_78.keep (ks := [0, 1, 7, 8, 9, 10, 56, 57, 58, 59, 60, 61, 62, 63]) (by kernel_rfl)
                  refine W_run (L' := [(0, S s), (1, .int .i64 at_), (4, .int .i64 (((10 : Int) * n) + ((((l.getD k 0).toNat : Int) - 48) % 256))), (7, .slice (some ad_1) (l.length + 1) cap_2), (8, .bool (neg l)), (9, .int .i64 (k : Int)), (10, .int .i64 (fst l : Int))]) (w' := w_8) f_79 1 [0, 1, 4, 7, 8, 9, 10] (by kernel_rfl) (fun a_49 f_80 => ?_)
                  refine W_end rfl ?_
                  refine B_n ?_
                  refine T_n ?_
                  refine R_reg ?_
                  refine W_run (L' := [(0, S s), (1, .int .i64 at_), (4, .int .i64 (((10 : Int) * n) + ((((l.getD k 0).toNat : Int) - 48) % 256))), (7, .slice (some ad_1) (l.length + 1) cap_2), (8, .bool (neg l)), (10, .int .i64 (fst l : Int)), (37, .int .i64 (k : Int))]) (w' := w_8) f_80 1 [0, 1, 4, 7, 8, 10, 37] (by kernel_rfl) (fun a_50 f_81 => ?_)
                  refine W_run (L' := [(0, S s), (1, .int .i64 at_), (4, .int .i64 (((10 : Int) * n) + ((((l.getD k 0).toNat : Int) - 48) % 256))), (7, .slice (some ad_1) (l.length + 1) cap_2), (8, .bool (neg l)), (10, .int .i64 (fst l : Int)), (37, .int .i64 (k : Int)), (38, .int .i64 (IntKind.wrap .i64 ((k : Int) + 1)))]) (w' := w_8) f_81 1 [0, 1, 4, 7, 8, 10, 37, 38] (by kernel_rfl) (fun a_51 f_82 => ?_)
                  have f_83 := Frm.set f_82 38 (v := .int .i64 (IntKind.wrap .i64 ((k : Int) + 1))) (v' := .int .i64 ((k : Int) + 1)) (by kernel_rfl) (congrArg (Value.int .i64) (IntWalk.i64_in _ (by omega)))
                  have f_84 : Frm 110 [(0, S s), (1, .int .i64 at_), (4, .int .i64 (((10 : Int) * n) + ((((l.getD k 0).toNat : Int) - 48) % 256))), (7, .slice (some ad_1) (l.length + 1) cap_2), (8, .bool (neg l)), (10, .int .i64 (fst l : Int)), (37, .int .i64 (k : Int)), (38, .int .i64 ((k : Int) + 1))] a_51 := f_83.keep (ks := [0, 1, 4, 7, 8, 10, 37, 38]) (by kernel_rfl)
                  refine W_run (L' := [(0, S s), (1, .int .i64 at_), (4, .int .i64 (((10 : Int) * n) + ((((l.getD k 0).toNat : Int) - 48) % 256))), (7, .slice (some ad_1) (l.length + 1) cap_2), (8, .bool (neg l)), (9, .int .i64 ((k : Int) + 1)), (10, .int .i64 (fst l : Int))]) (w' := w_8) f_84 1 [0, 1, 4, 7, 8, 9, 10] (by kernel_rfl) (fun a_52 f_85 => ?_)
                  refine W_end rfl ?_
                  refine T_n ?_
                  have hkl := I_s.lt h_4
                  have hzz := notboth k_11
                  have f_86 := Frm.set f_85 9 (v := .int .i64 ((k : Int) + 1)) (v' := .int .i64 ((k + 1) : Int)) (by kernel_rfl) (by first | rfl | (congr 1; omega) | simp)
                  refine ⟨((k + 1, ((10 : Int) * n) + ((((l.getD k 0).toNat : Int) - 48) % 256), 10 * v + ((l.getD k 0).toNat - 48)) : Nat × Int × Nat), ?_, M_2, hM_2, ?_, f_86.keep (ks := [0, 1, 4, 7, 8, 9, 10]) (by kernel_rfl), p_8⟩
                  · show l.length + 1 - (k + 1) < l.length + 1 - k; omega
                  · exact ⟨I_s.step h_4 hkl hzz, K_s.more _ h_4 k_12⟩
                · have k_13 : ¬ (n ≤ 9007199254740992) := iff_f decide_eq_true_iff h_7
                  refine wp_skip ?_
                  refine B_n ?_
                  refine T_n ?_
                  refine R_reg ?_
                  refine W_run (L' := [(0, S s), (1, .int .i64 at_), (4, .int .i64 n), (7, .slice (some ad_1) (l.length + 1) cap_2), (8, .bool (neg l)), (10, .int .i64 (fst l : Int)), (37, .int .i64 (k : Int))]) (w' := w_8) f_63 1 [0, 1, 4, 7, 8, 10, 37] (by kernel_rfl) (fun a_53 f_87 => ?_)
                  refine W_run (L' := [(0, S s), (1, .int .i64 at_), (4, .int .i64 n), (7, .slice (some ad_1) (l.length + 1) cap_2), (8, .bool (neg l)), (10, .int .i64 (fst l : Int)), (37, .int .i64 (k : Int)), (38, .int .i64 (IntKind.wrap .i64 ((k : Int) + 1)))]) (w' := w_8) f_87 1 [0, 1, 4, 7, 8, 10, 37, 38] (by kernel_rfl) (fun a_54 f_88 => ?_)
                  have f_89 := Frm.set f_88 38 (v := .int .i64 (IntKind.wrap .i64 ((k : Int) + 1))) (v' := .int .i64 ((k : Int) + 1)) (by kernel_rfl) (congrArg (Value.int .i64) (IntWalk.i64_in _ (by omega)))
                  have f_90 : Frm 110 [(0, S s), (1, .int .i64 at_), (4, .int .i64 n), (7, .slice (some ad_1) (l.length + 1) cap_2), (8, .bool (neg l)), (10, .int .i64 (fst l : Int)), (37, .int .i64 (k : Int)), (38, .int .i64 ((k : Int) + 1))] a_54 := f_89.keep (ks := [0, 1, 4, 7, 8, 10, 37, 38]) (by kernel_rfl)
                  refine W_run (L' := [(0, S s), (1, .int .i64 at_), (4, .int .i64 n), (7, .slice (some ad_1) (l.length + 1) cap_2), (8, .bool (neg l)), (9, .int .i64 ((k : Int) + 1)), (10, .int .i64 (fst l : Int))]) (w' := w_8) f_90 1 [0, 1, 4, 7, 8, 9, 10] (by kernel_rfl) (fun a_55 f_91 => ?_)
                  refine W_end rfl ?_
                  refine T_n ?_
                  have hkl := I_s.lt h_4
                  have hzz := notboth k_11
                  have f_92 := Frm.set f_91 9 (v := .int .i64 ((k : Int) + 1)) (v' := .int .i64 ((k + 1) : Int)) (by kernel_rfl) (by first | rfl | (congr 1; omega) | simp)
                  refine ⟨((k + 1, n, 10 * v + ((l.getD k 0).toNat - 48)) : Nat × Int × Nat), ?_, M_2, hM_2, ?_, f_92.keep (ks := [0, 1, 4, 7, 8, 9, 10]) (by kernel_rfl), p_8⟩
                  · show l.length + 1 - (k + 1) < l.length + 1 - k; omega
                  · exact ⟨I_s.step h_4 hkl hzz, K_s.full k_13⟩
          · refine wp_exit ?_
            refine T_x ?_
            refine T_x ?_
            refine B_x ?_
            refine T_n ?_
            refine R_seq ?_
            refine R_seq ?_
            refine R_reg ?_
            refine W_run (L' := [(0, S s), (1, .int .i64 at_), (4, .int .i64 n), (8, .bool (neg l)), (9, .int .i64 (k : Int)), (10, .int .i64 (fst l : Int)), (64, .slice (some ad_1) (l.length + 1) cap_2), (65, .int .i64 (k : Int))]) (w' := w_7) f_40 2 [0, 1, 4, 8, 9, 10, 64, 65] (by kernel_rfl) (fun a_56 f_93 => ?_)
            refine W_eq f_93 (by kernel_rfl) (by kernel_rfl) rfl rfl (X_indexAddr rfl (ad := ad_1) (len := l.length + 1) (cap := cap_2) (k := .i64) (i := (k : Int)) (by kernel_rfl) (by kernel_rfl) (e := 5) (by kernel_rfl) (sz := 1) (by kernel_rfl) (by omega) (by omega)) (fun a_57 f_94 => ?_)
            refine W_eq f_94 (by kernel_rfl) (by kernel_rfl) rfl rfl (X_load1 (v := .int .u8 ((l.getD k 0).toNat : Int)) rfl (ad := ad_1.add (((k : Int)).toNat * 1)) (by kernel_rfl) (by kernel_rfl) (p_7.cell (KZ.get (kz_1.mono hM_2) (by omega) (by omega)))) (fun a_58 f_95 => ?_)
            have hb_5 := byte_lt (l.getD k 0)
            refine W_run (L' := [(0, S s), (1, .int .i64 at_), (4, .int .i64 n), (8, .bool (neg l)), (9, .int .i64 (k : Int)), (10, .int .i64 (fst l : Int)), (11, .int .u8 ((l.getD k 0).toNat : Int))]) (w' := w_7) f_95 1 [0, 1, 4, 8, 9, 10, 11] (by kernel_rfl) (fun a_59 f_96 => ?_)
            refine W_end rfl ?_
            refine T_n ?_
            refine wp_block ?_
            refine R_seq ?_
            refine R_seq ?_
            refine R_reg ?_
            refine W_run (L' := [(0, S s), (1, .int .i64 at_), (4, .int .i64 n), (8, .bool (neg l)), (9, .int .i64 (k : Int)), (11, .int .u8 ((l.getD k 0).toNat : Int)), (68, .bool (decide ((k : Int) = (fst l : Int))))]) (w' := w_7) f_96 4 [0, 1, 4, 8, 9, 11, 68] (by kernel_rfl) (fun a_60 f_97 => ?_)
            refine W_end rfl ?_
            refine T_n ?_
            refine R_mid (fun a_61 w_9 => Frm 110 [(1, .int .i64 at_), (4, .int .i64 n), (8, .bool (neg l)), (9, .int .i64 (k : Int)), (68, .bool ((decide ((k : Int) = (fst l : Int))) || ((decide ((at_ + (k : Int)) < (s.length : Int))) && ((decide (((l.getD k 0).toNat : Int) = 46)) || ((decide (((l.getD k 0).toNat : Int) = 101)) || (decide (((l.getD k 0).toNat : Int) = 69)))))))] a_61 ∧ Hp w0 M_2 (H) w_9) ?_ ?_
            · refine R_cond f_97 (b := decide ((k : Int) = (fst l : Int))) (by kernel_rfl) (by kernel_rfl) (fun h_8 => ?_) (fun h_8 => ?_)
              · have k_15 : (k : Int) = (fst l : Int) := decide_eq_true_iff.1 h_8
                refine wp_skip ?_
                refine T_n ?_
                have f_99 := Frm.set f_97 68 (v := .bool (decide ((k : Int) = (fst l : Int)))) (v' := .bool ((decide ((k : Int) = (fst l : Int))) || ((decide ((at_ + (k : Int)) < (s.length : Int))) && ((decide (((l.getD k 0).toNat : Int) = 46)) || ((decide (((l.getD k 0).toNat : Int) = 101)) || (decide (((l.getD k 0).toNat : Int) = 69))))))) (by kernel_rfl) (by simp only [h_8, Bool.and_true, Bool.true_and, Bool.false_and, Bool.and_false, Bool.or_true, Bool.true_or, Bool.or_false, Bool.false_or, Bool.not_true, Bool.not_false, cond_true, cond_false])
                exact ⟨f_99.keep (ks := [1, 4, 8, 9, 68]) (by kernel_rfl), p_7⟩
              · have k_16 : ¬ ((k : Int) = (fst l : Int)) := iff_f decide_eq_true_iff h_8
                refine R_mid (fun a_62 w_10 => Frm 110 [(1, .int .i64 at_), (4, .int .i64 n), (8, .bool (neg l)), (9, .int .i64 (k : Int)), (68, .bool ((decide ((at_ + (k : Int)) < (s.length : Int))) && ((decide (((l.getD k 0).toNat : Int) = 46)) || ((decide (((l.getD k 0).toNat : Int) = 101)) || (decide (((l.getD k 0).toNat : Int) = 69))))))] a_62 ∧ Hp w0 M_2 (H) w_10) ?_ ?_
                · refine R_reg ?_
                  refine W_run (L' := [(0, S s), (1, .int .i64 at_), (4, .int .i64 n), (8, .bool (neg l)), (9, .int .i64 (k : Int)), (11, .int .u8 ((l.getD k 0).toNat : Int)), (72, .int .i64 at_), (73, .int .i64 (k : Int))]) (w' := w_7) f_97 2 [0, 1, 4, 8, 9, 11, 72, 73] (by kernel_rfl) (fun a_63 f_101 => ?_)
                  refine W_run (L' := [(0, S s), (1, .int .i64 at_), (4, .int .i64 n), (8, .bool (neg l)), (9, .int .i64 (k : Int)), (11, .int .u8 ((l.getD k 0).toNat : Int)), (72, .int .i64 at_), (73, .int .i64 (k : Int)), (74, .int .i64 (IntKind.wrap .i64 (at_ + (k : Int))))]) (w' := w_7) f_101 1 [0, 1, 4, 8, 9, 11, 72, 73, 74] (by kernel_rfl) (fun a_64 f_102 => ?_)
                  have f_103 := Frm.set f_102 74 (v := .int .i64 (IntKind.wrap .i64 (at_ + (k : Int)))) (v' := .int .i64 (at_ + (k : Int))) (by kernel_rfl) (congrArg (Value.int .i64) (IntWalk.i64_in _ (by omega)))
                  have f_104 : Frm 110 [(0, S s), (1, .int .i64 at_), (4, .int .i64 n), (8, .bool (neg l)), (9, .int .i64 (k : Int)), (11, .int .u8 ((l.getD k 0).toNat : Int)), (72, .int .i64 at_), (73, .int .i64 (k : Int)), (74, .int .i64 (at_ + (k : Int)))] a_64 := f_103.keep (ks := [0, 1, 4, 8, 9, 11, 72, 73, 74]) (by kernel_rfl)
                  refine W_run (L' := [(1, .int .i64 at_), (4, .int .i64 n), (8, .bool (neg l)), (9, .int .i64 (k : Int)), (11, .int .u8 ((l.getD k 0).toNat : Int)), (78, .bool (decide ((at_ + (k : Int)) < (s.length : Int))))]) (w' := w_7) f_104 4 [1, 4, 8, 9, 11, 78] (by kernel_rfl) (fun a_65 f_105 => ?_)
                  rcases Bool.eq_false_or_eq_true (decide ((at_ + (k : Int)) < (s.length : Int))) with h_9 | h_9
                  · have k_17 : (at_ + (k : Int)) < (s.length : Int) := decide_eq_true_iff.1 h_9
                    have f_106 := Frm.set f_105 78 (v := .bool (decide ((at_ + (k : Int)) < (s.length : Int)))) (v' := .bool true) (by kernel_rfl) (congrArg Value.bool h_9)
                    have f_107 : Frm 110 [(1, .int .i64 at_), (4, .int .i64 n), (8, .bool (neg l)), (9, .int .i64 (k : Int)), (11, .int .u8 ((l.getD k 0).toNat : Int)), (78, .bool true)] a_65 := f_106.keep (ks := [1, 4, 8, 9, 11, 78]) (by kernel_rfl)
                    refine W_run (L' := [(1, .int .i64 at_), (4, .int .i64 n), (8, .bool (neg l)), (9, .int .i64 (k : Int)), (11, .int .u8 ((l.getD k 0).toNat : Int)), (78, .bool true), (81, .bool (decide (((l.getD k 0).toNat : Int) = 46)))]) (w' := w_7) f_107 3 [1, 4, 8, 9, 11, 78, 81] (by kernel_rfl) (fun a_66 f_108 => ?_)
                    rcases Bool.eq_false_or_eq_true (decide (((l.getD k 0).toNat : Int) = 46)) with h_10 | h_10
                    · have k_18 : ((l.getD k 0).toNat : Int) = 46 := decide_eq_true_iff.1 h_10
                      have f_109 := Frm.set f_108 81 (v := .bool (decide (((l.getD k 0).toNat : Int) = 46))) (v' := .bool true) (by kernel_rfl) (congrArg Value.bool h_10)
                      have f_110 : Frm 110 [(1, .int .i64 at_), (4, .int .i64 n), (8, .bool (neg l)), (9, .int .i64 (k : Int)), (11, .int .u8 ((l.getD k 0).toNat : Int)), (78, .bool true), (81, .bool true)] a_66 := f_109.keep (ks := [1, 4, 8, 9, 11, 78, 81]) (by kernel_rfl)
                      refine W_run (L' := [(1, .int .i64 at_), (4, .int .i64 n), (8, .bool (neg l)), (9, .int .i64 (k : Int)), (68, .bool true)]) (w' := w_7) f_110 9 [1, 4, 8, 9, 68] (by kernel_rfl) (fun a_67 f_111 => ?_)
                      refine W_end rfl ?_
                      refine T_n ?_
                      have f_112 := Frm.set f_111 68 (v := .bool true) (v' := .bool ((decide ((at_ + (k : Int)) < (s.length : Int))) && ((decide (((l.getD k 0).toNat : Int) = 46)) || ((decide (((l.getD k 0).toNat : Int) = 101)) || (decide (((l.getD k 0).toNat : Int) = 69)))))) (by kernel_rfl) (by simp only [h_9, h_10, Bool.and_true, Bool.true_and, Bool.false_and, Bool.and_false, Bool.or_true, Bool.true_or, Bool.or_false, Bool.false_or, Bool.not_true, Bool.not_false, cond_true, cond_false])
                      exact ⟨f_112.keep (ks := [1, 4, 8, 9, 68]) (by kernel_rfl), p_7⟩
                    · have k_19 : ¬ (((l.getD k 0).toNat : Int) = 46) := iff_f decide_eq_true_iff h_10
                      have f_113 := Frm.set f_108 81 (v := .bool (decide (((l.getD k 0).toNat : Int) = 46))) (v' := .bool false) (by kernel_rfl) (congrArg Value.bool h_10)
                      have f_114 : Frm 110 [(1, .int .i64 at_), (4, .int .i64 n), (8, .bool (neg l)), (9, .int .i64 (k : Int)), (11, .int .u8 ((l.getD k 0).toNat : Int)), (78, .bool true), (81, .bool false)] a_66 := f_113.keep (ks := [1, 4, 8, 9, 11, 78, 81]) (by kernel_rfl)
                      refine W_run (L' := [(1, .int .i64 at_), (4, .int .i64 n), (8, .bool (neg l)), (9, .int .i64 (k : Int)), (11, .int .u8 ((l.getD k 0).toNat : Int)), (78, .bool true), (85, .bool (decide (((l.getD k 0).toNat : Int) = 101)))]) (w' := w_7) f_114 4 [1, 4, 8, 9, 11, 78, 85] (by kernel_rfl) (fun a_68 f_115 => ?_)
                      rcases Bool.eq_false_or_eq_true (decide (((l.getD k 0).toNat : Int) = 101)) with h_11 | h_11
                      · have k_20 : ((l.getD k 0).toNat : Int) = 101 := decide_eq_true_iff.1 h_11
                        have f_116 := Frm.set f_115 85 (v := .bool (decide (((l.getD k 0).toNat : Int) = 101))) (v' := .bool true) (by kernel_rfl) (congrArg Value.bool h_11)
                        have f_117 : Frm 110 [(1, .int .i64 at_), (4, .int .i64 n), (8, .bool (neg l)), (9, .int .i64 (k : Int)), (11, .int .u8 ((l.getD k 0).toNat : Int)), (78, .bool true), (85, .bool true)] a_68 := f_116.keep (ks := [1, 4, 8, 9, 11, 78, 85]) (by kernel_rfl)
                        refine W_run (L' := [(1, .int .i64 at_), (4, .int .i64 n), (8, .bool (neg l)), (9, .int .i64 (k : Int)), (68, .bool true)]) (w' := w_7) f_117 5 [1, 4, 8, 9, 68] (by kernel_rfl) (fun a_69 f_118 => ?_)
                        refine W_end rfl ?_
                        refine T_n ?_
                        have f_119 := Frm.set f_118 68 (v := .bool true) (v' := .bool ((decide ((at_ + (k : Int)) < (s.length : Int))) && ((decide (((l.getD k 0).toNat : Int) = 46)) || ((decide (((l.getD k 0).toNat : Int) = 101)) || (decide (((l.getD k 0).toNat : Int) = 69)))))) (by kernel_rfl) (by simp only [h_9, h_10, h_11, Bool.and_true, Bool.true_and, Bool.false_and, Bool.and_false, Bool.or_true, Bool.true_or, Bool.or_false, Bool.false_or, Bool.not_true, Bool.not_false, cond_true, cond_false])
                        exact ⟨f_119.keep (ks := [1, 4, 8, 9, 68]) (by kernel_rfl), p_7⟩
                      · have k_21 : ¬ (((l.getD k 0).toNat : Int) = 101) := iff_f decide_eq_true_iff h_11
                        have f_120 := Frm.set f_115 85 (v := .bool (decide (((l.getD k 0).toNat : Int) = 101))) (v' := .bool false) (by kernel_rfl) (congrArg Value.bool h_11)
                        have f_121 : Frm 110 [(1, .int .i64 at_), (4, .int .i64 n), (8, .bool (neg l)), (9, .int .i64 (k : Int)), (11, .int .u8 ((l.getD k 0).toNat : Int)), (78, .bool true), (85, .bool false)] a_68 := f_120.keep (ks := [1, 4, 8, 9, 11, 78, 85]) (by kernel_rfl)
                        refine W_run (L' := [(1, .int .i64 at_), (4, .int .i64 n), (8, .bool (neg l)), (9, .int .i64 (k : Int)), (68, .bool (decide (((l.getD k 0).toNat : Int) = 69)))]) (w' := w_7) f_121 5 [1, 4, 8, 9, 68] (by kernel_rfl) (fun a_70 f_122 => ?_)
                        refine W_end rfl ?_
                        refine T_n ?_
                        have f_123 := Frm.set f_122 68 (v := .bool (decide (((l.getD k 0).toNat : Int) = 69))) (v' := .bool ((decide ((at_ + (k : Int)) < (s.length : Int))) && ((decide (((l.getD k 0).toNat : Int) = 46)) || ((decide (((l.getD k 0).toNat : Int) = 101)) || (decide (((l.getD k 0).toNat : Int) = 69)))))) (by kernel_rfl) (by simp only [h_9, h_10, h_11, Bool.and_true, Bool.true_and, Bool.false_and, Bool.and_false, Bool.or_true, Bool.true_or, Bool.or_false, Bool.false_or, Bool.not_true, Bool.not_false, cond_true, cond_false])
                        exact ⟨f_123.keep (ks := [1, 4, 8, 9, 68]) (by kernel_rfl), p_7⟩
                  · have k_22 : ¬ ((at_ + (k : Int)) < (s.length : Int)) := iff_f decide_eq_true_iff h_9
                    have f_124 := Frm.set f_105 78 (v := .bool (decide ((at_ + (k : Int)) < (s.length : Int)))) (v' := .bool false) (by kernel_rfl) (congrArg Value.bool h_9)
                    have f_125 : Frm 110 [(1, .int .i64 at_), (4, .int .i64 n), (8, .bool (neg l)), (9, .int .i64 (k : Int)), (11, .int .u8 ((l.getD k 0).toNat : Int)), (78, .bool false)] a_65 := f_124.keep (ks := [1, 4, 8, 9, 11, 78]) (by kernel_rfl)
                    refine W_run (L' := [(1, .int .i64 at_), (4, .int .i64 n), (8, .bool (neg l)), (9, .int .i64 (k : Int)), (68, .bool false)]) (w' := w_7) f_125 12 [1, 4, 8, 9, 68] (by kernel_rfl) (fun a_71 f_126 => ?_)
                    refine W_end rfl ?_
                    refine T_n ?_
                    have f_127 := Frm.set f_126 68 (v := .bool false) (v' := .bool ((decide ((at_ + (k : Int)) < (s.length : Int))) && ((decide (((l.getD k 0).toNat : Int) = 46)) || ((decide (((l.getD k 0).toNat : Int) = 101)) || (decide (((l.getD k 0).toNat : Int) = 69)))))) (by kernel_rfl) (by simp only [h_9, Bool.and_true, Bool.true_and, Bool.false_and, Bool.and_false, Bool.or_true, Bool.true_or, Bool.or_false, Bool.false_or, Bool.not_true, Bool.not_false, cond_true, cond_false])
                    exact ⟨f_127.keep (ks := [1, 4, 8, 9, 68]) (by kernel_rfl), p_7⟩
                · rintro a_62 w_10 ⟨f_100, p_10⟩
                  refine T_n ?_
                  have f_128 := Frm.set f_100 68 (v := .bool ((decide ((at_ + (k : Int)) < (s.length : Int))) && ((decide (((l.getD k 0).toNat : Int) = 46)) || ((decide (((l.getD k 0).toNat : Int) = 101)) || (decide (((l.getD k 0).toNat : Int) = 69)))))) (v' := .bool ((decide ((k : Int) = (fst l : Int))) || ((decide ((at_ + (k : Int)) < (s.length : Int))) && ((decide (((l.getD k 0).toNat : Int) = 46)) || ((decide (((l.getD k 0).toNat : Int) = 101)) || (decide (((l.getD k 0).toNat : Int) = 69))))))) (by kernel_rfl) (by simp only [h_8, Bool.and_true, Bool.true_and, Bool.false_and, Bool.and_false, Bool.or_true, Bool.true_or, Bool.or_false, Bool.false_or, Bool.not_true, Bool.not_false, cond_true, cond_false])
                  exact ⟨f_128.keep (ks := [1, 4, 8, 9, 68]) (by kernel_rfl), p_10⟩
            · rintro a_61 w_9 ⟨f_98, p_9⟩
              refine T_n ?_
              refine R_cond f_98 (b := (decide ((k : Int) = (fst l : Int))) || ((decide ((at_ + (k : Int)) < (s.length : Int))) && ((decide (((l.getD k 0).toNat : Int) = 46)) || ((decide (((l.getD k 0).toNat : Int) = 101)) || (decide (((l.getD k 0).toNat : Int) = 69)))))) (by kernel_rfl) (by kernel_rfl) (fun h_12 => ?_) (fun h_12 => ?_)
              · have k_23 : ((k : Int) = (fst l : Int)) ∨ (((at_ + (k : Int)) < (s.length : Int)) ∧ ((((l.getD k 0).toNat : Int) = 46) ∨ ((((l.getD k 0).toNat : Int) = 101) ∨ (((l.getD k 0).toNat : Int) = 69)))) := (or_iff decide_eq_true_iff (and_iff decide_eq_true_iff (or_iff decide_eq_true_iff (or_iff decide_eq_true_iff decide_eq_true_iff)))).1 h_12
                refine R_seq ?_
                refine R_reg ?_
                refine W_run (L' := [(90, .int .i64 at_), (91, .int .i64 (k : Int))]) (w' := w_9) f_98 2 [90, 91] (by kernel_rfl) (fun a_72 f_129 => ?_)
                refine W_run (L' := [(90, .int .i64 at_), (91, .int .i64 (k : Int)), (92, .int .i64 (IntKind.wrap .i64 (at_ + (k : Int))))]) (w' := w_9) f_129 1 [90, 91, 92] (by kernel_rfl) (fun a_73 f_130 => ?_)
                have f_131 := Frm.set f_130 92 (v := .int .i64 (IntKind.wrap .i64 (at_ + (k : Int)))) (v' := .int .i64 (at_ + (k : Int))) (by kernel_rfl) (congrArg (Value.int .i64) (IntWalk.i64_in _ (by omega)))
                have f_132 : Frm 110 [(90, .int .i64 at_), (91, .int .i64 (k : Int)), (92, .int .i64 (at_ + (k : Int)))] a_73 := f_131.keep (ks := [90, 91, 92]) (by kernel_rfl)
                refine W_run (L' := [(4, .int .i64 0), (5, .int .i64 (at_ + (k : Int))), (6, .int .i64 20)]) (w' := w_9) f_132 3 [4, 5, 6] (by kernel_rfl) (fun a_74 f_133 => ?_)
                refine W_end rfl ?_
                refine T_n ?_
                refine wp_ret ?_
                refine B_r ?_
                refine T_r ?_
                refine E_ret3 f_133 rfl (by kernel_rfl : Vc.look _ 4 = some (.int .i64 0)) (by kernel_rfl : Vc.look _ 5 = some (.int .i64 (at_ + (k : Int)))) (by kernel_rfl : Vc.look _ 6 = some (.int .i64 20)) ?_
                refine ⟨_, rfl, M_2, (hM_1.trans hM_2), p_9, ?_⟩
                exact tup3 (hsc.trans (I_s.e1 h_4 k_23))
              · have k_24 : ¬ (((k : Int) = (fst l : Int)) ∨ (((at_ + (k : Int)) < (s.length : Int)) ∧ ((((l.getD k 0).toNat : Int) = 46) ∨ ((((l.getD k 0).toNat : Int) = 101) ∨ (((l.getD k 0).toNat : Int) = 69))))) := iff_f (or_iff decide_eq_true_iff (and_iff decide_eq_true_iff (or_iff decide_eq_true_iff (or_iff decide_eq_true_iff decide_eq_true_iff)))) h_12
                refine R_seq ?_
                refine R_seq ?_
                refine R_reg ?_
                refine W_run (L' := [(1, .int .i64 at_), (4, .int .i64 n), (8, .bool (neg l)), (9, .int .i64 (k : Int)), (94, .int .i64 n)]) (w' := w_9) f_98 1 [1, 4, 8, 9, 94] (by kernel_rfl) (fun a_75 f_134 => ?_)
                refine W_okv (v := .bool (fitsB n)) f_134 p_9 (by kernel_rfl) (by kernel_rfl) rfl rfl (fun _ => by kernel_rfl) (fits_ok _ (n)) (fun w_11 p_11 a_76 f_135 => ?_)
                refine W_run (L' := [(1, .int .i64 at_), (4, .int .i64 n), (8, .bool (neg l)), (9, .int .i64 (k : Int)), (93, .bool (!(fitsB n)))]) (w' := w_11) f_135 2 [1, 4, 8, 9, 93] (by kernel_rfl) (fun a_77 f_136 => ?_)
                refine W_end rfl ?_
                refine T_n ?_
                refine R_mid (fun a_78 w_12 => Frm 110 [(1, .int .i64 at_), (4, .int .i64 n), (8, .bool (neg l)), (9, .int .i64 (k : Int)), (93, .bool ((!(fitsB n)) || ((neg l) && (decide (n = 0)))))] a_78 ∧ Hp w0 M_2 (H) w_12) ?_ ?_
                · refine R_cond f_136 (b := !(fitsB n)) (by kernel_rfl) (by kernel_rfl) (fun h_13 => ?_) (fun h_13 => ?_)
                  · have k_25 : (fitsB n) = false := by simpa using h_13
                    refine wp_skip ?_
                    refine T_n ?_
                    have f_138 := Frm.set f_136 93 (v := .bool (!(fitsB n))) (v' := .bool ((!(fitsB n)) || ((neg l) && (decide (n = 0))))) (by kernel_rfl) (by simp only [h_13, Bool.and_true, Bool.true_and, Bool.false_and, Bool.and_false, Bool.or_true, Bool.true_or, Bool.or_false, Bool.false_or, Bool.not_true, Bool.not_false, cond_true, cond_false])
                    exact ⟨f_138.keep (ks := [1, 4, 8, 9, 93]) (by kernel_rfl), p_11⟩
                  · have k_26 : (fitsB n) = true := by simpa using h_13
                    refine R_mid (fun a_79 w_13 => Frm 110 [(1, .int .i64 at_), (4, .int .i64 n), (8, .bool (neg l)), (9, .int .i64 (k : Int)), (93, .bool ((neg l) && (decide (n = 0))))] a_79 ∧ Hp w0 M_2 (H) w_13) ?_ ?_
                    · refine R_reg ?_
                      refine W_run (L' := [(1, .int .i64 at_), (4, .int .i64 n), (8, .bool (neg l)), (9, .int .i64 (k : Int)), (98, .bool (neg l))]) (w' := w_11) f_136 2 [1, 4, 8, 9, 98] (by kernel_rfl) (fun a_80 f_140 => ?_)
                      rcases Bool.eq_false_or_eq_true (neg l) with h_14 | h_14
                      · have f_141 := Frm.set f_140 98 (v := .bool (neg l)) (v' := .bool true) (by kernel_rfl) (congrArg Value.bool h_14)
                        have f_142 : Frm 110 [(1, .int .i64 at_), (4, .int .i64 n), (8, .bool (neg l)), (9, .int .i64 (k : Int)), (98, .bool true)] a_80 := f_141.keep (ks := [1, 4, 8, 9, 98]) (by kernel_rfl)
                        refine W_run (L' := [(1, .int .i64 at_), (4, .int .i64 n), (8, .bool (neg l)), (9, .int .i64 (k : Int)), (93, .bool (decide (n = 0)))]) (w' := w_11) f_142 4 [1, 4, 8, 9, 93] (by kernel_rfl) (fun a_81 f_143 => ?_)
                        refine W_end rfl ?_
                        refine T_n ?_
                        have f_144 := Frm.set f_143 93 (v := .bool (decide (n = 0))) (v' := .bool ((neg l) && (decide (n = 0)))) (by kernel_rfl) (by simp only [h_14, Bool.and_true, Bool.true_and, Bool.false_and, Bool.and_false, Bool.or_true, Bool.true_or, Bool.or_false, Bool.false_or, Bool.not_true, Bool.not_false, cond_true, cond_false])
                        exact ⟨f_144.keep (ks := [1, 4, 8, 9, 93]) (by kernel_rfl), p_11⟩
                      · have f_145 := Frm.set f_140 98 (v := .bool (neg l)) (v' := .bool false) (by kernel_rfl) (congrArg Value.bool h_14)
                        have f_146 : Frm 110 [(1, .int .i64 at_), (4, .int .i64 n), (8, .bool (neg l)), (9, .int .i64 (k : Int)), (98, .bool false)] a_80 := f_145.keep (ks := [1, 4, 8, 9, 98]) (by kernel_rfl)
                        refine W_run (L' := [(1, .int .i64 at_), (4, .int .i64 n), (8, .bool (neg l)), (9, .int .i64 (k : Int)), (93, .bool false)]) (w' := w_11) f_146 4 [1, 4, 8, 9, 93] (by kernel_rfl) (fun a_82 f_147 => ?_)
                        refine W_end rfl ?_
                        refine T_n ?_
                        have f_148 := Frm.set f_147 93 (v := .bool false) (v' := .bool ((neg l) && (decide (n = 0)))) (by kernel_rfl) (by simp only [h_14, Bool.and_true, Bool.true_and, Bool.false_and, Bool.and_false, Bool.or_true, Bool.true_or, Bool.or_false, Bool.false_or, Bool.not_true, Bool.not_false, cond_true, cond_false])
                        exact ⟨f_148.keep (ks := [1, 4, 8, 9, 93]) (by kernel_rfl), p_11⟩
                    · rintro a_79 w_13 ⟨f_139, p_13⟩
                      refine T_n ?_
                      have f_149 := Frm.set f_139 93 (v := .bool ((neg l) && (decide (n = 0)))) (v' := .bool ((!(fitsB n)) || ((neg l) && (decide (n = 0))))) (by kernel_rfl) (by simp only [h_13, Bool.and_true, Bool.true_and, Bool.false_and, Bool.and_false, Bool.or_true, Bool.true_or, Bool.or_false, Bool.false_or, Bool.not_true, Bool.not_false, cond_true, cond_false])
                      exact ⟨f_149.keep (ks := [1, 4, 8, 9, 93]) (by kernel_rfl), p_13⟩
                · rintro a_78 w_12 ⟨f_137, p_12⟩
                  refine T_n ?_
                  refine R_cond f_137 (b := (!(fitsB n)) || ((neg l) && (decide (n = 0)))) (by kernel_rfl) (by kernel_rfl) (fun h_15 => ?_) (fun h_15 => ?_)
                  · have k_29 : (¬ ((fitsB n) = true)) ∨ (((neg l) = true) ∧ (n = 0)) := (or_iff (not_iff Iff.rfl) (and_iff Iff.rfl decide_eq_true_iff)).1 h_15
                    refine R_seq ?_
                    refine R_reg ?_
                    refine W_run (L' := [(4, .int .i64 0), (5, .int .i64 at_), (6, .int .i64 20)]) (w' := w_12) f_137 4 [4, 5, 6] (by kernel_rfl) (fun a_83 f_150 => ?_)
                    refine W_end rfl ?_
                    refine T_n ?_
                    refine wp_ret ?_
                    refine B_r ?_
                    refine T_r ?_
                    refine E_ret3 f_150 rfl (by kernel_rfl : Vc.look _ 4 = some (.int .i64 0)) (by kernel_rfl : Vc.look _ 5 = some (.int .i64 at_)) (by kernel_rfl : Vc.look _ 6 = some (.int .i64 20)) ?_
                    refine ⟨_, rfl, M_2, (hM_1.trans hM_2), p_12, ?_⟩
                    have hno := ScanI.no (l := l) (k := k) (sl := s.length) (at_ := at_) (by omega) k_24
                    exact tup3 (hsc.trans (I_s.e2 h_4 hno (K_s.bad.1 k_29)))
                  · have k_30 : ¬ ((¬ ((fitsB n) = true)) ∨ (((neg l) = true) ∧ (n = 0))) := iff_f (or_iff (not_iff Iff.rfl) (and_iff Iff.rfl decide_eq_true_iff)) h_15
                    refine wp_skip ?_
                    refine B_n ?_
                    refine T_n ?_
                    refine R_seq ?_
                    refine R_seq ?_
                    refine R_reg ?_
                    refine W_run (L' := [(1, .int .i64 at_), (4, .int .i64 n), (9, .int .i64 (k : Int)), (103, .bool (neg l))]) (w' := w_12) f_137 1 [1, 4, 9, 103] (by kernel_rfl) (fun a_84 f_151 => ?_)
                    refine W_end rfl ?_
                    refine T_n ?_
                    refine R_cond f_151 (b := neg l) (by kernel_rfl) (by kernel_rfl) (fun h_16 => ?_) (fun h_16 => ?_)
                    · refine R_reg ?_
                      refine W_run (L' := [(1, .int .i64 at_), (9, .int .i64 (k : Int)), (104, .int .i64 n)]) (w' := w_12) f_151 1 [1, 9, 104] (by kernel_rfl) (fun a_85 f_152 => ?_)
                      refine W_run (L' := [(1, .int .i64 at_), (9, .int .i64 (k : Int)), (104, .int .i64 n), (105, .int .i64 (IntKind.wrap .i64 (0 - n)))]) (w' := w_12) f_152 1 [1, 9, 104, 105] (by kernel_rfl) (fun a_86 f_153 => ?_)
                      have f_154 := Frm.set f_153 105 (v := .int .i64 (IntKind.wrap .i64 (0 - n))) (v' := .int .i64 (-n)) (by kernel_rfl) (congrArg (Value.int .i64) ((IntWalk.i64_in _ (by omega)).trans (Int.zero_sub _)))
                      have f_155 : Frm 110 [(1, .int .i64 at_), (9, .int .i64 (k : Int)), (104, .int .i64 n), (105, .int .i64 (-n))] a_86 := f_154.keep (ks := [1, 9, 104, 105]) (by kernel_rfl)
                      refine W_run (L' := [(1, .int .i64 at_), (4, .int .i64 (-n)), (9, .int .i64 (k : Int))]) (w' := w_12) f_155 1 [1, 4, 9] (by kernel_rfl) (fun a_87 f_156 => ?_)
                      refine W_end rfl ?_
                      refine T_n ?_
                      refine R_seq ?_
                      refine R_reg ?_
                      refine W_run (L' := [(106, .int .i64 (-n)), (107, .int .i64 at_), (108, .int .i64 (k : Int))]) (w' := w_12) f_156 3 [106, 107, 108] (by kernel_rfl) (fun a_88 f_157 => ?_)
                      refine W_run (L' := [(106, .int .i64 (-n)), (107, .int .i64 at_), (108, .int .i64 (k : Int)), (109, .int .i64 (IntKind.wrap .i64 (at_ + (k : Int))))]) (w' := w_12) f_157 1 [106, 107, 108, 109] (by kernel_rfl) (fun a_89 f_158 => ?_)
                      have f_159 := Frm.set f_158 109 (v := .int .i64 (IntKind.wrap .i64 (at_ + (k : Int)))) (v' := .int .i64 (at_ + (k : Int))) (by kernel_rfl) (congrArg (Value.int .i64) (IntWalk.i64_in _ (by omega)))
                      have f_160 : Frm 110 [(106, .int .i64 (-n)), (107, .int .i64 at_), (108, .int .i64 (k : Int)), (109, .int .i64 (at_ + (k : Int)))] a_89 := f_159.keep (ks := [106, 107, 108, 109]) (by kernel_rfl)
                      refine W_run (L' := [(4, .int .i64 (-n)), (5, .int .i64 (at_ + (k : Int))), (6, .int .i64 0)]) (w' := w_12) f_160 3 [4, 5, 6] (by kernel_rfl) (fun a_90 f_161 => ?_)
                      refine W_end rfl ?_
                      refine T_n ?_
                      refine wp_ret ?_
                      refine E_ret3 f_161 rfl (by kernel_rfl : Vc.look _ 4 = some (.int .i64 (-n))) (by kernel_rfl : Vc.look _ 5 = some (.int .i64 (at_ + (k : Int)))) (by kernel_rfl : Vc.look _ 6 = some (.int .i64 0)) ?_
                      refine ⟨_, rfl, M_2, (hM_1.trans hM_2), p_12, ?_⟩
                      have hno := ScanI.no (l := l) (k := k) (sl := s.length) (at_ := at_) (by omega) k_24
                      have hbb := fun x => k_30 (K_s.bad.2 x)
                      exact tup3 (hsc.trans ((I_s.e3 h_4 hno hbb).trans (by rw [h_16, K_s.val hbb]; rfl)))
                    · refine wp_skip ?_
                      refine T_n ?_
                      refine R_seq ?_
                      refine R_reg ?_
                      refine W_run (L' := [(106, .int .i64 n), (107, .int .i64 at_), (108, .int .i64 (k : Int))]) (w' := w_12) f_151 3 [106, 107, 108] (by kernel_rfl) (fun a_91 f_162 => ?_)
                      refine W_run (L' := [(106, .int .i64 n), (107, .int .i64 at_), (108, .int .i64 (k : Int)), (109, .int .i64 (IntKind.wrap .i64 (at_ + (k : Int))))]) (w' := w_12) f_162 1 [106, 107, 108, 109] (by kernel_rfl) (fun a_92 f_163 => ?_)
                      have f_164 := Frm.set f_163 109 (v := .int .i64 (IntKind.wrap .i64 (at_ + (k : Int)))) (v' := .int .i64 (at_ + (k : Int))) (by kernel_rfl) (congrArg (Value.int .i64) (IntWalk.i64_in _ (by omega)))
                      have f_165 : Frm 110 [(106, .int .i64 n), (107, .int .i64 at_), (108, .int .i64 (k : Int)), (109, .int .i64 (at_ + (k : Int)))] a_92 := f_164.keep (ks := [106, 107, 108, 109]) (by kernel_rfl)
                      refine W_run (L' := [(4, .int .i64 n), (5, .int .i64 (at_ + (k : Int))), (6, .int .i64 0)]) (w' := w_12) f_165 3 [4, 5, 6] (by kernel_rfl) (fun a_93 f_166 => ?_)
                      refine W_end rfl ?_
                      refine T_n ?_
                      refine wp_ret ?_
                      refine E_ret3 f_166 rfl (by kernel_rfl : Vc.look _ 4 = some (.int .i64 n)) (by kernel_rfl : Vc.look _ 5 = some (.int .i64 (at_ + (k : Int)))) (by kernel_rfl : Vc.look _ 6 = some (.int .i64 0)) ?_
                      refine ⟨_, rfl, M_2, (hM_1.trans hM_2), p_12, ?_⟩
                      have hno := ScanI.no (l := l) (k := k) (sl := s.length) (at_ := at_) (by omega) k_24
                      have hbb := fun x => k_30 (K_s.bad.2 x)
                      exact tup3 (hsc.trans ((I_s.e3 h_4 hno hbb).trans (by rw [h_16, K_s.val hbb]; rfl)))

theorem scanR_ok (M : Mem) (s : List UInt8) (at_ : Int) (hs : s.length ≤ 140737488351232) : Ok Try.prog M 9 [S s, .int .i64 at_] (fun _ v => v = .tuple #[.int .i64 (scan s at_).1, .int .i64 (scan s at_).2.1, .int .i64 (scan s at_).2.2]) := by
  intro w0 H w p0
  refine R_enter 110 Try.func9 rfl rfl (by simp) (fun a0 f0 => ?_)
  replace f0 : Frm 110 [(0, S s), (1, .int .i64 at_)] a0 := f0
  refine R_seq ?_
  refine R_reg ?_
  refine W_run (L' := [(0, S s), (1, .int .i64 at_)]) (w' := w) f0 3 [0, 1] (by kernel_rfl) (fun a_1 f_1 => ?_)
  refine W_end rfl ?_
  refine T_n ?_
  refine R_seq ?_
  refine R_seq ?_
  refine R_mid (fun a_2 w_1 => Frm 110 [(0, S s), (1, .int .i64 at_), (19, .bool ((decide (at_ < 0)) || (decide ((s.length : Int) < at_))))] a_2 ∧ Hp w0 M (H) w_1) ?_ ?_
  · refine R_reg ?_
    refine W_run (L' := [(0, S s), (1, .int .i64 at_), (14, .bool (decide (at_ < 0)))]) (w' := w) f_1 3 [0, 1, 14] (by kernel_rfl) (fun a_3 f_3 => ?_)
    rcases Bool.eq_false_or_eq_true (decide (at_ < 0)) with h_1 | h_1
    · have k_1 : at_ < 0 := decide_eq_true_iff.1 h_1
      have f_4 := Frm.set f_3 14 (v := .bool (decide (at_ < 0))) (v' := .bool true) (by kernel_rfl) (congrArg Value.bool h_1)
      have f_5 : Frm 110 [(0, S s), (1, .int .i64 at_), (14, .bool true)] a_3 := f_4.keep (ks := [0, 1, 14]) (by kernel_rfl)
      refine W_run (L' := [(0, S s), (1, .int .i64 at_), (19, .bool true)]) (w' := w) f_5 5 [0, 1, 19] (by kernel_rfl) (fun a_4 f_6 => ?_)
      refine W_end rfl ?_
      refine T_n ?_
      have f_7 := Frm.set f_6 19 (v := .bool true) (v' := .bool ((decide (at_ < 0)) || (decide ((s.length : Int) < at_)))) (by kernel_rfl) (by simp only [h_1, Bool.and_true, Bool.true_and, Bool.false_and, Bool.and_false, Bool.or_true, Bool.true_or, Bool.or_false, Bool.false_or, Bool.not_true, Bool.not_false, cond_true, cond_false])
      exact ⟨f_7.keep (ks := [0, 1, 19]) (by kernel_rfl), p0⟩
    · have k_2 : ¬ (at_ < 0) := iff_f decide_eq_true_iff h_1
      have f_8 := Frm.set f_3 14 (v := .bool (decide (at_ < 0))) (v' := .bool false) (by kernel_rfl) (congrArg Value.bool h_1)
      have f_9 : Frm 110 [(0, S s), (1, .int .i64 at_), (14, .bool false)] a_3 := f_8.keep (ks := [0, 1, 14]) (by kernel_rfl)
      refine W_run (L' := [(0, S s), (1, .int .i64 at_), (19, .bool (decide ((s.length : Int) < at_)))]) (w' := w) f_9 5 [0, 1, 19] (by kernel_rfl) (fun a_5 f_10 => ?_)
      refine W_end rfl ?_
      refine T_n ?_
      have f_11 := Frm.set f_10 19 (v := .bool (decide ((s.length : Int) < at_))) (v' := .bool ((decide (at_ < 0)) || (decide ((s.length : Int) < at_)))) (by kernel_rfl) (by simp only [h_1, Bool.and_true, Bool.true_and, Bool.false_and, Bool.and_false, Bool.or_true, Bool.true_or, Bool.or_false, Bool.false_or, Bool.not_true, Bool.not_false, cond_true, cond_false])
      exact ⟨f_11.keep (ks := [0, 1, 19]) (by kernel_rfl), p0⟩
  · rintro a_2 w_1 ⟨f_2, p_1⟩
    refine T_n ?_
    refine R_cond f_2 (b := (decide (at_ < 0)) || (decide ((s.length : Int) < at_))) (by kernel_rfl) (by kernel_rfl) (fun h_2 => ?_) (fun h_2 => ?_)
    · have k_3 : (at_ < 0) ∨ ((s.length : Int) < at_) := (or_iff decide_eq_true_iff decide_eq_true_iff).1 h_2
      refine R_seq ?_
      refine R_reg ?_
      refine W_run (L' := [(4, .int .i64 0), (5, .int .i64 0), (6, .int .i64 2)]) (w' := w_1) f_2 3 [4, 5, 6] (by kernel_rfl) (fun a_6 f_12 => ?_)
      refine W_end rfl ?_
      refine T_n ?_
      refine wp_ret ?_
      refine T_r ?_
      refine E_ret3 f_12 rfl (by kernel_rfl : Vc.look _ 4 = some (.int .i64 0)) (by kernel_rfl : Vc.look _ 5 = some (.int .i64 0)) (by kernel_rfl : Vc.look _ 6 = some (.int .i64 2)) ?_
      refine ⟨_, rfl, M, (Mem.le_refl _), p_1, ?_⟩
      exact tup3 (scan_out (by omega))
    · have k_4 : ¬ ((at_ < 0) ∨ ((s.length : Int) < at_)) := iff_f (or_iff decide_eq_true_iff decide_eq_true_iff) h_2
      refine wp_skip ?_
      refine T_n ?_
      refine R_seq ?_
      refine R_reg ?_
      refine W_run (L' := [(0, S s), (1, .int .i64 at_), (7, .int .i64 at_)]) (w' := w_1) f_2 2 [0, 1, 7] (by kernel_rfl) (fun a_7 f_13 => ?_)
      obtain ⟨l, hl⟩ : ∃ l, l = s.drop at_.toNat := ⟨_, rfl⟩
      have hll : (l.length : Int) = s.length - at_ := by rw [hl, List.length_drop]; omega
      have hf1 := fst_le1 l
      have hf2 := fst_le l
      have hsc : scan s at_ = scanL l at_ := by rw [hl]; exact scan_inside (by omega)
      have hsg : ∀ (i : Int) (k : Nat), i = at_ + k → s.getD i.toNat 0 = l.getD k 0 := fun i k h => by rw [hl]; exact getD_at s at_ i k (by omega) h
      refine W_end rfl ?_
      refine T_n ?_
      refine R_seq ?_
      refine R_mid (fun a_8 w_2 => Frm 110 [(0, S s), (1, .int .i64 at_), (7, .int .i64 at_), (8, .bool (neg l))] a_8 ∧ Hp w0 M (H) w_2) ?_ ?_
      · refine R_reg ?_
        refine W_run (L' := [(0, S s), (1, .int .i64 at_), (7, .int .i64 at_), (25, .bool (decide (at_ < (s.length : Int))))]) (w' := w_1) f_13 5 [0, 1, 7, 25] (by kernel_rfl) (fun a_9 f_15 => ?_)
        rcases Bool.eq_false_or_eq_true (decide (at_ < (s.length : Int))) with h_3 | h_3
        · have k_5 : at_ < (s.length : Int) := decide_eq_true_iff.1 h_3
          have f_16 := Frm.set f_15 25 (v := .bool (decide (at_ < (s.length : Int)))) (v' := .bool true) (by kernel_rfl) (congrArg Value.bool h_3)
          have f_17 : Frm 110 [(0, S s), (1, .int .i64 at_), (7, .int .i64 at_), (25, .bool true)] a_9 := f_16.keep (ks := [0, 1, 7, 25]) (by kernel_rfl)
          refine W_run (L' := [(0, S s), (1, .int .i64 at_), (7, .int .i64 at_), (25, .bool true), (26, S s), (27, .int .i64 at_)]) (w' := w_1) f_17 2 [0, 1, 7, 25, 26, 27] (by kernel_rfl) (fun a_10 f_18 => ?_)
          refine W_eq f_18 (by kernel_rfl) (by kernel_rfl) rfl rfl (X_strIndex rfl (l := s) (k := .i64) (i := at_) (by kernel_rfl) (by kernel_rfl) (by kernel_rfl) (by omega) (by omega)) (fun a_11 f_19 => ?_)
          have f_20 := Frm.set f_19 28 (v := .int .u8 ((s.getD at_.toNat 0).toNat : Int)) (v' := .int .u8 ((l.getD 0 0).toNat : Int)) (by kernel_rfl) (congrArg (fun c : UInt8 => Value.int .u8 ((c.toNat : Nat) : Int)) (hsg _ _ (by omega)))
          have f_21 : Frm 110 [(0, S s), (1, .int .i64 at_), (7, .int .i64 at_), (25, .bool true), (26, S s), (27, .int .i64 at_), (28, .int .u8 ((l.getD 0 0).toNat : Int))] a_11 := f_20.keep (ks := [0, 1, 7, 25, 26, 27, 28]) (by kernel_rfl)
          have hb_1 := byte_lt (l.getD 0 0)
          refine W_run (L' := [(0, S s), (1, .int .i64 at_), (7, .int .i64 at_), (8, .bool (decide (((l.getD 0 0).toNat : Int) = 45)))]) (w' := w_1) f_21 3 [0, 1, 7, 8] (by kernel_rfl) (fun a_12 f_22 => ?_)
          refine W_end rfl ?_
          refine T_n ?_
          have f_23 := Frm.set f_22 8 (v := .bool (decide (((l.getD 0 0).toNat : Int) = 45))) (v' := .bool (neg l)) (by kernel_rfl) (congrArg Value.bool (by rw [← neg_in (l := l) (sl := s.length) (at_ := at_) (by omega)]; simp only [h_3, Bool.true_and, Bool.false_and]))
          exact ⟨f_23.keep (ks := [0, 1, 7, 8]) (by kernel_rfl), p_1⟩
        · have k_6 : ¬ (at_ < (s.length : Int)) := iff_f decide_eq_true_iff h_3
          have f_24 := Frm.set f_15 25 (v := .bool (decide (at_ < (s.length : Int)))) (v' := .bool false) (by kernel_rfl) (congrArg Value.bool h_3)
          have f_25 : Frm 110 [(0, S s), (1, .int .i64 at_), (7, .int .i64 at_), (25, .bool false)] a_9 := f_24.keep (ks := [0, 1, 7, 25]) (by kernel_rfl)
          refine W_run (L' := [(0, S s), (1, .int .i64 at_), (7, .int .i64 at_), (8, .bool false)]) (w' := w_1) f_25 6 [0, 1, 7, 8] (by kernel_rfl) (fun a_13 f_26 => ?_)
          refine W_end rfl ?_
          refine T_n ?_
          have f_27 := Frm.set f_26 8 (v := .bool false) (v' := .bool (neg l)) (by kernel_rfl) (congrArg Value.bool (by rw [← neg_in (l := l) (sl := s.length) (at_ := at_) (by omega)]; simp only [h_3, Bool.true_and, Bool.false_and]))
          exact ⟨f_27.keep (ks := [0, 1, 7, 8]) (by kernel_rfl), p_1⟩
      · rintro a_8 w_2 ⟨f_14, p_2⟩
        refine T_n ?_
        refine R_seq ?_
        refine R_seq ?_
        refine R_reg ?_
        refine W_run (L' := [(0, S s), (1, .int .i64 at_), (7, .int .i64 at_), (8, .bool (neg l)), (31, .bool (neg l))]) (w' := w_2) f_14 1 [0, 1, 7, 8, 31] (by kernel_rfl) (fun a_14 f_28 => ?_)
        refine W_end rfl ?_
        refine T_n ?_
        refine R_mid (fun a_15 w_3 => Frm 110 [(0, S s), (1, .int .i64 at_), (7, .int .i64 (at_ + (fst l : Int))), (8, .bool (neg l))] a_15 ∧ Hp w0 M (H) w_3) ?_ ?_
        · refine R_cond f_28 (b := neg l) (by kernel_rfl) (by kernel_rfl) (fun h_4 => ?_) (fun h_4 => ?_)
          · refine R_reg ?_
            refine W_run (L' := [(0, S s), (1, .int .i64 at_), (8, .bool (neg l)), (32, .int .i64 at_)]) (w' := w_2) f_28 1 [0, 1, 8, 32] (by kernel_rfl) (fun a_16 f_30 => ?_)
            refine W_run (L' := [(0, S s), (1, .int .i64 at_), (8, .bool (neg l)), (32, .int .i64 at_), (33, .int .i64 (IntKind.wrap .i64 (at_ + 1)))]) (w' := w_2) f_30 1 [0, 1, 8, 32, 33] (by kernel_rfl) (fun a_17 f_31 => ?_)
            have f_32 := Frm.set f_31 33 (v := .int .i64 (IntKind.wrap .i64 (at_ + 1))) (v' := .int .i64 (at_ + 1)) (by kernel_rfl) (congrArg (Value.int .i64) (IntWalk.i64_in _ (by omega)))
            have f_33 : Frm 110 [(0, S s), (1, .int .i64 at_), (8, .bool (neg l)), (32, .int .i64 at_), (33, .int .i64 (at_ + 1))] a_17 := f_32.keep (ks := [0, 1, 8, 32, 33]) (by kernel_rfl)
            refine W_run (L' := [(0, S s), (1, .int .i64 at_), (7, .int .i64 (at_ + 1)), (8, .bool (neg l))]) (w' := w_2) f_33 1 [0, 1, 7, 8] (by kernel_rfl) (fun a_18 f_34 => ?_)
            refine W_end rfl ?_
            refine T_n ?_
            have f_35 := Frm.set f_34 7 (v := .int .i64 (at_ + 1)) (v' := .int .i64 (at_ + (fst l : Int))) (by kernel_rfl) (congrArg (Value.int .i64) (by rw [fst_t h_4]; rfl))
            exact ⟨f_35.keep (ks := [0, 1, 7, 8]) (by kernel_rfl), p_2⟩
          · refine wp_skip ?_
            refine T_n ?_
            have f_36 := Frm.set f_28 7 (v := .int .i64 at_) (v' := .int .i64 (at_ + (fst l : Int))) (by kernel_rfl) (congrArg (Value.int .i64) (by rw [fst_f h_4]; simp))
            exact ⟨f_36.keep (ks := [0, 1, 7, 8]) (by kernel_rfl), p_2⟩
        · rintro a_15 w_3 ⟨f_29, p_3⟩
          refine T_n ?_
          refine R_seq ?_
          refine R_reg ?_
          refine W_run (L' := [(0, S s), (1, .int .i64 at_), (7, .int .i64 (at_ + (fst l : Int))), (8, .bool (neg l)), (9, .int .i64 (at_ + (fst l : Int)))]) (w' := w_3) f_29 2 [0, 1, 7, 8, 9] (by kernel_rfl) (fun a_19 f_37 => ?_)
          refine W_end rfl ?_
          refine T_n ?_
          refine R_seq ?_
          refine R_reg ?_
          refine W_run (L' := [(0, S s), (1, .int .i64 at_), (7, .int .i64 (at_ + (fst l : Int))), (8, .bool (neg l)), (9, .int .i64 (at_ + (fst l : Int))), (10, .int .i64 0)]) (w' := w_3) f_37 1 [0, 1, 7, 8, 9, 10] (by kernel_rfl) (fun a_20 f_38 => ?_)
          refine W_end rfl ?_
          refine T_n ?_
          refine R_seq ?_
          refine R_reg ?_
          refine W_run (L' := [(0, S s), (1, .int .i64 at_), (7, .int .i64 (at_ + (fst l : Int))), (8, .bool (neg l)), (9, .int .i64 (at_ + (fst l : Int))), (10, .int .i64 0), (11, .bool false)]) (w' := w_3) f_38 1 [0, 1, 7, 8, 9, 10, 11] (by kernel_rfl) (fun a_21 f_39 => ?_)
          refine W_end rfl ?_
          refine T_n ?_
          refine R_seq ?_
          refine wp_block ?_
          have f_40 := Frm.set f_39 7 (v := .int .i64 (at_ + (fst l : Int))) (v' := .int .i64 (at_ + ((fst l) : Int))) (by kernel_rfl) (by first | rfl | (congr 1; omega) | simp)
          refine R_loop (n := 110) (w0 := w0) (M := M) (fun (x : Nat × Int × Bool × Nat) => match x with | (k, n, gr, v) => [(0, S s), (1, .int .i64 at_), (7, .int .i64 (at_ + (k : Int))), (8, .bool (neg l)), (9, .int .i64 (at_ + (fst l : Int))), (10, .int .i64 n), (11, .bool gr)]) (fun (x : Nat × Int × Bool × Nat) => match x with | (k, n, gr, v) => (H)) (fun (x : Nat × Int × Bool × Nat) (_ : Mem) => match x with | (k, n, gr, v) => (ScanI l k v) ∧ (KeepR n gr v)) (fun (x : Nat × Int × Bool × Nat) => match x with | (k, n, gr, v) => l.length + 1 - k) (fst l, 0, false, 0) (f_40.keep (ks := [0, 1, 7, 8, 9, 10, 11]) (by kernel_rfl)) p_3 ?_ ?_
          · exact ⟨ScanI.start l, KeepR.start⟩
          · rintro ⟨k, n, gr, v⟩ M_1 a_22 w_4 hM_1 I_1 f_41 p_4
            replace f_41 : Frm 110 [(0, S s), (1, .int .i64 at_), (7, .int .i64 (at_ + (k : Int))), (8, .bool (neg l)), (9, .int .i64 (at_ + (fst l : Int))), (10, .int .i64 n), (11, .bool gr)] a_22 := f_41
            replace p_4 : Hp w0 M_1 (H) w_4 := p_4
            replace I_1 : (ScanI l k v) ∧ (KeepR n gr v) := I_1
            obtain ⟨I_s, K_s⟩ := I_1
            have hk1 := I_s.ge
            have hk2 := I_s.le
            obtain ⟨hn1, hn2, hn3, hn4⟩ := id K_s
            refine R_seq ?_
            refine R_seq ?_
            refine R_mid (fun a_23 w_5 => Frm 110 [(0, S s), (1, .int .i64 at_), (7, .int .i64 (at_ + (k : Int))), (8, .bool (neg l)), (9, .int .i64 (at_ + (fst l : Int))), (10, .int .i64 n), (11, .bool gr), (44, .bool ((decide ((at_ + (k : Int)) < (s.length : Int))) && (dig (l.getD k 0))))] a_23 ∧ Hp w0 M_1 (H) w_5) ?_ ?_
            · refine R_reg ?_
              refine W_run (L' := [(0, S s), (1, .int .i64 at_), (7, .int .i64 (at_ + (k : Int))), (8, .bool (neg l)), (9, .int .i64 (at_ + (fst l : Int))), (10, .int .i64 n), (11, .bool gr), (39, .bool (decide ((at_ + (k : Int)) < (s.length : Int))))]) (w' := w_4) f_41 5 [0, 1, 7, 8, 9, 10, 11, 39] (by kernel_rfl) (fun a_24 f_43 => ?_)
              rcases Bool.eq_false_or_eq_true (decide ((at_ + (k : Int)) < (s.length : Int))) with h_5 | h_5
              · have k_9 : (at_ + (k : Int)) < (s.length : Int) := decide_eq_true_iff.1 h_5
                have f_44 := Frm.set f_43 39 (v := .bool (decide ((at_ + (k : Int)) < (s.length : Int)))) (v' := .bool true) (by kernel_rfl) (congrArg Value.bool h_5)
                have f_45 : Frm 110 [(0, S s), (1, .int .i64 at_), (7, .int .i64 (at_ + (k : Int))), (8, .bool (neg l)), (9, .int .i64 (at_ + (fst l : Int))), (10, .int .i64 n), (11, .bool gr), (39, .bool true)] a_24 := f_44.keep (ks := [0, 1, 7, 8, 9, 10, 11, 39]) (by kernel_rfl)
                refine W_run (L' := [(0, S s), (1, .int .i64 at_), (7, .int .i64 (at_ + (k : Int))), (8, .bool (neg l)), (9, .int .i64 (at_ + (fst l : Int))), (10, .int .i64 n), (11, .bool gr), (39, .bool true), (40, S s), (41, .int .i64 (at_ + (k : Int)))]) (w' := w_4) f_45 2 [0, 1, 7, 8, 9, 10, 11, 39, 40, 41] (by kernel_rfl) (fun a_25 f_46 => ?_)
                refine W_eq f_46 (by kernel_rfl) (by kernel_rfl) rfl rfl (X_strIndex rfl (l := s) (k := .i64) (i := (at_ + (k : Int))) (by kernel_rfl) (by kernel_rfl) (by kernel_rfl) (by omega) (by omega)) (fun a_26 f_47 => ?_)
                have f_48 := Frm.set f_47 42 (v := .int .u8 ((s.getD ((at_ + (k : Int))).toNat 0).toNat : Int)) (v' := .int .u8 ((l.getD k 0).toNat : Int)) (by kernel_rfl) (congrArg (fun c : UInt8 => Value.int .u8 ((c.toNat : Nat) : Int)) (hsg _ _ (by omega)))
                have f_49 : Frm 110 [(0, S s), (1, .int .i64 at_), (7, .int .i64 (at_ + (k : Int))), (8, .bool (neg l)), (9, .int .i64 (at_ + (fst l : Int))), (10, .int .i64 n), (11, .bool gr), (39, .bool true), (40, S s), (41, .int .i64 (at_ + (k : Int))), (42, .int .u8 ((l.getD k 0).toNat : Int))] a_26 := f_48.keep (ks := [0, 1, 7, 8, 9, 10, 11, 39, 40, 41, 42]) (by kernel_rfl)
                have hb_2 := byte_lt (l.getD k 0)
                refine W_okv (v := .bool (dig (l.getD k 0))) f_49 p_4 (by kernel_rfl) (by kernel_rfl) rfl rfl (fun _ => by kernel_rfl) (digitR_ok _ (l.getD k 0)) (fun w_6 p_6 a_27 f_50 => ?_)
                refine W_run (L' := [(0, S s), (1, .int .i64 at_), (7, .int .i64 (at_ + (k : Int))), (8, .bool (neg l)), (9, .int .i64 (at_ + (fst l : Int))), (10, .int .i64 n), (11, .bool gr), (44, .bool (dig (l.getD k 0)))]) (w' := w_6) f_50 1 [0, 1, 7, 8, 9, 10, 11, 44] (by kernel_rfl) (fun a_28 f_51 => ?_)
                refine W_end rfl ?_
                refine T_n ?_
                have f_52 := Frm.set f_51 44 (v := .bool (dig (l.getD k 0))) (v' := .bool ((decide ((at_ + (k : Int)) < (s.length : Int))) && (dig (l.getD k 0)))) (by kernel_rfl) (by simp only [h_5, Bool.and_true, Bool.true_and, Bool.false_and, Bool.and_false, Bool.or_true, Bool.true_or, Bool.or_false, Bool.false_or, Bool.not_true, Bool.not_false, cond_true, cond_false])
                exact ⟨f_52.keep (ks := [0, 1, 7, 8, 9, 10, 11, 44]) (by kernel_rfl), p_6⟩
              · have k_10 : ¬ ((at_ + (k : Int)) < (s.length : Int)) := iff_f decide_eq_true_iff h_5
                have f_53 := Frm.set f_43 39 (v := .bool (decide ((at_ + (k : Int)) < (s.length : Int)))) (v' := .bool false) (by kernel_rfl) (congrArg Value.bool h_5)
                have f_54 : Frm 110 [(0, S s), (1, .int .i64 at_), (7, .int .i64 (at_ + (k : Int))), (8, .bool (neg l)), (9, .int .i64 (at_ + (fst l : Int))), (10, .int .i64 n), (11, .bool gr), (39, .bool false)] a_24 := f_53.keep (ks := [0, 1, 7, 8, 9, 10, 11, 39]) (by kernel_rfl)
                refine W_run (L' := [(0, S s), (1, .int .i64 at_), (7, .int .i64 (at_ + (k : Int))), (8, .bool (neg l)), (9, .int .i64 (at_ + (fst l : Int))), (10, .int .i64 n), (11, .bool gr), (44, .bool false)]) (w' := w_4) f_54 5 [0, 1, 7, 8, 9, 10, 11, 44] (by kernel_rfl) (fun a_29 f_55 => ?_)
                refine W_end rfl ?_
                refine T_n ?_
                have f_56 := Frm.set f_55 44 (v := .bool false) (v' := .bool ((decide ((at_ + (k : Int)) < (s.length : Int))) && (dig (l.getD k 0)))) (by kernel_rfl) (by simp only [h_5, Bool.and_true, Bool.true_and, Bool.false_and, Bool.and_false, Bool.or_true, Bool.true_or, Bool.or_false, Bool.false_or, Bool.not_true, Bool.not_false, cond_true, cond_false])
                exact ⟨f_56.keep (ks := [0, 1, 7, 8, 9, 10, 11, 44]) (by kernel_rfl), p_4⟩
            · rintro a_23 w_5 ⟨f_42, p_5⟩
              refine T_n ?_
              refine R_cond f_42 (b := (decide ((at_ + (k : Int)) < (s.length : Int))) && (dig (l.getD k 0))) (by kernel_rfl) (by kernel_rfl) (fun h_6 => ?_) (fun h_6 => ?_)
              · have k_11 : ((at_ + (k : Int)) < (s.length : Int)) ∧ ((dig (l.getD k 0)) = true) := (and_iff decide_eq_true_iff Iff.rfl).1 h_6
                refine wp_skip ?_
                refine T_n ?_
                refine wp_block ?_
                refine R_seq ?_
                refine R_seq ?_
                refine R_mid (fun a_30 w_7 => Frm 110 [(0, S s), (1, .int .i64 at_), (7, .int .i64 (at_ + (k : Int))), (8, .bool (neg l)), (9, .int .i64 (at_ + (fst l : Int))), (10, .int .i64 n), (11, .bool gr), (54, .bool ((decide ((at_ + (k : Int)) = ((at_ + (fst l : Int)) + 1))) && (decide (((l.getD (fst l) 0).toNat : Int) = 48))))] a_30 ∧ Hp w0 M_1 (H) w_7) ?_ ?_
                · refine R_reg ?_
                  refine W_run (L' := [(0, S s), (1, .int .i64 at_), (7, .int .i64 (at_ + (k : Int))), (8, .bool (neg l)), (9, .int .i64 (at_ + (fst l : Int))), (10, .int .i64 n), (11, .bool gr), (45, .int .i64 (at_ + (k : Int))), (46, .int .i64 (at_ + (fst l : Int)))]) (w' := w_5) f_42 2 [0, 1, 7, 8, 9, 10, 11, 45, 46] (by kernel_rfl) (fun a_31 f_58 => ?_)
                  refine W_run (L' := [(0, S s), (1, .int .i64 at_), (7, .int .i64 (at_ + (k : Int))), (8, .bool (neg l)), (9, .int .i64 (at_ + (fst l : Int))), (10, .int .i64 n), (11, .bool gr), (45, .int .i64 (at_ + (k : Int))), (46, .int .i64 (at_ + (fst l : Int))), (47, .int .i64 (IntKind.wrap .i64 ((at_ + (fst l : Int)) + 1)))]) (w' := w_5) f_58 1 [0, 1, 7, 8, 9, 10, 11, 45, 46, 47] (by kernel_rfl) (fun a_32 f_59 => ?_)
                  have f_60 := Frm.set f_59 47 (v := .int .i64 (IntKind.wrap .i64 ((at_ + (fst l : Int)) + 1))) (v' := .int .i64 ((at_ + (fst l : Int)) + 1)) (by kernel_rfl) (congrArg (Value.int .i64) (IntWalk.i64_in _ (by omega)))
                  have f_61 : Frm 110 [(0, S s), (1, .int .i64 at_), (7, .int .i64 (at_ + (k : Int))), (8, .bool (neg l)), (9, .int .i64 (at_ + (fst l : Int))), (10, .int .i64 n), (11, .bool gr), (45, .int .i64 (at_ + (k : Int))), (46, .int .i64 (at_ + (fst l : Int))), (47, .int .i64 ((at_ + (fst l : Int)) + 1))] a_32 := f_60.keep (ks := [0, 1, 7, 8, 9, 10, 11, 45, 46, 47]) (by kernel_rfl)
                  refine W_run (L' := [(0, S s), (1, .int .i64 at_), (7, .int .i64 (at_ + (k : Int))), (8, .bool (neg l)), (9, .int .i64 (at_ + (fst l : Int))), (10, .int .i64 n), (11, .bool gr), (49, .bool (decide ((at_ + (k : Int)) = ((at_ + (fst l : Int)) + 1))))]) (w' := w_5) f_61 2 [0, 1, 7, 8, 9, 10, 11, 49] (by kernel_rfl) (fun a_33 f_62 => ?_)
                  rcases Bool.eq_false_or_eq_true (decide ((at_ + (k : Int)) = ((at_ + (fst l : Int)) + 1))) with h_7 | h_7
                  · have k_12 : (at_ + (k : Int)) = ((at_ + (fst l : Int)) + 1) := decide_eq_true_iff.1 h_7
                    have f_63 := Frm.set f_62 49 (v := .bool (decide ((at_ + (k : Int)) = ((at_ + (fst l : Int)) + 1)))) (v' := .bool true) (by kernel_rfl) (congrArg Value.bool h_7)
                    have f_64 : Frm 110 [(0, S s), (1, .int .i64 at_), (7, .int .i64 (at_ + (k : Int))), (8, .bool (neg l)), (9, .int .i64 (at_ + (fst l : Int))), (10, .int .i64 n), (11, .bool gr), (49, .bool true)] a_33 := f_63.keep (ks := [0, 1, 7, 8, 9, 10, 11, 49]) (by kernel_rfl)
                    refine W_run (L' := [(0, S s), (1, .int .i64 at_), (7, .int .i64 (at_ + (k : Int))), (8, .bool (neg l)), (9, .int .i64 (at_ + (fst l : Int))), (10, .int .i64 n), (11, .bool gr), (49, .bool true), (50, S s), (51, .int .i64 (at_ + (fst l : Int)))]) (w' := w_5) f_64 2 [0, 1, 7, 8, 9, 10, 11, 49, 50, 51] (by kernel_rfl) (fun a_34 f_65 => ?_)
                    refine W_eq f_65 (by kernel_rfl) (by kernel_rfl) rfl rfl (X_strIndex rfl (l := s) (k := .i64) (i := (at_ + (fst l : Int))) (by kernel_rfl) (by kernel_rfl) (by kernel_rfl) (by omega) (by omega)) (fun a_35 f_66 => ?_)
                    have f_67 := Frm.set f_66 52 (v := .int .u8 ((s.getD ((at_ + (fst l : Int))).toNat 0).toNat : Int)) (v' := .int .u8 ((l.getD (fst l) 0).toNat : Int)) (by kernel_rfl) (congrArg (fun c : UInt8 => Value.int .u8 ((c.toNat : Nat) : Int)) (hsg _ _ (by omega)))
                    have f_68 : Frm 110 [(0, S s), (1, .int .i64 at_), (7, .int .i64 (at_ + (k : Int))), (8, .bool (neg l)), (9, .int .i64 (at_ + (fst l : Int))), (10, .int .i64 n), (11, .bool gr), (49, .bool true), (50, S s), (51, .int .i64 (at_ + (fst l : Int))), (52, .int .u8 ((l.getD (fst l) 0).toNat : Int))] a_35 := f_67.keep (ks := [0, 1, 7, 8, 9, 10, 11, 49, 50, 51, 52]) (by kernel_rfl)
                    have hb_3 := byte_lt (l.getD (fst l) 0)
                    refine W_run (L' := [(0, S s), (1, .int .i64 at_), (7, .int .i64 (at_ + (k : Int))), (8, .bool (neg l)), (9, .int .i64 (at_ + (fst l : Int))), (10, .int .i64 n), (11, .bool gr), (54, .bool (decide (((l.getD (fst l) 0).toNat : Int) = 48)))]) (w' := w_5) f_68 2 [0, 1, 7, 8, 9, 10, 11, 54] (by kernel_rfl) (fun a_36 f_69 => ?_)
                    refine W_end rfl ?_
                    refine T_n ?_
                    have f_70 := Frm.set f_69 54 (v := .bool (decide (((l.getD (fst l) 0).toNat : Int) = 48))) (v' := .bool ((decide ((at_ + (k : Int)) = ((at_ + (fst l : Int)) + 1))) && (decide (((l.getD (fst l) 0).toNat : Int) = 48)))) (by kernel_rfl) (by simp only [h_7, Bool.and_true, Bool.true_and, Bool.false_and, Bool.and_false, Bool.or_true, Bool.true_or, Bool.or_false, Bool.false_or, Bool.not_true, Bool.not_false, cond_true, cond_false])
                    exact ⟨f_70.keep (ks := [0, 1, 7, 8, 9, 10, 11, 54]) (by kernel_rfl), p_5⟩
                  · have k_13 : ¬ ((at_ + (k : Int)) = ((at_ + (fst l : Int)) + 1)) := iff_f decide_eq_true_iff h_7
                    have f_71 := Frm.set f_62 49 (v := .bool (decide ((at_ + (k : Int)) = ((at_ + (fst l : Int)) + 1)))) (v' := .bool false) (by kernel_rfl) (congrArg Value.bool h_7)
                    have f_72 : Frm 110 [(0, S s), (1, .int .i64 at_), (7, .int .i64 (at_ + (k : Int))), (8, .bool (neg l)), (9, .int .i64 (at_ + (fst l : Int))), (10, .int .i64 n), (11, .bool gr), (49, .bool false)] a_33 := f_71.keep (ks := [0, 1, 7, 8, 9, 10, 11, 49]) (by kernel_rfl)
                    refine W_run (L' := [(0, S s), (1, .int .i64 at_), (7, .int .i64 (at_ + (k : Int))), (8, .bool (neg l)), (9, .int .i64 (at_ + (fst l : Int))), (10, .int .i64 n), (11, .bool gr), (54, .bool false)]) (w' := w_5) f_72 5 [0, 1, 7, 8, 9, 10, 11, 54] (by kernel_rfl) (fun a_37 f_73 => ?_)
                    refine W_end rfl ?_
                    refine T_n ?_
                    have f_74 := Frm.set f_73 54 (v := .bool false) (v' := .bool ((decide ((at_ + (k : Int)) = ((at_ + (fst l : Int)) + 1))) && (decide (((l.getD (fst l) 0).toNat : Int) = 48)))) (by kernel_rfl) (by simp only [h_7, Bool.and_true, Bool.true_and, Bool.false_and, Bool.and_false, Bool.or_true, Bool.true_or, Bool.or_false, Bool.false_or, Bool.not_true, Bool.not_false, cond_true, cond_false])
                    exact ⟨f_74.keep (ks := [0, 1, 7, 8, 9, 10, 11, 54]) (by kernel_rfl), p_5⟩
                · rintro a_30 w_7 ⟨f_57, p_7⟩
                  refine T_n ?_
                  refine R_cond f_57 (b := (decide ((at_ + (k : Int)) = ((at_ + (fst l : Int)) + 1))) && (decide (((l.getD (fst l) 0).toNat : Int) = 48))) (by kernel_rfl) (by kernel_rfl) (fun h_8 => ?_) (fun h_8 => ?_)
                  · have k_14 : ((at_ + (k : Int)) = ((at_ + (fst l : Int)) + 1)) ∧ (((l.getD (fst l) 0).toNat : Int) = 48) := (and_iff decide_eq_true_iff decide_eq_true_iff).1 h_8
                    refine R_seq ?_
                    refine R_reg ?_
                    refine W_run (L' := [(4, .int .i64 0), (5, .int .i64 (at_ + (k : Int))), (6, .int .i64 20)]) (w' := w_7) f_57 4 [4, 5, 6] (by kernel_rfl) (fun a_38 f_75 => ?_)
                    refine W_end rfl ?_
                    refine T_n ?_
                    refine wp_ret ?_
                    refine T_r ?_
                    refine B_r ?_
                    refine T_r ?_
                    refine B_r ?_
                    refine T_r ?_
                    refine E_ret3 f_75 rfl (by kernel_rfl : Vc.look _ 4 = some (.int .i64 0)) (by kernel_rfl : Vc.look _ 5 = some (.int .i64 (at_ + (k : Int)))) (by kernel_rfl : Vc.look _ 6 = some (.int .i64 20)) ?_
                    refine ⟨_, rfl, M_1, hM_1, p_7, ?_⟩
                    obtain ⟨e1, e2⟩ := isboth (l := l) (k := k) ⟨by omega, by omega⟩
                    exact tup3 (hsc.trans (I_s.early at_ k_11.2 e1 e2))
                  · have k_15 : ¬ (((at_ + (k : Int)) = ((at_ + (fst l : Int)) + 1)) ∧ (((l.getD (fst l) 0).toNat : Int) = 48)) := iff_f (and_iff decide_eq_true_iff decide_eq_true_iff) h_8
                    refine wp_skip ?_
                    refine T_n ?_
                    refine R_seq ?_
                    refine R_reg ?_
                    refine W_run (L' := [(0, S s), (1, .int .i64 at_), (7, .int .i64 (at_ + (k : Int))), (8, .bool (neg l)), (9, .int .i64 (at_ + (fst l : Int))), (11, .bool gr), (56, .int .i64 n)]) (w' := w_7) f_57 1 [0, 1, 7, 8, 9, 11, 56] (by kernel_rfl) (fun a_39 f_76 => ?_)
                    refine W_run (L' := [(0, S s), (1, .int .i64 at_), (7, .int .i64 (at_ + (k : Int))), (8, .bool (neg l)), (9, .int .i64 (at_ + (fst l : Int))), (11, .bool gr), (56, .int .i64 n), (57, .int .i64 (IntKind.wrap .i64 (n * 10)))]) (w' := w_7) f_76 1 [0, 1, 7, 8, 9, 11, 56, 57] (by kernel_rfl) (fun a_40 f_77 => ?_)
                    have f_78 := Frm.set f_77 57 (v := .int .i64 (IntKind.wrap .i64 (n * 10))) (v' := .int .i64 (n * 10)) (by kernel_rfl) (congrArg (Value.int .i64) (IntWalk.i64_in _ (by omega)))
                    have f_79 : Frm 110 [(0, S s), (1, .int .i64 at_), (7, .int .i64 (at_ + (k : Int))), (8, .bool (neg l)), (9, .int .i64 (at_ + (fst l : Int))), (11, .bool gr), (56, .int .i64 n), (57, .int .i64 (n * 10))] a_40 := f_78.keep (ks := [0, 1, 7, 8, 9, 11, 56, 57]) (by kernel_rfl)
                    refine W_run (L' := [(0, S s), (1, .int .i64 at_), (7, .int .i64 (at_ + (k : Int))), (8, .bool (neg l)), (9, .int .i64 (at_ + (fst l : Int))), (11, .bool gr), (57, .int .i64 (n * 10)), (58, S s), (59, .int .i64 (at_ + (k : Int)))]) (w' := w_7) f_79 2 [0, 1, 7, 8, 9, 11, 57, 58, 59] (by kernel_rfl) (fun a_41 f_80 => ?_)
                    refine W_eq f_80 (by kernel_rfl) (by kernel_rfl) rfl rfl (X_strIndex rfl (l := s) (k := .i64) (i := (at_ + (k : Int))) (by kernel_rfl) (by kernel_rfl) (by kernel_rfl) (by omega) (by omega)) (fun a_42 f_81 => ?_)
                    have f_82 := Frm.set f_81 60 (v := .int .u8 ((s.getD ((at_ + (k : Int))).toNat 0).toNat : Int)) (v' := .int .u8 ((l.getD k 0).toNat : Int)) (by kernel_rfl) (congrArg (fun c : UInt8 => Value.int .u8 ((c.toNat : Nat) : Int)) (hsg _ _ (by omega)))
                    have f_83 : Frm 110 [(0, S s), (1, .int .i64 at_), (7, .int .i64 (at_ + (k : Int))), (8, .bool (neg l)), (9, .int .i64 (at_ + (fst l : Int))), (11, .bool gr), (57, .int .i64 (n * 10)), (58, S s), (59, .int .i64 (at_ + (k : Int))), (60, .int .u8 ((l.getD k 0).toNat : Int))] a_42 := f_82.keep (ks := [0, 1, 7, 8, 9, 11, 57, 58, 59, 60]) (by kernel_rfl)
                    have hb_4 := byte_lt (l.getD k 0)
                    refine W_run (L' := [(0, S s), (1, .int .i64 at_), (7, .int .i64 (at_ + (k : Int))), (8, .bool (neg l)), (9, .int .i64 (at_ + (fst l : Int))), (11, .bool gr), (57, .int .i64 (n * 10)), (58, S s), (59, .int .i64 (at_ + (k : Int))), (60, .int .u8 ((l.getD k 0).toNat : Int)), (61, .int .u8 (IntKind.wrap .u8 (((l.getD k 0).toNat : Int) - 48)))]) (w' := w_7) f_83 1 [0, 1, 7, 8, 9, 11, 57, 58, 59, 60, 61] (by kernel_rfl) (fun a_43 f_84 => ?_)
                    have f_85 := Frm.set f_84 61 (v := .int .u8 (IntKind.wrap .u8 (((l.getD k 0).toNat : Int) - 48))) (v' := .int .u8 ((((l.getD k 0).toNat : Int) - 48) % 256)) (by kernel_rfl) (congrArg (Value.int .u8) (IntKind.wrap_u8 _))
                    have f_86 : Frm 110 [(0, S s), (1, .int .i64 at_), (7, .int .i64 (at_ + (k : Int))), (8, .bool (neg l)), (9, .int .i64 (at_ + (fst l : Int))), (11, .bool gr), (57, .int .i64 (n * 10)), (58, S s), (59, .int .i64 (at_ + (k : Int))), (60, .int .u8 ((l.getD k 0).toNat : Int)), (61, .int .u8 ((((l.getD k 0).toNat : Int) - 48) % 256))] a_43 := f_85.keep (ks := [0, 1, 7, 8, 9, 11, 57, 58, 59, 60, 61]) (by kernel_rfl)
                    refine W_run (L' := [(0, S s), (1, .int .i64 at_), (7, .int .i64 (at_ + (k : Int))), (8, .bool (neg l)), (9, .int .i64 (at_ + (fst l : Int))), (11, .bool gr), (57, .int .i64 (n * 10)), (58, S s), (59, .int .i64 (at_ + (k : Int))), (60, .int .u8 ((l.getD k 0).toNat : Int)), (61, .int .u8 ((((l.getD k 0).toNat : Int) - 48) % 256)), (62, .int .i64 (IntKind.wrap .i64 ((((l.getD k 0).toNat : Int) - 48) % 256)))]) (w' := w_7) f_86 1 [0, 1, 7, 8, 9, 11, 57, 58, 59, 60, 61, 62] (by kernel_rfl) (fun a_44 f_87 => ?_)
                    have f_88 := Frm.set f_87 62 (v := .int .i64 (IntKind.wrap .i64 ((((l.getD k 0).toNat : Int) - 48) % 256))) (v' := .int .i64 ((((l.getD k 0).toNat : Int) - 48) % 256)) (by kernel_rfl) (congrArg (Value.int .i64) (IntWalk.i64_in _ (by omega)))
                    have f_89 : Frm 110 [(0, S s), (1, .int .i64 at_), (7, .int .i64 (at_ + (k : Int))), (8, .bool (neg l)), (9, .int .i64 (at_ + (fst l : Int))), (11, .bool gr), (57, .int .i64 (n * 10)), (58, S s), (59, .int .i64 (at_ + (k : Int))), (60, .int .u8 ((l.getD k 0).toNat : Int)), (61, .int .u8 ((((l.getD k 0).toNat : Int) - 48) % 256)), (62, .int .i64 ((((l.getD k 0).toNat : Int) - 48) % 256))] a_44 := f_88.keep (ks := [0, 1, 7, 8, 9, 11, 57, 58, 59, 60, 61, 62]) (by kernel_rfl)
                    refine W_run (L' := [(0, S s), (1, .int .i64 at_), (7, .int .i64 (at_ + (k : Int))), (8, .bool (neg l)), (9, .int .i64 (at_ + (fst l : Int))), (11, .bool gr), (57, .int .i64 (n * 10)), (58, S s), (59, .int .i64 (at_ + (k : Int))), (60, .int .u8 ((l.getD k 0).toNat : Int)), (61, .int .u8 ((((l.getD k 0).toNat : Int) - 48) % 256)), (62, .int .i64 ((((l.getD k 0).toNat : Int) - 48) % 256)), (63, .int .i64 (IntKind.wrap .i64 ((n * 10) + ((((l.getD k 0).toNat : Int) - 48) % 256))))]) (w' := w_7) f_89 1 [0, 1, 7, 8, 9, 11, 57, 58, 59, 60, 61, 62, 63] (by kernel_rfl) (fun a_45 f_90 => ?_)
                    have f_91 := Frm.set f_90 63 (v := .int .i64 (IntKind.wrap .i64 ((n * 10) + ((((l.getD k 0).toNat : Int) - 48) % 256)))) (v' := .int .i64 ((n * 10) + ((((l.getD k 0).toNat : Int) - 48) % 256))) (by kernel_rfl) (congrArg (Value.int .i64) (IntWalk.i64_in _ (by omega)))
                    have f_92 : Frm 110 [(0, S s), (1, .int .i64 at_), (7, .int .i64 (at_ + (k : Int))), (8, .bool (neg l)), (9, .int .i64 (at_ + (fst l : Int))), (11, .bool gr), (57, .int .i64 (n * 10)), (58, S s), (59, .int .i64 (at_ + (k : Int))), (60, .int .u8 ((l.getD k 0).toNat : Int)), (61, .int .u8 ((((l.getD k 0).toNat : Int) - 48) % 256)), (62, .int .i64 ((((l.getD k 0).toNat : Int) - 48) % 256)), (63, .int .i64 ((n * 10) + ((((l.getD k 0).toNat : Int) - 48) % 256)))] a_45 := f_91.keep (ks := [0, 1, 7, 8, 9, 11, 57, 58, 59, 60, 61, 62, 63]) (by kernel_rfl)
                    refine W_run (L' := [(0, S s), (1, .int .i64 at_), (7, .int .i64 (at_ + (k : Int))), (8, .bool (neg l)), (9, .int .i64 (at_ + (fst l : Int))), (10, .int .i64 ((n * 10) + ((((l.getD k 0).toNat : Int) - 48) % 256))), (11, .bool gr)]) (w' := w_7) f_92 1 [0, 1, 7, 8, 9, 10, 11] (by kernel_rfl) (fun a_46 f_93 => ?_)
                    refine W_end rfl ?_
                    refine T_n ?_
                    refine R_seq ?_
                    refine R_seq ?_
                    refine R_reg ?_
                    refine W_run (L' := [(0, S s), (1, .int .i64 at_), (7, .int .i64 (at_ + (k : Int))), (8, .bool (neg l)), (9, .int .i64 (at_ + (fst l : Int))), (10, .int .i64 ((n * 10) + ((((l.getD k 0).toNat : Int) - 48) % 256))), (11, .bool gr), (65, .bool (decide ((9007199254740992 : Int) < ((n * 10) + ((((l.getD k 0).toNat : Int) - 48) % 256)))))]) (w' := w_7) f_93 2 [0, 1, 7, 8, 9, 10, 11, 65] (by kernel_rfl) (fun a_47 f_94 => ?_)
                    refine W_end rfl ?_
                    refine T_n ?_
                    refine R_cond f_94 (b := decide ((9007199254740992 : Int) < ((n * 10) + ((((l.getD k 0).toNat : Int) - 48) % 256)))) (by kernel_rfl) (by kernel_rfl) (fun h_9 => ?_) (fun h_9 => ?_)
                    · have k_16 : (9007199254740992 : Int) < ((n * 10) + ((((l.getD k 0).toNat : Int) - 48) % 256)) := decide_eq_true_iff.1 h_9
                      refine R_seq ?_
                      refine R_reg ?_
                      refine W_run (L' := [(0, S s), (1, .int .i64 at_), (7, .int .i64 (at_ + (k : Int))), (8, .bool (neg l)), (9, .int .i64 (at_ + (fst l : Int))), (11, .bool true)]) (w' := w_7) f_94 1 [0, 1, 7, 8, 9, 11] (by kernel_rfl) (fun a_48 f_95 => ?_)
                      refine W_end rfl ?_
                      refine T_n ?_
                      refine R_reg ?_
                      refine W_run (L' := [(0, S s), (1, .int .i64 at_), (7, .int .i64 (at_ + (k : Int))), (8, .bool (neg l)), (9, .int .i64 (at_ + (fst l : Int))), (10, .int .i64 9007199254740992), (11, .bool true)]) (w' := w_7) f_95 1 [0, 1, 7, 8, 9, 10, 11] (by kernel_rfl) (fun a_49 f_96 => ?_)
                      refine W_end rfl ?_
                      refine T_n ?_
                      refine R_reg ?_
                      refine W_run (L' := [(0, S s), (1, .int .i64 at_), (8, .bool (neg l)), (9, .int .i64 (at_ + (fst l : Int))), (10, .int .i64 9007199254740992), (11, .bool true), (66, .int .i64 (at_ + (k : Int)))]) (w' := w_7) f_96 1 [0, 1, 8, 9, 10, 11, 66] (by kernel_rfl) (fun a_50 f_97 => ?_)
                      refine W_run (L' := [(0, S s), (1, .int .i64 at_), (8, .bool (neg l)), (9, .int .i64 (at_ + (fst l : Int))), (10, .int .i64 9007199254740992), (11, .bool true), (66, .int .i64 (at_ + (k : Int))), (67, .int .i64 (IntKind.wrap .i64 ((at_ + (k : Int)) + 1)))]) (w' := w_7) f_97 1 [0, 1, 8, 9, 10, 11, 66, 67] (by kernel_rfl) (fun a_51 f_98 => ?_)
                      have f_99 := Frm.set f_98 67 (v := .int .i64 (IntKind.wrap .i64 ((at_ + (k : Int)) + 1))) (v' := .int .i64 ((at_ + (k : Int)) + 1)) (by kernel_rfl) (congrArg (Value.int .i64) (IntWalk.i64_in _ (by omega)))
                      have f_100 : Frm 110 [(0, S s), (1, .int .i64 at_), (8, .bool (neg l)), (9, .int .i64 (at_ + (fst l : Int))), (10, .int .i64 9007199254740992), (11, .bool true), (66, .int .i64 (at_ + (k : Int))), (67, .int .i64 ((at_ + (k : Int)) + 1))] a_51 := f_99.keep (ks := [0, 1, 8, 9, 10, 11, 66, 67]) (by kernel_rfl)
                      refine W_run (L' := [(0, S s), (1, .int .i64 at_), (7, .int .i64 ((at_ + (k : Int)) + 1)), (8, .bool (neg l)), (9, .int .i64 (at_ + (fst l : Int))), (10, .int .i64 9007199254740992), (11, .bool true)]) (w' := w_7) f_100 1 [0, 1, 7, 8, 9, 10, 11] (by kernel_rfl) (fun a_52 f_101 => ?_)
                      refine W_end rfl ?_
                      refine B_n ?_
                      refine T_n ?_
                      have hkl := I_s.lt k_11.2
                      have hzz := notboth (l := l) (k := k) (fun hh => k_15 ⟨by omega, hh.2⟩)
                      have f_102 := Frm.set f_101 7 (v := .int .i64 ((at_ + (k : Int)) + 1)) (v' := .int .i64 (at_ + ((k + 1) : Int))) (by kernel_rfl) (by first | rfl | (congr 1; omega) | simp)
                      refine ⟨((k + 1, 9007199254740992, true, 10 * v + ((l.getD k 0).toNat - 48)) : Nat × Int × Bool × Nat), ?_, M_1, hM_1, ?_, f_102.keep (ks := [0, 1, 7, 8, 9, 10, 11]) (by kernel_rfl), p_7⟩
                      · show l.length + 1 - (k + 1) < l.length + 1 - k; omega
                      · exact ⟨I_s.step k_11.2 hkl hzz, K_s.over k_11.2 k_16⟩
                    · have k_17 : ¬ ((9007199254740992 : Int) < ((n * 10) + ((((l.getD k 0).toNat : Int) - 48) % 256))) := iff_f decide_eq_true_iff h_9
                      refine wp_skip ?_
                      refine T_n ?_
                      refine R_reg ?_
                      refine W_run (L' := [(0, S s), (1, .int .i64 at_), (8, .bool (neg l)), (9, .int .i64 (at_ + (fst l : Int))), (10, .int .i64 ((n * 10) + ((((l.getD k 0).toNat : Int) - 48) % 256))), (11, .bool gr), (66, .int .i64 (at_ + (k : Int)))]) (w' := w_7) f_94 1 [0, 1, 8, 9, 10, 11, 66] (by kernel_rfl) (fun a_53 f_103 => ?_)
                      refine W_run (L' := [(0, S s), (1, .int .i64 at_), (8, .bool (neg l)), (9, .int .i64 (at_ + (fst l : Int))), (10, .int .i64 ((n * 10) + ((((l.getD k 0).toNat : Int) - 48) % 256))), (11, .bool gr), (66, .int .i64 (at_ + (k : Int))), (67, .int .i64 (IntKind.wrap .i64 ((at_ + (k : Int)) + 1)))]) (w' := w_7) f_103 1 [0, 1, 8, 9, 10, 11, 66, 67] (by kernel_rfl) (fun a_54 f_104 => ?_)
                      have f_105 := Frm.set f_104 67 (v := .int .i64 (IntKind.wrap .i64 ((at_ + (k : Int)) + 1))) (v' := .int .i64 ((at_ + (k : Int)) + 1)) (by kernel_rfl) (congrArg (Value.int .i64) (IntWalk.i64_in _ (by omega)))
                      have f_106 : Frm 110 [(0, S s), (1, .int .i64 at_), (8, .bool (neg l)), (9, .int .i64 (at_ + (fst l : Int))), (10, .int .i64 ((n * 10) + ((((l.getD k 0).toNat : Int) - 48) % 256))), (11, .bool gr), (66, .int .i64 (at_ + (k : Int))), (67, .int .i64 ((at_ + (k : Int)) + 1))] a_54 := f_105.keep (ks := [0, 1, 8, 9, 10, 11, 66, 67]) (by kernel_rfl)
                      refine W_run (L' := [(0, S s), (1, .int .i64 at_), (7, .int .i64 ((at_ + (k : Int)) + 1)), (8, .bool (neg l)), (9, .int .i64 (at_ + (fst l : Int))), (10, .int .i64 ((n * 10) + ((((l.getD k 0).toNat : Int) - 48) % 256))), (11, .bool gr)]) (w' := w_7) f_106 1 [0, 1, 7, 8, 9, 10, 11] (by kernel_rfl) (fun a_55 f_107 => ?_)
                      refine W_end rfl ?_
                      refine B_n ?_
                      refine T_n ?_
                      have hkl := I_s.lt k_11.2
                      have hzz := notboth (l := l) (k := k) (fun hh => k_15 ⟨by omega, hh.2⟩)
                      have f_108 := Frm.set f_107 7 (v := .int .i64 ((at_ + (k : Int)) + 1)) (v' := .int .i64 (at_ + ((k + 1) : Int))) (by kernel_rfl) (by first | rfl | (congr 1; omega) | simp)
                      refine ⟨((k + 1, (n * 10) + ((((l.getD k 0).toNat : Int) - 48) % 256), gr, 10 * v + ((l.getD k 0).toNat - 48)) : Nat × Int × Bool × Nat), ?_, M_1, hM_1, ?_, f_108.keep (ks := [0, 1, 7, 8, 9, 10, 11]) (by kernel_rfl), p_7⟩
                      · show l.length + 1 - (k + 1) < l.length + 1 - k; omega
                      · exact ⟨I_s.step k_11.2 hkl hzz, K_s.under k_11.2 k_17⟩
              · have k_18 : ¬ (((at_ + (k : Int)) < (s.length : Int)) ∧ ((dig (l.getD k 0)) = true)) := iff_f (and_iff decide_eq_true_iff Iff.rfl) h_6
                refine wp_exit ?_
                refine T_x ?_
                refine T_x ?_
                refine B_x ?_
                refine T_n ?_
                refine R_seq ?_
                refine R_seq ?_
                refine R_mid (fun a_56 w_8 => Frm 110 [(1, .int .i64 at_), (7, .int .i64 (at_ + (k : Int))), (8, .bool (neg l)), (10, .int .i64 n), (11, .bool gr), (94, .bool ((decide ((at_ + (k : Int)) = (at_ + (fst l : Int)))) || ((decide ((at_ + (k : Int)) < (s.length : Int))) && ((decide (((l.getD k 0).toNat : Int) = 46)) || ((decide (((l.getD k 0).toNat : Int) = 101)) || (decide (((l.getD k 0).toNat : Int) = 69)))))))] a_56 ∧ Hp w0 M_1 (H) w_8) ?_ ?_
                · refine R_reg ?_
                  refine W_run (L' := [(0, S s), (1, .int .i64 at_), (7, .int .i64 (at_ + (k : Int))), (8, .bool (neg l)), (10, .int .i64 n), (11, .bool gr), (71, .bool (decide ((at_ + (k : Int)) = (at_ + (fst l : Int)))))]) (w' := w_5) f_42 4 [0, 1, 7, 8, 10, 11, 71] (by kernel_rfl) (fun a_57 f_110 => ?_)
                  rcases Bool.eq_false_or_eq_true (decide ((at_ + (k : Int)) = (at_ + (fst l : Int)))) with h_10 | h_10
                  · have k_19 : (at_ + (k : Int)) = (at_ + (fst l : Int)) := decide_eq_true_iff.1 h_10
                    have f_111 := Frm.set f_110 71 (v := .bool (decide ((at_ + (k : Int)) = (at_ + (fst l : Int))))) (v' := .bool true) (by kernel_rfl) (congrArg Value.bool h_10)
                    have f_112 : Frm 110 [(0, S s), (1, .int .i64 at_), (7, .int .i64 (at_ + (k : Int))), (8, .bool (neg l)), (10, .int .i64 n), (11, .bool gr), (71, .bool true)] a_57 := f_111.keep (ks := [0, 1, 7, 8, 10, 11, 71]) (by kernel_rfl)
                    refine W_run (L' := [(1, .int .i64 at_), (7, .int .i64 (at_ + (k : Int))), (8, .bool (neg l)), (10, .int .i64 n), (11, .bool gr), (94, .bool true)]) (w' := w_5) f_112 23 [1, 7, 8, 10, 11, 94] (by kernel_rfl) (fun a_58 f_113 => ?_)
                    refine W_end rfl ?_
                    refine T_n ?_
                    have f_114 := Frm.set f_113 94 (v := .bool true) (v' := .bool ((decide ((at_ + (k : Int)) = (at_ + (fst l : Int)))) || ((decide ((at_ + (k : Int)) < (s.length : Int))) && ((decide (((l.getD k 0).toNat : Int) = 46)) || ((decide (((l.getD k 0).toNat : Int) = 101)) || (decide (((l.getD k 0).toNat : Int) = 69))))))) (by kernel_rfl) (by simp only [h_10, Bool.and_true, Bool.true_and, Bool.false_and, Bool.and_false, Bool.or_true, Bool.true_or, Bool.or_false, Bool.false_or, Bool.not_true, Bool.not_false, cond_true, cond_false])
                    exact ⟨f_114.keep (ks := [1, 7, 8, 10, 11, 94]) (by kernel_rfl), p_5⟩
                  · have k_20 : ¬ ((at_ + (k : Int)) = (at_ + (fst l : Int))) := iff_f decide_eq_true_iff h_10
                    have f_115 := Frm.set f_110 71 (v := .bool (decide ((at_ + (k : Int)) = (at_ + (fst l : Int))))) (v' := .bool false) (by kernel_rfl) (congrArg Value.bool h_10)
                    have f_116 : Frm 110 [(0, S s), (1, .int .i64 at_), (7, .int .i64 (at_ + (k : Int))), (8, .bool (neg l)), (10, .int .i64 n), (11, .bool gr), (71, .bool false)] a_57 := f_115.keep (ks := [0, 1, 7, 8, 10, 11, 71]) (by kernel_rfl)
                    refine W_run (L' := [(0, S s), (1, .int .i64 at_), (7, .int .i64 (at_ + (k : Int))), (8, .bool (neg l)), (10, .int .i64 n), (11, .bool gr), (71, .bool false), (76, .bool (decide ((at_ + (k : Int)) < (s.length : Int))))]) (w' := w_5) f_116 5 [0, 1, 7, 8, 10, 11, 71, 76] (by kernel_rfl) (fun a_59 f_117 => ?_)
                    rcases Bool.eq_false_or_eq_true (decide ((at_ + (k : Int)) < (s.length : Int))) with h_11 | h_11
                    · have k_21 : (at_ + (k : Int)) < (s.length : Int) := decide_eq_true_iff.1 h_11
                      have f_118 := Frm.set f_117 76 (v := .bool (decide ((at_ + (k : Int)) < (s.length : Int)))) (v' := .bool true) (by kernel_rfl) (congrArg Value.bool h_11)
                      have f_119 : Frm 110 [(0, S s), (1, .int .i64 at_), (7, .int .i64 (at_ + (k : Int))), (8, .bool (neg l)), (10, .int .i64 n), (11, .bool gr), (71, .bool false), (76, .bool true)] a_59 := f_118.keep (ks := [0, 1, 7, 8, 10, 11, 71, 76]) (by kernel_rfl)
                      refine W_run (L' := [(0, S s), (1, .int .i64 at_), (7, .int .i64 (at_ + (k : Int))), (8, .bool (neg l)), (10, .int .i64 n), (11, .bool gr), (71, .bool false), (76, .bool true), (77, S s), (78, .int .i64 (at_ + (k : Int)))]) (w' := w_5) f_119 2 [0, 1, 7, 8, 10, 11, 71, 76, 77, 78] (by kernel_rfl) (fun a_60 f_120 => ?_)
                      refine W_eq f_120 (by kernel_rfl) (by kernel_rfl) rfl rfl (X_strIndex rfl (l := s) (k := .i64) (i := (at_ + (k : Int))) (by kernel_rfl) (by kernel_rfl) (by kernel_rfl) (by omega) (by omega)) (fun a_61 f_121 => ?_)
                      have f_122 := Frm.set f_121 79 (v := .int .u8 ((s.getD ((at_ + (k : Int))).toNat 0).toNat : Int)) (v' := .int .u8 ((l.getD k 0).toNat : Int)) (by kernel_rfl) (congrArg (fun c : UInt8 => Value.int .u8 ((c.toNat : Nat) : Int)) (hsg _ _ (by omega)))
                      have f_123 : Frm 110 [(0, S s), (1, .int .i64 at_), (7, .int .i64 (at_ + (k : Int))), (8, .bool (neg l)), (10, .int .i64 n), (11, .bool gr), (71, .bool false), (76, .bool true), (77, S s), (78, .int .i64 (at_ + (k : Int))), (79, .int .u8 ((l.getD k 0).toNat : Int))] a_61 := f_122.keep (ks := [0, 1, 7, 8, 10, 11, 71, 76, 77, 78, 79]) (by kernel_rfl)
                      have hb_5 := byte_lt (l.getD k 0)
                      refine W_run (L' := [(0, S s), (1, .int .i64 at_), (7, .int .i64 (at_ + (k : Int))), (8, .bool (neg l)), (10, .int .i64 n), (11, .bool gr), (71, .bool false), (76, .bool true), (81, .bool (decide (((l.getD k 0).toNat : Int) = 46)))]) (w' := w_5) f_123 2 [0, 1, 7, 8, 10, 11, 71, 76, 81] (by kernel_rfl) (fun a_62 f_124 => ?_)
                      rcases Bool.eq_false_or_eq_true (decide (((l.getD k 0).toNat : Int) = 46)) with h_12 | h_12
                      · have k_22 : ((l.getD k 0).toNat : Int) = 46 := decide_eq_true_iff.1 h_12
                        have f_125 := Frm.set f_124 81 (v := .bool (decide (((l.getD k 0).toNat : Int) = 46))) (v' := .bool true) (by kernel_rfl) (congrArg Value.bool h_12)
                        have f_126 : Frm 110 [(0, S s), (1, .int .i64 at_), (7, .int .i64 (at_ + (k : Int))), (8, .bool (neg l)), (10, .int .i64 n), (11, .bool gr), (71, .bool false), (76, .bool true), (81, .bool true)] a_62 := f_125.keep (ks := [0, 1, 7, 8, 10, 11, 71, 76, 81]) (by kernel_rfl)
                        refine W_run (L' := [(1, .int .i64 at_), (7, .int .i64 (at_ + (k : Int))), (8, .bool (neg l)), (10, .int .i64 n), (11, .bool gr), (94, .bool true)]) (w' := w_5) f_126 13 [1, 7, 8, 10, 11, 94] (by kernel_rfl) (fun a_63 f_127 => ?_)
                        refine W_end rfl ?_
                        refine T_n ?_
                        have f_128 := Frm.set f_127 94 (v := .bool true) (v' := .bool ((decide ((at_ + (k : Int)) = (at_ + (fst l : Int)))) || ((decide ((at_ + (k : Int)) < (s.length : Int))) && ((decide (((l.getD k 0).toNat : Int) = 46)) || ((decide (((l.getD k 0).toNat : Int) = 101)) || (decide (((l.getD k 0).toNat : Int) = 69))))))) (by kernel_rfl) (by simp only [h_10, h_11, h_12, Bool.and_true, Bool.true_and, Bool.false_and, Bool.and_false, Bool.or_true, Bool.true_or, Bool.or_false, Bool.false_or, Bool.not_true, Bool.not_false, cond_true, cond_false])
                        exact ⟨f_128.keep (ks := [1, 7, 8, 10, 11, 94]) (by kernel_rfl), p_5⟩
                      · have k_23 : ¬ (((l.getD k 0).toNat : Int) = 46) := iff_f decide_eq_true_iff h_12
                        have f_129 := Frm.set f_124 81 (v := .bool (decide (((l.getD k 0).toNat : Int) = 46))) (v' := .bool false) (by kernel_rfl) (congrArg Value.bool h_12)
                        have f_130 : Frm 110 [(0, S s), (1, .int .i64 at_), (7, .int .i64 (at_ + (k : Int))), (8, .bool (neg l)), (10, .int .i64 n), (11, .bool gr), (71, .bool false), (76, .bool true), (81, .bool false)] a_62 := f_129.keep (ks := [0, 1, 7, 8, 10, 11, 71, 76, 81]) (by kernel_rfl)
                        refine W_run (L' := [(0, S s), (1, .int .i64 at_), (7, .int .i64 (at_ + (k : Int))), (8, .bool (neg l)), (10, .int .i64 n), (11, .bool gr), (71, .bool false), (76, .bool true), (81, .bool false), (82, S s), (83, .int .i64 (at_ + (k : Int)))]) (w' := w_5) f_130 2 [0, 1, 7, 8, 10, 11, 71, 76, 81, 82, 83] (by kernel_rfl) (fun a_64 f_131 => ?_)
                        refine W_eq f_131 (by kernel_rfl) (by kernel_rfl) rfl rfl (X_strIndex rfl (l := s) (k := .i64) (i := (at_ + (k : Int))) (by kernel_rfl) (by kernel_rfl) (by kernel_rfl) (by omega) (by omega)) (fun a_65 f_132 => ?_)
                        have f_133 := Frm.set f_132 84 (v := .int .u8 ((s.getD ((at_ + (k : Int))).toNat 0).toNat : Int)) (v' := .int .u8 ((l.getD k 0).toNat : Int)) (by kernel_rfl) (congrArg (fun c : UInt8 => Value.int .u8 ((c.toNat : Nat) : Int)) (hsg _ _ (by omega)))
                        have f_134 : Frm 110 [(0, S s), (1, .int .i64 at_), (7, .int .i64 (at_ + (k : Int))), (8, .bool (neg l)), (10, .int .i64 n), (11, .bool gr), (71, .bool false), (76, .bool true), (81, .bool false), (82, S s), (83, .int .i64 (at_ + (k : Int))), (84, .int .u8 ((l.getD k 0).toNat : Int))] a_65 := f_133.keep (ks := [0, 1, 7, 8, 10, 11, 71, 76, 81, 82, 83, 84]) (by kernel_rfl)
                        have hb_6 := byte_lt (l.getD k 0)
                        refine W_run (L' := [(0, S s), (1, .int .i64 at_), (7, .int .i64 (at_ + (k : Int))), (8, .bool (neg l)), (10, .int .i64 n), (11, .bool gr), (71, .bool false), (76, .bool true), (87, .bool (decide (((l.getD k 0).toNat : Int) = 101)))]) (w' := w_5) f_134 3 [0, 1, 7, 8, 10, 11, 71, 76, 87] (by kernel_rfl) (fun a_66 f_135 => ?_)
                        rcases Bool.eq_false_or_eq_true (decide (((l.getD k 0).toNat : Int) = 101)) with h_13 | h_13
                        · have k_24 : ((l.getD k 0).toNat : Int) = 101 := decide_eq_true_iff.1 h_13
                          have f_136 := Frm.set f_135 87 (v := .bool (decide (((l.getD k 0).toNat : Int) = 101))) (v' := .bool true) (by kernel_rfl) (congrArg Value.bool h_13)
                          have f_137 : Frm 110 [(0, S s), (1, .int .i64 at_), (7, .int .i64 (at_ + (k : Int))), (8, .bool (neg l)), (10, .int .i64 n), (11, .bool gr), (71, .bool false), (76, .bool true), (87, .bool true)] a_66 := f_136.keep (ks := [0, 1, 7, 8, 10, 11, 71, 76, 87]) (by kernel_rfl)
                          refine W_run (L' := [(1, .int .i64 at_), (7, .int .i64 (at_ + (k : Int))), (8, .bool (neg l)), (10, .int .i64 n), (11, .bool gr), (94, .bool true)]) (w' := w_5) f_137 7 [1, 7, 8, 10, 11, 94] (by kernel_rfl) (fun a_67 f_138 => ?_)
                          refine W_end rfl ?_
                          refine T_n ?_
                          have f_139 := Frm.set f_138 94 (v := .bool true) (v' := .bool ((decide ((at_ + (k : Int)) = (at_ + (fst l : Int)))) || ((decide ((at_ + (k : Int)) < (s.length : Int))) && ((decide (((l.getD k 0).toNat : Int) = 46)) || ((decide (((l.getD k 0).toNat : Int) = 101)) || (decide (((l.getD k 0).toNat : Int) = 69))))))) (by kernel_rfl) (by simp only [h_10, h_11, h_12, h_13, Bool.and_true, Bool.true_and, Bool.false_and, Bool.and_false, Bool.or_true, Bool.true_or, Bool.or_false, Bool.false_or, Bool.not_true, Bool.not_false, cond_true, cond_false])
                          exact ⟨f_139.keep (ks := [1, 7, 8, 10, 11, 94]) (by kernel_rfl), p_5⟩
                        · have k_25 : ¬ (((l.getD k 0).toNat : Int) = 101) := iff_f decide_eq_true_iff h_13
                          have f_140 := Frm.set f_135 87 (v := .bool (decide (((l.getD k 0).toNat : Int) = 101))) (v' := .bool false) (by kernel_rfl) (congrArg Value.bool h_13)
                          have f_141 : Frm 110 [(0, S s), (1, .int .i64 at_), (7, .int .i64 (at_ + (k : Int))), (8, .bool (neg l)), (10, .int .i64 n), (11, .bool gr), (71, .bool false), (76, .bool true), (87, .bool false)] a_66 := f_140.keep (ks := [0, 1, 7, 8, 10, 11, 71, 76, 87]) (by kernel_rfl)
                          refine W_run (L' := [(1, .int .i64 at_), (7, .int .i64 (at_ + (k : Int))), (8, .bool (neg l)), (10, .int .i64 n), (11, .bool gr), (71, .bool false), (76, .bool true), (87, .bool false), (88, S s), (89, .int .i64 (at_ + (k : Int)))]) (w' := w_5) f_141 2 [1, 7, 8, 10, 11, 71, 76, 87, 88, 89] (by kernel_rfl) (fun a_68 f_142 => ?_)
                          refine W_eq f_142 (by kernel_rfl) (by kernel_rfl) rfl rfl (X_strIndex rfl (l := s) (k := .i64) (i := (at_ + (k : Int))) (by kernel_rfl) (by kernel_rfl) (by kernel_rfl) (by omega) (by omega)) (fun a_69 f_143 => ?_)
                          have f_144 := Frm.set f_143 90 (v := .int .u8 ((s.getD ((at_ + (k : Int))).toNat 0).toNat : Int)) (v' := .int .u8 ((l.getD k 0).toNat : Int)) (by kernel_rfl) (congrArg (fun c : UInt8 => Value.int .u8 ((c.toNat : Nat) : Int)) (hsg _ _ (by omega)))
                          have f_145 : Frm 110 [(1, .int .i64 at_), (7, .int .i64 (at_ + (k : Int))), (8, .bool (neg l)), (10, .int .i64 n), (11, .bool gr), (71, .bool false), (76, .bool true), (87, .bool false), (88, S s), (89, .int .i64 (at_ + (k : Int))), (90, .int .u8 ((l.getD k 0).toNat : Int))] a_69 := f_144.keep (ks := [1, 7, 8, 10, 11, 71, 76, 87, 88, 89, 90]) (by kernel_rfl)
                          have hb_7 := byte_lt (l.getD k 0)
                          refine W_run (L' := [(1, .int .i64 at_), (7, .int .i64 (at_ + (k : Int))), (8, .bool (neg l)), (10, .int .i64 n), (11, .bool gr), (94, .bool (decide (((l.getD k 0).toNat : Int) = 69)))]) (w' := w_5) f_145 4 [1, 7, 8, 10, 11, 94] (by kernel_rfl) (fun a_70 f_146 => ?_)
                          refine W_end rfl ?_
                          refine T_n ?_
                          have f_147 := Frm.set f_146 94 (v := .bool (decide (((l.getD k 0).toNat : Int) = 69))) (v' := .bool ((decide ((at_ + (k : Int)) = (at_ + (fst l : Int)))) || ((decide ((at_ + (k : Int)) < (s.length : Int))) && ((decide (((l.getD k 0).toNat : Int) = 46)) || ((decide (((l.getD k 0).toNat : Int) = 101)) || (decide (((l.getD k 0).toNat : Int) = 69))))))) (by kernel_rfl) (by simp only [h_10, h_11, h_12, h_13, Bool.and_true, Bool.true_and, Bool.false_and, Bool.and_false, Bool.or_true, Bool.true_or, Bool.or_false, Bool.false_or, Bool.not_true, Bool.not_false, cond_true, cond_false])
                          exact ⟨f_147.keep (ks := [1, 7, 8, 10, 11, 94]) (by kernel_rfl), p_5⟩
                    · have k_26 : ¬ ((at_ + (k : Int)) < (s.length : Int)) := iff_f decide_eq_true_iff h_11
                      have f_148 := Frm.set f_117 76 (v := .bool (decide ((at_ + (k : Int)) < (s.length : Int)))) (v' := .bool false) (by kernel_rfl) (congrArg Value.bool h_11)
                      have f_149 : Frm 110 [(0, S s), (1, .int .i64 at_), (7, .int .i64 (at_ + (k : Int))), (8, .bool (neg l)), (10, .int .i64 n), (11, .bool gr), (71, .bool false), (76, .bool false)] a_59 := f_148.keep (ks := [0, 1, 7, 8, 10, 11, 71, 76]) (by kernel_rfl)
                      refine W_run (L' := [(1, .int .i64 at_), (7, .int .i64 (at_ + (k : Int))), (8, .bool (neg l)), (10, .int .i64 n), (11, .bool gr), (94, .bool false)]) (w' := w_5) f_149 18 [1, 7, 8, 10, 11, 94] (by kernel_rfl) (fun a_71 f_150 => ?_)
                      refine W_end rfl ?_
                      refine T_n ?_
                      have f_151 := Frm.set f_150 94 (v := .bool false) (v' := .bool ((decide ((at_ + (k : Int)) = (at_ + (fst l : Int)))) || ((decide ((at_ + (k : Int)) < (s.length : Int))) && ((decide (((l.getD k 0).toNat : Int) = 46)) || ((decide (((l.getD k 0).toNat : Int) = 101)) || (decide (((l.getD k 0).toNat : Int) = 69))))))) (by kernel_rfl) (by simp only [h_10, h_11, Bool.and_true, Bool.true_and, Bool.false_and, Bool.and_false, Bool.or_true, Bool.true_or, Bool.or_false, Bool.false_or, Bool.not_true, Bool.not_false, cond_true, cond_false])
                      exact ⟨f_151.keep (ks := [1, 7, 8, 10, 11, 94]) (by kernel_rfl), p_5⟩
                · rintro a_56 w_8 ⟨f_109, p_8⟩
                  refine T_n ?_
                  refine R_cond f_109 (b := (decide ((at_ + (k : Int)) = (at_ + (fst l : Int)))) || ((decide ((at_ + (k : Int)) < (s.length : Int))) && ((decide (((l.getD k 0).toNat : Int) = 46)) || ((decide (((l.getD k 0).toNat : Int) = 101)) || (decide (((l.getD k 0).toNat : Int) = 69)))))) (by kernel_rfl) (by kernel_rfl) (fun h_14 => ?_) (fun h_14 => ?_)
                  · have k_27 : ((at_ + (k : Int)) = (at_ + (fst l : Int))) ∨ (((at_ + (k : Int)) < (s.length : Int)) ∧ ((((l.getD k 0).toNat : Int) = 46) ∨ ((((l.getD k 0).toNat : Int) = 101) ∨ (((l.getD k 0).toNat : Int) = 69)))) := (or_iff decide_eq_true_iff (and_iff decide_eq_true_iff (or_iff decide_eq_true_iff (or_iff decide_eq_true_iff decide_eq_true_iff)))).1 h_14
                    refine R_seq ?_
                    refine R_reg ?_
                    refine W_run (L' := [(4, .int .i64 0), (5, .int .i64 (at_ + (k : Int))), (6, .int .i64 20)]) (w' := w_8) f_109 4 [4, 5, 6] (by kernel_rfl) (fun a_72 f_152 => ?_)
                    refine W_end rfl ?_
                    refine T_n ?_
                    refine wp_ret ?_
                    refine T_r ?_
                    refine E_ret3 f_152 rfl (by kernel_rfl : Vc.look _ 4 = some (.int .i64 0)) (by kernel_rfl : Vc.look _ 5 = some (.int .i64 (at_ + (k : Int)))) (by kernel_rfl : Vc.look _ 6 = some (.int .i64 20)) ?_
                    refine ⟨_, rfl, M_1, hM_1, p_8, ?_⟩
                    have hdf := not_dig_out (l := l) (k := k) (sl := s.length) (at_ := at_) (by omega) k_18
                    have h12 : ((k : Int) = (fst l : Int) ∨ (at_ + (k : Int) < (s.length : Int) ∧ (((l.getD k 0).toNat : Int) = 46 ∨ (((l.getD k 0).toNat : Int) = 101 ∨ ((l.getD k 0).toNat : Int) = 69)))) := by omega
                    exact tup3 (hsc.trans (I_s.e1 hdf h12))
                  · have k_28 : ¬ (((at_ + (k : Int)) = (at_ + (fst l : Int))) ∨ (((at_ + (k : Int)) < (s.length : Int)) ∧ ((((l.getD k 0).toNat : Int) = 46) ∨ ((((l.getD k 0).toNat : Int) = 101) ∨ (((l.getD k 0).toNat : Int) = 69))))) := iff_f (or_iff decide_eq_true_iff (and_iff decide_eq_true_iff (or_iff decide_eq_true_iff (or_iff decide_eq_true_iff decide_eq_true_iff)))) h_14
                    refine wp_skip ?_
                    refine T_n ?_
                    refine R_seq ?_
                    refine R_seq ?_
                    refine R_mid (fun a_73 w_9 => Frm 110 [(1, .int .i64 at_), (7, .int .i64 (at_ + (k : Int))), (8, .bool (neg l)), (10, .int .i64 n), (103, .bool (gr || ((neg l) && (decide (n = 0)))))] a_73 ∧ Hp w0 M_1 (H) w_9) ?_ ?_
                    · refine R_reg ?_
                      refine W_run (L' := [(1, .int .i64 at_), (7, .int .i64 (at_ + (k : Int))), (8, .bool (neg l)), (10, .int .i64 n), (97, .bool gr)]) (w' := w_8) f_109 2 [1, 7, 8, 10, 97] (by kernel_rfl) (fun a_74 f_154 => ?_)
                      rcases Bool.eq_false_or_eq_true (gr) with h_15 | h_15
                      · have f_155 := Frm.set f_154 97 (v := .bool gr) (v' := .bool true) (by kernel_rfl) (congrArg Value.bool h_15)
                        have f_156 : Frm 110 [(1, .int .i64 at_), (7, .int .i64 (at_ + (k : Int))), (8, .bool (neg l)), (10, .int .i64 n), (97, .bool true)] a_74 := f_155.keep (ks := [1, 7, 8, 10, 97]) (by kernel_rfl)
                        refine W_run (L' := [(1, .int .i64 at_), (7, .int .i64 (at_ + (k : Int))), (8, .bool (neg l)), (10, .int .i64 n), (103, .bool true)]) (w' := w_8) f_156 6 [1, 7, 8, 10, 103] (by kernel_rfl) (fun a_75 f_157 => ?_)
                        refine W_end rfl ?_
                        refine T_n ?_
                        have f_158 := Frm.set f_157 103 (v := .bool true) (v' := .bool (gr || ((neg l) && (decide (n = 0))))) (by kernel_rfl) (by simp only [h_15, Bool.and_true, Bool.true_and, Bool.false_and, Bool.and_false, Bool.or_true, Bool.true_or, Bool.or_false, Bool.false_or, Bool.not_true, Bool.not_false, cond_true, cond_false])
                        exact ⟨f_158.keep (ks := [1, 7, 8, 10, 103]) (by kernel_rfl), p_8⟩
                      · have f_159 := Frm.set f_154 97 (v := .bool gr) (v' := .bool false) (by kernel_rfl) (congrArg Value.bool h_15)
                        have f_160 : Frm 110 [(1, .int .i64 at_), (7, .int .i64 (at_ + (k : Int))), (8, .bool (neg l)), (10, .int .i64 n), (97, .bool false)] a_74 := f_159.keep (ks := [1, 7, 8, 10, 97]) (by kernel_rfl)
                        refine W_run (L' := [(1, .int .i64 at_), (7, .int .i64 (at_ + (k : Int))), (8, .bool (neg l)), (10, .int .i64 n), (97, .bool false), (99, .bool (neg l))]) (w' := w_8) f_160 2 [1, 7, 8, 10, 97, 99] (by kernel_rfl) (fun a_76 f_161 => ?_)
                        rcases Bool.eq_false_or_eq_true (neg l) with h_16 | h_16
                        · have f_162 := Frm.set f_161 99 (v := .bool (neg l)) (v' := .bool true) (by kernel_rfl) (congrArg Value.bool h_16)
                          have f_163 : Frm 110 [(1, .int .i64 at_), (7, .int .i64 (at_ + (k : Int))), (8, .bool (neg l)), (10, .int .i64 n), (97, .bool false), (99, .bool true)] a_76 := f_162.keep (ks := [1, 7, 8, 10, 97, 99]) (by kernel_rfl)
                          refine W_run (L' := [(1, .int .i64 at_), (7, .int .i64 (at_ + (k : Int))), (8, .bool (neg l)), (10, .int .i64 n), (103, .bool (decide (n = 0)))]) (w' := w_8) f_163 4 [1, 7, 8, 10, 103] (by kernel_rfl) (fun a_77 f_164 => ?_)
                          refine W_end rfl ?_
                          refine T_n ?_
                          have f_165 := Frm.set f_164 103 (v := .bool (decide (n = 0))) (v' := .bool (gr || ((neg l) && (decide (n = 0))))) (by kernel_rfl) (by simp only [h_15, h_16, Bool.and_true, Bool.true_and, Bool.false_and, Bool.and_false, Bool.or_true, Bool.true_or, Bool.or_false, Bool.false_or, Bool.not_true, Bool.not_false, cond_true, cond_false])
                          exact ⟨f_165.keep (ks := [1, 7, 8, 10, 103]) (by kernel_rfl), p_8⟩
                        · have f_166 := Frm.set f_161 99 (v := .bool (neg l)) (v' := .bool false) (by kernel_rfl) (congrArg Value.bool h_16)
                          have f_167 : Frm 110 [(1, .int .i64 at_), (7, .int .i64 (at_ + (k : Int))), (8, .bool (neg l)), (10, .int .i64 n), (97, .bool false), (99, .bool false)] a_76 := f_166.keep (ks := [1, 7, 8, 10, 97, 99]) (by kernel_rfl)
                          refine W_run (L' := [(1, .int .i64 at_), (7, .int .i64 (at_ + (k : Int))), (8, .bool (neg l)), (10, .int .i64 n), (103, .bool false)]) (w' := w_8) f_167 4 [1, 7, 8, 10, 103] (by kernel_rfl) (fun a_78 f_168 => ?_)
                          refine W_end rfl ?_
                          refine T_n ?_
                          have f_169 := Frm.set f_168 103 (v := .bool false) (v' := .bool (gr || ((neg l) && (decide (n = 0))))) (by kernel_rfl) (by simp only [h_15, h_16, Bool.and_true, Bool.true_and, Bool.false_and, Bool.and_false, Bool.or_true, Bool.true_or, Bool.or_false, Bool.false_or, Bool.not_true, Bool.not_false, cond_true, cond_false])
                          exact ⟨f_169.keep (ks := [1, 7, 8, 10, 103]) (by kernel_rfl), p_8⟩
                    · rintro a_73 w_9 ⟨f_153, p_9⟩
                      refine T_n ?_
                      refine R_cond f_153 (b := gr || ((neg l) && (decide (n = 0)))) (by kernel_rfl) (by kernel_rfl) (fun h_17 => ?_) (fun h_17 => ?_)
                      · have k_33 : (gr = true) ∨ (((neg l) = true) ∧ (n = 0)) := (or_iff Iff.rfl (and_iff Iff.rfl decide_eq_true_iff)).1 h_17
                        refine R_seq ?_
                        refine R_reg ?_
                        refine W_run (L' := [(4, .int .i64 0), (5, .int .i64 at_), (6, .int .i64 20)]) (w' := w_9) f_153 4 [4, 5, 6] (by kernel_rfl) (fun a_79 f_170 => ?_)
                        refine W_end rfl ?_
                        refine T_n ?_
                        refine wp_ret ?_
                        refine T_r ?_
                        refine E_ret3 f_170 rfl (by kernel_rfl : Vc.look _ 4 = some (.int .i64 0)) (by kernel_rfl : Vc.look _ 5 = some (.int .i64 at_)) (by kernel_rfl : Vc.look _ 6 = some (.int .i64 20)) ?_
                        refine ⟨_, rfl, M_1, hM_1, p_9, ?_⟩
                        have hdf := not_dig_out (l := l) (k := k) (sl := s.length) (at_ := at_) (by omega) k_18
                        have h12 : ¬ ((k : Int) = (fst l : Int) ∨ (at_ + (k : Int) < (s.length : Int) ∧ (((l.getD k 0).toNat : Int) = 46 ∨ (((l.getD k 0).toNat : Int) = 101 ∨ ((l.getD k 0).toNat : Int) = 69)))) := by omega
                        have hno := ScanI.no (l := l) (k := k) (sl := s.length) (at_ := at_) (by omega) h12
                        exact tup3 (hsc.trans (I_s.e2 hdf hno (K_s.bad.1 k_33)))
                      · have k_34 : ¬ ((gr = true) ∨ (((neg l) = true) ∧ (n = 0))) := iff_f (or_iff Iff.rfl (and_iff Iff.rfl decide_eq_true_iff)) h_17
                        refine wp_skip ?_
                        refine T_n ?_
                        refine R_seq ?_
                        refine R_seq ?_
                        refine R_reg ?_
                        refine W_run (L' := [(7, .int .i64 (at_ + (k : Int))), (10, .int .i64 n), (105, .bool (neg l))]) (w' := w_9) f_153 1 [7, 10, 105] (by kernel_rfl) (fun a_80 f_171 => ?_)
                        refine W_end rfl ?_
                        refine T_n ?_
                        refine R_cond f_171 (b := neg l) (by kernel_rfl) (by kernel_rfl) (fun h_18 => ?_) (fun h_18 => ?_)
                        · refine R_reg ?_
                          refine W_run (L' := [(7, .int .i64 (at_ + (k : Int))), (106, .int .i64 n)]) (w' := w_9) f_171 1 [7, 106] (by kernel_rfl) (fun a_81 f_172 => ?_)
                          refine W_run (L' := [(7, .int .i64 (at_ + (k : Int))), (106, .int .i64 n), (107, .int .i64 (IntKind.wrap .i64 (0 - n)))]) (w' := w_9) f_172 1 [7, 106, 107] (by kernel_rfl) (fun a_82 f_173 => ?_)
                          have f_174 := Frm.set f_173 107 (v := .int .i64 (IntKind.wrap .i64 (0 - n))) (v' := .int .i64 (-n)) (by kernel_rfl) (congrArg (Value.int .i64) ((IntWalk.i64_in _ (by omega)).trans (Int.zero_sub _)))
                          have f_175 : Frm 110 [(7, .int .i64 (at_ + (k : Int))), (106, .int .i64 n), (107, .int .i64 (-n))] a_82 := f_174.keep (ks := [7, 106, 107]) (by kernel_rfl)
                          refine W_run (L' := [(7, .int .i64 (at_ + (k : Int))), (10, .int .i64 (-n))]) (w' := w_9) f_175 1 [7, 10] (by kernel_rfl) (fun a_83 f_176 => ?_)
                          refine W_end rfl ?_
                          refine T_n ?_
                          refine R_seq ?_
                          refine R_reg ?_
                          refine W_run (L' := [(4, .int .i64 (-n)), (5, .int .i64 (at_ + (k : Int))), (6, .int .i64 0)]) (w' := w_9) f_176 5 [4, 5, 6] (by kernel_rfl) (fun a_84 f_177 => ?_)
                          refine W_end rfl ?_
                          refine T_n ?_
                          refine wp_ret ?_
                          refine E_ret3 f_177 rfl (by kernel_rfl : Vc.look _ 4 = some (.int .i64 (-n))) (by kernel_rfl : Vc.look _ 5 = some (.int .i64 (at_ + (k : Int)))) (by kernel_rfl : Vc.look _ 6 = some (.int .i64 0)) ?_
                          refine ⟨_, rfl, M_1, hM_1, p_9, ?_⟩
                          have hdf := not_dig_out (l := l) (k := k) (sl := s.length) (at_ := at_) (by omega) k_18
                          have h12 : ¬ ((k : Int) = (fst l : Int) ∨ (at_ + (k : Int) < (s.length : Int) ∧ (((l.getD k 0).toNat : Int) = 46 ∨ (((l.getD k 0).toNat : Int) = 101 ∨ ((l.getD k 0).toNat : Int) = 69)))) := by omega
                          have hno := ScanI.no (l := l) (k := k) (sl := s.length) (at_ := at_) (by omega) h12
                          have hbb := fun x => k_34 (K_s.bad.2 x)
                          exact tup3 (hsc.trans ((I_s.e3 hdf hno hbb).trans (by rw [h_18, K_s.val hbb]; rfl)))
                        · refine wp_skip ?_
                          refine T_n ?_
                          refine R_seq ?_
                          refine R_reg ?_
                          refine W_run (L' := [(4, .int .i64 n), (5, .int .i64 (at_ + (k : Int))), (6, .int .i64 0)]) (w' := w_9) f_171 5 [4, 5, 6] (by kernel_rfl) (fun a_85 f_178 => ?_)
                          refine W_end rfl ?_
                          refine T_n ?_
                          refine wp_ret ?_
                          refine E_ret3 f_178 rfl (by kernel_rfl : Vc.look _ 4 = some (.int .i64 n)) (by kernel_rfl : Vc.look _ 5 = some (.int .i64 (at_ + (k : Int)))) (by kernel_rfl : Vc.look _ 6 = some (.int .i64 0)) ?_
                          refine ⟨_, rfl, M_1, hM_1, p_9, ?_⟩
                          have hdf := not_dig_out (l := l) (k := k) (sl := s.length) (at_ := at_) (by omega) k_18
                          have h12 : ¬ ((k : Int) = (fst l : Int) ∨ (at_ + (k : Int) < (s.length : Int) ∧ (((l.getD k 0).toNat : Int) = 46 ∨ (((l.getD k 0).toNat : Int) = 101 ∨ ((l.getD k 0).toNat : Int) = 69)))) := by omega
                          have hno := ScanI.no (l := l) (k := k) (sl := s.length) (at_ := at_) (by omega) h12
                          have hbb := fun x => k_34 (K_s.bad.2 x)
                          exact tup3 (hsc.trans ((I_s.e3 hdf hno hbb).trans (by rw [h_18, K_s.val hbb]; rfl)))

theorem readP_ok (M : Mem) (s : List UInt8) (hs : s.length ≤ 140737488351232) : Ok Try.prog M 10 [S s] (fun _ v => v = .tuple #[.int .i64 (read s).1, .int .i64 (read s).2]) := by
  intro w0 H w p0
  refine R_enter 22 Try.func10 rfl rfl (by simp) (fun a0 f0 => ?_)
  replace f0 : Frm 22 [(0, S s)] a0 := f0
  refine R_seq ?_
  refine R_reg ?_
  refine W_run (L' := [(0, S s)]) (w' := w) f0 2 [0] (by kernel_rfl) (fun a_1 f_1 => ?_)
  refine W_end rfl ?_
  refine T_n ?_
  refine R_seq ?_
  refine R_seq ?_
  refine R_reg ?_
  refine W_run (L' := [(0, S s), (8, S s)]) (w' := w) f_1 1 [0, 8] (by kernel_rfl) (fun a_2 f_2 => ?_)
  refine W_okv (v := .tuple #[.int .i64 (scan s 0).1, .int .i64 (scan s 0).2.1, .int .i64 (scan s 0).2.2]) f_2 p0 (by kernel_rfl) (by kernel_rfl) rfl rfl (fun _ => by kernel_rfl) (scanP_ok _ s 0 (by first | omega | decide | assumption | (simp only [List.length_append, List.length_cons, List.length_nil]; omega))) (fun w_1 p_1 a_3 f_3 => ?_)
  refine W_run (L' := [(0, S s), (4, .int .i64 (scan s 0).1), (5, .int .i64 (scan s 0).2.1), (6, .int .i64 (scan s 0).2.2)]) (w' := w_1) f_3 7 [0, 4, 5, 6] (by kernel_rfl) (fun a_4 f_4 => ?_)
  refine W_end rfl ?_
  refine T_n ?_
  refine R_seq ?_
  refine R_mid (fun a_5 w_2 => Frm 22 [(4, .int .i64 (scan s 0).1), (20, .bool ((decide ((scan s 0).2.2 = 0)) && (decide ((scan s 0).2.1 = (s.length : Int)))))] a_5 ∧ Hp w0 M (H) w_2) ?_ ?_
  · refine R_reg ?_
    refine W_run (L' := [(0, S s), (4, .int .i64 (scan s 0).1), (5, .int .i64 (scan s 0).2.1), (15, .bool (decide ((scan s 0).2.2 = 0)))]) (w' := w_1) f_4 3 [0, 4, 5, 15] (by kernel_rfl) (fun a_6 f_6 => ?_)
    rcases Bool.eq_false_or_eq_true (decide ((scan s 0).2.2 = 0)) with h_1 | h_1
    · have k_1 : (scan s 0).2.2 = 0 := decide_eq_true_iff.1 h_1
      have f_7 := Frm.set f_6 15 (v := .bool (decide ((scan s 0).2.2 = 0))) (v' := .bool true) (by kernel_rfl) (congrArg Value.bool h_1)
      have f_8 : Frm 22 [(0, S s), (4, .int .i64 (scan s 0).1), (5, .int .i64 (scan s 0).2.1), (15, .bool true)] a_6 := f_7.keep (ks := [0, 4, 5, 15]) (by kernel_rfl)
      refine W_run (L' := [(4, .int .i64 (scan s 0).1), (20, .bool (decide ((scan s 0).2.1 = (s.length : Int))))]) (w' := w_1) f_8 5 [4, 20] (by kernel_rfl) (fun a_7 f_9 => ?_)
      refine W_end rfl ?_
      refine T_n ?_
      have f_10 := Frm.set f_9 20 (v := .bool (decide ((scan s 0).2.1 = (s.length : Int)))) (v' := .bool ((decide ((scan s 0).2.2 = 0)) && (decide ((scan s 0).2.1 = (s.length : Int))))) (by kernel_rfl) (by simp only [h_1, Bool.and_true, Bool.true_and, Bool.false_and, Bool.and_false, Bool.or_true, Bool.true_or, Bool.or_false, Bool.false_or, Bool.not_true, Bool.not_false, cond_true, cond_false])
      exact ⟨f_10.keep (ks := [4, 20]) (by kernel_rfl), p_1⟩
    · have k_2 : ¬ ((scan s 0).2.2 = 0) := iff_f decide_eq_true_iff h_1
      have f_11 := Frm.set f_6 15 (v := .bool (decide ((scan s 0).2.2 = 0))) (v' := .bool false) (by kernel_rfl) (congrArg Value.bool h_1)
      have f_12 : Frm 22 [(0, S s), (4, .int .i64 (scan s 0).1), (5, .int .i64 (scan s 0).2.1), (15, .bool false)] a_6 := f_11.keep (ks := [0, 4, 5, 15]) (by kernel_rfl)
      refine W_run (L' := [(4, .int .i64 (scan s 0).1), (20, .bool false)]) (w' := w_1) f_12 5 [4, 20] (by kernel_rfl) (fun a_8 f_13 => ?_)
      refine W_end rfl ?_
      refine T_n ?_
      have f_14 := Frm.set f_13 20 (v := .bool false) (v' := .bool ((decide ((scan s 0).2.2 = 0)) && (decide ((scan s 0).2.1 = (s.length : Int))))) (by kernel_rfl) (by simp only [h_1, Bool.and_true, Bool.true_and, Bool.false_and, Bool.and_false, Bool.or_true, Bool.true_or, Bool.or_false, Bool.false_or, Bool.not_true, Bool.not_false, cond_true, cond_false])
      exact ⟨f_14.keep (ks := [4, 20]) (by kernel_rfl), p_1⟩
  · rintro a_5 w_2 ⟨f_5, p_2⟩
    refine T_n ?_
    refine R_cond f_5 (b := (decide ((scan s 0).2.2 = 0)) && (decide ((scan s 0).2.1 = (s.length : Int)))) (by kernel_rfl) (by kernel_rfl) (fun h_2 => ?_) (fun h_2 => ?_)
    · have k_3 : ((scan s 0).2.2 = 0) ∧ ((scan s 0).2.1 = (s.length : Int)) := (and_iff decide_eq_true_iff decide_eq_true_iff).1 h_2
      refine R_seq ?_
      refine R_reg ?_
      refine W_run (L' := [(2, .int .i64 (scan s 0).1), (3, .int .i64 0)]) (w' := w_2) f_5 3 [2, 3] (by kernel_rfl) (fun a_9 f_15 => ?_)
      refine W_end rfl ?_
      refine T_n ?_
      refine wp_ret ?_
      refine T_r ?_
      refine E_ret2 f_15 rfl (by kernel_rfl : Vc.look _ 2 = some (.int .i64 (scan s 0).1)) (by kernel_rfl : Vc.look _ 3 = some (.int .i64 0)) ?_
      refine ⟨_, rfl, M, (Mem.le_refl _), p_2, ?_⟩
      exact tup2 (if_pos (by omega))
    · have k_4 : ¬ (((scan s 0).2.2 = 0) ∧ ((scan s 0).2.1 = (s.length : Int))) := iff_f (and_iff decide_eq_true_iff decide_eq_true_iff) h_2
      refine wp_skip ?_
      refine T_n ?_
      refine R_seq ?_
      refine R_reg ?_
      refine W_run (L' := [(2, .int .i64 0), (3, .int .i64 20)]) (w' := w_2) f_5 2 [2, 3] (by kernel_rfl) (fun a_10 f_16 => ?_)
      refine W_end rfl ?_
      refine T_n ?_
      refine wp_ret ?_
      refine E_ret2 f_16 rfl (by kernel_rfl : Vc.look _ 2 = some (.int .i64 0)) (by kernel_rfl : Vc.look _ 3 = some (.int .i64 20)) ?_
      refine ⟨_, rfl, M, (Mem.le_refl _), p_2, ?_⟩
      exact tup2 (if_neg (by omega))

theorem readR_ok (M : Mem) (s : List UInt8) (hs : s.length ≤ 140737488351232) : Ok Try.prog M 11 [S s] (fun _ v => v = .tuple #[.int .i64 (read s).1, .int .i64 (read s).2]) := by
  intro w0 H w p0
  refine R_enter 22 Try.func11 rfl rfl (by simp) (fun a0 f0 => ?_)
  replace f0 : Frm 22 [(0, S s)] a0 := f0
  refine R_seq ?_
  refine R_reg ?_
  refine W_run (L' := [(0, S s)]) (w' := w) f0 2 [0] (by kernel_rfl) (fun a_1 f_1 => ?_)
  refine W_end rfl ?_
  refine T_n ?_
  refine R_seq ?_
  refine R_reg ?_
  refine W_run (L' := [(0, S s), (8, S s)]) (w' := w) f_1 1 [0, 8] (by kernel_rfl) (fun a_2 f_2 => ?_)
  refine W_okv (v := .tuple #[.int .i64 (scan s 0).1, .int .i64 (scan s 0).2.1, .int .i64 (scan s 0).2.2]) f_2 p0 (by kernel_rfl) (by kernel_rfl) rfl rfl (fun _ => by kernel_rfl) (scanR_ok _ s 0 (by first | omega | decide | assumption | (simp only [List.length_append, List.length_cons, List.length_nil]; omega))) (fun w_1 p_1 a_3 f_3 => ?_)
  refine W_run (L' := [(0, S s), (4, .int .i64 (scan s 0).1), (5, .int .i64 (scan s 0).2.1), (6, .int .i64 (scan s 0).2.2)]) (w' := w_1) f_3 7 [0, 4, 5, 6] (by kernel_rfl) (fun a_4 f_4 => ?_)
  refine W_end rfl ?_
  refine T_n ?_
  refine R_seq ?_
  refine R_seq ?_
  refine R_mid (fun a_5 w_2 => Frm 22 [(4, .int .i64 (scan s 0).1), (20, .bool ((!(decide ((scan s 0).2.2 = 0))) || (!(decide ((scan s 0).2.1 = (s.length : Int))))))] a_5 ∧ Hp w0 M (H) w_2) ?_ ?_
  · refine R_reg ?_
    refine W_run (L' := [(0, S s), (4, .int .i64 (scan s 0).1), (5, .int .i64 (scan s 0).2.1), (15, .bool (!(decide ((scan s 0).2.2 = 0))))]) (w' := w_1) f_4 3 [0, 4, 5, 15] (by kernel_rfl) (fun a_6 f_6 => ?_)
    rcases Bool.eq_false_or_eq_true (!(decide ((scan s 0).2.2 = 0))) with h_1 | h_1
    · have k_1 : ¬ ((scan s 0).2.2 = 0) := (not_iff decide_eq_true_iff).1 h_1
      have f_7 := Frm.set f_6 15 (v := .bool (!(decide ((scan s 0).2.2 = 0)))) (v' := .bool true) (by kernel_rfl) (congrArg Value.bool h_1)
      have f_8 : Frm 22 [(0, S s), (4, .int .i64 (scan s 0).1), (5, .int .i64 (scan s 0).2.1), (15, .bool true)] a_6 := f_7.keep (ks := [0, 4, 5, 15]) (by kernel_rfl)
      refine W_run (L' := [(4, .int .i64 (scan s 0).1), (20, .bool true)]) (w' := w_1) f_8 5 [4, 20] (by kernel_rfl) (fun a_7 f_9 => ?_)
      refine W_end rfl ?_
      refine T_n ?_
      have f_10 := Frm.set f_9 20 (v := .bool true) (v' := .bool ((!(decide ((scan s 0).2.2 = 0))) || (!(decide ((scan s 0).2.1 = (s.length : Int)))))) (by kernel_rfl) (by simp only [h_1, Bool.and_true, Bool.true_and, Bool.false_and, Bool.and_false, Bool.or_true, Bool.true_or, Bool.or_false, Bool.false_or, Bool.not_true, Bool.not_false, cond_true, cond_false])
      exact ⟨f_10.keep (ks := [4, 20]) (by kernel_rfl), p_1⟩
    · have k_2 : ¬ (¬ ((scan s 0).2.2 = 0)) := iff_f (not_iff decide_eq_true_iff) h_1
      have f_11 := Frm.set f_6 15 (v := .bool (!(decide ((scan s 0).2.2 = 0)))) (v' := .bool false) (by kernel_rfl) (congrArg Value.bool h_1)
      have f_12 : Frm 22 [(0, S s), (4, .int .i64 (scan s 0).1), (5, .int .i64 (scan s 0).2.1), (15, .bool false)] a_6 := f_11.keep (ks := [0, 4, 5, 15]) (by kernel_rfl)
      refine W_run (L' := [(4, .int .i64 (scan s 0).1), (20, .bool (!(decide ((scan s 0).2.1 = (s.length : Int)))))]) (w' := w_1) f_12 5 [4, 20] (by kernel_rfl) (fun a_8 f_13 => ?_)
      refine W_end rfl ?_
      refine T_n ?_
      have f_14 := Frm.set f_13 20 (v := .bool (!(decide ((scan s 0).2.1 = (s.length : Int))))) (v' := .bool ((!(decide ((scan s 0).2.2 = 0))) || (!(decide ((scan s 0).2.1 = (s.length : Int)))))) (by kernel_rfl) (by simp only [h_1, Bool.and_true, Bool.true_and, Bool.false_and, Bool.and_false, Bool.or_true, Bool.true_or, Bool.or_false, Bool.false_or, Bool.not_true, Bool.not_false, cond_true, cond_false])
      exact ⟨f_14.keep (ks := [4, 20]) (by kernel_rfl), p_1⟩
  · rintro a_5 w_2 ⟨f_5, p_2⟩
    refine T_n ?_
    refine R_cond f_5 (b := (!(decide ((scan s 0).2.2 = 0))) || (!(decide ((scan s 0).2.1 = (s.length : Int))))) (by kernel_rfl) (by kernel_rfl) (fun h_2 => ?_) (fun h_2 => ?_)
    · have k_3 : (¬ ((scan s 0).2.2 = 0)) ∨ (¬ ((scan s 0).2.1 = (s.length : Int))) := (or_iff (not_iff decide_eq_true_iff) (not_iff decide_eq_true_iff)).1 h_2
      refine R_seq ?_
      refine R_reg ?_
      refine W_run (L' := [(2, .int .i64 0), (3, .int .i64 20)]) (w' := w_2) f_5 2 [2, 3] (by kernel_rfl) (fun a_9 f_15 => ?_)
      refine W_end rfl ?_
      refine T_n ?_
      refine wp_ret ?_
      refine T_r ?_
      refine E_ret2 f_15 rfl (by kernel_rfl : Vc.look _ 2 = some (.int .i64 0)) (by kernel_rfl : Vc.look _ 3 = some (.int .i64 20)) ?_
      refine ⟨_, rfl, M, (Mem.le_refl _), p_2, ?_⟩
      exact tup2 (if_neg (by omega))
    · have k_4 : ¬ ((¬ ((scan s 0).2.2 = 0)) ∨ (¬ ((scan s 0).2.1 = (s.length : Int)))) := iff_f (or_iff (not_iff decide_eq_true_iff) (not_iff decide_eq_true_iff)) h_2
      refine wp_skip ?_
      refine T_n ?_
      refine R_seq ?_
      refine R_reg ?_
      refine W_run (L' := [(2, .int .i64 (scan s 0).1), (3, .int .i64 0)]) (w' := w_2) f_5 3 [2, 3] (by kernel_rfl) (fun a_10 f_16 => ?_)
      refine W_end rfl ?_
      refine T_n ?_
      refine wp_ret ?_
      refine E_ret2 f_16 rfl (by kernel_rfl : Vc.look _ 2 = some (.int .i64 (scan s 0).1)) (by kernel_rfl : Vc.look _ 3 = some (.int .i64 0)) ?_
      refine ⟨_, rfl, M, (Mem.le_refl _), p_2, ?_⟩
      exact tup2 (if_pos (by omega))

theorem wakes02_ok (M : Mem)  : Ok Try.prog M 7 [] (fun _ v => v = .bool true) := by
  intro w0 H w p0
  refine R_enter 61 Try.func7 rfl rfl (by simp) (fun a0 f0 => ?_)
  replace f0 : Frm 61 [] a0 := f0
  refine R_seq ?_
  refine R_reg ?_
  refine W_run (L' := []) (w' := w) f0 1 [] (by kernel_rfl) (fun a_1 f_1 => ?_)
  refine W_end rfl ?_
  refine T_n ?_
  refine R_seq ?_
  refine R_reg ?_
  refine W_okv (v := .tuple #[.int .i64 (-12), .int .i64 3, .int .i64 0]) f_1 p0 (by kernel_rfl) (by kernel_rfl) rfl rfl (fun _ => by kernel_rfl) ((scanP_ok _ [45, 49, 50, 44] 0 (by first | omega | decide | assumption | (simp only [List.length_append, List.length_cons, List.length_nil]; omega))).mono (fun _ _ _ h => h.trans (by kernel_rfl))) (fun w_1 p_1 a_2 f_2 => ?_)
  refine W_run (L' := [(1, .int .i64 (-12)), (2, .int .i64 3), (3, .int .i64 0)]) (w' := w_1) f_2 7 [1, 2, 3] (by kernel_rfl) (fun a_3 f_3 => ?_)
  refine W_end rfl ?_
  refine T_n ?_
  refine R_seq ?_
  refine R_reg ?_
  refine W_okv (v := .tuple #[.int .i64 0, .int .i64 1, .int .i64 20]) f_3 p_1 (by kernel_rfl) (by kernel_rfl) rfl rfl (fun _ => by kernel_rfl) ((scanP_ok _ [48, 49, 50] 0 (by first | omega | decide | assumption | (simp only [List.length_append, List.length_cons, List.length_nil]; omega))).mono (fun _ _ _ h => h.trans (by kernel_rfl))) (fun w_2 p_2 a_4 f_4 => ?_)
  refine W_run (L' := [(1, .int .i64 (-12)), (2, .int .i64 3), (3, .int .i64 0), (5, .int .i64 1), (6, .int .i64 20)]) (w' := w_2) f_4 7 [1, 2, 3, 5, 6] (by kernel_rfl) (fun a_5 f_5 => ?_)
  refine W_end rfl ?_
  refine T_n ?_
  refine R_seq ?_
  refine R_reg ?_
  refine W_okv (v := .tuple #[.int .i64 0, .int .i64 1, .int .i64 20]) f_5 p_2 (by kernel_rfl) (by kernel_rfl) rfl rfl (fun _ => by kernel_rfl) ((scanP_ok _ [53, 46, 48] 0 (by first | omega | decide | assumption | (simp only [List.length_append, List.length_cons, List.length_nil]; omega))).mono (fun _ _ _ h => h.trans (by kernel_rfl))) (fun w_3 p_3 a_6 f_6 => ?_)
  refine W_run (L' := [(1, .int .i64 (-12)), (2, .int .i64 3), (3, .int .i64 0), (5, .int .i64 1), (6, .int .i64 20), (8, .int .i64 1), (9, .int .i64 20)]) (w' := w_3) f_6 7 [1, 2, 3, 5, 6, 8, 9] (by kernel_rfl) (fun a_7 f_7 => ?_)
  refine W_end rfl ?_
  refine T_n ?_
  refine R_seq ?_
  refine R_reg ?_
  refine W_okv (v := .tuple #[.int .i64 0, .int .i64 20]) f_7 p_3 (by kernel_rfl) (by kernel_rfl) rfl rfl (fun _ => by kernel_rfl) ((readP_ok _ [45, 48] (by first | omega | decide | assumption | (simp only [List.length_append, List.length_cons, List.length_nil]; omega))).mono (fun _ _ _ h => h.trans (by kernel_rfl))) (fun w_4 p_4 a_8 f_8 => ?_)
  refine W_run (L' := [(1, .int .i64 (-12)), (2, .int .i64 3), (3, .int .i64 0), (5, .int .i64 1), (6, .int .i64 20), (8, .int .i64 1), (9, .int .i64 20), (11, .int .i64 20)]) (w' := w_4) f_8 5 [1, 2, 3, 5, 6, 8, 9, 11] (by kernel_rfl) (fun a_9 f_9 => ?_)
  refine W_end rfl ?_
  refine T_n ?_
  refine R_seq ?_
  refine R_reg ?_
  refine W_run (L' := [(0, .bool true)]) (w' := w_4) f_9 31 [0] (by kernel_rfl) (fun a_10 f_10 => ?_)
  refine W_end rfl ?_
  refine T_n ?_
  refine wp_ret ?_
  refine E_ret1 f_10 rfl (by kernel_rfl : Vc.look _ 0 = some (.bool true)) ?_
  refine ⟨_, rfl, M, (Mem.le_refl _), p_4, ?_⟩
  rfl
end Go.Proofs.Ytpofillhffbalaa
