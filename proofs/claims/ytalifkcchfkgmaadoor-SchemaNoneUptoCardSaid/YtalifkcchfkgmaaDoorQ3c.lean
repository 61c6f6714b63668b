/-
  Printed by a program: of each function its shallow reading, and the proof that the function gives what the reading gives. No condition.
-/
import Derived.Test.YtalifkcchfkgmaaDoorQ1
set_option linter.unusedVariables false
set_option linter.unusedSimpArgs false
namespace Go.Proofs.YtalifkcchfkgmaaDoor
open Go Go.Vc Go.RowKit
def cmp_isNaN (n : Nat) (d0 : Int) : Option Bool :=
  some ((false))
theorem cmp_isNaN_ok (n : Nat) (M : Mem) (d0 : Int) (r : Bool) (hF : cmp_isNaN n d0 = some r) : Ok Tryd.prog M 116 [.int .i8 d0] (fun _ v => v = .bool r) := by
  unfold cmp_isNaN at hF
  intro M1 hM0 w0 H w p0
  refine R_enter 6 Tryd.func116 rfl rfl (by simp) (fun a0 f0 => ?_)
  refine R_seq (R_reg ?_)
  refine V_run f0 1 (by kernel_rfl) (fun a_1 f_1 => ?_)
  refine W_end rfl (T_n (R_seq (R_reg ?_)))
  refine V_run f_1 2 (by kernel_rfl) (fun a_2 f_2 => ?_)
  refine V_run f_2 1 (by kernel_rfl) (fun a_3 f_3 => ?_)
  have f_4 := Frm.set f_3 5 (v := .bool (!(decide (d0 = d0)))) (v' := .bool false) (by kernel_rfl) (congrArg Value.bool (congrArg (!·) (decide_eq_true rfl)))
  refine V_run f_4 1 (by kernel_rfl) (fun a_4 f_5 => ?_)
  refine W_end rfl (T_n (wp_ret ?_))
  refine E_ret1 f_5 rfl (by kernel_rfl : Vc.look _ 2 = some (.bool false)) ?_
  obtain rfl := Option.some.inj hF
  exact ⟨_, rfl, M1, (Mem.le_refl _), p0, rfl⟩

def cmp_Compare (n : Nat) (d0 : Int) (d1 : Int) : Option Int :=
  (cmp_isNaN n d0).bind fun x_1 =>
  (cmp_isNaN n d1).bind fun x_2 =>
  bif x_1 then
    (bif x_2 then
      (some ((0 : Int)))
    else
      some ((-1 : Int)))
  else
    bif x_2 then
      (some ((1 : Int)))
    else
      bif (decide (d0 < d1)) then
        (some ((-1 : Int)))
      else
        bif (decide (d1 < d0)) then
          (some ((1 : Int)))
        else
          some ((0 : Int))
set_option maxHeartbeats 2000000 in
theorem cmp_Compare_ok (n : Nat) (M : Mem) (d0 : Int) (d1 : Int) (r : Int) (hF : cmp_Compare n d0 d1 = some r) : Ok Tryd.prog M 104 [.int .i8 d0, .int .i8 d1] (fun _ v => v = .int .i64 r) := by
  unfold cmp_Compare at hF
  intro M1 hM0 w0 H w p0
  refine R_enter 20 Tryd.func104 rfl rfl (by simp) (fun a0 f0 => ?_)
  refine R_seq (R_reg ?_)
  refine V_run f0 1 (by kernel_rfl) (fun a_1 f_1 => ?_)
  refine W_end rfl (T_n (R_seq (R_reg ?_)))
  refine V_run f_1 1 (by kernel_rfl) (fun a_2 f_2 => ?_)
  obtain ⟨x_1, hx_1, hF_1⟩ := bind_some' hF
  refine V_okv f_2 p0 (cmp_isNaN_ok n _ d0 x_1 hx_1) (by kernel_rfl) (fun _ => by kernel_rfl) (fun w_1 p_1 a_3 f_3 => ?_)
  refine V_run f_3 1 (by kernel_rfl) (fun a_4 f_4 => ?_)
  refine W_end rfl (T_n (R_seq (R_reg ?_)))
  refine V_run f_4 1 (by kernel_rfl) (fun a_5 f_5 => ?_)
  obtain ⟨x_2, hx_2, hF_2⟩ := bind_some' hF_1
  refine V_okv f_5 p_1 (cmp_isNaN_ok n _ d1 x_2 hx_2) (by kernel_rfl) (fun _ => by kernel_rfl) (fun w_2 p_2 a_6 f_6 => ?_)
  refine V_run f_6 1 (by kernel_rfl) (fun a_7 f_7 => ?_)
  refine W_end rfl (T_n (R_seq (R_seq (R_reg ?_))))
  refine V_run f_7 1 (by kernel_rfl) (fun a_8 f_8 => ?_)
  refine W_end rfl (T_n ?_)
  refine R_cond f_8 (b := x_1) (by kernel_rfl) (by kernel_rfl) (fun h_1 => ?_) (fun h_1 => ?_)
  · have hF_3 := cnd_t h_1 hF_2
    refine R_seq (R_seq (R_reg ?_))
    refine V_run f_8 1 (by kernel_rfl) (fun a_9 f_9 => ?_)
    refine W_end rfl (T_n ?_)
    refine R_cond f_9 (b := x_2) (by kernel_rfl) (by kernel_rfl) (fun h_2 => ?_) (fun h_2 => ?_)
    · have hF_4 := cnd_t h_2 hF_3
      refine R_seq (R_reg ?_)
      refine V_run f_9 1 (by kernel_rfl) (fun a_10 f_10 => ?_)
      refine W_end rfl (T_n (wp_ret (T_r (T_r ?_))))
      refine E_ret1 f_10 rfl (by kernel_rfl : Vc.look _ 4 = some (.int .i64 0)) ?_
      obtain rfl := Option.some.inj hF_4
      exact ⟨_, rfl, M1, (Mem.le_refl _), p_2, rfl⟩
    · have hF_5 := cnd_f h_2 hF_3
      refine wp_skip (T_n (R_seq (R_reg ?_)))
      refine V_run f_9 1 (by kernel_rfl) (fun a_11 f_11 => ?_)
      refine W_end rfl (T_n (wp_ret (T_r ?_)))
      refine E_ret1 f_11 rfl (by kernel_rfl : Vc.look _ 4 = some (.int .i64 (-1))) ?_
      obtain rfl := Option.some.inj hF_5
      exact ⟨_, rfl, M1, (Mem.le_refl _), p_2, rfl⟩
  · have hF_6 := cnd_f h_1 hF_2
    refine wp_skip (T_n (R_seq (R_seq (R_reg ?_))))
    refine V_run f_8 1 (by kernel_rfl) (fun a_12 f_12 => ?_)
    refine W_end rfl (T_n ?_)
    refine R_cond f_12 (b := x_2) (by kernel_rfl) (by kernel_rfl) (fun h_3 => ?_) (fun h_3 => ?_)
    · have hF_7 := cnd_t h_3 hF_6
      refine R_seq (R_reg ?_)
      refine V_run f_12 1 (by kernel_rfl) (fun a_13 f_13 => ?_)
      refine W_end rfl (T_n (wp_ret (T_r ?_)))
      refine E_ret1 f_13 rfl (by kernel_rfl : Vc.look _ 4 = some (.int .i64 1)) ?_
      obtain rfl := Option.some.inj hF_7
      exact ⟨_, rfl, M1, (Mem.le_refl _), p_2, rfl⟩
    · have hF_8 := cnd_f h_3 hF_6
      refine wp_skip (T_n (R_seq (R_seq (R_reg ?_))))
      refine V_run f_12 3 (by kernel_rfl) (fun a_14 f_14 => ?_)
      refine W_end rfl (T_n ?_)
      refine R_cond f_14 (b := decide (d0 < d1)) (by kernel_rfl) (by kernel_rfl) (fun h_4 => ?_) (fun h_4 => ?_)
      · have k_7 : d0 < d1 := decide_eq_true_iff.1 h_4
        have hF_9 := cnd_t h_4 hF_8
        refine R_seq (R_reg ?_)
        refine V_run f_14 1 (by kernel_rfl) (fun a_15 f_15 => ?_)
        refine W_end rfl (T_n (wp_ret (T_r ?_)))
        refine E_ret1 f_15 rfl (by kernel_rfl : Vc.look _ 4 = some (.int .i64 (-1))) ?_
        obtain rfl := Option.some.inj hF_9
        exact ⟨_, rfl, M1, (Mem.le_refl _), p_2, rfl⟩
      · have k_8 : ¬ (d0 < d1) := iff_f decide_eq_true_iff h_4
        have hF_10 := cnd_f h_4 hF_8
        refine wp_skip (T_n (R_seq (R_seq (R_reg ?_))))
        refine V_run f_14 3 (by kernel_rfl) (fun a_16 f_16 => ?_)
        refine W_end rfl (T_n ?_)
        refine R_cond f_16 (b := decide (d1 < d0)) (by kernel_rfl) (by kernel_rfl) (fun h_5 => ?_) (fun h_5 => ?_)
        · have k_9 : d1 < d0 := decide_eq_true_iff.1 h_5
          have hF_11 := cnd_t h_5 hF_10
          refine R_seq (R_reg ?_)
          refine V_run f_16 1 (by kernel_rfl) (fun a_17 f_17 => ?_)
          refine W_end rfl (T_n (wp_ret (T_r ?_)))
          refine E_ret1 f_17 rfl (by kernel_rfl : Vc.look _ 4 = some (.int .i64 1)) ?_
          obtain rfl := Option.some.inj hF_11
          exact ⟨_, rfl, M1, (Mem.le_refl _), p_2, rfl⟩
        · have k_10 : ¬ (d1 < d0) := iff_f decide_eq_true_iff h_5
          have hF_12 := cnd_f h_5 hF_10
          refine wp_skip (T_n (R_seq (R_reg ?_)))
          refine V_run f_16 1 (by kernel_rfl) (fun a_18 f_18 => ?_)
          refine W_end rfl (T_n (wp_ret ?_))
          refine E_ret1 f_18 rfl (by kernel_rfl : Vc.look _ 4 = some (.int .i64 0)) ?_
          obtain rfl := Option.some.inj hF_12
          exact ⟨_, rfl, M1, (Mem.le_refl _), p_2, rfl⟩
end Go.Proofs.YtalifkcchfkgmaaDoor
