/-
  Printed by a program: of each function its shallow reading, and the proof that the function gives what the reading gives. No condition.
-/
import Derived.Test.YtalifkcchfkgmaaDoorQ4b
set_option linter.unusedVariables false
set_option linter.unusedSimpArgs false
namespace Go.Proofs.YtalifkcchfkgmaaDoor
open Go Go.Vc Go.RowKit
def print_Word (n : Nat) (d0 : List UInt8) : Option Bool :=
  bif (decide ((d0.length : Int) ≤ 64)) then
    ((runes_Valid n d0).bind fun x_1 =>
    some ((x_1)))
  else
    some ((false))
theorem print_Word_ok (n : Nat) (M : Mem) (hG : GL M) (d0 : List UInt8) (r : Bool) (hF : print_Word n d0 = some r) : Ok Tryd.prog M 69 [S d0] (fun _ v => v = .bool r) := by
  unfold print_Word at hF
  intro M1 hM0 w0 H w p0
  replace hG := GL.mono hM0 hG
  refine R_enter 10 Tryd.func69 rfl rfl (by simp) (fun a0 f0 => ?_)
  refine R_seq (R_reg ?_)
  refine V_run f0 1 (by kernel_rfl) (fun a_1 f_1 => ?_)
  refine W_end rfl (T_n (R_seq (R_reg ?_)))
  refine V_run f_1 4 (by kernel_rfl) (fun a_2 f_2 => ?_)
  rcases Bool.eq_false_or_eq_true (decide ((d0.length : Int) ≤ 64)) with h_1 | h_1
  · have k_1 : (d0.length : Int) ≤ 64 := decide_eq_true_iff.1 h_1
    have hF_1 := cnd_t h_1 hF
    have f_3 := Frm.set f_2 6 (v := .bool (decide ((d0.length : Int) ≤ 64))) (v' := .bool true) (by kernel_rfl) (congrArg Value.bool h_1)
    refine V_run f_3 1 (by kernel_rfl) (fun a_3 f_4 => ?_)
    obtain ⟨x_1, hx_1, hF_2⟩ := bind_some' hF_1
    refine V_okv f_4 p0 (runes_Valid_ok n _ hG d0 x_1 hx_1) (by kernel_rfl) (fun _ => by kernel_rfl) (fun w_1 p_1 a_4 f_5 => ?_)
    refine V_run f_5 2 (by kernel_rfl) (fun a_5 f_6 => ?_)
    refine W_end rfl (T_n (wp_ret ?_))
    refine E_ret1 f_6 rfl (by kernel_rfl : Vc.look _ 2 = some (.bool x_1)) ?_
    obtain rfl := Option.some.inj hF_2
    exact ⟨_, rfl, M1, (Mem.le_refl _), p_1, rfl⟩
  · have k_2 : ¬ ((d0.length : Int) ≤ 64) := iff_f decide_eq_true_iff h_1
    have hF_3 := cnd_f h_1 hF
    have f_7 := Frm.set f_2 6 (v := .bool (decide ((d0.length : Int) ≤ 64))) (v' := .bool false) (by kernel_rfl) (congrArg Value.bool h_1)
    refine V_run f_7 4 (by kernel_rfl) (fun a_6 f_8 => ?_)
    refine W_end rfl (T_n (wp_ret ?_))
    refine E_ret1 f_8 rfl (by kernel_rfl : Vc.look _ 2 = some (.bool false)) ?_
    obtain rfl := Option.some.inj hF_3
    exact ⟨_, rfl, M1, (Mem.le_refl _), p0, rfl⟩
end Go.Proofs.YtalifkcchfkgmaaDoor
