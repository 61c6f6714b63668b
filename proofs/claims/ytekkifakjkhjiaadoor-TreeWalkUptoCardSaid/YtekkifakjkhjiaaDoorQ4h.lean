/-
  Printed by a program: of each function its shallow reading, and the proof that the function gives what the reading gives. No condition.
-/
import Derived.Test.YtekkifakjkhjiaaDoorQ1
import Derived.Test.YtekkifakjkhjiaaDoorTy
import Derived.Test.YtekkifakjkhjiaaDoorQ3c
import Derived.Test.YtekkifakjkhjiaaDoorHd
set_option linter.unusedVariables false
set_option linter.unusedSimpArgs false
namespace Go.Proofs.YtekkifakjkhjiaaDoor
open Go Go.Vc Go.RowKit
def tree_bit (n : Nat) (d0 : Bool) : Option Int :=
  bif d0 then
    (some ((1 : Int)))
  else
    some ((0 : Int))
theorem tree_bit_ok (n : Nat) (M : Mem) (hG : GL M) (d0 : Bool) (r : Int) (hF : tree_bit n d0 = some r) : Ok Tryd.prog M 68 [.bool d0] (fun _ v => v = .int .i64 r) := by
  unfold tree_bit at hF
  intro M1 hM0 w0 H w p0
  replace hG := GL.mono hM0 hG
  refine R_enter 4 Tryd.func68 rfl rfl (by simp) (fun a0 f0 => ?_)
  replace f0 : Frm 4 [(0, .bool d0)] a0 := f0
  refine R_seq ?_
  refine R_reg ?_
  refine W_run (L' := [(0, .bool d0)]) (w' := w) f0 1 [0] (by kernel_rfl) (fun a_1 f_1 => ?_)
  refine W_end rfl ?_
  refine T_n ?_
  refine R_seq ?_
  refine R_seq ?_
  refine R_reg ?_
  refine W_run (L' := [(3, .bool d0)]) (w' := w) f_1 1 [3] (by kernel_rfl) (fun a_2 f_2 => ?_)
  refine W_end rfl ?_
  refine T_n ?_
  refine R_cond f_2 (b := d0) (by kernel_rfl) (by kernel_rfl) (fun h_1 => ?_) (fun h_1 => ?_)
  · have hF_1 := cnd_t h_1 hF
    refine R_seq ?_
    refine R_reg ?_
    refine W_run (L' := [(2, .int .i64 1)]) (w' := w) f_2 1 [2] (by kernel_rfl) (fun a_3 f_3 => ?_)
    refine W_end rfl ?_
    refine T_n ?_
    refine wp_ret ?_
    refine T_r ?_
    refine E_ret1 f_3 rfl (by kernel_rfl : Vc.look _ 2 = some (.int .i64 1)) ?_
    obtain rfl := Option.some.inj hF_1
    exact ⟨_, rfl, M1, (Mem.le_refl _), p0, rfl⟩
  · have hF_2 := cnd_f h_1 hF
    refine wp_skip ?_
    refine T_n ?_
    refine R_seq ?_
    refine R_reg ?_
    refine W_run (L' := [(2, .int .i64 0)]) (w' := w) f_2 1 [2] (by kernel_rfl) (fun a_4 f_4 => ?_)
    refine W_end rfl ?_
    refine T_n ?_
    refine wp_ret ?_
    refine E_ret1 f_4 rfl (by kernel_rfl : Vc.look _ 2 = some (.int .i64 0)) ?_
    obtain rfl := Option.some.inj hF_2
    exact ⟨_, rfl, M1, (Mem.le_refl _), p0, rfl⟩

def cmp_isNaN_2 (n : Nat) (d0 : Int) : Option Bool :=
  some ((false))
theorem cmp_isNaN_2_ok (n : Nat) (M : Mem) (hG : GL M) (d0 : Int) (r : Bool) (hF : cmp_isNaN_2 n d0 = some r) : Ok Tryd.prog M 82 [.int .i64 d0] (fun _ v => v = .bool r) := by
  unfold cmp_isNaN_2 at hF
  intro M1 hM0 w0 H w p0
  replace hG := GL.mono hM0 hG
  refine R_enter 6 Tryd.func82 rfl rfl (by simp) (fun a0 f0 => ?_)
  replace f0 : Frm 6 [(0, .int .i64 d0)] a0 := f0
  refine R_seq ?_
  refine R_reg ?_
  refine W_run (L' := [(0, .int .i64 d0)]) (w' := w) f0 1 [0] (by kernel_rfl) (fun a_1 f_1 => ?_)
  refine W_end rfl ?_
  refine T_n ?_
  refine R_seq ?_
  refine R_reg ?_
  refine W_run (L' := [(3, .int .i64 d0), (4, .int .i64 d0)]) (w' := w) f_1 2 [3, 4] (by kernel_rfl) (fun a_2 f_2 => ?_)
  refine W_run (L' := [(3, .int .i64 d0), (4, .int .i64 d0), (5, .bool (!(decide (d0 = d0))))]) (w' := w) f_2 1 [3, 4, 5] (by kernel_rfl) (fun a_3 f_3 => ?_)
  have f_4 := Frm.set f_3 5 (v := .bool (!(decide (d0 = d0)))) (v' := .bool false) (by kernel_rfl) (congrArg Value.bool (congrArg (!·) (decide_eq_true rfl)))
  have f_5 : Frm 6 [(3, .int .i64 d0), (4, .int .i64 d0), (5, .bool false)] a_3 := f_4.keep (ks := [3, 4, 5]) (by kernel_rfl)
  refine W_run (L' := [(2, .bool false)]) (w' := w) f_5 1 [2] (by kernel_rfl) (fun a_4 f_6 => ?_)
  refine W_end rfl ?_
  refine T_n ?_
  refine wp_ret ?_
  refine E_ret1 f_6 rfl (by kernel_rfl : Vc.look _ 2 = some (.bool false)) ?_
  obtain rfl := Option.some.inj hF
  exact ⟨_, rfl, M1, (Mem.le_refl _), p0, rfl⟩

def cmp_Compare_2 (n : Nat) (d0 : Int) (d1 : Int) : Option Int :=
  (cmp_isNaN_2 n d0).bind fun x_1 =>
  (cmp_isNaN_2 n d1).bind fun x_2 =>
  bif x_1 then
    (bif x_2 then
      (some ((0 : Int)))
    else
      some ((-1 : Int)))
  else
    bif x_2 then
      (some ((1 : Int)))
    else
      bif (decide (d0 < d1)) then
        (some ((-1 : Int)))
      else
        bif (decide (d1 < d0)) then
          (some ((1 : Int)))
        else
          some ((0 : Int))
theorem cmp_Compare_2_ok (n : Nat) (M : Mem) (hG : GL M) (d0 : Int) (d1 : Int) (r : Int) (hF : cmp_Compare_2 n d0 d1 = some r) : Ok Tryd.prog M 69 [.int .i64 d0, .int .i64 d1] (fun _ v => v = .int .i64 r) := by
  unfold cmp_Compare_2 at hF
  intro M1 hM0 w0 H w p0
  replace hG := GL.mono hM0 hG
  refine R_enter 20 Tryd.func69 rfl rfl (by simp) (fun a0 f0 => ?_)
  replace f0 : Frm 20 [(0, .int .i64 d0), (1, .int .i64 d1)] a0 := f0
  refine R_seq ?_
  refine R_reg ?_
  refine W_run (L' := [(0, .int .i64 d0), (1, .int .i64 d1)]) (w' := w) f0 1 [0, 1] (by kernel_rfl) (fun a_1 f_1 => ?_)
  refine W_end rfl ?_
  refine T_n ?_
  refine R_seq ?_
  refine R_reg ?_
  refine W_run (L' := [(0, .int .i64 d0), (1, .int .i64 d1), (7, .int .i64 d0)]) (w' := w) f_1 1 [0, 1, 7] (by kernel_rfl) (fun a_2 f_2 => ?_)
  obtain ⟨x_1, hx_1, hF_1⟩ := bind_some' hF
  refine W_okv (v := .bool x_1) f_2 p0 (by kernel_rfl) (by kernel_rfl) rfl rfl (fun _ => by kernel_rfl) (cmp_isNaN_2_ok n _ hG d0 x_1 hx_1) (fun w_1 p_1 a_3 f_3 => ?_)
  refine W_run (L' := [(0, .int .i64 d0), (1, .int .i64 d1), (5, .bool x_1)]) (w' := w_1) f_3 1 [0, 1, 5] (by kernel_rfl) (fun a_4 f_4 => ?_)
  refine W_end rfl ?_
  refine T_n ?_
  refine R_seq ?_
  refine R_reg ?_
  refine W_run (L' := [(0, .int .i64 d0), (1, .int .i64 d1), (5, .bool x_1), (9, .int .i64 d1)]) (w' := w_1) f_4 1 [0, 1, 5, 9] (by kernel_rfl) (fun a_5 f_5 => ?_)
  obtain ⟨x_2, hx_2, hF_2⟩ := bind_some' hF_1
  refine W_okv (v := .bool x_2) f_5 p_1 (by kernel_rfl) (by kernel_rfl) rfl rfl (fun _ => by kernel_rfl) (cmp_isNaN_2_ok n _ hG d1 x_2 hx_2) (fun w_2 p_2 a_6 f_6 => ?_)
  refine W_run (L' := [(0, .int .i64 d0), (1, .int .i64 d1), (5, .bool x_1), (6, .bool x_2)]) (w' := w_2) f_6 1 [0, 1, 5, 6] (by kernel_rfl) (fun a_7 f_7 => ?_)
  refine W_end rfl ?_
  refine T_n ?_
  refine R_seq ?_
  refine R_seq ?_
  refine R_reg ?_
  refine W_run (L' := [(0, .int .i64 d0), (1, .int .i64 d1), (6, .bool x_2), (11, .bool x_1)]) (w' := w_2) f_7 1 [0, 1, 6, 11] (by kernel_rfl) (fun a_8 f_8 => ?_)
  refine W_end rfl ?_
  refine T_n ?_
  refine R_cond f_8 (b := x_1) (by kernel_rfl) (by kernel_rfl) (fun h_1 => ?_) (fun h_1 => ?_)
  · have hF_3 := cnd_t h_1 hF_2
    refine R_seq ?_
    refine R_seq ?_
    refine R_reg ?_
    refine W_run (L' := [(12, .bool x_2)]) (w' := w_2) f_8 1 [12] (by kernel_rfl) (fun a_9 f_9 => ?_)
    refine W_end rfl ?_
    refine T_n ?_
    refine R_cond f_9 (b := x_2) (by kernel_rfl) (by kernel_rfl) (fun h_2 => ?_) (fun h_2 => ?_)
    · have hF_4 := cnd_t h_2 hF_3
      refine R_seq ?_
      refine R_reg ?_
      refine W_run (L' := [(4, .int .i64 0)]) (w' := w_2) f_9 1 [4] (by kernel_rfl) (fun a_10 f_10 => ?_)
      refine W_end rfl ?_
      refine T_n ?_
      refine wp_ret ?_
      refine T_r ?_
      refine T_r ?_
      refine E_ret1 f_10 rfl (by kernel_rfl : Vc.look _ 4 = some (.int .i64 0)) ?_
      obtain rfl := Option.some.inj hF_4
      exact ⟨_, rfl, M1, (Mem.le_refl _), p_2, rfl⟩
    · have hF_5 := cnd_f h_2 hF_3
      refine wp_skip ?_
      refine T_n ?_
      refine R_seq ?_
      refine R_reg ?_
      refine W_run (L' := [(4, .int .i64 (-1))]) (w' := w_2) f_9 1 [4] (by kernel_rfl) (fun a_11 f_11 => ?_)
      refine W_end rfl ?_
      refine T_n ?_
      refine wp_ret ?_
      refine T_r ?_
      refine E_ret1 f_11 rfl (by kernel_rfl : Vc.look _ 4 = some (.int .i64 (-1))) ?_
      obtain rfl := Option.some.inj hF_5
      exact ⟨_, rfl, M1, (Mem.le_refl _), p_2, rfl⟩
  · have hF_6 := cnd_f h_1 hF_2
    refine wp_skip ?_
    refine T_n ?_
    refine R_seq ?_
    refine R_seq ?_
    refine R_reg ?_
    refine W_run (L' := [(0, .int .i64 d0), (1, .int .i64 d1), (13, .bool x_2)]) (w' := w_2) f_8 1 [0, 1, 13] (by kernel_rfl) (fun a_12 f_12 => ?_)
    refine W_end rfl ?_
    refine T_n ?_
    refine R_cond f_12 (b := x_2) (by kernel_rfl) (by kernel_rfl) (fun h_3 => ?_) (fun h_3 => ?_)
    · have hF_7 := cnd_t h_3 hF_6
      refine R_seq ?_
      refine R_reg ?_
      refine W_run (L' := [(4, .int .i64 1)]) (w' := w_2) f_12 1 [4] (by kernel_rfl) (fun a_13 f_13 => ?_)
      refine W_end rfl ?_
      refine T_n ?_
      refine wp_ret ?_
      refine T_r ?_
      refine E_ret1 f_13 rfl (by kernel_rfl : Vc.look _ 4 = some (.int .i64 1)) ?_
      obtain rfl := Option.some.inj hF_7
      exact ⟨_, rfl, M1, (Mem.le_refl _), p_2, rfl⟩
    · have hF_8 := cnd_f h_3 hF_6
      refine wp_skip ?_
      refine T_n ?_
      refine R_seq ?_
      refine R_seq ?_
      refine R_reg ?_
      refine W_run (L' := [(0, .int .i64 d0), (1, .int .i64 d1), (16, .bool (decide (d0 < d1)))]) (w' := w_2) f_12 3 [0, 1, 16] (by kernel_rfl) (fun a_14 f_14 => ?_)
      refine W_end rfl ?_
      refine T_n ?_
      refine R_cond f_14 (b := decide (d0 < d1)) (by kernel_rfl) (by kernel_rfl) (fun h_4 => ?_) (fun h_4 => ?_)
      · have k_7 : d0 < d1 := decide_eq_true_iff.1 h_4
        have hF_9 := cnd_t h_4 hF_8
        refine R_seq ?_
        refine R_reg ?_
        refine W_run (L' := [(4, .int .i64 (-1))]) (w' := w_2) f_14 1 [4] (by kernel_rfl) (fun a_15 f_15 => ?_)
        refine W_end rfl ?_
        refine T_n ?_
        refine wp_ret ?_
        refine T_r ?_
        refine E_ret1 f_15 rfl (by kernel_rfl : Vc.look _ 4 = some (.int .i64 (-1))) ?_
        obtain rfl := Option.some.inj hF_9
        exact ⟨_, rfl, M1, (Mem.le_refl _), p_2, rfl⟩
      · have k_8 : ¬ (d0 < d1) := iff_f decide_eq_true_iff h_4
        have hF_10 := cnd_f h_4 hF_8
        refine wp_skip ?_
        refine T_n ?_
        refine R_seq ?_
        refine R_seq ?_
        refine R_reg ?_
        refine W_run (L' := [(19, .bool (decide (d1 < d0)))]) (w' := w_2) f_14 3 [19] (by kernel_rfl) (fun a_16 f_16 => ?_)
        refine W_end rfl ?_
        refine T_n ?_
        refine R_cond f_16 (b := decide (d1 < d0)) (by kernel_rfl) (by kernel_rfl) (fun h_5 => ?_) (fun h_5 => ?_)
        · have k_9 : d1 < d0 := decide_eq_true_iff.1 h_5
          have hF_11 := cnd_t h_5 hF_10
          refine R_seq ?_
          refine R_reg ?_
          refine W_run (L' := [(4, .int .i64 1)]) (w' := w_2) f_16 1 [4] (by kernel_rfl) (fun a_17 f_17 => ?_)
          refine W_end rfl ?_
          refine T_n ?_
          refine wp_ret ?_
          refine T_r ?_
          refine E_ret1 f_17 rfl (by kernel_rfl : Vc.look _ 4 = some (.int .i64 1)) ?_
          obtain rfl := Option.some.inj hF_11
          exact ⟨_, rfl, M1, (Mem.le_refl _), p_2, rfl⟩
        · have k_10 : ¬ (d1 < d0) := iff_f decide_eq_true_iff h_5
          have hF_12 := cnd_f h_5 hF_10
          refine wp_skip ?_
          refine T_n ?_
          refine R_seq ?_
          refine R_reg ?_
          refine W_run (L' := [(4, .int .i64 0)]) (w' := w_2) f_16 1 [4] (by kernel_rfl) (fun a_18 f_18 => ?_)
          refine W_end rfl ?_
          refine T_n ?_
          refine wp_ret ?_
          refine E_ret1 f_18 rfl (by kernel_rfl : Vc.look _ 4 = some (.int .i64 0)) ?_
          obtain rfl := Option.some.inj hF_12
          exact ⟨_, rfl, M1, (Mem.le_refl _), p_2, rfl⟩

def cmp_Or_s1 (n : Nat) (d0 : List Int) (s_1 : Int) : Option (Lp Int (Sum Int Unit)) :=
    bif (decide (s_1 < ((d0.length : Nat) : Int))) then
      ((getI d0 s_1).bind fun x_1 =>
      bif (!(decide (x_1 = 0))) then
        (some (.br (.inl x_1)))
      else
        need (inR .i64 (s_1 + 1)) <|
        some (.nx (s_1 + 1)))
    else
      some (.br (.inr ()))
def cmp_Or (n : Nat) (d0 : List Int) : Option Int :=
  (loopF (cmp_Or_s1 n d0) n (0 : Int)).bind fun b_1 =>
  (match b_1 with 
  | .inl y_1 => some (y_1) 
  | .inr y_2 => some ((0 : Int)))
theorem cmp_Or_ok (n : Nat) (M : Mem) (hG : GL M) (A0 : Option Addr) (cap0 : Nat) (d0 : List Int) (h0 : Sli M 1 (Dat.int .i64) A0 cap0 d0) (r : Int) (hF : cmp_Or n d0 = some r) : Ok Tryd.prog M 66 [.slice A0 d0.length cap0] (fun _ v => v = .int .i64 r) := by
  unfold cmp_Or at hF
  intro M1 hM0 w0 H w p0
  replace hG := GL.mono hM0 hG
  replace h0 := h0.mono hM0
  refine R_enter 18 Tryd.func66 rfl rfl (by simp) (fun a0 f0 => ?_)
  replace f0 : Frm 18 [(0, .slice A0 d0.length cap0)] a0 := f0
  refine R_seq ?_
  refine R_reg ?_
  refine W_run (L' := [(0, .slice A0 d0.length cap0)]) (w' := w) f0 1 [0] (by kernel_rfl) (fun a_1 f_1 => ?_)
  refine W_end rfl ?_
  refine T_n ?_
  refine R_seq ?_
  refine R_reg ?_
  refine W_run (L' := [(0, .slice A0 d0.length cap0), (3, .int .i64 0)]) (w' := w) f_1 1 [0, 3] (by kernel_rfl) (fun a_2 f_2 => ?_)
  refine W_end rfl ?_
  refine T_n ?_
  refine R_seq ?_
  refine R_seq ?_
  refine R_reg ?_
  refine W_run (L' := [(3, .int .i64 0), (6, .slice A0 d0.length cap0), (7, .int .i64 ((d0.length : Nat) : Int)), (8, .int .i64 0)]) (w' := w) f_2 3 [3, 6, 7, 8] (by kernel_rfl) (fun a_3 f_3 => ?_)
  refine W_end rfl ?_
  refine T_n ?_
  refine wp_block ?_
  obtain ⟨b_1, hL_1, hF_1⟩ := bind_some' hF
  refine wp_mono (Q := fun e a w => (e = .ret ∧ (∃ y_1 : Int, b_1 = .inl y_1 ∧ ∃ M_2 : Mem, M1.le M_2 ∧ Frm 18 [(2, .int .i64 y_1)] a ∧ Hp w0 M_2 (H) w)) ∨ (e = .exit 0 ∧ (∃ y_2 : Unit, b_1 = .inr y_2 ∧ ∃ M_3 : Mem, M1.le M_3 ∧ Frm 18 [(3, .int .i64 0)] a ∧ Hp w0 M_3 (H) w))) (R_loop (n := 18) (w0 := w0) (M := M1) (fun (x : Nat × Int) => match x with | (m_1, s_1) => [(3, .int .i64 0), (6, .slice A0 d0.length cap0), (7, .int .i64 ((d0.length : Nat) : Int)), (8, .int .i64 s_1)]) (fun (x : Nat × Int) => match x with | (m_1, s_1) => (H)) (fun (x : Nat × Int) (MM : Mem) => match x with | (m_1, s_1) => loopF (cmp_Or_s1 n d0) m_1 s_1 = some b_1) (fun (x : Nat × Int) => match x with | (m_1, s_1) => m_1) (n, (0 : Int)) (f_3.keep (ks := [3, 6, 7, 8]) (by kernel_rfl)) p0 hL_1 ?_) ?_
  · rintro ⟨m_1, s_1⟩ M_1 a_4 w_1 hM_1 I_1 f_4 p_1
    replace f_4 : Frm 18 [(3, .int .i64 0), (6, .slice A0 d0.length cap0), (7, .int .i64 ((d0.length : Nat) : Int)), (8, .int .i64 s_1)] a_4 := f_4
    replace p_1 : Hp w0 M_1 (H) w_1 := p_1
    have I_1L := I_1
    obtain ⟨m_2, r_1, rfl, hs_1, hn_1⟩ := loop_step I_1L
    unfold cmp_Or_s1 at hs_1
    refine R_seq ?_
    refine R_reg ?_
    refine W_run (L' := [(3, .int .i64 0), (6, .slice A0 d0.length cap0), (7, .int .i64 ((d0.length : Nat) : Int)), (8, .int .i64 s_1), (9, .bool (decide (s_1 < ((d0.length : Nat) : Int))))]) (w' := w_1) f_4 1 [3, 6, 7, 8, 9] (by kernel_rfl) (fun a_5 f_5 => ?_)
    refine W_end rfl ?_
    refine T_n ?_
    refine R_seq ?_
    refine R_cond f_5 (b := decide (s_1 < ((d0.length : Nat) : Int))) (by kernel_rfl) (by kernel_rfl) (fun h_1 => ?_) (fun h_1 => ?_)
    · have k_1 : s_1 < ((d0.length : Nat) : Int) := decide_eq_true_iff.1 h_1
      have hF_2 := cnd_t h_1 hs_1
      refine wp_skip ?_
      refine T_n ?_
      refine R_seq ?_
      refine wp_block ?_
      refine R_seq ?_
      refine R_reg ?_
      obtain ⟨x_1, hx_1, hF_3⟩ := bind_some' hF_2
      obtain ⟨ad_1, c_1, e_1, hl_1, hr_1, hc_1⟩ := Sli.at_ (h0.mono hM_1) hx_1
      clear hl_1
      obtain rfl : c_1 = [.int .i64 x_1] := hr_1
      refine W_eq (v := .pointer (some (ad_1.add (s_1.toNat * 1)))) f_5 (by kernel_rfl) (by kernel_rfl) rfl rfl (X_indexAddrA e_1 rfl (len := d0.length) (cap := cap0) (k := .i64) (i := s_1) (by kernel_rfl) (by kernel_rfl) (e := 3) (by kernel_rfl) (sz := 1) (by kernel_rfl) (getI_nn hx_1) (getI_lt hx_1)) (fun a_6 f_6 => ?_)
      refine W_eq (v := .int .i64 x_1) f_6 (by kernel_rfl) (by kernel_rfl) rfl rfl (X_load1 (v := .int .i64 x_1) rfl (ad := ad_1.add (s_1.toNat * 1)) (by kernel_rfl) (by kernel_rfl) (p_1.cell (hc_1 0 _ rfl))) (fun a_7 f_7 => ?_)
      refine W_run (L' := [(3, .int .i64 0), (5, .int .i64 x_1), (6, .slice A0 d0.length cap0), (7, .int .i64 ((d0.length : Nat) : Int)), (8, .int .i64 s_1)]) (w' := w_1) f_7 1 [3, 5, 6, 7, 8] (by kernel_rfl) (fun a_8 f_8 => ?_)
      refine W_end rfl ?_
      refine T_n ?_
      refine R_seq ?_
      refine R_reg ?_
      refine W_run (L' := [(3, .int .i64 0), (5, .int .i64 x_1), (6, .slice A0 d0.length cap0), (7, .int .i64 ((d0.length : Nat) : Int)), (8, .int .i64 s_1), (14, .bool (!(decide (x_1 = 0))))]) (w' := w_1) f_8 3 [3, 5, 6, 7, 8, 14] (by kernel_rfl) (fun a_9 f_9 => ?_)
      refine W_end rfl ?_
      refine T_n ?_
      refine R_cond f_9 (b := !(decide (x_1 = 0))) (by kernel_rfl) (by kernel_rfl) (fun h_2 => ?_) (fun h_2 => ?_)
      · have k_2 : ¬ (x_1 = 0) := (not_iff decide_eq_true_iff).1 h_2
        have hF_4 := cnd_t h_2 hF_3
        refine R_seq ?_
        refine R_reg ?_
        refine W_run (L' := [(2, .int .i64 x_1)]) (w' := w_1) f_9 2 [2] (by kernel_rfl) (fun a_10 f_10 => ?_)
        refine W_end rfl ?_
        refine T_n ?_
        refine wp_ret ?_
        refine B_r ?_
        refine T_r ?_
        refine T_r ?_
        obtain rfl := Option.some.inj hF_4
        exact .inl ⟨rfl, x_1, (Option.some.inj hn_1).symm, M_1, hM_1, f_10.keep (ks := [2]) (by kernel_rfl), p_1⟩
      · have k_3 : ¬ (¬ (x_1 = 0)) := iff_f (not_iff decide_eq_true_iff) h_2
        have hF_5 := cnd_f h_2 hF_3
        refine wp_skip ?_
        refine B_n ?_
        refine T_n ?_
        refine R_reg ?_
        obtain ⟨g_1, hF_6⟩ := need_some hF_5
        refine W_run (L' := [(3, .int .i64 0), (5, .int .i64 x_1), (6, .slice A0 d0.length cap0), (7, .int .i64 ((d0.length : Nat) : Int)), (8, .int .i64 s_1), (14, .bool (!(decide (x_1 = 0)))), (16, .int .i64 (IntKind.wrap .i64 (s_1 + 1)))]) (w' := w_1) f_9 1 [3, 5, 6, 7, 8, 14, 16] (by kernel_rfl) (fun a_11 f_11 => ?_)
        have f_12 := Frm.set f_11 16 (v := .int .i64 (IntKind.wrap .i64 (s_1 + 1))) (v' := .int .i64 (s_1 + 1)) (by kernel_rfl) (congrArg (Value.int .i64) (inR_wrap g_1))
        have f_13 : Frm 18 [(3, .int .i64 0), (5, .int .i64 x_1), (6, .slice A0 d0.length cap0), (7, .int .i64 ((d0.length : Nat) : Int)), (8, .int .i64 s_1), (14, .bool (!(decide (x_1 = 0)))), (16, .int .i64 (s_1 + 1))] a_11 := f_12.keep (ks := [3, 5, 6, 7, 8, 14, 16]) (by kernel_rfl)
        refine W_run (L' := [(3, .int .i64 0), (6, .slice A0 d0.length cap0), (7, .int .i64 ((d0.length : Nat) : Int)), (8, .int .i64 (s_1 + 1))]) (w' := w_1) f_13 1 [3, 6, 7, 8] (by kernel_rfl) (fun a_12 f_14 => ?_)
        refine W_end rfl ?_
        refine T_n ?_
        obtain rfl := Option.some.inj hF_6
        exact ⟨⟨m_2, s_1 + 1⟩, Nat.lt_succ_self _, M_1, hM_1, hn_1, f_14.keep (ks := [3, 6, 7, 8]) (by kernel_rfl), p_1⟩
    · have k_4 : ¬ (s_1 < ((d0.length : Nat) : Int)) := iff_f decide_eq_true_iff h_1
      have hF_7 := cnd_f h_1 hs_1
      refine wp_exit ?_
      refine T_x ?_
      refine T_x ?_
      obtain rfl := Option.some.inj hF_7
      exact .inr ⟨rfl, (), (Option.some.inj hn_1).symm, M_1, hM_1, f_5.keep (ks := [3]) (by kernel_rfl), p_1⟩
  · rintro _ a_15 w_4 (⟨rfl, y_1, rfl, M_2, hM_2, f_15, p_2⟩ | ⟨rfl, y_2, rfl, M_3, hM_3, f_16, p_3⟩)
    · refine B_r ?_
      refine T_r ?_
      refine E_ret1 f_15 rfl (by kernel_rfl : Vc.look _ 2 = some (.int .i64 y_1)) ?_
      obtain rfl := Option.some.inj hF_1
      exact ⟨_, rfl, M_2, hM_2, p_2, rfl⟩
    · refine B_x ?_
      refine T_n ?_
      refine R_seq ?_
      refine R_reg ?_
      refine W_run (L' := [(2, .int .i64 0)]) (w' := w_4) f_16 2 [2] (by kernel_rfl) (fun a_16 f_17 => ?_)
      refine W_end rfl ?_
      refine T_n ?_
      refine wp_ret ?_
      refine E_ret1 f_17 rfl (by kernel_rfl : Vc.look _ 2 = some (.int .i64 0)) ?_
      obtain rfl := Option.some.inj hF_1
      exact ⟨_, rfl, M_3, hM_3, p_3, rfl⟩

def tree_compare_s1 (n : Nat) (rec_tree_compare : T_api_Value → T_api_Value → Option Int) (d0 : T_api_Value) (d1 : T_api_Value) (s_1 : Int) : Option (Lp Int (Sum Int Unit)) :=
    bif (decide (s_1 < (min ((d0.fList.length : Nat) : Int) ((d1.fList.length : Nat) : Int)))) then
      (((bif (decide (d0.fKind = 5)) then
          ((getI d0.fKeys s_1).bind fun x_7 =>
          (getI d1.fKeys s_1).bind fun x_8 =>
          (h_Compare n x_7 x_8).bind fun x_9 =>
          bif (!(decide (x_9 = 0))) then
            (((some (.br (.inl x_9)) : Option (Lp Int (Sum Int Unit)))).map Lp.br)
          else
            some (.nx ()))
        else
          some (.nx ()) : Option (Lp Unit (Lp Int (Sum Int Unit))))).bind fun j => joinF j fun y_1 =>
      (getI d0.fList s_1).bind fun x_10 =>
      (getI d1.fList s_1).bind fun x_11 =>
      (rec_tree_compare x_10 x_11).bind fun x_12 =>
      bif (!(decide (x_12 = 0))) then
        (some (.br (.inl x_12)))
      else
        need (inR .i64 (s_1 + 1)) <|
        some (.nx (s_1 + 1)))
    else
      some (.br (.inr ()))
def tree_compare_b (n : Nat) (rec_tree_compare : T_api_Value → T_api_Value → Option Int) (d0 : T_api_Value) (d1 : T_api_Value) : Option Int :=
  (cmp_Compare n d0.fKind d1.fKind).bind fun x_1 =>
  (tree_bit n (d0.fBool)).bind fun x_2 =>
  (tree_bit n (d1.fBool)).bind fun x_3 =>
  need (inR .i64 (x_2 - x_3)) <|
  (cmp_Compare_2 n d0.fNum d1.fNum).bind fun x_4 =>
  (h_Compare n d0.fText d1.fText).bind fun x_5 =>
  (cmp_Or n [x_1, x_2 - x_3, x_4, x_5]).bind fun x_6 =>
  bif (!(decide (x_6 = 0))) then
    (some (x_6))
  else
    (loopF (tree_compare_s1 n rec_tree_compare d0 d1) n (0 : Int)).bind fun b_2 =>
    (match b_2 with 
    | .inl y_2 => some (y_2) 
    | .inr y_3 => (cmp_Compare_2 n ((d0.fList.length : Nat) : Int) ((d1.fList.length : Nat) : Int)).bind fun x_13 =>
      some (x_13))
theorem tree_compare_b_ok (n : Nat) (rec_tree_compare : T_api_Value → T_api_Value → Option Int) (hrec_tree_compare : ∀ (M : Mem) (hG : GL M) (ad0 : Addr) (c0 : List Value) (d0 : T_api_Value) (h0 : Rep M (emb_T_api_Value d0) c0) (q0 : ∀ j v, c0[j]? = some v → M.cell? (ad0.add j) = some v) (ad1 : Addr) (c1 : List Value) (d1 : T_api_Value) (h1 : Rep M (emb_T_api_Value d1) c1) (q1 : ∀ j v, c1[j]? = some v → M.cell? (ad1.add j) = some v) (r : Int) (hF : rec_tree_compare d0 d1 = some r), Ok Tryd.prog M 57 [.pointer (some ad0), .pointer (some ad1)] (fun _ v => v = .int .i64 r)) (M : Mem) (hG : GL M) (ad0 : Addr) (c0 : List Value) (d0 : T_api_Value) (h0 : Rep M (emb_T_api_Value d0) c0) (q0 : ∀ j v, c0[j]? = some v → M.cell? (ad0.add j) = some v) (ad1 : Addr) (c1 : List Value) (d1 : T_api_Value) (h1 : Rep M (emb_T_api_Value d1) c1) (q1 : ∀ j v, c1[j]? = some v → M.cell? (ad1.add j) = some v) (r : Int) (hF : tree_compare_b n rec_tree_compare d0 d1 = some r) : Ok Tryd.prog M 57 [.pointer (some ad0), .pointer (some ad1)] (fun _ v => v = .int .i64 r) := by
  unfold tree_compare_b at hF
  intro M1 hM0 w0 H w p0
  replace hG := GL.mono hM0 hG
  replace h0 := Rep.mono hM0 _ _ h0
  replace q0 := fun j v h => hM0.cell (q0 j v h)
  replace h1 := Rep.mono hM0 _ _ h1
  replace q1 := fun j v h => hM0.cell (q1 j v h)
  obtain ⟨A_1, cap_1, A_2, cap_2, rfl, h_1, h_2⟩ := T_api_Value.opn h0
  obtain ⟨A_3, cap_3, A_4, cap_4, rfl, h_3, h_4⟩ := T_api_Value.opn h1
  refine R_enter 117 Tryd.func57 rfl rfl (by simp) (fun a0 f0 => ?_)
  replace f0 : Frm 117 [(0, .pointer (some ad0)), (1, .pointer (some ad1))] a0 := f0
  refine R_seq ?_
  refine R_reg ?_
  refine W_run (L' := [(0, .pointer (some ad0)), (1, .pointer (some ad1))]) (w' := w) f0 1 [0, 1] (by kernel_rfl) (fun a_1 f_1 => ?_)
  refine W_end rfl ?_
  refine T_n ?_
  refine R_seq ?_
  refine R_seq ?_
  refine R_drawQ 38 p0 (by kernel_rfl) (by kernel_rfl) ?_
  refine Q_eq (v := .pointer (some ad0)) f_1 (by kernel_rfl) (by kernel_rfl) rfl rfl (fun _ _ => by kernel_rfl) (fun a_2 f_2 => ?_)
  refine Q_eq (v := .pointer (some ad0)) f_2 (by kernel_rfl) (by kernel_rfl) rfl rfl (fun _ _ => by kernel_rfl) (fun a_3 f_3 => ?_)
  refine Q_eq (v := .pointer (some (ad0.add 0))) f_3 (by kernel_rfl) (by kernel_rfl) rfl rfl (fun _ _ => by kernel_rfl) (fun a_4 f_4 => ?_)
  have f_5 : Frm 117 [(0, .pointer (some ad0)), (1, .pointer (some ad1)), (11, .pointer (some (ad0.add 0)))] a_4 := f_4.keep (ks := [0, 1, 11]) (by kernel_rfl)
  refine Q_eq (v := .int .i8 d0.fKind) f_5 (by kernel_rfl) (by kernel_rfl) rfl rfl (fun _ pq => X_load1 (v := .int .i8 d0.fKind) rfl (ad := ad0.add 0) (by kernel_rfl) (by kernel_rfl) (pq.cell (q0 0 _ rfl))) (fun a_5 f_6 => ?_)
  refine Q_eq (v := .pointer (some ad1)) f_6 (by kernel_rfl) (by kernel_rfl) rfl rfl (fun _ _ => by kernel_rfl) (fun a_6 f_7 => ?_)
  refine Q_eq (v := .pointer (some ad1)) f_7 (by kernel_rfl) (by kernel_rfl) rfl rfl (fun _ _ => by kernel_rfl) (fun a_7 f_8 => ?_)
  refine Q_eq (v := .pointer (some (ad1.add 0))) f_8 (by kernel_rfl) (by kernel_rfl) rfl rfl (fun _ _ => by kernel_rfl) (fun a_8 f_9 => ?_)
  have f_10 : Frm 117 [(0, .pointer (some ad0)), (1, .pointer (some ad1)), (12, .int .i8 d0.fKind), (15, .pointer (some (ad1.add 0)))] a_8 := f_9.keep (ks := [0, 1, 12, 15]) (by kernel_rfl)
  refine Q_eq (v := .int .i8 d1.fKind) f_10 (by kernel_rfl) (by kernel_rfl) rfl rfl (fun _ pq => X_load1 (v := .int .i8 d1.fKind) rfl (ad := ad1.add 0) (by kernel_rfl) (by kernel_rfl) (pq.cell (q1 0 _ rfl))) (fun a_9 f_11 => ?_)
  obtain ⟨x_1, hx_1, hF_1⟩ := bind_some' hF
  refine Q_okv (v := .int .i64 x_1) f_11 (by kernel_rfl) (by kernel_rfl) rfl rfl (fun _ => by kernel_rfl) (cmp_Compare_ok n _ d0.fKind d1.fKind x_1 hx_1) (fun a_10 f_12 => ?_)
  refine Q_eq (v := .pointer (some ad0)) f_12 (by kernel_rfl) (by kernel_rfl) rfl rfl (fun _ _ => by kernel_rfl) (fun a_11 f_13 => ?_)
  refine Q_eq (v := .pointer (some ad0)) f_13 (by kernel_rfl) (by kernel_rfl) rfl rfl (fun _ _ => by kernel_rfl) (fun a_12 f_14 => ?_)
  refine Q_eq (v := .pointer (some (ad0.add 1))) f_14 (by kernel_rfl) (by kernel_rfl) rfl rfl (fun _ _ => by kernel_rfl) (fun a_13 f_15 => ?_)
  have f_16 : Frm 117 [(0, .pointer (some ad0)), (1, .pointer (some ad1)), (17, .int .i64 x_1), (20, .pointer (some (ad0.add 1)))] a_13 := f_15.keep (ks := [0, 1, 17, 20]) (by kernel_rfl)
  refine Q_eq (v := .bool d0.fBool) f_16 (by kernel_rfl) (by kernel_rfl) rfl rfl (fun _ pq => X_load1 (v := .bool d0.fBool) rfl (ad := ad0.add 1) (by kernel_rfl) (by kernel_rfl) (pq.cell (q0 1 _ rfl))) (fun a_14 f_17 => ?_)
  obtain ⟨x_2, hx_2, hF_2⟩ := bind_some' hF_1
  refine Q_okv (v := .int .i64 x_2) f_17 (by kernel_rfl) (by kernel_rfl) rfl rfl (fun _ => by kernel_rfl) (tree_bit_ok n _ hG (d0.fBool) x_2 hx_2) (fun a_15 f_18 => ?_)
  refine Q_eq (v := .pointer (some ad1)) f_18 (by kernel_rfl) (by kernel_rfl) rfl rfl (fun _ _ => by kernel_rfl) (fun a_16 f_19 => ?_)
  refine Q_eq (v := .pointer (some ad1)) f_19 (by kernel_rfl) (by kernel_rfl) rfl rfl (fun _ _ => by kernel_rfl) (fun a_17 f_20 => ?_)
  refine Q_eq (v := .pointer (some (ad1.add 1))) f_20 (by kernel_rfl) (by kernel_rfl) rfl rfl (fun _ _ => by kernel_rfl) (fun a_18 f_21 => ?_)
  have f_22 : Frm 117 [(0, .pointer (some ad0)), (1, .pointer (some ad1)), (17, .int .i64 x_1), (22, .int .i64 x_2), (25, .pointer (some (ad1.add 1)))] a_18 := f_21.keep (ks := [0, 1, 17, 22, 25]) (by kernel_rfl)
  refine Q_eq (v := .bool d1.fBool) f_22 (by kernel_rfl) (by kernel_rfl) rfl rfl (fun _ pq => X_load1 (v := .bool d1.fBool) rfl (ad := ad1.add 1) (by kernel_rfl) (by kernel_rfl) (pq.cell (q1 1 _ rfl))) (fun a_19 f_23 => ?_)
  obtain ⟨x_3, hx_3, hF_3⟩ := bind_some' hF_2
  refine Q_okv (v := .int .i64 x_3) f_23 (by kernel_rfl) (by kernel_rfl) rfl rfl (fun _ => by kernel_rfl) (tree_bit_ok n _ hG (d1.fBool) x_3 hx_3) (fun a_20 f_24 => ?_)
  obtain ⟨g_1, hF_4⟩ := need_some hF_3
  refine Q_eq (v := .int .i64 (IntKind.wrap .i64 (x_2 - x_3))) f_24 (by kernel_rfl) (by kernel_rfl) rfl rfl (fun _ pq => by kernel_rfl) (fun a_21 f_25 => ?_)
  have f_26 := Frm.set f_25 28 (v := .int .i64 (IntKind.wrap .i64 (x_2 - x_3))) (v' := .int .i64 (x_2 - x_3)) (by kernel_rfl) (congrArg (Value.int .i64) (inR_wrap g_1))
  have f_27 : Frm 117 [(0, .pointer (some ad0)), (1, .pointer (some ad1)), (17, .int .i64 x_1), (22, .int .i64 x_2), (25, .pointer (some (ad1.add 1))), (26, .bool d1.fBool), (27, .int .i64 x_3), (28, .int .i64 (x_2 - x_3))] a_21 := f_26.keep (ks := [0, 1, 17, 22, 25, 26, 27, 28]) (by kernel_rfl)
  refine Q_eq (v := .pointer (some ad0)) f_27 (by kernel_rfl) (by kernel_rfl) rfl rfl (fun _ _ => by kernel_rfl) (fun a_22 f_28 => ?_)
  refine Q_eq (v := .pointer (some ad0)) f_28 (by kernel_rfl) (by kernel_rfl) rfl rfl (fun _ _ => by kernel_rfl) (fun a_23 f_29 => ?_)
  refine Q_eq (v := .pointer (some (ad0.add 2))) f_29 (by kernel_rfl) (by kernel_rfl) rfl rfl (fun _ _ => by kernel_rfl) (fun a_24 f_30 => ?_)
  have f_31 : Frm 117 [(0, .pointer (some ad0)), (1, .pointer (some ad1)), (17, .int .i64 x_1), (28, .int .i64 (x_2 - x_3)), (31, .pointer (some (ad0.add 2)))] a_24 := f_30.keep (ks := [0, 1, 17, 28, 31]) (by kernel_rfl)
  refine Q_eq (v := .int .i64 d0.fNum) f_31 (by kernel_rfl) (by kernel_rfl) rfl rfl (fun _ pq => X_load1 (v := .int .i64 d0.fNum) rfl (ad := ad0.add 2) (by kernel_rfl) (by kernel_rfl) (pq.cell (q0 2 _ rfl))) (fun a_25 f_32 => ?_)
  refine Q_eq (v := .pointer (some ad1)) f_32 (by kernel_rfl) (by kernel_rfl) rfl rfl (fun _ _ => by kernel_rfl) (fun a_26 f_33 => ?_)
  refine Q_eq (v := .pointer (some ad1)) f_33 (by kernel_rfl) (by kernel_rfl) rfl rfl (fun _ _ => by kernel_rfl) (fun a_27 f_34 => ?_)
  refine Q_eq (v := .pointer (some (ad1.add 2))) f_34 (by kernel_rfl) (by kernel_rfl) rfl rfl (fun _ _ => by kernel_rfl) (fun a_28 f_35 => ?_)
  have f_36 : Frm 117 [(0, .pointer (some ad0)), (1, .pointer (some ad1)), (17, .int .i64 x_1), (28, .int .i64 (x_2 - x_3)), (32, .int .i64 d0.fNum), (35, .pointer (some (ad1.add 2)))] a_28 := f_35.keep (ks := [0, 1, 17, 28, 32, 35]) (by kernel_rfl)
  refine Q_eq (v := .int .i64 d1.fNum) f_36 (by kernel_rfl) (by kernel_rfl) rfl rfl (fun _ pq => X_load1 (v := .int .i64 d1.fNum) rfl (ad := ad1.add 2) (by kernel_rfl) (by kernel_rfl) (pq.cell (q1 2 _ rfl))) (fun a_29 f_37 => ?_)
  obtain ⟨x_4, hx_4, hF_5⟩ := bind_some' hF_4
  refine Q_okv (v := .int .i64 x_4) f_37 (by kernel_rfl) (by kernel_rfl) rfl rfl (fun _ => by kernel_rfl) (cmp_Compare_2_ok n _ hG d0.fNum d1.fNum x_4 hx_4) (fun a_30 f_38 => ?_)
  refine Q_eq (v := .pointer (some ad0)) f_38 (by kernel_rfl) (by kernel_rfl) rfl rfl (fun _ _ => by kernel_rfl) (fun a_31 f_39 => ?_)
  refine Q_eq (v := .pointer (some ad0)) f_39 (by kernel_rfl) (by kernel_rfl) rfl rfl (fun _ _ => by kernel_rfl) (fun a_32 f_40 => ?_)
  refine Q_eq (v := .pointer (some (ad0.add 3))) f_40 (by kernel_rfl) (by kernel_rfl) rfl rfl (fun _ _ => by kernel_rfl) (fun a_33 f_41 => ?_)
  have f_42 : Frm 117 [(0, .pointer (some ad0)), (1, .pointer (some ad1)), (17, .int .i64 x_1), (28, .int .i64 (x_2 - x_3)), (37, .int .i64 x_4), (40, .pointer (some (ad0.add 3)))] a_33 := f_41.keep (ks := [0, 1, 17, 28, 37, 40]) (by kernel_rfl)
  refine Q_eq (v := S d0.fText) f_42 (by kernel_rfl) (by kernel_rfl) rfl rfl (fun _ pq => X_load1 (v := S d0.fText) rfl (ad := ad0.add 3) (by kernel_rfl) (by kernel_rfl) (pq.cell (q0 3 _ rfl))) (fun a_34 f_43 => ?_)
  refine Q_eq (v := .pointer (some ad1)) f_43 (by kernel_rfl) (by kernel_rfl) rfl rfl (fun _ _ => by kernel_rfl) (fun a_35 f_44 => ?_)
  refine Q_eq (v := .pointer (some ad1)) f_44 (by kernel_rfl) (by kernel_rfl) rfl rfl (fun _ _ => by kernel_rfl) (fun a_36 f_45 => ?_)
  refine Q_eq (v := .pointer (some (ad1.add 3))) f_45 (by kernel_rfl) (by kernel_rfl) rfl rfl (fun _ _ => by kernel_rfl) (fun a_37 f_46 => ?_)
  have f_47 : Frm 117 [(0, .pointer (some ad0)), (1, .pointer (some ad1)), (17, .int .i64 x_1), (28, .int .i64 (x_2 - x_3)), (37, .int .i64 x_4), (41, S d0.fText), (44, .pointer (some (ad1.add 3)))] a_37 := f_46.keep (ks := [0, 1, 17, 28, 37, 41, 44]) (by kernel_rfl)
  refine Q_eq (v := S d1.fText) f_47 (by kernel_rfl) (by kernel_rfl) rfl rfl (fun _ pq => X_load1 (v := S d1.fText) rfl (ad := ad1.add 3) (by kernel_rfl) (by kernel_rfl) (pq.cell (q1 3 _ rfl))) (fun a_38 f_48 => ?_)
  obtain ⟨x_5, hx_5, hF_6⟩ := bind_some' hF_5
  refine Q_okv (v := .int .i64 x_5) f_48 (by kernel_rfl) (by kernel_rfl) rfl rfl (fun _ => by kernel_rfl) (h_Compare_ok n _ d0.fText d1.fText x_5 hx_5) (fun a_39 f_49 => ?_)
  refine Q_end rfl ?_
  intro w_1 p_1
  refine W_alloc f_49 p_1 1 [0, 1, 17, 28, 37, 41, 44, 45, 46, 47] (.cells #[.int .i64 x_1, .int .i64 (x_2 - x_3), .int .i64 x_4, .int .i64 x_5] 3 (0, 0)) (fun b_1 => [(0, .pointer (some ad0)), (1, .pointer (some ad1)), (17, .int .i64 x_1), (28, .int .i64 (x_2 - x_3)), (37, .int .i64 x_4), (41, S d0.fText), (44, .pointer (some (ad1.add 3))), (45, S d1.fText), (46, .int .i64 x_5), (47, .slice (some ⟨b_1, 0, none⟩) 4 4)]) (fun _ => by kernel_rfl) (fun b_1 w_7 p_7 a_40 f_50 => ?_)
  replace f_50 : Frm 117 [(0, .pointer (some ad0)), (1, .pointer (some ad1)), (17, .int .i64 x_1), (28, .int .i64 (x_2 - x_3)), (37, .int .i64 x_4), (41, S d0.fText), (44, .pointer (some (ad1.add 3))), (45, S d1.fText), (46, .int .i64 x_5), (47, .slice (some ⟨b_1, 0, none⟩) 4 4)] a_40 := f_50
  have hr_1 : RepSeq M1 ([x_1, x_2 - x_3, x_4, x_5].map (Dat.int .i64)) [.int .i64 x_1, .int .i64 (x_2 - x_3), .int .i64 x_4, .int .i64 x_5] := ⟨_, _, rfl, rfl, ⟨_, _, rfl, rfl, ⟨_, _, rfl, rfl, ⟨_, _, rfl, rfl, rfl⟩⟩⟩⟩
  have p_8 : Hp w0 M1 ((Ent.row 3 1 (.slice (some ⟨b_1, 0, none⟩) 4 4) [x_1, x_2 - x_3, x_4, x_5].length [.int .i64 x_1, .int .i64 (x_2 - x_3), .int .i64 x_4, .int .i64 x_5]) :: H) w_7 := p_7.objRow (n := 4) (cap := 4) (size := 1) (by decide) (by decide) rfl rfl rfl
  obtain ⟨M_1, A_5, cap_5, hM_1, hv_1, p_9, h_5, hb_1⟩ := p_8.lend (f := (Dat.int .i64)) (xs := [x_1, x_2 - x_3, x_4, x_5]) (szd_int .i64) hr_1
  have f_51 := Frm.set f_50 47 (v := .slice (some ⟨b_1, 0, none⟩) 4 4) (v' := .slice A_5 [x_1, x_2 - x_3, x_4, x_5].length cap_5) (by kernel_rfl) (hv_1)
  have f_52 : Frm 117 [(0, .pointer (some ad0)), (1, .pointer (some ad1)), (17, .int .i64 x_1), (28, .int .i64 (x_2 - x_3)), (37, .int .i64 x_4), (41, S d0.fText), (44, .pointer (some (ad1.add 3))), (45, S d1.fText), (46, .int .i64 x_5), (47, .slice A_5 [x_1, x_2 - x_3, x_4, x_5].length cap_5)] a_40 := f_51.keep (ks := [0, 1, 17, 28, 37, 41, 44, 45, 46, 47]) (by kernel_rfl)
  obtain ⟨x_6, hx_6, hF_7⟩ := bind_some' hF_6
  refine W_okv (v := .int .i64 x_6) f_52 p_9 (by kernel_rfl) (by kernel_rfl) rfl rfl (fun _ => by kernel_rfl) (cmp_Or_ok n _ (GL.mono hM_1 hG) A_5 cap_5 [x_1, x_2 - x_3, x_4, x_5] h_5 x_6 hx_6) (fun w_8 p_10 a_41 f_53 => ?_)
  obtain ⟨M_2, hM_2, p_11⟩ := hb_1 _ _ _ (Mem.le_refl _) p_10
  have f_54 := Frm.set f_53 47 (v := .slice A_5 [x_1, x_2 - x_3, x_4, x_5].length cap_5) (v' := .slice (some ⟨b_1, 0, none⟩) 4 4) (by kernel_rfl) (hv_1.symm)
  have f_55 : Frm 117 [(0, .pointer (some ad0)), (1, .pointer (some ad1)), (17, .int .i64 x_1), (28, .int .i64 (x_2 - x_3)), (37, .int .i64 x_4), (41, S d0.fText), (44, .pointer (some (ad1.add 3))), (45, S d1.fText), (46, .int .i64 x_5), (47, .slice (some ⟨b_1, 0, none⟩) 4 4), (48, .int .i64 x_6)] a_41 := f_54.keep (ks := [0, 1, 17, 28, 37, 41, 44, 45, 46, 47, 48]) (by kernel_rfl)
  refine W_run (L' := [(0, .pointer (some ad0)), (1, .pointer (some ad1)), (5, .int .i64 x_6)]) (w' := w_8) f_55 1 [0, 1, 5] (by kernel_rfl) (fun a_42 f_56 => ?_)
  refine W_end rfl ?_
  refine T_n ?_
  refine R_seq ?_
  refine R_reg ?_
  refine W_run (L' := [(0, .pointer (some ad0)), (1, .pointer (some ad1)), (5, .int .i64 x_6), (50, .bool (!(decide (x_6 = 0))))]) (w' := w_8) f_56 2 [0, 1, 5, 50] (by kernel_rfl) (fun a_43 f_57 => ?_)
  refine W_end rfl ?_
  refine T_n ?_
  refine R_cond f_57 (b := !(decide (x_6 = 0))) (by kernel_rfl) (by kernel_rfl) (fun h_6 => ?_) (fun h_6 => ?_)
  · have k_1 : ¬ (x_6 = 0) := (not_iff decide_eq_true_iff).1 h_6
    have hF_8 := cnd_t h_6 hF_7
    refine R_seq ?_
    refine R_reg ?_
    refine W_run (L' := [(4, .int .i64 x_6)]) (w' := w_8) f_57 2 [4] (by kernel_rfl) (fun a_44 f_58 => ?_)
    refine W_end rfl ?_
    refine T_n ?_
    refine wp_ret ?_
    refine T_r ?_
    refine E_ret1 f_58 rfl (by kernel_rfl : Vc.look _ 4 = some (.int .i64 x_6)) ?_
    obtain rfl := Option.some.inj hF_8
    exact ⟨_, rfl, M_2, hM_2, (p_11.dropN 1), rfl⟩
  · have k_2 : ¬ (¬ (x_6 = 0)) := iff_f (not_iff decide_eq_true_iff) h_6
    have hF_9 := cnd_f h_6 hF_7
    refine wp_skip ?_
    refine T_n ?_
    refine R_seq ?_
    refine R_seq ?_
    refine R_draw p_11 (by kernel_rfl) (by kernel_rfl) ?_
    refine Q_eq (v := .pointer (some ad0)) f_57 (by kernel_rfl) (by kernel_rfl) rfl rfl (fun _ _ => by kernel_rfl) (fun a_45 f_59 => ?_)
    refine Q_eq (v := .pointer (some ad0)) f_59 (by kernel_rfl) (by kernel_rfl) rfl rfl (fun _ _ => by kernel_rfl) (fun a_46 f_60 => ?_)
    refine Q_eq (v := .pointer (some (ad0.add 4))) f_60 (by kernel_rfl) (by kernel_rfl) rfl rfl (fun _ _ => by kernel_rfl) (fun a_47 f_61 => ?_)
    have f_62 : Frm 117 [(0, .pointer (some ad0)), (1, .pointer (some ad1)), (54, .pointer (some (ad0.add 4)))] a_47 := f_61.keep (ks := [0, 1, 54]) (by kernel_rfl)
    refine Q_eq (v := .slice A_1 d0.fList.length cap_1) f_62 (by kernel_rfl) (by kernel_rfl) rfl rfl (fun _ pq => X_load1 (v := .slice A_1 d0.fList.length cap_1) rfl (ad := ad0.add 4) (by kernel_rfl) (by kernel_rfl) (pq.cell ((fun j v h => hM_2.cell (q0 j v h)) 4 _ rfl))) (fun a_48 f_63 => ?_)
    refine Q_eq (v := .int .i64 ((d0.fList.length : Nat) : Int)) f_63 (by kernel_rfl) (by kernel_rfl) rfl rfl (fun _ _ => by kernel_rfl) (fun a_49 f_64 => ?_)
    refine Q_eq (v := .pointer (some ad1)) f_64 (by kernel_rfl) (by kernel_rfl) rfl rfl (fun _ _ => by kernel_rfl) (fun a_50 f_65 => ?_)
    refine Q_eq (v := .pointer (some ad1)) f_65 (by kernel_rfl) (by kernel_rfl) rfl rfl (fun _ _ => by kernel_rfl) (fun a_51 f_66 => ?_)
    refine Q_eq (v := .pointer (some (ad1.add 4))) f_66 (by kernel_rfl) (by kernel_rfl) rfl rfl (fun _ _ => by kernel_rfl) (fun a_52 f_67 => ?_)
    have f_68 : Frm 117 [(0, .pointer (some ad0)), (1, .pointer (some ad1)), (56, .int .i64 ((d0.fList.length : Nat) : Int)), (59, .pointer (some (ad1.add 4)))] a_52 := f_67.keep (ks := [0, 1, 56, 59]) (by kernel_rfl)
    refine Q_eq (v := .slice A_3 d1.fList.length cap_3) f_68 (by kernel_rfl) (by kernel_rfl) rfl rfl (fun _ pq => X_load1 (v := .slice A_3 d1.fList.length cap_3) rfl (ad := ad1.add 4) (by kernel_rfl) (by kernel_rfl) (pq.cell ((fun j v h => hM_2.cell (q1 j v h)) 4 _ rfl))) (fun a_53 f_69 => ?_)
    refine Q_eq (v := .int .i64 ((d1.fList.length : Nat) : Int)) f_69 (by kernel_rfl) (by kernel_rfl) rfl rfl (fun _ _ => by kernel_rfl) (fun a_54 f_70 => ?_)
    have f_71 : Frm 117 [(0, .pointer (some ad0)), (1, .pointer (some ad1)), (56, .int .i64 ((d0.fList.length : Nat) : Int)), (61, .int .i64 ((d1.fList.length : Nat) : Int))] a_54 := f_70.keep (ks := [0, 1, 56, 61]) (by kernel_rfl)
    refine Q_eq (v := .int .i64 (min ((d0.fList.length : Nat) : Int) ((d1.fList.length : Nat) : Int))) f_71 (by kernel_rfl) (by kernel_rfl) rfl rfl (fun _ pq => X_min (k := .i64) (a := ((d0.fList.length : Nat) : Int)) (b := ((d1.fList.length : Nat) : Int)) rfl (by kernel_rfl) (by kernel_rfl)) (fun a_55 f_72 => ?_)
    refine Q_eq (v := .int .i64 0) f_72 (by kernel_rfl) (by kernel_rfl) rfl rfl (fun _ _ => by kernel_rfl) (fun a_56 f_73 => ?_)
    have f_74 : Frm 117 [(0, .pointer (some ad0)), (1, .pointer (some ad1)), (62, .int .i64 (min ((d0.fList.length : Nat) : Int) ((d1.fList.length : Nat) : Int))), (63, .int .i64 0)] a_56 := f_73.keep (ks := [0, 1, 62, 63]) (by kernel_rfl)
    refine Q_end rfl ?_
    intro w_9 p_12
    refine T_n ?_
    refine wp_block ?_
    obtain ⟨b_2, hL_1, hF_10⟩ := bind_some' hF_9
    refine wp_mono (Q := fun e a w => (e = .ret ∧ (∃ y_2 : Int, b_2 = .inl y_2 ∧ ∃ M_5 : Mem, M_2.le M_5 ∧ Frm 117 [(4, .int .i64 y_2)] a ∧ Hp w0 M_5 ((Ent.row 3 1 (.slice (some ⟨b_1, 0, none⟩) 4 4) [x_1, x_2 - x_3, x_4, x_5].length [.int .i64 x_1, .int .i64 (x_2 - x_3), .int .i64 x_4, .int .i64 x_5]) :: H) w)) ∨ (e = .exit 0 ∧ (∃ y_3 : Unit, b_2 = .inr y_3 ∧ ∃ M_6 : Mem, M_2.le M_6 ∧ Frm 117 [(0, .pointer (some ad0)), (1, .pointer (some ad1))] a ∧ Hp w0 M_6 ((Ent.row 3 1 (.slice (some ⟨b_1, 0, none⟩) 4 4) [x_1, x_2 - x_3, x_4, x_5].length [.int .i64 x_1, .int .i64 (x_2 - x_3), .int .i64 x_4, .int .i64 x_5]) :: H) w))) (R_loop (n := 117) (w0 := w0) (M := M_2) (fun (x : Nat × Int) => match x with | (m_1, s_1) => [(0, .pointer (some ad0)), (1, .pointer (some ad1)), (62, .int .i64 (min ((d0.fList.length : Nat) : Int) ((d1.fList.length : Nat) : Int))), (63, .int .i64 s_1)]) (fun (x : Nat × Int) => match x with | (m_1, s_1) => ((Ent.row 3 1 (.slice (some ⟨b_1, 0, none⟩) 4 4) [x_1, x_2 - x_3, x_4, x_5].length [.int .i64 x_1, .int .i64 (x_2 - x_3), .int .i64 x_4, .int .i64 x_5]) :: H)) (fun (x : Nat × Int) (MM : Mem) => match x with | (m_1, s_1) => loopF (tree_compare_s1 n rec_tree_compare d0 d1) m_1 s_1 = some b_2) (fun (x : Nat × Int) => match x with | (m_1, s_1) => m_1) (n, (0 : Int)) (f_74.keep (ks := [0, 1, 62, 63]) (by kernel_rfl)) p_12 hL_1 ?_) ?_
    · rintro ⟨m_1, s_1⟩ M_3 a_57 w_10 hM_3 I_1 f_75 p_13
      replace f_75 : Frm 117 [(0, .pointer (some ad0)), (1, .pointer (some ad1)), (62, .int .i64 (min ((d0.fList.length : Nat) : Int) ((d1.fList.length : Nat) : Int))), (63, .int .i64 s_1)] a_57 := f_75
      replace p_13 : Hp w0 M_3 ((Ent.row 3 1 (.slice (some ⟨b_1, 0, none⟩) 4 4) [x_1, x_2 - x_3, x_4, x_5].length [.int .i64 x_1, .int .i64 (x_2 - x_3), .int .i64 x_4, .int .i64 x_5]) :: H) w_10 := p_13
      have I_1L := I_1
      obtain ⟨m_2, r_1, rfl, hs_1, hn_1⟩ := loop_step I_1L
      unfold tree_compare_s1 at hs_1
      refine R_seq ?_
      refine R_reg ?_
      refine W_run (L' := [(0, .pointer (some ad0)), (1, .pointer (some ad1)), (62, .int .i64 (min ((d0.fList.length : Nat) : Int) ((d1.fList.length : Nat) : Int))), (63, .int .i64 s_1), (64, .bool (decide (s_1 < (min ((d0.fList.length : Nat) : Int) ((d1.fList.length : Nat) : Int)))))]) (w' := w_10) f_75 1 [0, 1, 62, 63, 64] (by kernel_rfl) (fun a_58 f_76 => ?_)
      refine W_end rfl ?_
      refine T_n ?_
      refine R_seq ?_
      refine R_cond f_76 (b := decide (s_1 < (min ((d0.fList.length : Nat) : Int) ((d1.fList.length : Nat) : Int)))) (by kernel_rfl) (by kernel_rfl) (fun h_7 => ?_) (fun h_7 => ?_)
      · have k_3 : s_1 < (min ((d0.fList.length : Nat) : Int) ((d1.fList.length : Nat) : Int)) := decide_eq_true_iff.1 h_7
        have hF_11 := cnd_t h_7 hs_1
        refine wp_skip ?_
        refine T_n ?_
        refine R_seq ?_
        refine wp_block ?_
        refine R_seq ?_
        refine R_reg ?_
        refine W_run (L' := [(0, .pointer (some ad0)), (1, .pointer (some ad1)), (6, .int .i64 s_1), (62, .int .i64 (min ((d0.fList.length : Nat) : Int) ((d1.fList.length : Nat) : Int))), (63, .int .i64 s_1)]) (w' := w_10) f_76 2 [0, 1, 6, 62, 63] (by kernel_rfl) (fun a_59 f_77 => ?_)
        refine W_end rfl ?_
        refine T_n ?_
        refine R_seq ?_
        refine R_seq ?_
        refine R_reg ?_
        refine W_run (L' := [(0, .pointer (some ad0)), (1, .pointer (some ad1)), (6, .int .i64 s_1), (62, .int .i64 (min ((d0.fList.length : Nat) : Int) ((d1.fList.length : Nat) : Int))), (63, .int .i64 s_1), (68, .pointer (some (ad0.add 0)))]) (w' := w_10) f_77 3 [0, 1, 6, 62, 63, 68] (by kernel_rfl) (fun a_60 f_78 => ?_)
        refine W_eq (v := .int .i8 d0.fKind) f_78 (by kernel_rfl) (by kernel_rfl) rfl rfl (X_load1 (v := .int .i8 d0.fKind) rfl (ad := ad0.add 0) (by kernel_rfl) (by kernel_rfl) (p_13.cell ((fun j v h => (hM_2.trans hM_3).cell (q0 j v h)) 0 _ rfl))) (fun a_61 f_79 => ?_)
        refine W_run (L' := [(0, .pointer (some ad0)), (1, .pointer (some ad1)), (6, .int .i64 s_1), (62, .int .i64 (min ((d0.fList.length : Nat) : Int) ((d1.fList.length : Nat) : Int))), (63, .int .i64 s_1), (70, .bool (decide (d0.fKind = 5)))]) (w' := w_10) f_79 1 [0, 1, 6, 62, 63, 70] (by kernel_rfl) (fun a_62 f_80 => ?_)
        refine W_end rfl ?_
        refine T_n ?_
        obtain ⟨j_1, hj_1, hF_12⟩ := bind_some' hF_11
        refine R_mid (fun a_81 w_13 => ∃ y_1 : Unit, j_1 = .nx y_1 ∧ ∃ M_4 : Mem, M_3.le M_4 ∧ Frm 117 [(0, .pointer (some ad0)), (1, .pointer (some ad1)), (6, .int .i64 s_1), (62, .int .i64 (min ((d0.fList.length : Nat) : Int) ((d1.fList.length : Nat) : Int))), (63, .int .i64 s_1)] a_81 ∧ Hp w0 M_4 ((Ent.row 3 1 (.slice (some ⟨b_1, 0, none⟩) 4 4) [x_1, x_2 - x_3, x_4, x_5].length [.int .i64 x_1, .int .i64 (x_2 - x_3), .int .i64 x_4, .int .i64 x_5]) :: H) w_13) ?_ ?_
        · refine R_cond f_80 (b := decide (d0.fKind = 5)) (by kernel_rfl) (by kernel_rfl) (fun h_8 => ?_) (fun h_8 => ?_)
          · have k_4 : d0.fKind = 5 := decide_eq_true_iff.1 h_8
            have hF_13 := cnd_t h_8 hj_1
            refine R_seq ?_
            refine R_draw p_13 (by kernel_rfl) (by kernel_rfl) ?_
            refine Q_eq (v := .pointer (some ad0)) f_80 (by kernel_rfl) (by kernel_rfl) rfl rfl (fun _ _ => by kernel_rfl) (fun a_63 f_81 => ?_)
            refine Q_eq (v := .pointer (some ad0)) f_81 (by kernel_rfl) (by kernel_rfl) rfl rfl (fun _ _ => by kernel_rfl) (fun a_64 f_82 => ?_)
            refine Q_eq (v := .pointer (some (ad0.add 5))) f_82 (by kernel_rfl) (by kernel_rfl) rfl rfl (fun _ _ => by kernel_rfl) (fun a_65 f_83 => ?_)
            have f_84 : Frm 117 [(0, .pointer (some ad0)), (1, .pointer (some ad1)), (6, .int .i64 s_1), (62, .int .i64 (min ((d0.fList.length : Nat) : Int) ((d1.fList.length : Nat) : Int))), (63, .int .i64 s_1), (73, .pointer (some (ad0.add 5)))] a_65 := f_83.keep (ks := [0, 1, 6, 62, 63, 73]) (by kernel_rfl)
            refine Q_eq (v := .slice A_2 d0.fKeys.length cap_2) f_84 (by kernel_rfl) (by kernel_rfl) rfl rfl (fun _ pq => X_load1 (v := .slice A_2 d0.fKeys.length cap_2) rfl (ad := ad0.add 5) (by kernel_rfl) (by kernel_rfl) (pq.cell ((fun j v h => (hM_2.trans hM_3).cell (q0 j v h)) 5 _ rfl))) (fun a_66 f_85 => ?_)
            refine Q_eq (v := .int .i64 s_1) f_85 (by kernel_rfl) (by kernel_rfl) rfl rfl (fun _ _ => by kernel_rfl) (fun a_67 f_86 => ?_)
            have f_87 : Frm 117 [(0, .pointer (some ad0)), (1, .pointer (some ad1)), (6, .int .i64 s_1), (62, .int .i64 (min ((d0.fList.length : Nat) : Int) ((d1.fList.length : Nat) : Int))), (63, .int .i64 s_1), (74, .slice A_2 d0.fKeys.length cap_2), (75, .int .i64 s_1)] a_67 := f_86.keep (ks := [0, 1, 6, 62, 63, 74, 75]) (by kernel_rfl)
            obtain ⟨x_7, hx_7, hF_14⟩ := bind_some' hF_13
            obtain ⟨ad_1, c_1, e_1, hl_1, hr_2, hc_1⟩ := Sli.at_ (h_2.mono (hM_2.trans hM_3)) hx_7
            clear hl_1
            obtain rfl : c_1 = [S x_7] := hr_2
            refine Q_eq (v := .pointer (some (ad_1.add (s_1.toNat * 1)))) f_87 (by kernel_rfl) (by kernel_rfl) rfl rfl (fun _ pq => X_indexAddrA e_1 rfl (len := d0.fKeys.length) (cap := cap_2) (k := .i64) (i := s_1) (by kernel_rfl) (by kernel_rfl) (e := 9) (by kernel_rfl) (sz := 1) (by kernel_rfl) (getI_nn hx_7) (getI_lt hx_7)) (fun a_68 f_88 => ?_)
            refine Q_eq (v := S x_7) f_88 (by kernel_rfl) (by kernel_rfl) rfl rfl (fun _ pq => X_load1 (v := S x_7) rfl (ad := ad_1.add (s_1.toNat * 1)) (by kernel_rfl) (by kernel_rfl) (pq.cell (hc_1 0 _ rfl))) (fun a_69 f_89 => ?_)
            refine Q_eq (v := .pointer (some ad1)) f_89 (by kernel_rfl) (by kernel_rfl) rfl rfl (fun _ _ => by kernel_rfl) (fun a_70 f_90 => ?_)
            refine Q_eq (v := .pointer (some ad1)) f_90 (by kernel_rfl) (by kernel_rfl) rfl rfl (fun _ _ => by kernel_rfl) (fun a_71 f_91 => ?_)
            refine Q_eq (v := .pointer (some (ad1.add 5))) f_91 (by kernel_rfl) (by kernel_rfl) rfl rfl (fun _ _ => by kernel_rfl) (fun a_72 f_92 => ?_)
            have f_93 : Frm 117 [(0, .pointer (some ad0)), (1, .pointer (some ad1)), (6, .int .i64 s_1), (62, .int .i64 (min ((d0.fList.length : Nat) : Int) ((d1.fList.length : Nat) : Int))), (63, .int .i64 s_1), (77, S x_7), (80, .pointer (some (ad1.add 5)))] a_72 := f_92.keep (ks := [0, 1, 6, 62, 63, 77, 80]) (by kernel_rfl)
            refine Q_eq (v := .slice A_4 d1.fKeys.length cap_4) f_93 (by kernel_rfl) (by kernel_rfl) rfl rfl (fun _ pq => X_load1 (v := .slice A_4 d1.fKeys.length cap_4) rfl (ad := ad1.add 5) (by kernel_rfl) (by kernel_rfl) (pq.cell ((fun j v h => (hM_2.trans hM_3).cell (q1 j v h)) 5 _ rfl))) (fun a_73 f_94 => ?_)
            refine Q_eq (v := .int .i64 s_1) f_94 (by kernel_rfl) (by kernel_rfl) rfl rfl (fun _ _ => by kernel_rfl) (fun a_74 f_95 => ?_)
            have f_96 : Frm 117 [(0, .pointer (some ad0)), (1, .pointer (some ad1)), (6, .int .i64 s_1), (62, .int .i64 (min ((d0.fList.length : Nat) : Int) ((d1.fList.length : Nat) : Int))), (63, .int .i64 s_1), (77, S x_7), (81, .slice A_4 d1.fKeys.length cap_4), (82, .int .i64 s_1)] a_74 := f_95.keep (ks := [0, 1, 6, 62, 63, 77, 81, 82]) (by kernel_rfl)
            obtain ⟨x_8, hx_8, hF_15⟩ := bind_some' hF_14
            obtain ⟨ad_2, c_2, e_2, hl_2, hr_3, hc_2⟩ := Sli.at_ (h_4.mono (hM_2.trans hM_3)) hx_8
            clear hl_2
            obtain rfl : c_2 = [S x_8] := hr_3
            refine Q_eq (v := .pointer (some (ad_2.add (s_1.toNat * 1)))) f_96 (by kernel_rfl) (by kernel_rfl) rfl rfl (fun _ pq => X_indexAddrA e_2 rfl (len := d1.fKeys.length) (cap := cap_4) (k := .i64) (i := s_1) (by kernel_rfl) (by kernel_rfl) (e := 9) (by kernel_rfl) (sz := 1) (by kernel_rfl) (getI_nn hx_8) (getI_lt hx_8)) (fun a_75 f_97 => ?_)
            refine Q_eq (v := S x_8) f_97 (by kernel_rfl) (by kernel_rfl) rfl rfl (fun _ pq => X_load1 (v := S x_8) rfl (ad := ad_2.add (s_1.toNat * 1)) (by kernel_rfl) (by kernel_rfl) (pq.cell (hc_2 0 _ rfl))) (fun a_76 f_98 => ?_)
            obtain ⟨x_9, hx_9, hF_16⟩ := bind_some' hF_15
            refine Q_okv (v := .int .i64 x_9) f_98 (by kernel_rfl) (by kernel_rfl) rfl rfl (fun _ => by kernel_rfl) (h_Compare_ok n _ x_7 x_8 x_9 hx_9) (fun a_77 f_99 => ?_)
            refine Q_eq (v := .int .i64 x_9) f_99 (by kernel_rfl) (by kernel_rfl) rfl rfl (fun _ _ => by kernel_rfl) (fun a_78 f_100 => ?_)
            have f_101 : Frm 117 [(0, .pointer (some ad0)), (1, .pointer (some ad1)), (6, .int .i64 s_1), (7, .int .i64 x_9), (62, .int .i64 (min ((d0.fList.length : Nat) : Int) ((d1.fList.length : Nat) : Int))), (63, .int .i64 s_1)] a_78 := f_100.keep (ks := [0, 1, 6, 7, 62, 63]) (by kernel_rfl)
            refine Q_end rfl ?_
            intro w_12 p_15
            refine T_n ?_
            refine R_seq ?_
            refine R_reg ?_
            refine W_run (L' := [(0, .pointer (some ad0)), (1, .pointer (some ad1)), (6, .int .i64 s_1), (7, .int .i64 x_9), (62, .int .i64 (min ((d0.fList.length : Nat) : Int) ((d1.fList.length : Nat) : Int))), (63, .int .i64 s_1), (87, .bool (!(decide (x_9 = 0))))]) (w' := w_12) f_101 2 [0, 1, 6, 7, 62, 63, 87] (by kernel_rfl) (fun a_79 f_102 => ?_)
            refine W_end rfl ?_
            refine T_n ?_
            refine R_cond f_102 (b := !(decide (x_9 = 0))) (by kernel_rfl) (by kernel_rfl) (fun h_9 => ?_) (fun h_9 => ?_)
            · have k_5 : ¬ (x_9 = 0) := (not_iff decide_eq_true_iff).1 h_9
              have hF_17 := cnd_t h_9 hF_16
              refine R_seq ?_
              refine R_reg ?_
              refine W_run (L' := [(4, .int .i64 x_9)]) (w' := w_12) f_102 2 [4] (by kernel_rfl) (fun a_80 f_103 => ?_)
              refine W_end rfl ?_
              refine T_n ?_
              refine wp_ret ?_
              have hF_18 := br_elim hF_17 hF_12
              refine T_r ?_
              refine T_r ?_
              refine B_r ?_
              refine T_r ?_
              refine T_r ?_
              obtain rfl := Option.some.inj hF_18
              exact .inl ⟨rfl, x_9, (Option.some.inj hn_1).symm, M_3, hM_3, f_103.keep (ks := [4]) (by kernel_rfl), p_15⟩
            · have k_6 : ¬ (¬ (x_9 = 0)) := iff_f (not_iff decide_eq_true_iff) h_9
              have hF_19 := cnd_f h_9 hF_16
              refine wp_skip ?_
              refine T_n ?_
              exact ⟨(), (Option.some.inj hF_19).symm, M_3, (Mem.le_refl _), f_102.keep (ks := [0, 1, 6, 62, 63]) (by kernel_rfl), p_15⟩
          · have k_7 : ¬ (d0.fKind = 5) := iff_f decide_eq_true_iff h_8
            have hF_20 := cnd_f h_8 hj_1
            refine wp_skip ?_
            refine T_n ?_
            exact ⟨(), (Option.some.inj hF_20).symm, M_3, (Mem.le_refl _), f_80.keep (ks := [0, 1, 6, 62, 63]) (by kernel_rfl), p_13⟩
        · rintro a_81 w_13 ⟨y_1, rfl, M_4, hM_4, f_104, p_16⟩
          refine T_n ?_
          refine R_seq ?_
          refine R_draw p_16 (by kernel_rfl) (by kernel_rfl) ?_
          refine Q_eq (v := .pointer (some ad0)) f_104 (by kernel_rfl) (by kernel_rfl) rfl rfl (fun _ _ => by kernel_rfl) (fun a_82 f_105 => ?_)
          refine Q_eq (v := .pointer (some ad0)) f_105 (by kernel_rfl) (by kernel_rfl) rfl rfl (fun _ _ => by kernel_rfl) (fun a_83 f_106 => ?_)
          refine Q_eq (v := .pointer (some (ad0.add 4))) f_106 (by kernel_rfl) (by kernel_rfl) rfl rfl (fun _ _ => by kernel_rfl) (fun a_84 f_107 => ?_)
          have f_108 : Frm 117 [(0, .pointer (some ad0)), (1, .pointer (some ad1)), (6, .int .i64 s_1), (62, .int .i64 (min ((d0.fList.length : Nat) : Int) ((d1.fList.length : Nat) : Int))), (63, .int .i64 s_1), (91, .pointer (some (ad0.add 4)))] a_84 := f_107.keep (ks := [0, 1, 6, 62, 63, 91]) (by kernel_rfl)
          refine Q_eq (v := .slice A_1 d0.fList.length cap_1) f_108 (by kernel_rfl) (by kernel_rfl) rfl rfl (fun _ pq => X_load1 (v := .slice A_1 d0.fList.length cap_1) rfl (ad := ad0.add 4) (by kernel_rfl) (by kernel_rfl) (pq.cell ((fun j v h => ((hM_2.trans hM_3).trans hM_4).cell (q0 j v h)) 4 _ rfl))) (fun a_85 f_109 => ?_)
          refine Q_eq (v := .int .i64 s_1) f_109 (by kernel_rfl) (by kernel_rfl) rfl rfl (fun _ _ => by kernel_rfl) (fun a_86 f_110 => ?_)
          have f_111 : Frm 117 [(0, .pointer (some ad0)), (1, .pointer (some ad1)), (6, .int .i64 s_1), (62, .int .i64 (min ((d0.fList.length : Nat) : Int) ((d1.fList.length : Nat) : Int))), (63, .int .i64 s_1), (92, .slice A_1 d0.fList.length cap_1), (93, .int .i64 s_1)] a_86 := f_110.keep (ks := [0, 1, 6, 62, 63, 92, 93]) (by kernel_rfl)
          obtain ⟨x_10, hx_10, hF_21⟩ := bind_some' hF_12
          obtain ⟨ad_3, c_3, e_3, hl_3, hr_4, hc_3⟩ := Sli.at_ (h_1.mono ((hM_2.trans hM_3).trans hM_4)) hx_10
          clear hl_3
          obtain ⟨A_6, cap_6, A_7, cap_7, rfl, h_10, h_11⟩ := T_api_Value.opn hr_4
          refine Q_eq (v := .pointer (some (ad_3.add (s_1.toNat * 6)))) f_111 (by kernel_rfl) (by kernel_rfl) rfl rfl (fun _ pq => X_indexAddrA e_3 rfl (len := d0.fList.length) (cap := cap_1) (k := .i64) (i := s_1) (by kernel_rfl) (by kernel_rfl) (e := 26) (by kernel_rfl) (sz := 6) (by kernel_rfl) (getI_nn hx_10) (getI_lt hx_10)) (fun a_87 f_112 => ?_)
          refine Q_eq (v := .pointer (some ad1)) f_112 (by kernel_rfl) (by kernel_rfl) rfl rfl (fun _ _ => by kernel_rfl) (fun a_88 f_113 => ?_)
          refine Q_eq (v := .pointer (some ad1)) f_113 (by kernel_rfl) (by kernel_rfl) rfl rfl (fun _ _ => by kernel_rfl) (fun a_89 f_114 => ?_)
          refine Q_eq (v := .pointer (some (ad1.add 4))) f_114 (by kernel_rfl) (by kernel_rfl) rfl rfl (fun _ _ => by kernel_rfl) (fun a_90 f_115 => ?_)
          have f_116 : Frm 117 [(0, .pointer (some ad0)), (1, .pointer (some ad1)), (6, .int .i64 s_1), (62, .int .i64 (min ((d0.fList.length : Nat) : Int) ((d1.fList.length : Nat) : Int))), (63, .int .i64 s_1), (94, .pointer (some (ad_3.add (s_1.toNat * 6)))), (97, .pointer (some (ad1.add 4)))] a_90 := f_115.keep (ks := [0, 1, 6, 62, 63, 94, 97]) (by kernel_rfl)
          refine Q_eq (v := .slice A_3 d1.fList.length cap_3) f_116 (by kernel_rfl) (by kernel_rfl) rfl rfl (fun _ pq => X_load1 (v := .slice A_3 d1.fList.length cap_3) rfl (ad := ad1.add 4) (by kernel_rfl) (by kernel_rfl) (pq.cell ((fun j v h => ((hM_2.trans hM_3).trans hM_4).cell (q1 j v h)) 4 _ rfl))) (fun a_91 f_117 => ?_)
          refine Q_eq (v := .int .i64 s_1) f_117 (by kernel_rfl) (by kernel_rfl) rfl rfl (fun _ _ => by kernel_rfl) (fun a_92 f_118 => ?_)
          have f_119 : Frm 117 [(0, .pointer (some ad0)), (1, .pointer (some ad1)), (62, .int .i64 (min ((d0.fList.length : Nat) : Int) ((d1.fList.length : Nat) : Int))), (63, .int .i64 s_1), (94, .pointer (some (ad_3.add (s_1.toNat * 6)))), (98, .slice A_3 d1.fList.length cap_3), (99, .int .i64 s_1)] a_92 := f_118.keep (ks := [0, 1, 62, 63, 94, 98, 99]) (by kernel_rfl)
          obtain ⟨x_11, hx_11, hF_22⟩ := bind_some' hF_21
          obtain ⟨ad_4, c_4, e_4, hl_4, hr_5, hc_4⟩ := Sli.at_ (h_3.mono ((hM_2.trans hM_3).trans hM_4)) hx_11
          clear hl_4
          obtain ⟨A_8, cap_8, A_9, cap_9, rfl, h_12, h_13⟩ := T_api_Value.opn hr_5
          refine Q_eq (v := .pointer (some (ad_4.add (s_1.toNat * 6)))) f_119 (by kernel_rfl) (by kernel_rfl) rfl rfl (fun _ pq => X_indexAddrA e_4 rfl (len := d1.fList.length) (cap := cap_3) (k := .i64) (i := s_1) (by kernel_rfl) (by kernel_rfl) (e := 26) (by kernel_rfl) (sz := 6) (by kernel_rfl) (getI_nn hx_11) (getI_lt hx_11)) (fun a_93 f_120 => ?_)
          obtain ⟨x_12, hx_12, hF_23⟩ := bind_some' hF_22
          refine Q_okv (v := .int .i64 x_12) f_120 (by kernel_rfl) (by kernel_rfl) rfl rfl (fun _ => by kernel_rfl) (hrec_tree_compare _ (GL.mono ((hM_2.trans hM_3).trans hM_4) hG) (ad_3.add (s_1.toNat * 6)) [.int .i8 x_10.fKind, .bool x_10.fBool, .int .i64 x_10.fNum, S x_10.fText, .slice A_6 x_10.fList.length cap_6, .slice A_7 x_10.fKeys.length cap_7] x_10 (T_api_Value.shutx (x := x_10) h_10 h_11) (fz_at (hc_3) 0 rfl) (ad_4.add (s_1.toNat * 6)) [.int .i8 x_11.fKind, .bool x_11.fBool, .int .i64 x_11.fNum, S x_11.fText, .slice A_8 x_11.fList.length cap_8, .slice A_9 x_11.fKeys.length cap_9] x_11 (T_api_Value.shutx (x := x_11) h_12 h_13) (fz_at (hc_4) 0 rfl) x_12 hx_12) (fun a_94 f_121 => ?_)
          refine Q_eq (v := .int .i64 x_12) f_121 (by kernel_rfl) (by kernel_rfl) rfl rfl (fun _ _ => by kernel_rfl) (fun a_95 f_122 => ?_)
          have f_123 : Frm 117 [(0, .pointer (some ad0)), (1, .pointer (some ad1)), (8, .int .i64 x_12), (62, .int .i64 (min ((d0.fList.length : Nat) : Int) ((d1.fList.length : Nat) : Int))), (63, .int .i64 s_1)] a_95 := f_122.keep (ks := [0, 1, 8, 62, 63]) (by kernel_rfl)
          refine Q_end rfl ?_
          intro w_15 p_18
          refine T_n ?_
          refine R_seq ?_
          refine R_reg ?_
          refine W_run (L' := [(0, .pointer (some ad0)), (1, .pointer (some ad1)), (8, .int .i64 x_12), (62, .int .i64 (min ((d0.fList.length : Nat) : Int) ((d1.fList.length : Nat) : Int))), (63, .int .i64 s_1), (103, .bool (!(decide (x_12 = 0))))]) (w' := w_15) f_123 2 [0, 1, 8, 62, 63, 103] (by kernel_rfl) (fun a_96 f_124 => ?_)
          refine W_end rfl ?_
          refine T_n ?_
          refine R_cond f_124 (b := !(decide (x_12 = 0))) (by kernel_rfl) (by kernel_rfl) (fun h_14 => ?_) (fun h_14 => ?_)
          · have k_8 : ¬ (x_12 = 0) := (not_iff decide_eq_true_iff).1 h_14
            have hF_24 := cnd_t h_14 hF_23
            refine R_seq ?_
            refine R_reg ?_
            refine W_run (L' := [(4, .int .i64 x_12)]) (w' := w_15) f_124 2 [4] (by kernel_rfl) (fun a_97 f_125 => ?_)
            refine W_end rfl ?_
            refine T_n ?_
            refine wp_ret ?_
            refine B_r ?_
            refine T_r ?_
            refine T_r ?_
            obtain rfl := Option.some.inj hF_24
            exact .inl ⟨rfl, x_12, (Option.some.inj hn_1).symm, M_4, (hM_3.trans hM_4), f_125.keep (ks := [4]) (by kernel_rfl), p_18⟩
          · have k_9 : ¬ (¬ (x_12 = 0)) := iff_f (not_iff decide_eq_true_iff) h_14
            have hF_25 := cnd_f h_14 hF_23
            refine wp_skip ?_
            refine B_n ?_
            refine T_n ?_
            refine R_reg ?_
            obtain ⟨g_2, hF_26⟩ := need_some hF_25
            refine W_run (L' := [(0, .pointer (some ad0)), (1, .pointer (some ad1)), (8, .int .i64 x_12), (62, .int .i64 (min ((d0.fList.length : Nat) : Int) ((d1.fList.length : Nat) : Int))), (63, .int .i64 s_1), (103, .bool (!(decide (x_12 = 0)))), (105, .int .i64 (IntKind.wrap .i64 (s_1 + 1)))]) (w' := w_15) f_124 1 [0, 1, 8, 62, 63, 103, 105] (by kernel_rfl) (fun a_98 f_126 => ?_)
            have f_127 := Frm.set f_126 105 (v := .int .i64 (IntKind.wrap .i64 (s_1 + 1))) (v' := .int .i64 (s_1 + 1)) (by kernel_rfl) (congrArg (Value.int .i64) (inR_wrap g_2))
            have f_128 : Frm 117 [(0, .pointer (some ad0)), (1, .pointer (some ad1)), (8, .int .i64 x_12), (62, .int .i64 (min ((d0.fList.length : Nat) : Int) ((d1.fList.length : Nat) : Int))), (63, .int .i64 s_1), (103, .bool (!(decide (x_12 = 0)))), (105, .int .i64 (s_1 + 1))] a_98 := f_127.keep (ks := [0, 1, 8, 62, 63, 103, 105]) (by kernel_rfl)
            refine W_run (L' := [(0, .pointer (some ad0)), (1, .pointer (some ad1)), (62, .int .i64 (min ((d0.fList.length : Nat) : Int) ((d1.fList.length : Nat) : Int))), (63, .int .i64 (s_1 + 1))]) (w' := w_15) f_128 1 [0, 1, 62, 63] (by kernel_rfl) (fun a_99 f_129 => ?_)
            refine W_end rfl ?_
            refine T_n ?_
            obtain rfl := Option.some.inj hF_26
            exact ⟨⟨m_2, s_1 + 1⟩, Nat.lt_succ_self _, M_4, (hM_3.trans hM_4), hn_1, f_129.keep (ks := [0, 1, 62, 63]) (by kernel_rfl), p_18⟩
      · have k_10 : ¬ (s_1 < (min ((d0.fList.length : Nat) : Int) ((d1.fList.length : Nat) : Int))) := iff_f decide_eq_true_iff h_7
        have hF_27 := cnd_f h_7 hs_1
        refine wp_exit ?_
        refine T_x ?_
        refine T_x ?_
        obtain rfl := Option.some.inj hF_27
        exact .inr ⟨rfl, (), (Option.some.inj hn_1).symm, M_3, hM_3, f_76.keep (ks := [0, 1]) (by kernel_rfl), p_13⟩
    · rintro _ a_102 w_18 (⟨rfl, y_2, rfl, M_5, hM_5, f_130, p_19⟩ | ⟨rfl, y_3, rfl, M_6, hM_6, f_131, p_20⟩)
      · refine B_r ?_
        refine T_r ?_
        refine E_ret1 f_130 rfl (by kernel_rfl : Vc.look _ 4 = some (.int .i64 y_2)) ?_
        obtain rfl := Option.some.inj hF_10
        exact ⟨_, rfl, M_5, (hM_2.trans hM_5), (p_19.dropN 1), rfl⟩
      · refine B_x ?_
        refine T_n ?_
        refine R_seq ?_
        refine R_draw p_20 (by kernel_rfl) (by kernel_rfl) ?_
        refine Q_eq (v := .pointer (some ad0)) f_131 (by kernel_rfl) (by kernel_rfl) rfl rfl (fun _ _ => by kernel_rfl) (fun a_103 f_132 => ?_)
        refine Q_eq (v := .pointer (some ad0)) f_132 (by kernel_rfl) (by kernel_rfl) rfl rfl (fun _ _ => by kernel_rfl) (fun a_104 f_133 => ?_)
        refine Q_eq (v := .pointer (some (ad0.add 4))) f_133 (by kernel_rfl) (by kernel_rfl) rfl rfl (fun _ _ => by kernel_rfl) (fun a_105 f_134 => ?_)
        have f_135 : Frm 117 [(1, .pointer (some ad1)), (108, .pointer (some (ad0.add 4)))] a_105 := f_134.keep (ks := [1, 108]) (by kernel_rfl)
        refine Q_eq (v := .slice A_1 d0.fList.length cap_1) f_135 (by kernel_rfl) (by kernel_rfl) rfl rfl (fun _ pq => X_load1 (v := .slice A_1 d0.fList.length cap_1) rfl (ad := ad0.add 4) (by kernel_rfl) (by kernel_rfl) (pq.cell ((fun j v h => (hM_2.trans hM_6).cell (q0 j v h)) 4 _ rfl))) (fun a_106 f_136 => ?_)
        refine Q_eq (v := .int .i64 ((d0.fList.length : Nat) : Int)) f_136 (by kernel_rfl) (by kernel_rfl) rfl rfl (fun _ _ => by kernel_rfl) (fun a_107 f_137 => ?_)
        refine Q_eq (v := .pointer (some ad1)) f_137 (by kernel_rfl) (by kernel_rfl) rfl rfl (fun _ _ => by kernel_rfl) (fun a_108 f_138 => ?_)
        refine Q_eq (v := .pointer (some ad1)) f_138 (by kernel_rfl) (by kernel_rfl) rfl rfl (fun _ _ => by kernel_rfl) (fun a_109 f_139 => ?_)
        refine Q_eq (v := .pointer (some (ad1.add 4))) f_139 (by kernel_rfl) (by kernel_rfl) rfl rfl (fun _ _ => by kernel_rfl) (fun a_110 f_140 => ?_)
        have f_141 : Frm 117 [(110, .int .i64 ((d0.fList.length : Nat) : Int)), (113, .pointer (some (ad1.add 4)))] a_110 := f_140.keep (ks := [110, 113]) (by kernel_rfl)
        refine Q_eq (v := .slice A_3 d1.fList.length cap_3) f_141 (by kernel_rfl) (by kernel_rfl) rfl rfl (fun _ pq => X_load1 (v := .slice A_3 d1.fList.length cap_3) rfl (ad := ad1.add 4) (by kernel_rfl) (by kernel_rfl) (pq.cell ((fun j v h => (hM_2.trans hM_6).cell (q1 j v h)) 4 _ rfl))) (fun a_111 f_142 => ?_)
        refine Q_eq (v := .int .i64 ((d1.fList.length : Nat) : Int)) f_142 (by kernel_rfl) (by kernel_rfl) rfl rfl (fun _ _ => by kernel_rfl) (fun a_112 f_143 => ?_)
        have f_144 : Frm 117 [(110, .int .i64 ((d0.fList.length : Nat) : Int)), (115, .int .i64 ((d1.fList.length : Nat) : Int))] a_112 := f_143.keep (ks := [110, 115]) (by kernel_rfl)
        obtain ⟨x_13, hx_13, hF_28⟩ := bind_some' hF_10
        refine Q_okv (v := .int .i64 x_13) f_144 (by kernel_rfl) (by kernel_rfl) rfl rfl (fun _ => by kernel_rfl) (cmp_Compare_2_ok n _ (GL.mono (hM_2.trans hM_6) hG) ((d0.fList.length : Nat) : Int) ((d1.fList.length : Nat) : Int) x_13 hx_13) (fun a_113 f_145 => ?_)
        refine Q_eq (v := .int .i64 x_13) f_145 (by kernel_rfl) (by kernel_rfl) rfl rfl (fun _ _ => by kernel_rfl) (fun a_114 f_146 => ?_)
        have f_147 : Frm 117 [(4, .int .i64 x_13)] a_114 := f_146.keep (ks := [4]) (by kernel_rfl)
        refine Q_end rfl ?_
        intro w_20 p_22
        refine T_n ?_
        refine wp_ret ?_
        refine E_ret1 f_147 rfl (by kernel_rfl : Vc.look _ 4 = some (.int .i64 x_13)) ?_
        obtain rfl := Option.some.inj hF_28
        exact ⟨_, rfl, M_6, (hM_2.trans hM_6), (p_22.dropN 1), rfl⟩
def tree_compare_k (n : Nat) : Nat → T_api_Value → T_api_Value → Option Int
  | 0 => fun _ _ => none
  | k + 1 => tree_compare_b n (tree_compare_k n k)
def tree_compare (n : Nat) (d0 : T_api_Value) (d1 : T_api_Value) : Option Int := tree_compare_k n n d0 d1
theorem tree_compare_ok (n : Nat) (M : Mem) (hG : GL M) (ad0 : Addr) (c0 : List Value) (d0 : T_api_Value) (h0 : Rep M (emb_T_api_Value d0) c0) (q0 : ∀ j v, c0[j]? = some v → M.cell? (ad0.add j) = some v) (ad1 : Addr) (c1 : List Value) (d1 : T_api_Value) (h1 : Rep M (emb_T_api_Value d1) c1) (q1 : ∀ j v, c1[j]? = some v → M.cell? (ad1.add j) = some v) (r : Int) (hF : tree_compare n d0 d1 = some r) : Ok Tryd.prog M 57 [.pointer (some ad0), .pointer (some ad1)] (fun _ v => v = .int .i64 r) := by
  have key : ∀ (k : Nat) (M : Mem) (hG : GL M) (ad0 : Addr) (c0 : List Value) (d0 : T_api_Value) (h0 : Rep M (emb_T_api_Value d0) c0) (q0 : ∀ j v, c0[j]? = some v → M.cell? (ad0.add j) = some v) (ad1 : Addr) (c1 : List Value) (d1 : T_api_Value) (h1 : Rep M (emb_T_api_Value d1) c1) (q1 : ∀ j v, c1[j]? = some v → M.cell? (ad1.add j) = some v) (r : Int) (hF : tree_compare_k n k d0 d1 = some r), Ok Tryd.prog M 57 [.pointer (some ad0), .pointer (some ad1)] (fun _ v => v = .int .i64 r) := by
    intro k
    induction k with
    | zero => intro M hG ad0 c0 d0 h0 q0 ad1 c1 d1 h1 q1 r hF; simp [tree_compare_k] at hF
    | succ k ih => intro M hG ad0 c0 d0 h0 q0 ad1 c1 d1 h1 q1 r hF; exact tree_compare_b_ok n (tree_compare_k n k) ih M hG ad0 c0 d0 h0 q0 ad1 c1 d1 h1 q1 r hF
  exact key n M hG ad0 c0 d0 h0 q0 ad1 c1 d1 h1 q1 r hF
end Go.Proofs.YtekkifakjkhjiaaDoor
