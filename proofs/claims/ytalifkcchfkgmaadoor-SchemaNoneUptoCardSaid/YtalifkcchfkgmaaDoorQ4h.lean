/-
  Printed by a program: of each function its shallow reading, and the proof that the function gives what the reading gives. No condition.
-/
import Derived.Test.YtalifkcchfkgmaaDoorQ1
import Derived.Test.YtalifkcchfkgmaaDoorTy
import Derived.Test.YtalifkcchfkgmaaDoorQ3c
import Derived.Test.YtalifkcchfkgmaaDoorHd
set_option linter.unusedVariables false
set_option linter.unusedSimpArgs false
namespace Go.Proofs.YtalifkcchfkgmaaDoor
open Go Go.Vc Go.RowKit
def tree_bit (n : Nat) (d0 : Bool) : Option Int :=
  bif d0 then
    (some ((1 : Int)))
  else
    some ((0 : Int))
theorem tree_bit_ok (n : Nat) (M : Mem) (hG : GL M) (d0 : Bool) (r : Int) (hF : tree_bit n d0 = some r) : Ok Tryd.prog M 105 [.bool d0] (fun _ v => v = .int .i64 r) := by
  unfold tree_bit at hF
  intro M1 hM0 w0 H w p0
  replace hG := GL.mono hM0 hG
  refine R_enter 4 Tryd.func105 rfl rfl (by simp) (fun a0 f0 => ?_)
  refine R_seq (R_reg ?_)
  refine V_run f0 1 (by kernel_rfl) (fun a_1 f_1 => ?_)
  refine W_end rfl (T_n (R_seq (R_seq (R_reg ?_))))
  refine V_run f_1 1 (by kernel_rfl) (fun a_2 f_2 => ?_)
  refine W_end rfl (T_n ?_)
  refine R_cond f_2 (b := d0) (by kernel_rfl) (by kernel_rfl) (fun h_1 => ?_) (fun h_1 => ?_)
  · have hF_1 := cnd_t h_1 hF
    refine R_seq (R_reg ?_)
    refine V_run f_2 1 (by kernel_rfl) (fun a_3 f_3 => ?_)
    refine W_end rfl (T_n (wp_ret (T_r ?_)))
    refine E_ret1 f_3 rfl (by kernel_rfl : Vc.look _ 2 = some (.int .i64 1)) ?_
    obtain rfl := Option.some.inj hF_1
    exact ⟨_, rfl, M1, (Mem.le_refl _), p0, rfl⟩
  · have hF_2 := cnd_f h_1 hF
    refine wp_skip (T_n (R_seq (R_reg ?_)))
    refine V_run f_2 1 (by kernel_rfl) (fun a_4 f_4 => ?_)
    refine W_end rfl (T_n (wp_ret ?_))
    refine E_ret1 f_4 rfl (by kernel_rfl : Vc.look _ 2 = some (.int .i64 0)) ?_
    obtain rfl := Option.some.inj hF_2
    exact ⟨_, rfl, M1, (Mem.le_refl _), p0, rfl⟩

def cmp_isNaN_2 (n : Nat) (d0 : Int) : Option Bool :=
  some ((false))
theorem cmp_isNaN_2_ok (n : Nat) (M : Mem) (hG : GL M) (d0 : Int) (r : Bool) (hF : cmp_isNaN_2 n d0 = some r) : Ok Tryd.prog M 117 [.int .i64 d0] (fun _ v => v = .bool r) := by
  unfold cmp_isNaN_2 at hF
  intro M1 hM0 w0 H w p0
  replace hG := GL.mono hM0 hG
  refine R_enter 6 Tryd.func117 rfl rfl (by simp) (fun a0 f0 => ?_)
  refine R_seq (R_reg ?_)
  refine V_run f0 1 (by kernel_rfl) (fun a_1 f_1 => ?_)
  refine W_end rfl (T_n (R_seq (R_reg ?_)))
  refine V_run f_1 2 (by kernel_rfl) (fun a_2 f_2 => ?_)
  refine V_run f_2 1 (by kernel_rfl) (fun a_3 f_3 => ?_)
  have f_4 := Frm.set f_3 5 (v := .bool (!(decide (d0 = d0)))) (v' := .bool false) (by kernel_rfl) (congrArg Value.bool (congrArg (!·) (decide_eq_true rfl)))
  refine V_run f_4 1 (by kernel_rfl) (fun a_4 f_5 => ?_)
  refine W_end rfl (T_n (wp_ret ?_))
  refine E_ret1 f_5 rfl (by kernel_rfl : Vc.look _ 2 = some (.bool false)) ?_
  obtain rfl := Option.some.inj hF
  exact ⟨_, rfl, M1, (Mem.le_refl _), p0, rfl⟩

def cmp_Compare_2 (n : Nat) (d0 : Int) (d1 : Int) : Option Int :=
  (cmp_isNaN_2 n d0).bind fun x_1 =>
  (cmp_isNaN_2 n d1).bind fun x_2 =>
  bif x_1 then
    (bif x_2 then
      (some ((0 : Int)))
    else
      some ((-1 : Int)))
  else
    bif x_2 then
      (some ((1 : Int)))
    else
      bif (decide (d0 < d1)) then
        (some ((-1 : Int)))
      else
        bif (decide (d1 < d0)) then
          (some ((1 : Int)))
        else
          some ((0 : Int))
set_option maxHeartbeats 2000000 in
theorem cmp_Compare_2_ok (n : Nat) (M : Mem) (hG : GL M) (d0 : Int) (d1 : Int) (r : Int) (hF : cmp_Compare_2 n d0 d1 = some r) : Ok Tryd.prog M 106 [.int .i64 d0, .int .i64 d1] (fun _ v => v = .int .i64 r) := by
  unfold cmp_Compare_2 at hF
  intro M1 hM0 w0 H w p0
  replace hG := GL.mono hM0 hG
  refine R_enter 20 Tryd.func106 rfl rfl (by simp) (fun a0 f0 => ?_)
  refine R_seq (R_reg ?_)
  refine V_run f0 1 (by kernel_rfl) (fun a_1 f_1 => ?_)
  refine W_end rfl (T_n (R_seq (R_reg ?_)))
  refine V_run f_1 1 (by kernel_rfl) (fun a_2 f_2 => ?_)
  obtain ⟨x_1, hx_1, hF_1⟩ := bind_some' hF
  refine V_okv f_2 p0 (cmp_isNaN_2_ok n _ hG d0 x_1 hx_1) (by kernel_rfl) (fun _ => by kernel_rfl) (fun w_1 p_1 a_3 f_3 => ?_)
  refine V_run f_3 1 (by kernel_rfl) (fun a_4 f_4 => ?_)
  refine W_end rfl (T_n (R_seq (R_reg ?_)))
  refine V_run f_4 1 (by kernel_rfl) (fun a_5 f_5 => ?_)
  obtain ⟨x_2, hx_2, hF_2⟩ := bind_some' hF_1
  refine V_okv f_5 p_1 (cmp_isNaN_2_ok n _ hG d1 x_2 hx_2) (by kernel_rfl) (fun _ => by kernel_rfl) (fun w_2 p_2 a_6 f_6 => ?_)
  refine V_run f_6 1 (by kernel_rfl) (fun a_7 f_7 => ?_)
  refine W_end rfl (T_n (R_seq (R_seq (R_reg ?_))))
  refine V_run f_7 1 (by kernel_rfl) (fun a_8 f_8 => ?_)
  refine W_end rfl (T_n ?_)
  refine R_cond f_8 (b := x_1) (by kernel_rfl) (by kernel_rfl) (fun h_1 => ?_) (fun h_1 => ?_)
  · have hF_3 := cnd_t h_1 hF_2
    refine R_seq (R_seq (R_reg ?_))
    refine V_run f_8 1 (by kernel_rfl) (fun a_9 f_9 => ?_)
    refine W_end rfl (T_n ?_)
    refine R_cond f_9 (b := x_2) (by kernel_rfl) (by kernel_rfl) (fun h_2 => ?_) (fun h_2 => ?_)
    · have hF_4 := cnd_t h_2 hF_3
      refine R_seq (R_reg ?_)
      refine V_run f_9 1 (by kernel_rfl) (fun a_10 f_10 => ?_)
      refine W_end rfl (T_n (wp_ret (T_r (T_r ?_))))
      refine E_ret1 f_10 rfl (by kernel_rfl : Vc.look _ 4 = some (.int .i64 0)) ?_
      obtain rfl := Option.some.inj hF_4
      exact ⟨_, rfl, M1, (Mem.le_refl _), p_2, rfl⟩
    · have hF_5 := cnd_f h_2 hF_3
      refine wp_skip (T_n (R_seq (R_reg ?_)))
      refine V_run f_9 1 (by kernel_rfl) (fun a_11 f_11 => ?_)
      refine W_end rfl (T_n (wp_ret (T_r ?_)))
      refine E_ret1 f_11 rfl (by kernel_rfl : Vc.look _ 4 = some (.int .i64 (-1))) ?_
      obtain rfl := Option.some.inj hF_5
      exact ⟨_, rfl, M1, (Mem.le_refl _), p_2, rfl⟩
  · have hF_6 := cnd_f h_1 hF_2
    refine wp_skip (T_n (R_seq (R_seq (R_reg ?_))))
    refine V_run f_8 1 (by kernel_rfl) (fun a_12 f_12 => ?_)
    refine W_end rfl (T_n ?_)
    refine R_cond f_12 (b := x_2) (by kernel_rfl) (by kernel_rfl) (fun h_3 => ?_) (fun h_3 => ?_)
    · have hF_7 := cnd_t h_3 hF_6
      refine R_seq (R_reg ?_)
      refine V_run f_12 1 (by kernel_rfl) (fun a_13 f_13 => ?_)
      refine W_end rfl (T_n (wp_ret (T_r ?_)))
      refine E_ret1 f_13 rfl (by kernel_rfl : Vc.look _ 4 = some (.int .i64 1)) ?_
      obtain rfl := Option.some.inj hF_7
      exact ⟨_, rfl, M1, (Mem.le_refl _), p_2, rfl⟩
    · have hF_8 := cnd_f h_3 hF_6
      refine wp_skip (T_n (R_seq (R_seq (R_reg ?_))))
      refine V_run f_12 3 (by kernel_rfl) (fun a_14 f_14 => ?_)
      refine W_end rfl (T_n ?_)
      refine R_cond f_14 (b := decide (d0 < d1)) (by kernel_rfl) (by kernel_rfl) (fun h_4 => ?_) (fun h_4 => ?_)
      · have k_7 : d0 < d1 := decide_eq_true_iff.1 h_4
        have hF_9 := cnd_t h_4 hF_8
        refine R_seq (R_reg ?_)
        refine V_run f_14 1 (by kernel_rfl) (fun a_15 f_15 => ?_)
        refine W_end rfl (T_n (wp_ret (T_r ?_)))
        refine E_ret1 f_15 rfl (by kernel_rfl : Vc.look _ 4 = some (.int .i64 (-1))) ?_
        obtain rfl := Option.some.inj hF_9
        exact ⟨_, rfl, M1, (Mem.le_refl _), p_2, rfl⟩
      · have k_8 : ¬ (d0 < d1) := iff_f decide_eq_true_iff h_4
        have hF_10 := cnd_f h_4 hF_8
        refine wp_skip (T_n (R_seq (R_seq (R_reg ?_))))
        refine V_run f_14 3 (by kernel_rfl) (fun a_16 f_16 => ?_)
        refine W_end rfl (T_n ?_)
        refine R_cond f_16 (b := decide (d1 < d0)) (by kernel_rfl) (by kernel_rfl) (fun h_5 => ?_) (fun h_5 => ?_)
        · have k_9 : d1 < d0 := decide_eq_true_iff.1 h_5
          have hF_11 := cnd_t h_5 hF_10
          refine R_seq (R_reg ?_)
          refine V_run f_16 1 (by kernel_rfl) (fun a_17 f_17 => ?_)
          refine W_end rfl (T_n (wp_ret (T_r ?_)))
          refine E_ret1 f_17 rfl (by kernel_rfl : Vc.look _ 4 = some (.int .i64 1)) ?_
          obtain rfl := Option.some.inj hF_11
          exact ⟨_, rfl, M1, (Mem.le_refl _), p_2, rfl⟩
        · have k_10 : ¬ (d1 < d0) := iff_f decide_eq_true_iff h_5
          have hF_12 := cnd_f h_5 hF_10
          refine wp_skip (T_n (R_seq (R_reg ?_)))
          refine V_run f_16 1 (by kernel_rfl) (fun a_18 f_18 => ?_)
          refine W_end rfl (T_n (wp_ret ?_))
          refine E_ret1 f_18 rfl (by kernel_rfl : Vc.look _ 4 = some (.int .i64 0)) ?_
          obtain rfl := Option.some.inj hF_12
          exact ⟨_, rfl, M1, (Mem.le_refl _), p_2, rfl⟩

def cmp_Or_s1 (n : Nat) (d0 : List Int) (s_1 : Int) : Option (Lp Int (Sum Int Unit)) :=
    bif (decide (s_1 < ((d0.length : Nat) : Int))) then
      ((getI d0 s_1).bind fun x_1 =>
      bif (!(decide (x_1 = 0))) then
        (some (.br (.inl x_1)))
      else
        need (inR .i64 (s_1 + 1)) <|
        some (.nx (s_1 + 1)))
    else
      some (.br (.inr ()))
def cmp_Or (n : Nat) (d0 : List Int) : Option Int :=
  (loopF (cmp_Or_s1 n d0) n (0 : Int)).bind fun b_1 =>
  (match b_1 with 
  | .inl y_1 => some (y_1) 
  | .inr y_2 => some ((0 : Int)))
set_option maxHeartbeats 2000000 in
theorem cmp_Or_ok (n : Nat) (M : Mem) (hG : GL M) (A0 : Option Addr) (cap0 : Nat) (d0 : List Int) (h0 : Sli M 1 (Dat.int .i64) A0 cap0 d0) (r : Int) (hF : cmp_Or n d0 = some r) : Ok Tryd.prog M 103 [.slice A0 d0.length cap0] (fun _ v => v = .int .i64 r) := by
  unfold cmp_Or at hF
  intro M1 hM0 w0 H w p0
  replace hG := GL.mono hM0 hG
  replace h0 := h0.mono hM0
  refine R_enter 18 Tryd.func103 rfl rfl (by simp) (fun a0 f0 => ?_)
  refine R_seq (R_reg ?_)
  refine V_run f0 1 (by kernel_rfl) (fun a_1 f_1 => ?_)
  refine W_end rfl (T_n (R_seq (R_reg ?_)))
  refine V_run f_1 1 (by kernel_rfl) (fun a_2 f_2 => ?_)
  refine W_end rfl (T_n (R_seq (R_seq (R_reg ?_))))
  refine V_run f_2 3 (by kernel_rfl) (fun a_3 f_3 => ?_)
  refine W_end rfl (T_n (wp_block ?_))
  obtain ⟨b_1, hL_1, hF_1⟩ := bind_some' hF
  refine wp_mono (Q := fun e a w => (e = .ret ∧ (∃ y_1 : Int, b_1 = .inl y_1 ∧ ∃ M_2 : Mem, M1.le M_2 ∧ Frm 18 [(2, .int .i64 y_1)] a ∧ Hp w0 M_2 (H) w)) ∨ (e = .exit 0 ∧ (∃ y_2 : Unit, b_1 = .inr y_2 ∧ ∃ M_3 : Mem, M1.le M_3 ∧ Frm 18 [(3, .int .i64 0)] a ∧ Hp w0 M_3 (H) w))) (R_loop (n := 18) (w0 := w0) (M := M1) (fun (x : Nat × Int) => match x with | (m_1, s_1) => [(3, .int .i64 0), (6, .slice A0 d0.length cap0), (7, .int .i64 ((d0.length : Nat) : Int)), (8, .int .i64 s_1)]) (fun (x : Nat × Int) => match x with | (m_1, s_1) => (H)) (fun (x : Nat × Int) (MM : Mem) => match x with | (m_1, s_1) => loopF (cmp_Or_s1 n d0) m_1 s_1 = some b_1) (fun (x : Nat × Int) => match x with | (m_1, s_1) => m_1) (n, (0 : Int)) (f_3.keep (ks := [3, 6, 7, 8]) (by kernel_rfl)) p0 hL_1 ?_) ?_
  · rintro ⟨m_1, s_1⟩ M_1 a_4 w_1 hM_1 I_1 f_4 p_1
    have I_1L := I_1
    obtain ⟨m_2, r_1, rfl, hs_1, hn_1⟩ := loop_step I_1L
    unfold cmp_Or_s1 at hs_1
    refine R_seq (R_reg ?_)
    refine V_run f_4 1 (by kernel_rfl) (fun a_5 f_5 => ?_)
    refine W_end rfl (T_n (R_seq ?_))
    refine R_cond f_5 (b := decide (s_1 < ((d0.length : Nat) : Int))) (by kernel_rfl) (by kernel_rfl) (fun h_1 => ?_) (fun h_1 => ?_)
    · have k_1 : s_1 < ((d0.length : Nat) : Int) := decide_eq_true_iff.1 h_1
      have hF_2 := cnd_t h_1 hs_1
      refine wp_skip (T_n (R_seq (wp_block (R_seq (R_reg ?_)))))
      obtain ⟨x_1, hx_1, hF_3⟩ := bind_some' hF_2
      obtain ⟨ad_1, c_1, e_1, hl_1, hr_1, hc_1⟩ := Sli.at_ (h0.mono hM_1) hx_1
      clear hl_1
      obtain rfl : c_1 = [.int .i64 x_1] := hr_1
      refine V_eq (v := .pointer (some (ad_1.add (s_1.toNat * 1)))) f_5 (by kernel_rfl) (X_indexAddrA e_1 rfl (len := d0.length) (cap := cap0) (k := .i64) (i := s_1) (by kernel_rfl) (by kernel_rfl) (e := 3) (by kernel_rfl) (sz := 1) (by kernel_rfl) (getI_nn hx_1) (getI_lt hx_1)) (fun a_6 f_6 => ?_)
      refine V_ld f_6 p_1 hc_1 0 rfl (by kernel_rfl) (by kernel_rfl) (fun a_7 f_7 => ?_)
      refine V_run f_7 1 (by kernel_rfl) (fun a_8 f_8 => ?_)
      refine W_end rfl (T_n (R_seq (R_reg ?_)))
      refine V_run f_8 3 (by kernel_rfl) (fun a_9 f_9 => ?_)
      refine W_end rfl (T_n ?_)
      refine R_cond f_9 (b := !(decide (x_1 = 0))) (by kernel_rfl) (by kernel_rfl) (fun h_2 => ?_) (fun h_2 => ?_)
      · have k_2 : ¬ (x_1 = 0) := (not_iff decide_eq_true_iff).1 h_2
        have hF_4 := cnd_t h_2 hF_3
        refine R_seq (R_reg ?_)
        refine V_run f_9 2 (by kernel_rfl) (fun a_10 f_10 => ?_)
        refine W_end rfl (T_n (wp_ret (B_r (T_r (T_r ?_)))))
        obtain rfl := Option.some.inj hF_4
        exact .inl ⟨rfl, x_1, (Option.some.inj hn_1).symm, M_1, hM_1, f_10.keep (ks := [2]) (by kernel_rfl), p_1⟩
      · have k_3 : ¬ (¬ (x_1 = 0)) := iff_f (not_iff decide_eq_true_iff) h_2
        have hF_5 := cnd_f h_2 hF_3
        refine wp_skip (B_n (T_n (R_reg ?_)))
        obtain ⟨g_1, hF_6⟩ := need_some hF_5
        refine V_run f_9 1 (by kernel_rfl) (fun a_11 f_11 => ?_)
        have f_12 := Frm.set f_11 16 (v := .int .i64 (IntKind.wrap .i64 (s_1 + 1))) (v' := .int .i64 (s_1 + 1)) (by kernel_rfl) (congrArg (Value.int .i64) (inR_wrap g_1))
        refine V_run f_12 1 (by kernel_rfl) (fun a_12 f_13 => ?_)
        refine W_end rfl (T_n ?_)
        obtain rfl := Option.some.inj hF_6
        exact ⟨⟨m_2, s_1 + 1⟩, Nat.lt_succ_self _, M_1, hM_1, hn_1, f_13.keep (ks := [3, 6, 7, 8]) (by kernel_rfl), p_1⟩
    · have k_4 : ¬ (s_1 < ((d0.length : Nat) : Int)) := iff_f decide_eq_true_iff h_1
      have hF_7 := cnd_f h_1 hs_1
      refine wp_exit (T_x (T_x ?_))
      obtain rfl := Option.some.inj hF_7
      exact .inr ⟨rfl, (), (Option.some.inj hn_1).symm, M_1, hM_1, f_5.keep (ks := [3]) (by kernel_rfl), p_1⟩
  · rintro _ a_15 w_4 (⟨rfl, y_1, rfl, M_2, hM_2, f_14, p_2⟩ | ⟨rfl, y_2, rfl, M_3, hM_3, f_15, p_3⟩)
    · refine B_r (T_r ?_)
      refine E_ret1 f_14 rfl (by kernel_rfl : Vc.look _ 2 = some (.int .i64 y_1)) ?_
      obtain rfl := Option.some.inj hF_1
      exact ⟨_, rfl, M_2, hM_2, p_2, rfl⟩
    · refine B_x (T_n (R_seq (R_reg ?_)))
      refine V_run f_15 2 (by kernel_rfl) (fun a_16 f_16 => ?_)
      refine W_end rfl (T_n (wp_ret ?_))
      refine E_ret1 f_16 rfl (by kernel_rfl : Vc.look _ 2 = some (.int .i64 0)) ?_
      obtain rfl := Option.some.inj hF_1
      exact ⟨_, rfl, M_3, hM_3, p_3, rfl⟩

def tree_compare_s1 (n : Nat) (rec_tree_compare : T_api_Value → T_api_Value → Option Int) (d0 : T_api_Value) (d1 : T_api_Value) (s_1 : Int) : Option (Lp Int (Sum Int Unit)) :=
    bif (decide (s_1 < (min ((d0.fList.length : Nat) : Int) ((d1.fList.length : Nat) : Int)))) then
      (((bif (decide (d0.fKind = 5)) then
          ((getI d0.fKeys s_1).bind fun x_7 =>
          (getI d1.fKeys s_1).bind fun x_8 =>
          (h_Compare n x_7 x_8).bind fun x_9 =>
          bif (!(decide (x_9 = 0))) then
            (((some (.br (.inl x_9)) : Option (Lp Int (Sum Int Unit)))).map Lp.br)
          else
            some (.nx ()))
        else
          some (.nx ()) : Option (Lp Unit (Lp Int (Sum Int Unit))))).bind fun j => joinF j fun y_1 =>
      (getI d0.fList s_1).bind fun x_10 =>
      (getI d1.fList s_1).bind fun x_11 =>
      (rec_tree_compare x_10 x_11).bind fun x_12 =>
      bif (!(decide (x_12 = 0))) then
        (some (.br (.inl x_12)))
      else
        need (inR .i64 (s_1 + 1)) <|
        some (.nx (s_1 + 1)))
    else
      some (.br (.inr ()))
def tree_compare_b (n : Nat) (rec_tree_compare : T_api_Value → T_api_Value → Option Int) (d0 : T_api_Value) (d1 : T_api_Value) : Option Int :=
  (cmp_Compare n d0.fKind d1.fKind).bind fun x_1 =>
  (tree_bit n (d0.fBool)).bind fun x_2 =>
  (tree_bit n (d1.fBool)).bind fun x_3 =>
  need (inR .i64 (x_2 - x_3)) <|
  (cmp_Compare_2 n d0.fNum d1.fNum).bind fun x_4 =>
  (h_Compare n d0.fText d1.fText).bind fun x_5 =>
  (cmp_Or n [x_1, x_2 - x_3, x_4, x_5]).bind fun x_6 =>
  bif (!(decide (x_6 = 0))) then
    (some (x_6))
  else
    (loopF (tree_compare_s1 n rec_tree_compare d0 d1) n (0 : Int)).bind fun b_2 =>
    (match b_2 with 
    | .inl y_2 => some (y_2) 
    | .inr y_3 => (cmp_Compare_2 n ((d0.fList.length : Nat) : Int) ((d1.fList.length : Nat) : Int)).bind fun x_13 =>
      some (x_13))
set_option maxHeartbeats 2000000 in
theorem tree_compare_b_ok (n : Nat) (rec_tree_compare : T_api_Value → T_api_Value → Option Int) (hrec_tree_compare : ∀ (M : Mem) (hG : GL M) (ad0 : Addr) (c0 : List Value) (d0 : T_api_Value) (h0 : Rep M (emb_T_api_Value d0) c0) (q0 : ∀ j v, c0[j]? = some v → M.cell? (ad0.add j) = some v) (ad1 : Addr) (c1 : List Value) (d1 : T_api_Value) (h1 : Rep M (emb_T_api_Value d1) c1) (q1 : ∀ j v, c1[j]? = some v → M.cell? (ad1.add j) = some v) (r : Int) (hF : rec_tree_compare d0 d1 = some r), Ok Tryd.prog M 89 [.pointer (some ad0), .pointer (some ad1)] (fun _ v => v = .int .i64 r)) (M : Mem) (hG : GL M) (ad0 : Addr) (c0 : List Value) (d0 : T_api_Value) (h0 : Rep M (emb_T_api_Value d0) c0) (q0 : ∀ j v, c0[j]? = some v → M.cell? (ad0.add j) = some v) (ad1 : Addr) (c1 : List Value) (d1 : T_api_Value) (h1 : Rep M (emb_T_api_Value d1) c1) (q1 : ∀ j v, c1[j]? = some v → M.cell? (ad1.add j) = some v) (r : Int) (hF : tree_compare_b n rec_tree_compare d0 d1 = some r) : Ok Tryd.prog M 89 [.pointer (some ad0), .pointer (some ad1)] (fun _ v => v = .int .i64 r) := by
  unfold tree_compare_b at hF
  intro M1 hM0 w0 H w p0
  replace hG := GL.mono hM0 hG
  replace h0 := Rep.mono hM0 _ _ h0
  replace q0 := fun j v h => hM0.cell (q0 j v h)
  replace h1 := Rep.mono hM0 _ _ h1
  replace q1 := fun j v h => hM0.cell (q1 j v h)
  obtain ⟨A_1, cap_1, A_2, cap_2, rfl, h_1, h_2⟩ := T_api_Value.opn h0
  obtain ⟨A_3, cap_3, A_4, cap_4, rfl, h_3, h_4⟩ := T_api_Value.opn h1
  refine R_enter 117 Tryd.func89 rfl rfl (by simp) (fun a0 f0 => ?_)
  refine R_seq (R_reg ?_)
  refine V_run f0 1 (by kernel_rfl) (fun a_1 f_1 => ?_)
  refine W_end rfl (T_n (R_seq (R_seq ?_)))
  refine R_drawQ 38 p0 (by kernel_rfl) (by kernel_rfl) ?_
  refine Q_run default f_1 3 (fun _ => by kernel_rfl) (fun a_2 f_2 => ?_)
  refine Q_ld f_2 q0 0 rfl (by kernel_rfl) (by kernel_rfl) (fun a_3 f_3 => ?_)
  refine Q_run default f_3 3 (fun _ => by kernel_rfl) (fun a_4 f_4 => ?_)
  refine Q_ld f_4 q1 0 rfl (by kernel_rfl) (by kernel_rfl) (fun a_5 f_5 => ?_)
  obtain ⟨x_1, hx_1, hF_1⟩ := bind_some' hF
  refine QV_okv f_5 (cmp_Compare_ok n _ d0.fKind d1.fKind x_1 hx_1) (by kernel_rfl) (fun _ => by kernel_rfl) (fun a_6 f_6 => ?_)
  refine Q_run default f_6 3 (fun _ => by kernel_rfl) (fun a_7 f_7 => ?_)
  refine Q_ld f_7 q0 1 rfl (by kernel_rfl) (by kernel_rfl) (fun a_8 f_8 => ?_)
  obtain ⟨x_2, hx_2, hF_2⟩ := bind_some' hF_1
  refine QV_okv f_8 (tree_bit_ok n _ hG (d0.fBool) x_2 hx_2) (by kernel_rfl) (fun _ => by kernel_rfl) (fun a_9 f_9 => ?_)
  refine Q_run default f_9 3 (fun _ => by kernel_rfl) (fun a_10 f_10 => ?_)
  refine Q_ld f_10 q1 1 rfl (by kernel_rfl) (by kernel_rfl) (fun a_11 f_11 => ?_)
  obtain ⟨x_3, hx_3, hF_3⟩ := bind_some' hF_2
  refine QV_okv f_11 (tree_bit_ok n _ hG (d1.fBool) x_3 hx_3) (by kernel_rfl) (fun _ => by kernel_rfl) (fun a_12 f_12 => ?_)
  obtain ⟨g_1, hF_4⟩ := need_some hF_3
  refine QV_eq (v := .int .i64 (IntKind.wrap .i64 (x_2 - x_3))) f_12 (by kernel_rfl) (fun _ pq => by kernel_rfl) (fun a_13 f_13 => ?_)
  have f_14 := Frm.set f_13 28 (v := .int .i64 (IntKind.wrap .i64 (x_2 - x_3))) (v' := .int .i64 (x_2 - x_3)) (by kernel_rfl) (congrArg (Value.int .i64) (inR_wrap g_1))
  refine Q_run default f_14 3 (fun _ => by kernel_rfl) (fun a_14 f_15 => ?_)
  refine Q_ld f_15 q0 2 rfl (by kernel_rfl) (by kernel_rfl) (fun a_15 f_16 => ?_)
  refine Q_run default f_16 3 (fun _ => by kernel_rfl) (fun a_16 f_17 => ?_)
  refine Q_ld f_17 q1 2 rfl (by kernel_rfl) (by kernel_rfl) (fun a_17 f_18 => ?_)
  obtain ⟨x_4, hx_4, hF_5⟩ := bind_some' hF_4
  refine QV_okv f_18 (cmp_Compare_2_ok n _ hG d0.fNum d1.fNum x_4 hx_4) (by kernel_rfl) (fun _ => by kernel_rfl) (fun a_18 f_19 => ?_)
  refine Q_run default f_19 3 (fun _ => by kernel_rfl) (fun a_19 f_20 => ?_)
  refine Q_ld f_20 q0 3 rfl (by kernel_rfl) (by kernel_rfl) (fun a_20 f_21 => ?_)
  refine Q_run default f_21 3 (fun _ => by kernel_rfl) (fun a_21 f_22 => ?_)
  refine Q_ld f_22 q1 3 rfl (by kernel_rfl) (by kernel_rfl) (fun a_22 f_23 => ?_)
  obtain ⟨x_5, hx_5, hF_6⟩ := bind_some' hF_5
  refine QV_okv f_23 (h_Compare_ok n _ d0.fText d1.fText x_5 hx_5) (by kernel_rfl) (fun _ => by kernel_rfl) (fun a_23 f_24 => ?_)
  refine Q_end rfl ?_
  intro w_1 p_1
  refine V_allocS (k := 4) (c := 4) f_24 p_1 (.cells #[.int .i64 x_1, .int .i64 (x_2 - x_3), .int .i64 x_4, .int .i64 x_5] 3 (0, 0)) (by kernel_rfl) (fun _ => by kernel_rfl) (fun b_1 w_7 p_7 a_24 f_25 => ?_)
  have hr_1 : RepSeq M1 ([x_1, x_2 - x_3, x_4, x_5].map (Dat.int .i64)) [.int .i64 x_1, .int .i64 (x_2 - x_3), .int .i64 x_4, .int .i64 x_5] := ⟨_, _, rfl, rfl, ⟨_, _, rfl, rfl, ⟨_, _, rfl, rfl, ⟨_, _, rfl, rfl, rfl⟩⟩⟩⟩
  have p_8 : Hp w0 M1 ((Ent.row 3 1 (.slice (some ⟨b_1, 0, none⟩) 4 4) [x_1, x_2 - x_3, x_4, x_5].length [.int .i64 x_1, .int .i64 (x_2 - x_3), .int .i64 x_4, .int .i64 x_5]) :: H) w_7 := p_7.objRow (n := 4) (cap := 4) (size := 1) (by decide) (by decide) rfl rfl rfl
  obtain ⟨M_1, A_5, cap_5, hM_1, hv_1, p_9, h_5, hb_1⟩ := p_8.lend (f := (Dat.int .i64)) (xs := [x_1, x_2 - x_3, x_4, x_5]) (szd_int .i64) hr_1
  have f_26 := Frm.set f_25 47 (v := .slice (some ⟨b_1, 0, none⟩) 4 4) (v' := .slice A_5 [x_1, x_2 - x_3, x_4, x_5].length cap_5) (by kernel_rfl) (hv_1)
  obtain ⟨x_6, hx_6, hF_7⟩ := bind_some' hF_6
  refine V_okv f_26 p_9 (cmp_Or_ok n _ (GL.mono hM_1 hG) A_5 cap_5 [x_1, x_2 - x_3, x_4, x_5] h_5 x_6 hx_6) (by kernel_rfl) (fun _ => by kernel_rfl) (fun w_8 p_10 a_25 f_27 => ?_)
  obtain ⟨M_2, hM_2, p_11⟩ := hb_1 _ _ _ (Mem.le_refl _) p_10
  have f_28 := Frm.set f_27 47 (v := .slice A_5 [x_1, x_2 - x_3, x_4, x_5].length cap_5) (v' := .slice (some ⟨b_1, 0, none⟩) 4 4) (by kernel_rfl) (hv_1.symm)
  refine V_run f_28 1 (by kernel_rfl) (fun a_26 f_29 => ?_)
  refine W_end rfl (T_n (R_seq (R_reg ?_)))
  refine V_run f_29 2 (by kernel_rfl) (fun a_27 f_30 => ?_)
  refine W_end rfl (T_n ?_)
  refine R_cond f_30 (b := !(decide (x_6 = 0))) (by kernel_rfl) (by kernel_rfl) (fun h_6 => ?_) (fun h_6 => ?_)
  · have k_1 : ¬ (x_6 = 0) := (not_iff decide_eq_true_iff).1 h_6
    have hF_8 := cnd_t h_6 hF_7
    refine R_seq (R_reg ?_)
    refine V_run f_30 2 (by kernel_rfl) (fun a_28 f_31 => ?_)
    refine W_end rfl (T_n (wp_ret (T_r ?_)))
    refine E_ret1 f_31 rfl (by kernel_rfl : Vc.look _ 4 = some (.int .i64 x_6)) ?_
    obtain rfl := Option.some.inj hF_8
    exact ⟨_, rfl, M_2, hM_2, (p_11.dropN 1), rfl⟩
  · have k_2 : ¬ (¬ (x_6 = 0)) := iff_f (not_iff decide_eq_true_iff) h_6
    have hF_9 := cnd_f h_6 hF_7
    refine wp_skip (T_n (R_seq (R_seq ?_)))
    refine R_draw p_11 (by kernel_rfl) (by kernel_rfl) ?_
    refine Q_run default f_30 3 (fun _ => by kernel_rfl) (fun a_29 f_32 => ?_)
    refine Q_ld f_32 (fzu hM_2 q0) 4 rfl (by kernel_rfl) (by kernel_rfl) (fun a_30 f_33 => ?_)
    refine Q_run default f_33 4 (fun _ => by kernel_rfl) (fun a_31 f_34 => ?_)
    refine Q_ld f_34 (fzu hM_2 q1) 4 rfl (by kernel_rfl) (by kernel_rfl) (fun a_32 f_35 => ?_)
    refine Q_run default f_35 1 (fun _ => by kernel_rfl) (fun a_33 f_36 => ?_)
    refine QV_eq (v := .int .i64 (min ((d0.fList.length : Nat) : Int) ((d1.fList.length : Nat) : Int))) f_36 (by kernel_rfl) (fun _ pq => X_min (k := .i64) (a := ((d0.fList.length : Nat) : Int)) (b := ((d1.fList.length : Nat) : Int)) rfl (by kernel_rfl) (by kernel_rfl)) (fun a_34 f_37 => ?_)
    refine Q_run default f_37 1 (fun _ => by kernel_rfl) (fun a_35 f_38 => ?_)
    refine Q_end rfl ?_
    intro w_9 p_12
    refine T_n (wp_block ?_)
    obtain ⟨b_2, hL_1, hF_10⟩ := bind_some' hF_9
    refine wp_mono (Q := fun e a w => (e = .ret ∧ (∃ y_2 : Int, b_2 = .inl y_2 ∧ ∃ M_5 : Mem, M_2.le M_5 ∧ Frm 117 [(4, .int .i64 y_2)] a ∧ Hp w0 M_5 ((Ent.row 3 1 (.slice (some ⟨b_1, 0, none⟩) 4 4) [x_1, x_2 - x_3, x_4, x_5].length [.int .i64 x_1, .int .i64 (x_2 - x_3), .int .i64 x_4, .int .i64 x_5]) :: H) w)) ∨ (e = .exit 0 ∧ (∃ y_3 : Unit, b_2 = .inr y_3 ∧ ∃ M_6 : Mem, M_2.le M_6 ∧ Frm 117 [(0, .pointer (some ad0)), (1, .pointer (some ad1))] a ∧ Hp w0 M_6 ((Ent.row 3 1 (.slice (some ⟨b_1, 0, none⟩) 4 4) [x_1, x_2 - x_3, x_4, x_5].length [.int .i64 x_1, .int .i64 (x_2 - x_3), .int .i64 x_4, .int .i64 x_5]) :: H) w))) (R_loop (n := 117) (w0 := w0) (M := M_2) (fun (x : Nat × Int) => match x with | (m_1, s_1) => [(0, .pointer (some ad0)), (1, .pointer (some ad1)), (62, .int .i64 (min ((d0.fList.length : Nat) : Int) ((d1.fList.length : Nat) : Int))), (63, .int .i64 s_1)]) (fun (x : Nat × Int) => match x with | (m_1, s_1) => ((Ent.row 3 1 (.slice (some ⟨b_1, 0, none⟩) 4 4) [x_1, x_2 - x_3, x_4, x_5].length [.int .i64 x_1, .int .i64 (x_2 - x_3), .int .i64 x_4, .int .i64 x_5]) :: H)) (fun (x : Nat × Int) (MM : Mem) => match x with | (m_1, s_1) => loopF (tree_compare_s1 n rec_tree_compare d0 d1) m_1 s_1 = some b_2) (fun (x : Nat × Int) => match x with | (m_1, s_1) => m_1) (n, (0 : Int)) (f_38.keep (ks := [0, 1, 62, 63]) (by kernel_rfl)) p_12 hL_1 ?_) ?_
    · rintro ⟨m_1, s_1⟩ M_3 a_36 w_10 hM_3 I_1 f_39 p_13
      have I_1L := I_1
      obtain ⟨m_2, r_1, rfl, hs_1, hn_1⟩ := loop_step I_1L
      unfold tree_compare_s1 at hs_1
      refine R_seq (R_reg ?_)
      refine V_run f_39 1 (by kernel_rfl) (fun a_37 f_40 => ?_)
      refine W_end rfl (T_n (R_seq ?_))
      refine R_cond f_40 (b := decide (s_1 < (min ((d0.fList.length : Nat) : Int) ((d1.fList.length : Nat) : Int)))) (by kernel_rfl) (by kernel_rfl) (fun h_7 => ?_) (fun h_7 => ?_)
      · have k_3 : s_1 < (min ((d0.fList.length : Nat) : Int) ((d1.fList.length : Nat) : Int)) := decide_eq_true_iff.1 h_7
        have hF_11 := cnd_t h_7 hs_1
        refine wp_skip (T_n (R_seq (wp_block (R_seq (R_reg ?_)))))
        refine V_run f_40 2 (by kernel_rfl) (fun a_38 f_41 => ?_)
        refine W_end rfl (T_n (R_seq (R_seq (R_reg ?_))))
        refine V_run f_41 3 (by kernel_rfl) (fun a_39 f_42 => ?_)
        refine V_ld f_42 p_13 (fzu (hM_2.trans hM_3) q0) 0 rfl (by kernel_rfl) (by kernel_rfl) (fun a_40 f_43 => ?_)
        refine V_run f_43 1 (by kernel_rfl) (fun a_41 f_44 => ?_)
        refine W_end rfl (T_n ?_)
        obtain ⟨j_1, hj_1, hF_12⟩ := bind_some' hF_11
        refine R_mid (fun a_56 w_13 => ∃ y_1 : Unit, j_1 = .nx y_1 ∧ ∃ M_4 : Mem, M_3.le M_4 ∧ Frm 117 [(0, .pointer (some ad0)), (1, .pointer (some ad1)), (6, .int .i64 s_1), (62, .int .i64 (min ((d0.fList.length : Nat) : Int) ((d1.fList.length : Nat) : Int))), (63, .int .i64 s_1)] a_56 ∧ Hp w0 M_4 ((Ent.row 3 1 (.slice (some ⟨b_1, 0, none⟩) 4 4) [x_1, x_2 - x_3, x_4, x_5].length [.int .i64 x_1, .int .i64 (x_2 - x_3), .int .i64 x_4, .int .i64 x_5]) :: H) w_13) ?_ ?_
        · refine R_cond f_44 (b := decide (d0.fKind = 5)) (by kernel_rfl) (by kernel_rfl) (fun h_8 => ?_) (fun h_8 => ?_)
          · have k_4 : d0.fKind = 5 := decide_eq_true_iff.1 h_8
            have hF_13 := cnd_t h_8 hj_1
            refine R_seq ?_
            refine R_draw p_13 (by kernel_rfl) (by kernel_rfl) ?_
            refine Q_run default f_44 3 (fun _ => by kernel_rfl) (fun a_42 f_45 => ?_)
            refine Q_ld f_45 (fzu (hM_2.trans hM_3) q0) 5 rfl (by kernel_rfl) (by kernel_rfl) (fun a_43 f_46 => ?_)
            refine Q_run default f_46 1 (fun _ => by kernel_rfl) (fun a_44 f_47 => ?_)
            obtain ⟨x_7, hx_7, hF_14⟩ := bind_some' hF_13
            obtain ⟨ad_1, c_1, e_1, hl_1, hr_2, hc_1⟩ := Sli.at_ (h_2.mono (hM_2.trans hM_3)) hx_7
            clear hl_1
            obtain rfl : c_1 = [S x_7] := hr_2
            refine QV_eq (v := .pointer (some (ad_1.add (s_1.toNat * 1)))) f_47 (by kernel_rfl) (fun _ pq => X_indexAddrA e_1 rfl (len := d0.fKeys.length) (cap := cap_2) (k := .i64) (i := s_1) (by kernel_rfl) (by kernel_rfl) (e := 9) (by kernel_rfl) (sz := 1) (by kernel_rfl) (getI_nn hx_7) (getI_lt hx_7)) (fun a_45 f_48 => ?_)
            refine Q_ld f_48 hc_1 0 rfl (by kernel_rfl) (by kernel_rfl) (fun a_46 f_49 => ?_)
            refine Q_run default f_49 3 (fun _ => by kernel_rfl) (fun a_47 f_50 => ?_)
            refine Q_ld f_50 (fzu (hM_2.trans hM_3) q1) 5 rfl (by kernel_rfl) (by kernel_rfl) (fun a_48 f_51 => ?_)
            refine Q_run default f_51 1 (fun _ => by kernel_rfl) (fun a_49 f_52 => ?_)
            obtain ⟨x_8, hx_8, hF_15⟩ := bind_some' hF_14
            obtain ⟨ad_2, c_2, e_2, hl_2, hr_3, hc_2⟩ := Sli.at_ (h_4.mono (hM_2.trans hM_3)) hx_8
            clear hl_2
            obtain rfl : c_2 = [S x_8] := hr_3
            refine QV_eq (v := .pointer (some (ad_2.add (s_1.toNat * 1)))) f_52 (by kernel_rfl) (fun _ pq => X_indexAddrA e_2 rfl (len := d1.fKeys.length) (cap := cap_4) (k := .i64) (i := s_1) (by kernel_rfl) (by kernel_rfl) (e := 9) (by kernel_rfl) (sz := 1) (by kernel_rfl) (getI_nn hx_8) (getI_lt hx_8)) (fun a_50 f_53 => ?_)
            refine Q_ld f_53 hc_2 0 rfl (by kernel_rfl) (by kernel_rfl) (fun a_51 f_54 => ?_)
            obtain ⟨x_9, hx_9, hF_16⟩ := bind_some' hF_15
            refine QV_okv f_54 (h_Compare_ok n _ x_7 x_8 x_9 hx_9) (by kernel_rfl) (fun _ => by kernel_rfl) (fun a_52 f_55 => ?_)
            refine Q_run default f_55 1 (fun _ => by kernel_rfl) (fun a_53 f_56 => ?_)
            refine Q_end rfl ?_
            intro w_12 p_15
            refine T_n (R_seq (R_reg ?_))
            refine V_run f_56 2 (by kernel_rfl) (fun a_54 f_57 => ?_)
            refine W_end rfl (T_n ?_)
            refine R_cond f_57 (b := !(decide (x_9 = 0))) (by kernel_rfl) (by kernel_rfl) (fun h_9 => ?_) (fun h_9 => ?_)
            · have k_5 : ¬ (x_9 = 0) := (not_iff decide_eq_true_iff).1 h_9
              have hF_17 := cnd_t h_9 hF_16
              refine R_seq (R_reg ?_)
              refine V_run f_57 2 (by kernel_rfl) (fun a_55 f_58 => ?_)
              refine W_end rfl (T_n (wp_ret ?_))
              have hF_18 := br_elim hF_17 hF_12
              refine T_r (T_r (B_r (T_r (T_r ?_))))
              obtain rfl := Option.some.inj hF_18
              exact .inl ⟨rfl, x_9, (Option.some.inj hn_1).symm, M_3, hM_3, f_58.keep (ks := [4]) (by kernel_rfl), p_15⟩
            · have k_6 : ¬ (¬ (x_9 = 0)) := iff_f (not_iff decide_eq_true_iff) h_9
              have hF_19 := cnd_f h_9 hF_16
              refine wp_skip (T_n ?_)
              exact ⟨(), (Option.some.inj hF_19).symm, M_3, (Mem.le_refl _), f_57.keep (ks := [0, 1, 6, 62, 63]) (by kernel_rfl), p_15⟩
          · have k_7 : ¬ (d0.fKind = 5) := iff_f decide_eq_true_iff h_8
            have hF_20 := cnd_f h_8 hj_1
            refine wp_skip (T_n ?_)
            exact ⟨(), (Option.some.inj hF_20).symm, M_3, (Mem.le_refl _), f_44.keep (ks := [0, 1, 6, 62, 63]) (by kernel_rfl), p_13⟩
        · rintro a_56 w_13 ⟨y_1, rfl, M_4, hM_4, f_59, p_16⟩
          refine T_n (R_seq ?_)
          refine R_draw p_16 (by kernel_rfl) (by kernel_rfl) ?_
          refine Q_run default f_59 3 (fun _ => by kernel_rfl) (fun a_57 f_60 => ?_)
          refine Q_ld f_60 (fzu ((hM_2.trans hM_3).trans hM_4) q0) 4 rfl (by kernel_rfl) (by kernel_rfl) (fun a_58 f_61 => ?_)
          refine Q_run default f_61 1 (fun _ => by kernel_rfl) (fun a_59 f_62 => ?_)
          obtain ⟨x_10, hx_10, hF_21⟩ := bind_some' hF_12
          obtain ⟨ad_3, c_3, e_3, hl_3, hr_4, hc_3⟩ := Sli.at_ (h_1.mono ((hM_2.trans hM_3).trans hM_4)) hx_10
          clear hl_3
          obtain ⟨A_6, cap_6, A_7, cap_7, rfl, h_10, h_11⟩ := T_api_Value.opn hr_4
          refine QV_eq (v := .pointer (some (ad_3.add (s_1.toNat * 6)))) f_62 (by kernel_rfl) (fun _ pq => X_indexAddrA e_3 rfl (len := d0.fList.length) (cap := cap_1) (k := .i64) (i := s_1) (by kernel_rfl) (by kernel_rfl) (e := 33) (by kernel_rfl) (sz := 6) (by kernel_rfl) (getI_nn hx_10) (getI_lt hx_10)) (fun a_60 f_63 => ?_)
          refine Q_run default f_63 3 (fun _ => by kernel_rfl) (fun a_61 f_64 => ?_)
          refine Q_ld f_64 (fzu ((hM_2.trans hM_3).trans hM_4) q1) 4 rfl (by kernel_rfl) (by kernel_rfl) (fun a_62 f_65 => ?_)
          refine Q_run default f_65 1 (fun _ => by kernel_rfl) (fun a_63 f_66 => ?_)
          obtain ⟨x_11, hx_11, hF_22⟩ := bind_some' hF_21
          obtain ⟨ad_4, c_4, e_4, hl_4, hr_5, hc_4⟩ := Sli.at_ (h_3.mono ((hM_2.trans hM_3).trans hM_4)) hx_11
          clear hl_4
          obtain ⟨A_8, cap_8, A_9, cap_9, rfl, h_12, h_13⟩ := T_api_Value.opn hr_5
          refine QV_eq (v := .pointer (some (ad_4.add (s_1.toNat * 6)))) f_66 (by kernel_rfl) (fun _ pq => X_indexAddrA e_4 rfl (len := d1.fList.length) (cap := cap_3) (k := .i64) (i := s_1) (by kernel_rfl) (by kernel_rfl) (e := 33) (by kernel_rfl) (sz := 6) (by kernel_rfl) (getI_nn hx_11) (getI_lt hx_11)) (fun a_64 f_67 => ?_)
          obtain ⟨x_12, hx_12, hF_23⟩ := bind_some' hF_22
          refine QV_okv f_67 (hrec_tree_compare _ (GL.mono ((hM_2.trans hM_3).trans hM_4) hG) (ad_3.add (s_1.toNat * 6)) [.int .i8 x_10.fKind, .bool x_10.fBool, .int .i64 x_10.fNum, S x_10.fText, .slice A_6 x_10.fList.length cap_6, .slice A_7 x_10.fKeys.length cap_7] x_10 (T_api_Value.shutx (x := x_10) h_10 h_11) (fz_at (hc_3) 0 rfl) (ad_4.add (s_1.toNat * 6)) [.int .i8 x_11.fKind, .bool x_11.fBool, .int .i64 x_11.fNum, S x_11.fText, .slice A_8 x_11.fList.length cap_8, .slice A_9 x_11.fKeys.length cap_9] x_11 (T_api_Value.shutx (x := x_11) h_12 h_13) (fz_at (hc_4) 0 rfl) x_12 hx_12) (by kernel_rfl) (fun _ => by kernel_rfl) (fun a_65 f_68 => ?_)
          refine Q_run default f_68 1 (fun _ => by kernel_rfl) (fun a_66 f_69 => ?_)
          refine Q_end rfl ?_
          intro w_15 p_18
          refine T_n (R_seq (R_reg ?_))
          refine V_run f_69 2 (by kernel_rfl) (fun a_67 f_70 => ?_)
          refine W_end rfl (T_n ?_)
          refine R_cond f_70 (b := !(decide (x_12 = 0))) (by kernel_rfl) (by kernel_rfl) (fun h_14 => ?_) (fun h_14 => ?_)
          · have k_8 : ¬ (x_12 = 0) := (not_iff decide_eq_true_iff).1 h_14
            have hF_24 := cnd_t h_14 hF_23
            refine R_seq (R_reg ?_)
            refine V_run f_70 2 (by kernel_rfl) (fun a_68 f_71 => ?_)
            refine W_end rfl (T_n (wp_ret (B_r (T_r (T_r ?_)))))
            obtain rfl := Option.some.inj hF_24
            exact .inl ⟨rfl, x_12, (Option.some.inj hn_1).symm, M_4, (hM_3.trans hM_4), f_71.keep (ks := [4]) (by kernel_rfl), p_18⟩
          · have k_9 : ¬ (¬ (x_12 = 0)) := iff_f (not_iff decide_eq_true_iff) h_14
            have hF_25 := cnd_f h_14 hF_23
            refine wp_skip (B_n (T_n (R_reg ?_)))
            obtain ⟨g_2, hF_26⟩ := need_some hF_25
            refine V_run f_70 1 (by kernel_rfl) (fun a_69 f_72 => ?_)
            have f_73 := Frm.set f_72 105 (v := .int .i64 (IntKind.wrap .i64 (s_1 + 1))) (v' := .int .i64 (s_1 + 1)) (by kernel_rfl) (congrArg (Value.int .i64) (inR_wrap g_2))
            refine V_run f_73 1 (by kernel_rfl) (fun a_70 f_74 => ?_)
            refine W_end rfl (T_n ?_)
            obtain rfl := Option.some.inj hF_26
            exact ⟨⟨m_2, s_1 + 1⟩, Nat.lt_succ_self _, M_4, (hM_3.trans hM_4), hn_1, f_74.keep (ks := [0, 1, 62, 63]) (by kernel_rfl), p_18⟩
      · have k_10 : ¬ (s_1 < (min ((d0.fList.length : Nat) : Int) ((d1.fList.length : Nat) : Int))) := iff_f decide_eq_true_iff h_7
        have hF_27 := cnd_f h_7 hs_1
        refine wp_exit (T_x (T_x ?_))
        obtain rfl := Option.some.inj hF_27
        exact .inr ⟨rfl, (), (Option.some.inj hn_1).symm, M_3, hM_3, f_40.keep (ks := [0, 1]) (by kernel_rfl), p_13⟩
    · rintro _ a_73 w_18 (⟨rfl, y_2, rfl, M_5, hM_5, f_75, p_19⟩ | ⟨rfl, y_3, rfl, M_6, hM_6, f_76, p_20⟩)
      · refine B_r (T_r ?_)
        refine E_ret1 f_75 rfl (by kernel_rfl : Vc.look _ 4 = some (.int .i64 y_2)) ?_
        obtain rfl := Option.some.inj hF_10
        exact ⟨_, rfl, M_5, (hM_2.trans hM_5), (p_19.dropN 1), rfl⟩
      · refine B_x (T_n (R_seq ?_))
        refine R_draw p_20 (by kernel_rfl) (by kernel_rfl) ?_
        refine Q_run default f_76 3 (fun _ => by kernel_rfl) (fun a_74 f_77 => ?_)
        refine Q_ld f_77 (fzu (hM_2.trans hM_6) q0) 4 rfl (by kernel_rfl) (by kernel_rfl) (fun a_75 f_78 => ?_)
        refine Q_run default f_78 4 (fun _ => by kernel_rfl) (fun a_76 f_79 => ?_)
        refine Q_ld f_79 (fzu (hM_2.trans hM_6) q1) 4 rfl (by kernel_rfl) (by kernel_rfl) (fun a_77 f_80 => ?_)
        refine Q_run default f_80 1 (fun _ => by kernel_rfl) (fun a_78 f_81 => ?_)
        obtain ⟨x_13, hx_13, hF_28⟩ := bind_some' hF_10
        refine QV_okv f_81 (cmp_Compare_2_ok n _ (GL.mono (hM_2.trans hM_6) hG) ((d0.fList.length : Nat) : Int) ((d1.fList.length : Nat) : Int) x_13 hx_13) (by kernel_rfl) (fun _ => by kernel_rfl) (fun a_79 f_82 => ?_)
        refine Q_run default f_82 1 (fun _ => by kernel_rfl) (fun a_80 f_83 => ?_)
        refine Q_end rfl ?_
        intro w_20 p_22
        refine T_n (wp_ret ?_)
        refine E_ret1 f_83 rfl (by kernel_rfl : Vc.look _ 4 = some (.int .i64 x_13)) ?_
        obtain rfl := Option.some.inj hF_28
        exact ⟨_, rfl, M_6, (hM_2.trans hM_6), (p_22.dropN 1), rfl⟩
def tree_compare_k (n : Nat) : Nat → T_api_Value → T_api_Value → Option Int
  | 0 => fun _ _ => none
  | k + 1 => tree_compare_b n (tree_compare_k n k)
def tree_compare (n : Nat) (d0 : T_api_Value) (d1 : T_api_Value) : Option Int := tree_compare_k n n d0 d1
theorem tree_compare_ok (n : Nat) (M : Mem) (hG : GL M) (ad0 : Addr) (c0 : List Value) (d0 : T_api_Value) (h0 : Rep M (emb_T_api_Value d0) c0) (q0 : ∀ j v, c0[j]? = some v → M.cell? (ad0.add j) = some v) (ad1 : Addr) (c1 : List Value) (d1 : T_api_Value) (h1 : Rep M (emb_T_api_Value d1) c1) (q1 : ∀ j v, c1[j]? = some v → M.cell? (ad1.add j) = some v) (r : Int) (hF : tree_compare n d0 d1 = some r) : Ok Tryd.prog M 89 [.pointer (some ad0), .pointer (some ad1)] (fun _ v => v = .int .i64 r) := by
  have key : ∀ (k : Nat) (M : Mem) (hG : GL M) (ad0 : Addr) (c0 : List Value) (d0 : T_api_Value) (h0 : Rep M (emb_T_api_Value d0) c0) (q0 : ∀ j v, c0[j]? = some v → M.cell? (ad0.add j) = some v) (ad1 : Addr) (c1 : List Value) (d1 : T_api_Value) (h1 : Rep M (emb_T_api_Value d1) c1) (q1 : ∀ j v, c1[j]? = some v → M.cell? (ad1.add j) = some v) (r : Int) (hF : tree_compare_k n k d0 d1 = some r), Ok Tryd.prog M 89 [.pointer (some ad0), .pointer (some ad1)] (fun _ v => v = .int .i64 r) := by
    intro k
    induction k with
    | zero => intro M hG ad0 c0 d0 h0 q0 ad1 c1 d1 h1 q1 r hF; simp [tree_compare_k] at hF
    | succ k ih => intro M hG ad0 c0 d0 h0 q0 ad1 c1 d1 h1 q1 r hF; exact tree_compare_b_ok n (tree_compare_k n k) ih M hG ad0 c0 d0 h0 q0 ad1 c1 d1 h1 q1 r hF
  exact key n M hG ad0 c0 d0 h0 q0 ad1 c1 d1 h1 q1 r hF
end Go.Proofs.YtalifkcchfkgmaaDoor
