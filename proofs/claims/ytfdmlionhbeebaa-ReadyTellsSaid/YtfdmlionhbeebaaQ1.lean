/-
  Printed by a program: of each function its shallow reading, and the proof that the function gives what the reading gives. No condition.
-/
import Derived.Test.YtfdmlionhbeebaaVkJ
import Derived.Test.YtfdmlionhbeebaaRows
set_option linter.unusedVariables false
set_option linter.unusedSimpArgs false
namespace Go.Proofs.Ytfdmlionhbeebaa
open Go Go.Vc Go.RowKit
def ref21_Great_s1 (n : Nat) (d0 : List (List Int)) (s_1 : Int) : Option (Lp Int (Sum Unit Unit)) :=
    bif (decide (s_1 < ((d0.length : Nat) : Int))) then
      ((getI d0 s_1).bind fun x_1 =>
      bif (decide ((100 : Int) < ((x_1.length : Nat) : Int))) then
        (some (.br (.inl ())))
      else
        need (inR .i64 (s_1 + 1)) <|
        some (.nx (s_1 + 1)))
    else
      some (.br (.inr ()))
def ref21_Great (n : Nat) (d0 : List (List Int)) : Option Bool :=
  bif (decide ((60 : Int) < ((d0.length : Nat) : Int))) then
    (some ((true)))
  else
    (loopF (ref21_Great_s1 n d0) n (0 : Int)).bind fun b_1 =>
    (match b_1 with 
    | .inl y_1 => some ((true)) 
    | .inr y_2 => some ((false)))
set_option maxRecDepth 20000 in
theorem ref21_Great_ok (n : Nat) (M : Mem) (A0 : Option Addr) (cap0 : Nat) (d0 : List (List Int)) (h0 : Sli M 1 (eL 1 (Dat.int .i64)) A0 cap0 d0) (r : Bool) (hF : ref21_Great n d0 = some r) : Ok Try.prog M 5 [.slice A0 d0.length cap0] (fun _ v => v = .bool r) := by
  unfold ref21_Great at hF
  intro M1 hM0 w0 H w p0
  replace h0 := h0.mono hM0
  refine R_enter 19 Try.func5 rfl rfl (by simp) (fun a0 f0 => ?_)
  replace f0 : Frm 19 [(0, .slice A0 d0.length cap0)] a0 := f0
  refine R_seq ?_
  refine R_reg ?_
  refine W_run (L' := [(0, .slice A0 d0.length cap0)]) (w' := w) f0 1 [0] (by kernel_rfl) (fun a_1 f_1 => ?_)
  refine W_end rfl ?_
  refine T_n ?_
  refine R_seq ?_
  refine R_seq ?_
  refine R_reg ?_
  refine W_run (L' := [(0, .slice A0 d0.length cap0), (6, .bool (decide ((60 : Int) < ((d0.length : Nat) : Int))))]) (w' := w) f_1 3 [0, 6] (by kernel_rfl) (fun a_2 f_2 => ?_)
  refine W_end rfl ?_
  refine T_n ?_
  refine R_cond f_2 (b := decide ((60 : Int) < ((d0.length : Nat) : Int))) (by kernel_rfl) (by kernel_rfl) (fun h_1 => ?_) (fun h_1 => ?_)
  · have k_1 : (60 : Int) < ((d0.length : Nat) : Int) := decide_eq_true_iff.1 h_1
    have hF_1 := cnd_t h_1 hF
    refine R_seq ?_
    refine R_reg ?_
    refine W_run (L' := [(2, .bool true)]) (w' := w) f_2 1 [2] (by kernel_rfl) (fun a_3 f_3 => ?_)
    refine W_end rfl ?_
    refine T_n ?_
    refine wp_ret ?_
    refine T_r ?_
    refine E_ret1 f_3 rfl (by kernel_rfl : Vc.look _ 2 = some (.bool true)) ?_
    obtain rfl := Option.some.inj hF_1
    exact ⟨_, rfl, M1, (Mem.le_refl _), p0, rfl⟩
  · have k_2 : ¬ ((60 : Int) < ((d0.length : Nat) : Int)) := iff_f decide_eq_true_iff h_1
    have hF_2 := cnd_f h_1 hF
    refine wp_skip ?_
    refine T_n ?_
    refine R_seq ?_
    refine R_seq ?_
    refine R_reg ?_
    refine W_run (L' := [(0, .slice A0 d0.length cap0), (3, .int .i64 0)]) (w' := w) f_2 1 [0, 3] (by kernel_rfl) (fun a_4 f_4 => ?_)
    refine W_end rfl ?_
    refine T_n ?_
    refine wp_block ?_
    obtain ⟨b_1, hL_1, hF_3⟩ := bind_some' hF_2
    refine wp_mono (Q := fun e a w => (e = .ret ∧ (∃ y_1 : Unit, b_1 = .inl y_1 ∧ ∃ M_2 : Mem, M1.le M_2 ∧ Frm 19 [(2, .bool true)] a ∧ Hp w0 M_2 (H) w)) ∨ (e = .exit 0 ∧ (∃ y_2 : Unit, b_1 = .inr y_2 ∧ ∃ M_3 : Mem, M1.le M_3 ∧ Frm 19 [] a ∧ Hp w0 M_3 (H) w))) (R_loop (n := 19) (w0 := w0) (M := M1) (fun (x : Nat × Int) => match x with | (m_1, s_1) => [(0, .slice A0 d0.length cap0), (3, .int .i64 s_1)]) (fun (x : Nat × Int) => match x with | (m_1, s_1) => (H)) (fun (x : Nat × Int) (MM : Mem) => match x with | (m_1, s_1) => loopF (ref21_Great_s1 n d0) m_1 s_1 = some b_1) (fun (x : Nat × Int) => match x with | (m_1, s_1) => m_1) (n, (0 : Int)) (f_4.keep (ks := [0, 3]) (by kernel_rfl)) p0 hL_1 ?_) ?_
    · rintro ⟨m_1, s_1⟩ M_1 a_5 w_1 hM_1 I_1 f_5 p_1
      replace f_5 : Frm 19 [(0, .slice A0 d0.length cap0), (3, .int .i64 s_1)] a_5 := f_5
      replace p_1 : Hp w0 M_1 (H) w_1 := p_1
      have I_1L := I_1
      obtain ⟨m_2, r_1, rfl, hs_1, hn_1⟩ := loop_step I_1L
      unfold ref21_Great_s1 at hs_1
      refine R_seq ?_
      refine R_seq ?_
      refine R_reg ?_
      refine W_run (L' := [(0, .slice A0 d0.length cap0), (3, .int .i64 s_1), (10, .bool (decide (s_1 < ((d0.length : Nat) : Int))))]) (w' := w_1) f_5 4 [0, 3, 10] (by kernel_rfl) (fun a_6 f_6 => ?_)
      refine W_end rfl ?_
      refine T_n ?_
      refine R_cond f_6 (b := decide (s_1 < ((d0.length : Nat) : Int))) (by kernel_rfl) (by kernel_rfl) (fun h_2 => ?_) (fun h_2 => ?_)
      · have k_3 : s_1 < ((d0.length : Nat) : Int) := decide_eq_true_iff.1 h_2
        have hF_4 := cnd_t h_2 hs_1
        refine wp_skip ?_
        refine T_n ?_
        refine R_seq ?_
        refine wp_block ?_
        refine R_seq ?_
        refine R_reg ?_
        refine W_run (L' := [(0, .slice A0 d0.length cap0), (3, .int .i64 s_1), (13, .slice A0 d0.length cap0), (14, .int .i64 s_1)]) (w' := w_1) f_6 2 [0, 3, 13, 14] (by kernel_rfl) (fun a_7 f_7 => ?_)
        obtain ⟨x_1, hx_1, hF_5⟩ := bind_some' hF_4
        obtain ⟨ad_1, c_1, e_1, hl_1, hr_1, hc_1⟩ := Sli.at_ (h0.mono hM_1) hx_1
        clear hl_1
        obtain ⟨A_1, cap_1, rfl, h_3⟩ := Rep.sli hr_1
        refine W_eq (v := .pointer (some (ad_1.add (s_1.toNat * 1)))) f_7 (by kernel_rfl) (by kernel_rfl) rfl rfl (X_indexAddrA e_1 rfl (len := d0.length) (cap := cap0) (k := .i64) (i := s_1) (by kernel_rfl) (by kernel_rfl) (e := 27) (by kernel_rfl) (sz := 1) (by kernel_rfl) (getI_nn hx_1) (getI_lt hx_1)) (fun a_8 f_8 => ?_)
        refine W_eq (v := .slice A_1 x_1.length cap_1) f_8 (by kernel_rfl) (by kernel_rfl) rfl rfl (X_load1 (v := .slice A_1 x_1.length cap_1) rfl (ad := ad_1.add (s_1.toNat * 1)) (by kernel_rfl) (by kernel_rfl) (p_1.cell (hc_1 0 _ rfl))) (fun a_9 f_9 => ?_)
        refine W_run (L' := [(0, .slice A0 d0.length cap0), (3, .int .i64 s_1), (18, .bool (decide ((100 : Int) < ((x_1.length : Nat) : Int))))]) (w' := w_1) f_9 2 [0, 3, 18] (by kernel_rfl) (fun a_10 f_10 => ?_)
        refine W_end rfl ?_
        refine T_n ?_
        refine R_cond f_10 (b := decide ((100 : Int) < ((x_1.length : Nat) : Int))) (by kernel_rfl) (by kernel_rfl) (fun h_4 => ?_) (fun h_4 => ?_)
        · have k_4 : (100 : Int) < ((x_1.length : Nat) : Int) := decide_eq_true_iff.1 h_4
          have hF_6 := cnd_t h_4 hF_5
          refine R_seq ?_
          refine R_reg ?_
          refine W_run (L' := [(2, .bool true)]) (w' := w_1) f_10 1 [2] (by kernel_rfl) (fun a_11 f_11 => ?_)
          refine W_end rfl ?_
          refine T_n ?_
          refine wp_ret ?_
          refine B_r ?_
          refine T_r ?_
          refine T_r ?_
          obtain rfl := Option.some.inj hF_6
          exact .inl ⟨rfl, (), (Option.some.inj hn_1).symm, M_1, hM_1, f_11.keep (ks := [2]) (by kernel_rfl), p_1⟩
        · have k_5 : ¬ ((100 : Int) < ((x_1.length : Nat) : Int)) := iff_f decide_eq_true_iff h_4
          have hF_7 := cnd_f h_4 hF_5
          refine wp_skip ?_
          refine B_n ?_
          refine T_n ?_
          refine R_reg ?_
          refine W_run (L' := [(0, .slice A0 d0.length cap0), (11, .int .i64 s_1)]) (w' := w_1) f_10 1 [0, 11] (by kernel_rfl) (fun a_12 f_12 => ?_)
          obtain ⟨g_1, hF_8⟩ := need_some hF_7
          refine W_run (L' := [(0, .slice A0 d0.length cap0), (11, .int .i64 s_1), (12, .int .i64 (IntKind.wrap .i64 (s_1 + 1)))]) (w' := w_1) f_12 1 [0, 11, 12] (by kernel_rfl) (fun a_13 f_13 => ?_)
          have f_14 := Frm.set f_13 12 (v := .int .i64 (IntKind.wrap .i64 (s_1 + 1))) (v' := .int .i64 (s_1 + 1)) (by kernel_rfl) (congrArg (Value.int .i64) (inR_wrap g_1))
          have f_15 : Frm 19 [(0, .slice A0 d0.length cap0), (11, .int .i64 s_1), (12, .int .i64 (s_1 + 1))] a_13 := f_14.keep (ks := [0, 11, 12]) (by kernel_rfl)
          refine W_run (L' := [(0, .slice A0 d0.length cap0), (3, .int .i64 (s_1 + 1))]) (w' := w_1) f_15 1 [0, 3] (by kernel_rfl) (fun a_14 f_16 => ?_)
          refine W_end rfl ?_
          refine T_n ?_
          obtain rfl := Option.some.inj hF_8
          exact ⟨⟨m_2, s_1 + 1⟩, Nat.lt_succ_self _, M_1, hM_1, hn_1, f_16.keep (ks := [0, 3]) (by kernel_rfl), p_1⟩
      · have k_6 : ¬ (s_1 < ((d0.length : Nat) : Int)) := iff_f decide_eq_true_iff h_2
        have hF_9 := cnd_f h_2 hs_1
        refine wp_exit ?_
        refine T_x ?_
        refine T_x ?_
        obtain rfl := Option.some.inj hF_9
        exact .inr ⟨rfl, (), (Option.some.inj hn_1).symm, M_1, hM_1, f_6.keep (ks := []) (by kernel_rfl), p_1⟩
    · rintro _ a_17 w_4 (⟨rfl, y_1, rfl, M_2, hM_2, f_17, p_2⟩ | ⟨rfl, y_2, rfl, M_3, hM_3, f_18, p_3⟩)
      · refine B_r ?_
        refine T_r ?_
        refine E_ret1 f_17 rfl (by kernel_rfl : Vc.look _ 2 = some (.bool true)) ?_
        obtain rfl := Option.some.inj hF_3
        exact ⟨_, rfl, M_2, hM_2, p_2, rfl⟩
      · refine B_x ?_
        refine T_n ?_
        refine R_seq ?_
        refine R_reg ?_
        refine W_run (L' := [(2, .bool false)]) (w' := w_4) f_18 1 [2] (by kernel_rfl) (fun a_18 f_19 => ?_)
        refine W_end rfl ?_
        refine T_n ?_
        refine wp_ret ?_
        refine E_ret1 f_19 rfl (by kernel_rfl : Vc.look _ 2 = some (.bool false)) ?_
        obtain rfl := Option.some.inj hF_3
        exact ⟨_, rfl, M_3, hM_3, p_3, rfl⟩

def ready_Count_s1 (n : Nat) (d0 : List Int) (d1 : Int) (s_1 : Int × Int) : Option (Lp (Int × Int) Int) :=
    bif (decide (s_1.2 < ((d0.length : Nat) : Int))) then
      ((getI d0 s_1.2).bind fun x_1 =>
      bif (decide (x_1 = d1)) then
        (need (inR .i64 (s_1.1 + 1)) <|
        need (inR .i64 (s_1.2 + 1)) <|
        some (.nx (s_1.1 + 1, s_1.2 + 1)))
      else
        need (inR .i64 (s_1.2 + 1)) <|
        some (.nx (s_1.1, s_1.2 + 1)))
    else
      some (.br s_1.1)
def ready_Count (n : Nat) (d0 : List Int) (d1 : Int) : Option Int :=
  (loopF (ready_Count_s1 n d0 d1) n ((0 : Int), (0 : Int))).bind fun y_1 =>
  some (y_1)
theorem ready_Count_ok (n : Nat) (M : Mem) (A0 : Option Addr) (cap0 : Nat) (d0 : List Int) (h0 : Sli M 1 (Dat.int .i8) A0 cap0 d0) (d1 : Int) (r : Int) (hF : ready_Count n d0 d1 = some r) : Ok Try.prog M 15 [.slice A0 d0.length cap0, .int .i8 d1] (fun _ v => v = .int .i64 r) := by
  unfold ready_Count at hF
  intro M1 hM0 w0 H w p0
  replace h0 := h0.mono hM0
  refine R_enter 21 Try.func15 rfl rfl (by simp) (fun a0 f0 => ?_)
  replace f0 : Frm 21 [(0, .slice A0 d0.length cap0), (1, .int .i8 d1)] a0 := f0
  refine R_seq ?_
  refine R_reg ?_
  refine W_run (L' := [(0, .slice A0 d0.length cap0), (1, .int .i8 d1)]) (w' := w) f0 1 [0, 1] (by kernel_rfl) (fun a_1 f_1 => ?_)
  refine W_end rfl ?_
  refine T_n ?_
  refine R_seq ?_
  refine R_reg ?_
  refine W_run (L' := [(0, .slice A0 d0.length cap0), (1, .int .i8 d1), (5, .int .i64 0)]) (w' := w) f_1 1 [0, 1, 5] (by kernel_rfl) (fun a_2 f_2 => ?_)
  refine W_end rfl ?_
  refine T_n ?_
  refine R_seq ?_
  refine R_seq ?_
  refine R_reg ?_
  refine W_run (L' := [(1, .int .i8 d1), (5, .int .i64 0), (8, .slice A0 d0.length cap0), (9, .int .i64 ((d0.length : Nat) : Int)), (10, .int .i64 0)]) (w' := w) f_2 3 [1, 5, 8, 9, 10] (by kernel_rfl) (fun a_3 f_3 => ?_)
  refine W_end rfl ?_
  refine T_n ?_
  refine wp_block ?_
  obtain ⟨b_1, hL_1, hF_1⟩ := bind_some' hF
  refine wp_mono (Q := fun e a w => (e = .exit 0 ∧ (∃ y_1 : Int, b_1 = y_1 ∧ ∃ M_2 : Mem, M1.le M_2 ∧ Frm 21 [(5, .int .i64 y_1)] a ∧ Hp w0 M_2 (H) w))) (R_loop (n := 21) (w0 := w0) (M := M1) (fun (x : Nat × (Int × Int)) => match x with | (m_1, s_1) => [(1, .int .i8 d1), (5, .int .i64 s_1.1), (8, .slice A0 d0.length cap0), (9, .int .i64 ((d0.length : Nat) : Int)), (10, .int .i64 s_1.2)]) (fun (x : Nat × (Int × Int)) => match x with | (m_1, s_1) => (H)) (fun (x : Nat × (Int × Int)) (MM : Mem) => match x with | (m_1, s_1) => loopF (ready_Count_s1 n d0 d1) m_1 s_1 = some b_1) (fun (x : Nat × (Int × Int)) => match x with | (m_1, s_1) => m_1) (n, ((0 : Int), (0 : Int))) (f_3.keep (ks := [1, 5, 8, 9, 10]) (by kernel_rfl)) p0 hL_1 ?_) ?_
  · rintro ⟨m_1, s_1⟩ M_1 a_4 w_1 hM_1 I_1 f_4 p_1
    replace f_4 : Frm 21 [(1, .int .i8 d1), (5, .int .i64 s_1.1), (8, .slice A0 d0.length cap0), (9, .int .i64 ((d0.length : Nat) : Int)), (10, .int .i64 s_1.2)] a_4 := f_4
    replace p_1 : Hp w0 M_1 (H) w_1 := p_1
    have I_1L := I_1
    obtain ⟨m_2, r_1, rfl, hs_1, hn_1⟩ := loop_step I_1L
    unfold ready_Count_s1 at hs_1
    refine R_seq ?_
    refine R_reg ?_
    refine W_run (L' := [(1, .int .i8 d1), (5, .int .i64 s_1.1), (8, .slice A0 d0.length cap0), (9, .int .i64 ((d0.length : Nat) : Int)), (10, .int .i64 s_1.2), (11, .bool (decide (s_1.2 < ((d0.length : Nat) : Int))))]) (w' := w_1) f_4 1 [1, 5, 8, 9, 10, 11] (by kernel_rfl) (fun a_5 f_5 => ?_)
    refine W_end rfl ?_
    refine T_n ?_
    refine R_seq ?_
    refine R_cond f_5 (b := decide (s_1.2 < ((d0.length : Nat) : Int))) (by kernel_rfl) (by kernel_rfl) (fun h_1 => ?_) (fun h_1 => ?_)
    · have k_1 : s_1.2 < ((d0.length : Nat) : Int) := decide_eq_true_iff.1 h_1
      have hF_2 := cnd_t h_1 hs_1
      refine wp_skip ?_
      refine T_n ?_
      refine R_seq ?_
      refine wp_block ?_
      refine R_seq ?_
      refine R_reg ?_
      obtain ⟨x_1, hx_1, hF_3⟩ := bind_some' hF_2
      obtain ⟨ad_1, c_1, e_1, hl_1, hr_1, hc_1⟩ := Sli.at_ (h0.mono hM_1) hx_1
      clear hl_1
      obtain rfl : c_1 = [.int .i8 x_1] := hr_1
      refine W_eq (v := .pointer (some (ad_1.add (s_1.2.toNat * 1)))) f_5 (by kernel_rfl) (by kernel_rfl) rfl rfl (X_indexAddrA e_1 rfl (len := d0.length) (cap := cap0) (k := .i64) (i := s_1.2) (by kernel_rfl) (by kernel_rfl) (e := 24) (by kernel_rfl) (sz := 1) (by kernel_rfl) (getI_nn hx_1) (getI_lt hx_1)) (fun a_6 f_6 => ?_)
      refine W_eq (v := .int .i8 x_1) f_6 (by kernel_rfl) (by kernel_rfl) rfl rfl (X_load1 (v := .int .i8 x_1) rfl (ad := ad_1.add (s_1.2.toNat * 1)) (by kernel_rfl) (by kernel_rfl) (p_1.cell (hc_1 0 _ rfl))) (fun a_7 f_7 => ?_)
      refine W_run (L' := [(1, .int .i8 d1), (5, .int .i64 s_1.1), (7, .int .i8 x_1), (8, .slice A0 d0.length cap0), (9, .int .i64 ((d0.length : Nat) : Int)), (10, .int .i64 s_1.2)]) (w' := w_1) f_7 1 [1, 5, 7, 8, 9, 10] (by kernel_rfl) (fun a_8 f_8 => ?_)
      refine W_end rfl ?_
      refine T_n ?_
      refine R_seq ?_
      refine R_reg ?_
      refine W_run (L' := [(1, .int .i8 d1), (5, .int .i64 s_1.1), (8, .slice A0 d0.length cap0), (9, .int .i64 ((d0.length : Nat) : Int)), (10, .int .i64 s_1.2), (16, .bool (decide (x_1 = d1)))]) (w' := w_1) f_8 3 [1, 5, 8, 9, 10, 16] (by kernel_rfl) (fun a_9 f_9 => ?_)
      refine W_end rfl ?_
      refine T_n ?_
      refine R_cond f_9 (b := decide (x_1 = d1)) (by kernel_rfl) (by kernel_rfl) (fun h_2 => ?_) (fun h_2 => ?_)
      · have k_2 : x_1 = d1 := decide_eq_true_iff.1 h_2
        have hF_4 := cnd_t h_2 hF_3
        refine R_reg ?_
        refine W_run (L' := [(1, .int .i8 d1), (8, .slice A0 d0.length cap0), (9, .int .i64 ((d0.length : Nat) : Int)), (10, .int .i64 s_1.2), (17, .int .i64 s_1.1)]) (w' := w_1) f_9 1 [1, 8, 9, 10, 17] (by kernel_rfl) (fun a_10 f_10 => ?_)
        obtain ⟨g_1, hF_5⟩ := need_some hF_4
        refine W_run (L' := [(1, .int .i8 d1), (8, .slice A0 d0.length cap0), (9, .int .i64 ((d0.length : Nat) : Int)), (10, .int .i64 s_1.2), (17, .int .i64 s_1.1), (18, .int .i64 (IntKind.wrap .i64 (s_1.1 + 1)))]) (w' := w_1) f_10 1 [1, 8, 9, 10, 17, 18] (by kernel_rfl) (fun a_11 f_11 => ?_)
        have f_12 := Frm.set f_11 18 (v := .int .i64 (IntKind.wrap .i64 (s_1.1 + 1))) (v' := .int .i64 (s_1.1 + 1)) (by kernel_rfl) (congrArg (Value.int .i64) (inR_wrap g_1))
        have f_13 : Frm 21 [(1, .int .i8 d1), (8, .slice A0 d0.length cap0), (9, .int .i64 ((d0.length : Nat) : Int)), (10, .int .i64 s_1.2), (17, .int .i64 s_1.1), (18, .int .i64 (s_1.1 + 1))] a_11 := f_12.keep (ks := [1, 8, 9, 10, 17, 18]) (by kernel_rfl)
        refine W_run (L' := [(1, .int .i8 d1), (5, .int .i64 (s_1.1 + 1)), (8, .slice A0 d0.length cap0), (9, .int .i64 ((d0.length : Nat) : Int)), (10, .int .i64 s_1.2)]) (w' := w_1) f_13 1 [1, 5, 8, 9, 10] (by kernel_rfl) (fun a_12 f_14 => ?_)
        refine W_end rfl ?_
        refine B_n ?_
        refine T_n ?_
        refine R_reg ?_
        obtain ⟨g_2, hF_6⟩ := need_some hF_5
        refine W_run (L' := [(1, .int .i8 d1), (5, .int .i64 (s_1.1 + 1)), (8, .slice A0 d0.length cap0), (9, .int .i64 ((d0.length : Nat) : Int)), (10, .int .i64 s_1.2), (19, .int .i64 (IntKind.wrap .i64 (s_1.2 + 1)))]) (w' := w_1) f_14 1 [1, 5, 8, 9, 10, 19] (by kernel_rfl) (fun a_13 f_15 => ?_)
        have f_16 := Frm.set f_15 19 (v := .int .i64 (IntKind.wrap .i64 (s_1.2 + 1))) (v' := .int .i64 (s_1.2 + 1)) (by kernel_rfl) (congrArg (Value.int .i64) (inR_wrap g_2))
        have f_17 : Frm 21 [(1, .int .i8 d1), (5, .int .i64 (s_1.1 + 1)), (8, .slice A0 d0.length cap0), (9, .int .i64 ((d0.length : Nat) : Int)), (10, .int .i64 s_1.2), (19, .int .i64 (s_1.2 + 1))] a_13 := f_16.keep (ks := [1, 5, 8, 9, 10, 19]) (by kernel_rfl)
        refine W_run (L' := [(1, .int .i8 d1), (5, .int .i64 (s_1.1 + 1)), (8, .slice A0 d0.length cap0), (9, .int .i64 ((d0.length : Nat) : Int)), (10, .int .i64 (s_1.2 + 1))]) (w' := w_1) f_17 1 [1, 5, 8, 9, 10] (by kernel_rfl) (fun a_14 f_18 => ?_)
        refine W_end rfl ?_
        refine T_n ?_
        obtain rfl := Option.some.inj hF_6
        exact ⟨⟨m_2, (s_1.1 + 1, s_1.2 + 1)⟩, Nat.lt_succ_self _, M_1, hM_1, hn_1, f_18.keep (ks := [1, 5, 8, 9, 10]) (by kernel_rfl), p_1⟩
      · have k_3 : ¬ (x_1 = d1) := iff_f decide_eq_true_iff h_2
        have hF_7 := cnd_f h_2 hF_3
        refine wp_skip ?_
        refine B_n ?_
        refine T_n ?_
        refine R_reg ?_
        obtain ⟨g_3, hF_8⟩ := need_some hF_7
        refine W_run (L' := [(1, .int .i8 d1), (5, .int .i64 s_1.1), (8, .slice A0 d0.length cap0), (9, .int .i64 ((d0.length : Nat) : Int)), (10, .int .i64 s_1.2), (16, .bool (decide (x_1 = d1))), (19, .int .i64 (IntKind.wrap .i64 (s_1.2 + 1)))]) (w' := w_1) f_9 1 [1, 5, 8, 9, 10, 16, 19] (by kernel_rfl) (fun a_15 f_19 => ?_)
        have f_20 := Frm.set f_19 19 (v := .int .i64 (IntKind.wrap .i64 (s_1.2 + 1))) (v' := .int .i64 (s_1.2 + 1)) (by kernel_rfl) (congrArg (Value.int .i64) (inR_wrap g_3))
        have f_21 : Frm 21 [(1, .int .i8 d1), (5, .int .i64 s_1.1), (8, .slice A0 d0.length cap0), (9, .int .i64 ((d0.length : Nat) : Int)), (10, .int .i64 s_1.2), (16, .bool (decide (x_1 = d1))), (19, .int .i64 (s_1.2 + 1))] a_15 := f_20.keep (ks := [1, 5, 8, 9, 10, 16, 19]) (by kernel_rfl)
        refine W_run (L' := [(1, .int .i8 d1), (5, .int .i64 s_1.1), (8, .slice A0 d0.length cap0), (9, .int .i64 ((d0.length : Nat) : Int)), (10, .int .i64 (s_1.2 + 1))]) (w' := w_1) f_21 1 [1, 5, 8, 9, 10] (by kernel_rfl) (fun a_16 f_22 => ?_)
        refine W_end rfl ?_
        refine T_n ?_
        obtain rfl := Option.some.inj hF_8
        exact ⟨⟨m_2, (s_1.1, s_1.2 + 1)⟩, Nat.lt_succ_self _, M_1, hM_1, hn_1, f_22.keep (ks := [1, 5, 8, 9, 10]) (by kernel_rfl), p_1⟩
    · have k_4 : ¬ (s_1.2 < ((d0.length : Nat) : Int)) := iff_f decide_eq_true_iff h_1
      have hF_9 := cnd_f h_1 hs_1
      refine wp_exit ?_
      refine T_x ?_
      refine T_x ?_
      obtain rfl := Option.some.inj hF_9
      exact ⟨rfl, s_1.1, (Option.some.inj hn_1).symm, M_1, hM_1, f_5.keep (ks := [5]) (by kernel_rfl), p_1⟩
  · rintro _ a_18 w_3 ⟨rfl, y_1, hq_, M_2, hM_2, f_23, p_2⟩
    subst b_1
    refine B_x ?_
    refine T_n ?_
    refine R_seq ?_
    refine R_reg ?_
    refine W_run (L' := [(4, .int .i64 y_1)]) (w' := w_3) f_23 2 [4] (by kernel_rfl) (fun a_19 f_24 => ?_)
    refine W_end rfl ?_
    refine T_n ?_
    refine wp_ret ?_
    refine E_ret1 f_24 rfl (by kernel_rfl : Vc.look _ 4 = some (.int .i64 y_1)) ?_
    obtain rfl := Option.some.inj hF_1
    exact ⟨_, rfl, M_2, hM_2, p_2, rfl⟩

def ref21_Count_s1 (n : Nat) (d0 : List Int) (d1 : Int) (s_1 : Int × Int) : Option (Lp (Int × Int) Int) :=
    bif (decide (s_1.2 < ((d0.length : Nat) : Int))) then
      ((getI d0 s_1.2).bind fun x_1 =>
      bif (decide (x_1 = d1)) then
        (need (inR .i64 (s_1.1 + 1)) <|
        need (inR .i64 (s_1.2 + 1)) <|
        some (.nx (s_1.1 + 1, s_1.2 + 1)))
      else
        need (inR .i64 (s_1.2 + 1)) <|
        some (.nx (s_1.1, s_1.2 + 1)))
    else
      some (.br s_1.1)
def ref21_Count (n : Nat) (d0 : List Int) (d1 : Int) : Option Int :=
  (loopF (ref21_Count_s1 n d0 d1) n ((0 : Int), (0 : Int))).bind fun y_1 =>
  some (y_1)
theorem ref21_Count_ok (n : Nat) (M : Mem) (A0 : Option Addr) (cap0 : Nat) (d0 : List Int) (h0 : Sli M 1 (Dat.int .i8) A0 cap0 d0) (d1 : Int) (r : Int) (hF : ref21_Count n d0 d1 = some r) : Ok Try.prog M 16 [.slice A0 d0.length cap0, .int .i8 d1] (fun _ v => v = .int .i64 r) := by
  unfold ref21_Count at hF
  intro M1 hM0 w0 H w p0
  replace h0 := h0.mono hM0
  refine R_enter 22 Try.func16 rfl rfl (by simp) (fun a0 f0 => ?_)
  replace f0 : Frm 22 [(0, .slice A0 d0.length cap0), (1, .int .i8 d1)] a0 := f0
  refine R_seq ?_
  refine R_reg ?_
  refine W_run (L' := [(0, .slice A0 d0.length cap0), (1, .int .i8 d1)]) (w' := w) f0 1 [0, 1] (by kernel_rfl) (fun a_1 f_1 => ?_)
  refine W_end rfl ?_
  refine T_n ?_
  refine R_seq ?_
  refine R_reg ?_
  refine W_run (L' := [(0, .slice A0 d0.length cap0), (1, .int .i8 d1), (5, .int .i64 0)]) (w' := w) f_1 1 [0, 1, 5] (by kernel_rfl) (fun a_2 f_2 => ?_)
  refine W_end rfl ?_
  refine T_n ?_
  refine R_seq ?_
  refine R_seq ?_
  refine R_reg ?_
  refine W_run (L' := [(0, .slice A0 d0.length cap0), (1, .int .i8 d1), (5, .int .i64 0), (6, .int .i64 0)]) (w' := w) f_2 1 [0, 1, 5, 6] (by kernel_rfl) (fun a_3 f_3 => ?_)
  refine W_end rfl ?_
  refine T_n ?_
  refine wp_block ?_
  obtain ⟨b_1, hL_1, hF_1⟩ := bind_some' hF
  refine wp_mono (Q := fun e a w => (e = .exit 0 ∧ (∃ y_1 : Int, b_1 = y_1 ∧ ∃ M_2 : Mem, M1.le M_2 ∧ Frm 22 [(5, .int .i64 y_1)] a ∧ Hp w0 M_2 (H) w))) (R_loop (n := 22) (w0 := w0) (M := M1) (fun (x : Nat × (Int × Int)) => match x with | (m_1, s_1) => [(0, .slice A0 d0.length cap0), (1, .int .i8 d1), (5, .int .i64 s_1.1), (6, .int .i64 s_1.2)]) (fun (x : Nat × (Int × Int)) => match x with | (m_1, s_1) => (H)) (fun (x : Nat × (Int × Int)) (MM : Mem) => match x with | (m_1, s_1) => loopF (ref21_Count_s1 n d0 d1) m_1 s_1 = some b_1) (fun (x : Nat × (Int × Int)) => match x with | (m_1, s_1) => m_1) (n, ((0 : Int), (0 : Int))) (f_3.keep (ks := [0, 1, 5, 6]) (by kernel_rfl)) p0 hL_1 ?_) ?_
  · rintro ⟨m_1, s_1⟩ M_1 a_4 w_1 hM_1 I_1 f_4 p_1
    replace f_4 : Frm 22 [(0, .slice A0 d0.length cap0), (1, .int .i8 d1), (5, .int .i64 s_1.1), (6, .int .i64 s_1.2)] a_4 := f_4
    replace p_1 : Hp w0 M_1 (H) w_1 := p_1
    have I_1L := I_1
    obtain ⟨m_2, r_1, rfl, hs_1, hn_1⟩ := loop_step I_1L
    unfold ref21_Count_s1 at hs_1
    refine R_seq ?_
    refine R_seq ?_
    refine R_reg ?_
    refine W_run (L' := [(0, .slice A0 d0.length cap0), (1, .int .i8 d1), (5, .int .i64 s_1.1), (6, .int .i64 s_1.2), (10, .bool (decide (s_1.2 < ((d0.length : Nat) : Int))))]) (w' := w_1) f_4 4 [0, 1, 5, 6, 10] (by kernel_rfl) (fun a_5 f_5 => ?_)
    refine W_end rfl ?_
    refine T_n ?_
    refine R_cond f_5 (b := decide (s_1.2 < ((d0.length : Nat) : Int))) (by kernel_rfl) (by kernel_rfl) (fun h_1 => ?_) (fun h_1 => ?_)
    · have k_1 : s_1.2 < ((d0.length : Nat) : Int) := decide_eq_true_iff.1 h_1
      have hF_2 := cnd_t h_1 hs_1
      refine wp_skip ?_
      refine T_n ?_
      refine R_seq ?_
      refine wp_block ?_
      refine R_seq ?_
      refine R_reg ?_
      refine W_run (L' := [(0, .slice A0 d0.length cap0), (1, .int .i8 d1), (5, .int .i64 s_1.1), (6, .int .i64 s_1.2), (13, .slice A0 d0.length cap0), (14, .int .i64 s_1.2)]) (w' := w_1) f_5 2 [0, 1, 5, 6, 13, 14] (by kernel_rfl) (fun a_6 f_6 => ?_)
      obtain ⟨x_1, hx_1, hF_3⟩ := bind_some' hF_2
      obtain ⟨ad_1, c_1, e_1, hl_1, hr_1, hc_1⟩ := Sli.at_ (h0.mono hM_1) hx_1
      clear hl_1
      obtain rfl : c_1 = [.int .i8 x_1] := hr_1
      refine W_eq (v := .pointer (some (ad_1.add (s_1.2.toNat * 1)))) f_6 (by kernel_rfl) (by kernel_rfl) rfl rfl (X_indexAddrA e_1 rfl (len := d0.length) (cap := cap0) (k := .i64) (i := s_1.2) (by kernel_rfl) (by kernel_rfl) (e := 24) (by kernel_rfl) (sz := 1) (by kernel_rfl) (getI_nn hx_1) (getI_lt hx_1)) (fun a_7 f_7 => ?_)
      refine W_eq (v := .int .i8 x_1) f_7 (by kernel_rfl) (by kernel_rfl) rfl rfl (X_load1 (v := .int .i8 x_1) rfl (ad := ad_1.add (s_1.2.toNat * 1)) (by kernel_rfl) (by kernel_rfl) (p_1.cell (hc_1 0 _ rfl))) (fun a_8 f_8 => ?_)
      refine W_run (L' := [(0, .slice A0 d0.length cap0), (1, .int .i8 d1), (5, .int .i64 s_1.1), (6, .int .i64 s_1.2), (18, .bool (decide (x_1 = d1)))]) (w' := w_1) f_8 2 [0, 1, 5, 6, 18] (by kernel_rfl) (fun a_9 f_9 => ?_)
      refine W_end rfl ?_
      refine T_n ?_
      refine R_cond f_9 (b := decide (x_1 = d1)) (by kernel_rfl) (by kernel_rfl) (fun h_2 => ?_) (fun h_2 => ?_)
      · have k_2 : x_1 = d1 := decide_eq_true_iff.1 h_2
        have hF_4 := cnd_t h_2 hF_3
        refine R_reg ?_
        refine W_run (L' := [(0, .slice A0 d0.length cap0), (1, .int .i8 d1), (6, .int .i64 s_1.2), (19, .int .i64 s_1.1)]) (w' := w_1) f_9 1 [0, 1, 6, 19] (by kernel_rfl) (fun a_10 f_10 => ?_)
        obtain ⟨g_1, hF_5⟩ := need_some hF_4
        refine W_run (L' := [(0, .slice A0 d0.length cap0), (1, .int .i8 d1), (6, .int .i64 s_1.2), (19, .int .i64 s_1.1), (20, .int .i64 (IntKind.wrap .i64 (s_1.1 + 1)))]) (w' := w_1) f_10 1 [0, 1, 6, 19, 20] (by kernel_rfl) (fun a_11 f_11 => ?_)
        have f_12 := Frm.set f_11 20 (v := .int .i64 (IntKind.wrap .i64 (s_1.1 + 1))) (v' := .int .i64 (s_1.1 + 1)) (by kernel_rfl) (congrArg (Value.int .i64) (inR_wrap g_1))
        have f_13 : Frm 22 [(0, .slice A0 d0.length cap0), (1, .int .i8 d1), (6, .int .i64 s_1.2), (19, .int .i64 s_1.1), (20, .int .i64 (s_1.1 + 1))] a_11 := f_12.keep (ks := [0, 1, 6, 19, 20]) (by kernel_rfl)
        refine W_run (L' := [(0, .slice A0 d0.length cap0), (1, .int .i8 d1), (5, .int .i64 (s_1.1 + 1)), (6, .int .i64 s_1.2)]) (w' := w_1) f_13 1 [0, 1, 5, 6] (by kernel_rfl) (fun a_12 f_14 => ?_)
        refine W_end rfl ?_
        refine B_n ?_
        refine T_n ?_
        refine R_reg ?_
        refine W_run (L' := [(0, .slice A0 d0.length cap0), (1, .int .i8 d1), (5, .int .i64 (s_1.1 + 1)), (11, .int .i64 s_1.2)]) (w' := w_1) f_14 1 [0, 1, 5, 11] (by kernel_rfl) (fun a_13 f_15 => ?_)
        obtain ⟨g_2, hF_6⟩ := need_some hF_5
        refine W_run (L' := [(0, .slice A0 d0.length cap0), (1, .int .i8 d1), (5, .int .i64 (s_1.1 + 1)), (11, .int .i64 s_1.2), (12, .int .i64 (IntKind.wrap .i64 (s_1.2 + 1)))]) (w' := w_1) f_15 1 [0, 1, 5, 11, 12] (by kernel_rfl) (fun a_14 f_16 => ?_)
        have f_17 := Frm.set f_16 12 (v := .int .i64 (IntKind.wrap .i64 (s_1.2 + 1))) (v' := .int .i64 (s_1.2 + 1)) (by kernel_rfl) (congrArg (Value.int .i64) (inR_wrap g_2))
        have f_18 : Frm 22 [(0, .slice A0 d0.length cap0), (1, .int .i8 d1), (5, .int .i64 (s_1.1 + 1)), (11, .int .i64 s_1.2), (12, .int .i64 (s_1.2 + 1))] a_14 := f_17.keep (ks := [0, 1, 5, 11, 12]) (by kernel_rfl)
        refine W_run (L' := [(0, .slice A0 d0.length cap0), (1, .int .i8 d1), (5, .int .i64 (s_1.1 + 1)), (6, .int .i64 (s_1.2 + 1))]) (w' := w_1) f_18 1 [0, 1, 5, 6] (by kernel_rfl) (fun a_15 f_19 => ?_)
        refine W_end rfl ?_
        refine T_n ?_
        obtain rfl := Option.some.inj hF_6
        exact ⟨⟨m_2, (s_1.1 + 1, s_1.2 + 1)⟩, Nat.lt_succ_self _, M_1, hM_1, hn_1, f_19.keep (ks := [0, 1, 5, 6]) (by kernel_rfl), p_1⟩
      · have k_3 : ¬ (x_1 = d1) := iff_f decide_eq_true_iff h_2
        have hF_7 := cnd_f h_2 hF_3
        refine wp_skip ?_
        refine B_n ?_
        refine T_n ?_
        refine R_reg ?_
        refine W_run (L' := [(0, .slice A0 d0.length cap0), (1, .int .i8 d1), (5, .int .i64 s_1.1), (11, .int .i64 s_1.2)]) (w' := w_1) f_9 1 [0, 1, 5, 11] (by kernel_rfl) (fun a_16 f_20 => ?_)
        obtain ⟨g_3, hF_8⟩ := need_some hF_7
        refine W_run (L' := [(0, .slice A0 d0.length cap0), (1, .int .i8 d1), (5, .int .i64 s_1.1), (11, .int .i64 s_1.2), (12, .int .i64 (IntKind.wrap .i64 (s_1.2 + 1)))]) (w' := w_1) f_20 1 [0, 1, 5, 11, 12] (by kernel_rfl) (fun a_17 f_21 => ?_)
        have f_22 := Frm.set f_21 12 (v := .int .i64 (IntKind.wrap .i64 (s_1.2 + 1))) (v' := .int .i64 (s_1.2 + 1)) (by kernel_rfl) (congrArg (Value.int .i64) (inR_wrap g_3))
        have f_23 : Frm 22 [(0, .slice A0 d0.length cap0), (1, .int .i8 d1), (5, .int .i64 s_1.1), (11, .int .i64 s_1.2), (12, .int .i64 (s_1.2 + 1))] a_17 := f_22.keep (ks := [0, 1, 5, 11, 12]) (by kernel_rfl)
        refine W_run (L' := [(0, .slice A0 d0.length cap0), (1, .int .i8 d1), (5, .int .i64 s_1.1), (6, .int .i64 (s_1.2 + 1))]) (w' := w_1) f_23 1 [0, 1, 5, 6] (by kernel_rfl) (fun a_18 f_24 => ?_)
        refine W_end rfl ?_
        refine T_n ?_
        obtain rfl := Option.some.inj hF_8
        exact ⟨⟨m_2, (s_1.1, s_1.2 + 1)⟩, Nat.lt_succ_self _, M_1, hM_1, hn_1, f_24.keep (ks := [0, 1, 5, 6]) (by kernel_rfl), p_1⟩
    · have k_4 : ¬ (s_1.2 < ((d0.length : Nat) : Int)) := iff_f decide_eq_true_iff h_1
      have hF_9 := cnd_f h_1 hs_1
      refine wp_exit ?_
      refine T_x ?_
      refine T_x ?_
      obtain rfl := Option.some.inj hF_9
      exact ⟨rfl, s_1.1, (Option.some.inj hn_1).symm, M_1, hM_1, f_5.keep (ks := [5]) (by kernel_rfl), p_1⟩
  · rintro _ a_20 w_3 ⟨rfl, y_1, hq_, M_2, hM_2, f_25, p_2⟩
    subst b_1
    refine B_x ?_
    refine T_n ?_
    refine R_seq ?_
    refine R_reg ?_
    refine W_run (L' := [(4, .int .i64 y_1)]) (w' := w_3) f_25 2 [4] (by kernel_rfl) (fun a_21 f_26 => ?_)
    refine W_end rfl ?_
    refine T_n ?_
    refine wp_ret ?_
    refine E_ret1 f_26 rfl (by kernel_rfl : Vc.look _ 4 = some (.int .i64 y_1)) ?_
    obtain rfl := Option.some.inj hF_1
    exact ⟨_, rfl, M_2, hM_2, p_2, rfl⟩

def ref21_Ints_s1 (n : Nat) (d0 : List Int) (d1 : List Int) (s_1 : Int) : Option (Lp Int (Sum Unit Unit)) :=
    bif (decide (s_1 < ((d0.length : Nat) : Int))) then
      ((getI d0 s_1).bind fun x_1 =>
      (getI d1 s_1).bind fun x_2 =>
      bif (!(decide (x_1 = x_2))) then
        (some (.br (.inl ())))
      else
        need (inR .i64 (s_1 + 1)) <|
        some (.nx (s_1 + 1)))
    else
      some (.br (.inr ()))
def ref21_Ints (n : Nat) (d0 : List Int) (d1 : List Int) : Option Bool :=
  bif (!(decide (((d0.length : Nat) : Int) = ((d1.length : Nat) : Int)))) then
    (some ((false)))
  else
    (loopF (ref21_Ints_s1 n d0 d1) n (0 : Int)).bind fun b_1 =>
    (match b_1 with 
    | .inl y_1 => some ((false)) 
    | .inr y_2 => some ((true)))
set_option maxRecDepth 20000 in
theorem ref21_Ints_ok (n : Nat) (M : Mem) (A0 : Option Addr) (cap0 : Nat) (d0 : List Int) (h0 : Sli M 1 (Dat.int .i64) A0 cap0 d0) (A1 : Option Addr) (cap1 : Nat) (d1 : List Int) (h1 : Sli M 1 (Dat.int .i64) A1 cap1 d1) (r : Bool) (hF : ref21_Ints n d0 d1 = some r) : Ok Try.prog M 11 [.slice A0 d0.length cap0, .slice A1 d1.length cap1] (fun _ v => v = .bool r) := by
  unfold ref21_Ints at hF
  intro M1 hM0 w0 H w p0
  replace h0 := h0.mono hM0
  replace h1 := h1.mono hM0
  refine R_enter 26 Try.func11 rfl rfl (by simp) (fun a0 f0 => ?_)
  replace f0 : Frm 26 [(0, .slice A0 d0.length cap0), (1, .slice A1 d1.length cap1)] a0 := f0
  refine R_seq ?_
  refine R_reg ?_
  refine W_run (L' := [(0, .slice A0 d0.length cap0), (1, .slice A1 d1.length cap1)]) (w' := w) f0 1 [0, 1] (by kernel_rfl) (fun a_1 f_1 => ?_)
  refine W_end rfl ?_
  refine T_n ?_
  refine R_seq ?_
  refine R_seq ?_
  refine R_reg ?_
  refine W_run (L' := [(0, .slice A0 d0.length cap0), (1, .slice A1 d1.length cap1), (10, .bool (!(decide (((d0.length : Nat) : Int) = ((d1.length : Nat) : Int)))))]) (w' := w) f_1 5 [0, 1, 10] (by kernel_rfl) (fun a_2 f_2 => ?_)
  refine W_end rfl ?_
  refine T_n ?_
  refine R_cond f_2 (b := !(decide (((d0.length : Nat) : Int) = ((d1.length : Nat) : Int)))) (by kernel_rfl) (by kernel_rfl) (fun h_1 => ?_) (fun h_1 => ?_)
  · have k_1 : ¬ (((d0.length : Nat) : Int) = ((d1.length : Nat) : Int)) := (not_iff decide_eq_true_iff).1 h_1
    have hF_1 := cnd_t h_1 hF
    refine R_seq ?_
    refine R_reg ?_
    refine W_run (L' := [(4, .bool false)]) (w' := w) f_2 1 [4] (by kernel_rfl) (fun a_3 f_3 => ?_)
    refine W_end rfl ?_
    refine T_n ?_
    refine wp_ret ?_
    refine T_r ?_
    refine E_ret1 f_3 rfl (by kernel_rfl : Vc.look _ 4 = some (.bool false)) ?_
    obtain rfl := Option.some.inj hF_1
    exact ⟨_, rfl, M1, (Mem.le_refl _), p0, rfl⟩
  · have k_2 : ¬ (¬ (((d0.length : Nat) : Int) = ((d1.length : Nat) : Int))) := iff_f (not_iff decide_eq_true_iff) h_1
    have hF_2 := cnd_f h_1 hF
    refine wp_skip ?_
    refine T_n ?_
    refine R_seq ?_
    refine R_seq ?_
    refine R_reg ?_
    refine W_run (L' := [(0, .slice A0 d0.length cap0), (1, .slice A1 d1.length cap1), (5, .int .i64 0)]) (w' := w) f_2 1 [0, 1, 5] (by kernel_rfl) (fun a_4 f_4 => ?_)
    refine W_end rfl ?_
    refine T_n ?_
    refine wp_block ?_
    obtain ⟨b_1, hL_1, hF_3⟩ := bind_some' hF_2
    refine wp_mono (Q := fun e a w => (e = .ret ∧ (∃ y_1 : Unit, b_1 = .inl y_1 ∧ ∃ M_2 : Mem, M1.le M_2 ∧ Frm 26 [(4, .bool false)] a ∧ Hp w0 M_2 (H) w)) ∨ (e = .exit 0 ∧ (∃ y_2 : Unit, b_1 = .inr y_2 ∧ ∃ M_3 : Mem, M1.le M_3 ∧ Frm 26 [] a ∧ Hp w0 M_3 (H) w))) (R_loop (n := 26) (w0 := w0) (M := M1) (fun (x : Nat × Int) => match x with | (m_1, s_1) => [(0, .slice A0 d0.length cap0), (1, .slice A1 d1.length cap1), (5, .int .i64 s_1)]) (fun (x : Nat × Int) => match x with | (m_1, s_1) => (H)) (fun (x : Nat × Int) (MM : Mem) => match x with | (m_1, s_1) => loopF (ref21_Ints_s1 n d0 d1) m_1 s_1 = some b_1) (fun (x : Nat × Int) => match x with | (m_1, s_1) => m_1) (n, (0 : Int)) (f_4.keep (ks := [0, 1, 5]) (by kernel_rfl)) p0 hL_1 ?_) ?_
    · rintro ⟨m_1, s_1⟩ M_1 a_5 w_1 hM_1 I_1 f_5 p_1
      replace f_5 : Frm 26 [(0, .slice A0 d0.length cap0), (1, .slice A1 d1.length cap1), (5, .int .i64 s_1)] a_5 := f_5
      replace p_1 : Hp w0 M_1 (H) w_1 := p_1
      have I_1L := I_1
      obtain ⟨m_2, r_1, rfl, hs_1, hn_1⟩ := loop_step I_1L
      unfold ref21_Ints_s1 at hs_1
      refine R_seq ?_
      refine R_seq ?_
      refine R_reg ?_
      refine W_run (L' := [(0, .slice A0 d0.length cap0), (1, .slice A1 d1.length cap1), (5, .int .i64 s_1), (14, .bool (decide (s_1 < ((d0.length : Nat) : Int))))]) (w' := w_1) f_5 4 [0, 1, 5, 14] (by kernel_rfl) (fun a_6 f_6 => ?_)
      refine W_end rfl ?_
      refine T_n ?_
      refine R_cond f_6 (b := decide (s_1 < ((d0.length : Nat) : Int))) (by kernel_rfl) (by kernel_rfl) (fun h_2 => ?_) (fun h_2 => ?_)
      · have k_3 : s_1 < ((d0.length : Nat) : Int) := decide_eq_true_iff.1 h_2
        have hF_4 := cnd_t h_2 hs_1
        refine wp_skip ?_
        refine T_n ?_
        refine R_seq ?_
        refine wp_block ?_
        refine R_seq ?_
        refine R_draw p_1 (by kernel_rfl) (by kernel_rfl) ?_
        refine Q_eq (v := .slice A0 d0.length cap0) f_6 (by kernel_rfl) (by kernel_rfl) rfl rfl (fun _ _ => by kernel_rfl) (fun a_7 f_7 => ?_)
        refine Q_eq (v := .int .i64 s_1) f_7 (by kernel_rfl) (by kernel_rfl) rfl rfl (fun _ _ => by kernel_rfl) (fun a_8 f_8 => ?_)
        have f_9 : Frm 26 [(0, .slice A0 d0.length cap0), (1, .slice A1 d1.length cap1), (5, .int .i64 s_1), (17, .slice A0 d0.length cap0), (18, .int .i64 s_1)] a_8 := f_8.keep (ks := [0, 1, 5, 17, 18]) (by kernel_rfl)
        obtain ⟨x_1, hx_1, hF_5⟩ := bind_some' hF_4
        obtain ⟨ad_1, c_1, e_1, hl_1, hr_1, hc_1⟩ := Sli.at_ (h0.mono hM_1) hx_1
        clear hl_1
        obtain rfl : c_1 = [.int .i64 x_1] := hr_1
        refine Q_eq (v := .pointer (some (ad_1.add (s_1.toNat * 1)))) f_9 (by kernel_rfl) (by kernel_rfl) rfl rfl (fun _ pq => X_indexAddrA e_1 rfl (len := d0.length) (cap := cap0) (k := .i64) (i := s_1) (by kernel_rfl) (by kernel_rfl) (e := 3) (by kernel_rfl) (sz := 1) (by kernel_rfl) (getI_nn hx_1) (getI_lt hx_1)) (fun a_9 f_10 => ?_)
        refine Q_eq (v := .int .i64 x_1) f_10 (by kernel_rfl) (by kernel_rfl) rfl rfl (fun _ pq => X_load1 (v := .int .i64 x_1) rfl (ad := ad_1.add (s_1.toNat * 1)) (by kernel_rfl) (by kernel_rfl) (pq.cell (hc_1 0 _ rfl))) (fun a_10 f_11 => ?_)
        refine Q_eq (v := .slice A1 d1.length cap1) f_11 (by kernel_rfl) (by kernel_rfl) rfl rfl (fun _ _ => by kernel_rfl) (fun a_11 f_12 => ?_)
        refine Q_eq (v := .int .i64 s_1) f_12 (by kernel_rfl) (by kernel_rfl) rfl rfl (fun _ _ => by kernel_rfl) (fun a_12 f_13 => ?_)
        have f_14 : Frm 26 [(0, .slice A0 d0.length cap0), (1, .slice A1 d1.length cap1), (5, .int .i64 s_1), (20, .int .i64 x_1), (21, .slice A1 d1.length cap1), (22, .int .i64 s_1)] a_12 := f_13.keep (ks := [0, 1, 5, 20, 21, 22]) (by kernel_rfl)
        obtain ⟨x_2, hx_2, hF_6⟩ := bind_some' hF_5
        obtain ⟨ad_2, c_2, e_2, hl_2, hr_2, hc_2⟩ := Sli.at_ (h1.mono hM_1) hx_2
        clear hl_2
        obtain rfl : c_2 = [.int .i64 x_2] := hr_2
        refine Q_eq (v := .pointer (some (ad_2.add (s_1.toNat * 1)))) f_14 (by kernel_rfl) (by kernel_rfl) rfl rfl (fun _ pq => X_indexAddrA e_2 rfl (len := d1.length) (cap := cap1) (k := .i64) (i := s_1) (by kernel_rfl) (by kernel_rfl) (e := 3) (by kernel_rfl) (sz := 1) (by kernel_rfl) (getI_nn hx_2) (getI_lt hx_2)) (fun a_13 f_15 => ?_)
        refine Q_eq (v := .int .i64 x_2) f_15 (by kernel_rfl) (by kernel_rfl) rfl rfl (fun _ pq => X_load1 (v := .int .i64 x_2) rfl (ad := ad_2.add (s_1.toNat * 1)) (by kernel_rfl) (by kernel_rfl) (pq.cell (hc_2 0 _ rfl))) (fun a_14 f_16 => ?_)
        refine Q_eq (v := .bool (!(decide (x_1 = x_2)))) f_16 (by kernel_rfl) (by kernel_rfl) rfl rfl (fun _ _ => by kernel_rfl) (fun a_15 f_17 => ?_)
        have f_18 : Frm 26 [(0, .slice A0 d0.length cap0), (1, .slice A1 d1.length cap1), (5, .int .i64 s_1), (25, .bool (!(decide (x_1 = x_2))))] a_15 := f_17.keep (ks := [0, 1, 5, 25]) (by kernel_rfl)
        refine Q_end rfl ?_
        intro w_2 p_2
        refine T_n ?_
        refine R_cond f_18 (b := !(decide (x_1 = x_2))) (by kernel_rfl) (by kernel_rfl) (fun h_3 => ?_) (fun h_3 => ?_)
        · have k_4 : ¬ (x_1 = x_2) := (not_iff decide_eq_true_iff).1 h_3
          have hF_7 := cnd_t h_3 hF_6
          refine R_seq ?_
          refine R_reg ?_
          refine W_run (L' := [(4, .bool false)]) (w' := w_2) f_18 1 [4] (by kernel_rfl) (fun a_16 f_19 => ?_)
          refine W_end rfl ?_
          refine T_n ?_
          refine wp_ret ?_
          refine B_r ?_
          refine T_r ?_
          refine T_r ?_
          obtain rfl := Option.some.inj hF_7
          exact .inl ⟨rfl, (), (Option.some.inj hn_1).symm, M_1, hM_1, f_19.keep (ks := [4]) (by kernel_rfl), p_2⟩
        · have k_5 : ¬ (¬ (x_1 = x_2)) := iff_f (not_iff decide_eq_true_iff) h_3
          have hF_8 := cnd_f h_3 hF_6
          refine wp_skip ?_
          refine B_n ?_
          refine T_n ?_
          refine R_reg ?_
          refine W_run (L' := [(0, .slice A0 d0.length cap0), (1, .slice A1 d1.length cap1), (15, .int .i64 s_1)]) (w' := w_2) f_18 1 [0, 1, 15] (by kernel_rfl) (fun a_17 f_20 => ?_)
          obtain ⟨g_1, hF_9⟩ := need_some hF_8
          refine W_run (L' := [(0, .slice A0 d0.length cap0), (1, .slice A1 d1.length cap1), (15, .int .i64 s_1), (16, .int .i64 (IntKind.wrap .i64 (s_1 + 1)))]) (w' := w_2) f_20 1 [0, 1, 15, 16] (by kernel_rfl) (fun a_18 f_21 => ?_)
          have f_22 := Frm.set f_21 16 (v := .int .i64 (IntKind.wrap .i64 (s_1 + 1))) (v' := .int .i64 (s_1 + 1)) (by kernel_rfl) (congrArg (Value.int .i64) (inR_wrap g_1))
          have f_23 : Frm 26 [(0, .slice A0 d0.length cap0), (1, .slice A1 d1.length cap1), (15, .int .i64 s_1), (16, .int .i64 (s_1 + 1))] a_18 := f_22.keep (ks := [0, 1, 15, 16]) (by kernel_rfl)
          refine W_run (L' := [(0, .slice A0 d0.length cap0), (1, .slice A1 d1.length cap1), (5, .int .i64 (s_1 + 1))]) (w' := w_2) f_23 1 [0, 1, 5] (by kernel_rfl) (fun a_19 f_24 => ?_)
          refine W_end rfl ?_
          refine T_n ?_
          obtain rfl := Option.some.inj hF_9
          exact ⟨⟨m_2, s_1 + 1⟩, Nat.lt_succ_self _, M_1, hM_1, hn_1, f_24.keep (ks := [0, 1, 5]) (by kernel_rfl), p_2⟩
      · have k_6 : ¬ (s_1 < ((d0.length : Nat) : Int)) := iff_f decide_eq_true_iff h_2
        have hF_10 := cnd_f h_2 hs_1
        refine wp_exit ?_
        refine T_x ?_
        refine T_x ?_
        obtain rfl := Option.some.inj hF_10
        exact .inr ⟨rfl, (), (Option.some.inj hn_1).symm, M_1, hM_1, f_6.keep (ks := []) (by kernel_rfl), p_1⟩
    · rintro _ a_22 w_5 (⟨rfl, y_1, rfl, M_2, hM_2, f_25, p_3⟩ | ⟨rfl, y_2, rfl, M_3, hM_3, f_26, p_4⟩)
      · refine B_r ?_
        refine T_r ?_
        refine E_ret1 f_25 rfl (by kernel_rfl : Vc.look _ 4 = some (.bool false)) ?_
        obtain rfl := Option.some.inj hF_3
        exact ⟨_, rfl, M_2, hM_2, p_3, rfl⟩
      · refine B_x ?_
        refine T_n ?_
        refine R_seq ?_
        refine R_reg ?_
        refine W_run (L' := [(4, .bool true)]) (w' := w_5) f_26 1 [4] (by kernel_rfl) (fun a_23 f_27 => ?_)
        refine W_end rfl ?_
        refine T_n ?_
        refine wp_ret ?_
        refine E_ret1 f_27 rfl (by kernel_rfl : Vc.look _ 4 = some (.bool true)) ?_
        obtain rfl := Option.some.inj hF_3
        exact ⟨_, rfl, M_3, hM_3, p_4, rfl⟩

def ref21_May_s2 (n : Nat) (d0 : List (List Int)) (s_1 : Int) (s_2 : Int) : Option (Lp Int (Sum Unit Unit)) :=
    (getI d0 s_1).bind fun x_3 =>
    bif (decide (s_2 < ((x_3.length : Nat) : Int))) then
      ((getI d0 s_1).bind fun x_4 =>
      (getI x_4 s_2).bind fun x_5 =>
      bif (decide (x_5 < 0)) then
        (some (.br (.inl ())))
      else
        (getI d0 s_1).bind fun x_6 =>
        (getI x_6 s_2).bind fun x_7 =>
        bif (decide (((d0.length : Nat) : Int) ≤ x_7)) then
          (some (.br (.inl ())))
        else
          need (inR .i64 (s_2 + 1)) <|
          some (.nx (s_2 + 1)))
    else
      some (.br (.inr ()))
def ref21_May_s1 (n : Nat) (d0 : List (List Int)) (d1 : List Int) (s_1 : Int) : Option (Lp Int (Sum Unit Unit)) :=
    bif (decide (s_1 < ((d0.length : Nat) : Int))) then
      ((((getI d1 s_1).bind fun x_1 =>
        bif (decide (x_1 < 0)) then
          (some ((true)))
        else
          (getI d1 s_1).bind fun x_2 =>
          some ((decide ((5 : Int) < x_2))) : Option Bool)).bind fun y_1 =>
      bif y_1 then
        (some (.br (.inl ())))
      else
        (loopF (ref21_May_s2 n d0 s_1) n (0 : Int)).bind fun b_2 =>
        (match b_2 with 
        | .inl y_2 => some (.br (.inl ())) 
        | .inr y_3 => need (inR .i64 (s_1 + 1)) <|
          some (.nx (s_1 + 1))))
    else
      some (.br (.inr ()))
def ref21_May (n : Nat) (d0 : List (List Int)) (d1 : List Int) : Option Bool :=
  bif (!(decide (((d0.length : Nat) : Int) = ((d1.length : Nat) : Int)))) then
    (some ((false)))
  else
    (loopF (ref21_May_s1 n d0 d1) n (0 : Int)).bind fun b_1 =>
    (match b_1 with 
    | .inl y_4 => some ((false)) 
    | .inr y_5 => some ((true)))
set_option maxRecDepth 20000 in
theorem ref21_May_ok (n : Nat) (M : Mem) (A0 : Option Addr) (cap0 : Nat) (d0 : List (List Int)) (h0 : Sli M 1 (eL 1 (Dat.int .i64)) A0 cap0 d0) (A1 : Option Addr) (cap1 : Nat) (d1 : List Int) (h1 : Sli M 1 (Dat.int .i8) A1 cap1 d1) (r : Bool) (hF : ref21_May n d0 d1 = some r) : Ok Try.prog M 18 [.slice A0 d0.length cap0, .slice A1 d1.length cap1] (fun _ v => v = .bool r) := by
  unfold ref21_May at hF
  intro M1 hM0 w0 H w p0
  replace h0 := h0.mono hM0
  replace h1 := h1.mono hM0
  refine R_enter 59 Try.func18 rfl rfl (by simp) (fun a0 f0 => ?_)
  replace f0 : Frm 59 [(0, .slice A0 d0.length cap0), (1, .slice A1 d1.length cap1)] a0 := f0
  refine R_seq ?_
  refine R_reg ?_
  refine W_run (L' := [(0, .slice A0 d0.length cap0), (1, .slice A1 d1.length cap1)]) (w' := w) f0 1 [0, 1] (by kernel_rfl) (fun a_1 f_1 => ?_)
  refine W_end rfl ?_
  refine T_n ?_
  refine R_seq ?_
  refine R_seq ?_
  refine R_reg ?_
  refine W_run (L' := [(0, .slice A0 d0.length cap0), (1, .slice A1 d1.length cap1), (11, .bool (!(decide (((d0.length : Nat) : Int) = ((d1.length : Nat) : Int)))))]) (w' := w) f_1 5 [0, 1, 11] (by kernel_rfl) (fun a_2 f_2 => ?_)
  refine W_end rfl ?_
  refine T_n ?_
  refine R_cond f_2 (b := !(decide (((d0.length : Nat) : Int) = ((d1.length : Nat) : Int)))) (by kernel_rfl) (by kernel_rfl) (fun h_1 => ?_) (fun h_1 => ?_)
  · have k_1 : ¬ (((d0.length : Nat) : Int) = ((d1.length : Nat) : Int)) := (not_iff decide_eq_true_iff).1 h_1
    have hF_1 := cnd_t h_1 hF
    refine R_seq ?_
    refine R_reg ?_
    refine W_run (L' := [(4, .bool false)]) (w' := w) f_2 1 [4] (by kernel_rfl) (fun a_3 f_3 => ?_)
    refine W_end rfl ?_
    refine T_n ?_
    refine wp_ret ?_
    refine T_r ?_
    refine E_ret1 f_3 rfl (by kernel_rfl : Vc.look _ 4 = some (.bool false)) ?_
    obtain rfl := Option.some.inj hF_1
    exact ⟨_, rfl, M1, (Mem.le_refl _), p0, rfl⟩
  · have k_2 : ¬ (¬ (((d0.length : Nat) : Int) = ((d1.length : Nat) : Int))) := iff_f (not_iff decide_eq_true_iff) h_1
    have hF_2 := cnd_f h_1 hF
    refine wp_skip ?_
    refine T_n ?_
    refine R_seq ?_
    refine R_seq ?_
    refine R_reg ?_
    refine W_run (L' := [(0, .slice A0 d0.length cap0), (1, .slice A1 d1.length cap1), (5, .int .i64 0)]) (w' := w) f_2 1 [0, 1, 5] (by kernel_rfl) (fun a_4 f_4 => ?_)
    refine W_end rfl ?_
    refine T_n ?_
    refine wp_block ?_
    obtain ⟨b_1, hL_1, hF_3⟩ := bind_some' hF_2
    refine wp_mono (Q := fun e a w => (e = .ret ∧ (∃ y_4 : Unit, b_1 = .inl y_4 ∧ ∃ M_6 : Mem, M1.le M_6 ∧ Frm 59 [(4, .bool false)] a ∧ Hp w0 M_6 (H) w)) ∨ (e = .exit 0 ∧ (∃ y_5 : Unit, b_1 = .inr y_5 ∧ ∃ M_7 : Mem, M1.le M_7 ∧ Frm 59 [] a ∧ Hp w0 M_7 (H) w))) (R_loop (n := 59) (w0 := w0) (M := M1) (fun (x : Nat × Int) => match x with | (m_1, s_1) => [(0, .slice A0 d0.length cap0), (1, .slice A1 d1.length cap1), (5, .int .i64 s_1)]) (fun (x : Nat × Int) => match x with | (m_1, s_1) => (H)) (fun (x : Nat × Int) (MM : Mem) => match x with | (m_1, s_1) => loopF (ref21_May_s1 n d0 d1) m_1 s_1 = some b_1) (fun (x : Nat × Int) => match x with | (m_1, s_1) => m_1) (n, (0 : Int)) (f_4.keep (ks := [0, 1, 5]) (by kernel_rfl)) p0 hL_1 ?_) ?_
    · rintro ⟨m_1, s_1⟩ M_1 a_5 w_1 hM_1 I_1 f_5 p_1
      replace f_5 : Frm 59 [(0, .slice A0 d0.length cap0), (1, .slice A1 d1.length cap1), (5, .int .i64 s_1)] a_5 := f_5
      replace p_1 : Hp w0 M_1 (H) w_1 := p_1
      have I_1L := I_1
      obtain ⟨m_2, r_1, rfl, hs_1, hn_1⟩ := loop_step I_1L
      unfold ref21_May_s1 at hs_1
      refine R_seq ?_
      refine R_seq ?_
      refine R_reg ?_
      refine W_run (L' := [(0, .slice A0 d0.length cap0), (1, .slice A1 d1.length cap1), (5, .int .i64 s_1), (15, .bool (decide (s_1 < ((d0.length : Nat) : Int))))]) (w' := w_1) f_5 4 [0, 1, 5, 15] (by kernel_rfl) (fun a_6 f_6 => ?_)
      refine W_end rfl ?_
      refine T_n ?_
      refine R_cond f_6 (b := decide (s_1 < ((d0.length : Nat) : Int))) (by kernel_rfl) (by kernel_rfl) (fun h_2 => ?_) (fun h_2 => ?_)
      · have k_3 : s_1 < ((d0.length : Nat) : Int) := decide_eq_true_iff.1 h_2
        have hF_4 := cnd_t h_2 hs_1
        refine wp_skip ?_
        refine T_n ?_
        refine R_seq ?_
        refine wp_block ?_
        refine R_seq ?_
        refine R_seq ?_
        obtain ⟨j_1, hj_1, hF_5⟩ := bind_some' hF_4
        refine R_mid (fun a_16 w_2 => ∃ y_1 : Bool, j_1 = y_1 ∧ ∃ M_2 : Mem, M_1.le M_2 ∧ Frm 59 [(0, .slice A0 d0.length cap0), (1, .slice A1 d1.length cap1), (5, .int .i64 s_1), (29, .bool y_1)] a_16 ∧ Hp w0 M_2 (H) w_2) ?_ ?_
        · refine R_reg ?_
          refine W_run (L' := [(0, .slice A0 d0.length cap0), (1, .slice A1 d1.length cap1), (5, .int .i64 s_1), (18, .slice A1 d1.length cap1), (19, .int .i64 s_1)]) (w' := w_1) f_6 2 [0, 1, 5, 18, 19] (by kernel_rfl) (fun a_7 f_7 => ?_)
          obtain ⟨x_1, hx_1, hF_6⟩ := bind_some' hj_1
          obtain ⟨ad_1, c_1, e_1, hl_1, hr_1, hc_1⟩ := Sli.at_ (h1.mono hM_1) hx_1
          clear hl_1
          obtain rfl : c_1 = [.int .i8 x_1] := hr_1
          refine W_eq (v := .pointer (some (ad_1.add (s_1.toNat * 1)))) f_7 (by kernel_rfl) (by kernel_rfl) rfl rfl (X_indexAddrA e_1 rfl (len := d1.length) (cap := cap1) (k := .i64) (i := s_1) (by kernel_rfl) (by kernel_rfl) (e := 24) (by kernel_rfl) (sz := 1) (by kernel_rfl) (getI_nn hx_1) (getI_lt hx_1)) (fun a_8 f_8 => ?_)
          refine W_eq (v := .int .i8 x_1) f_8 (by kernel_rfl) (by kernel_rfl) rfl rfl (X_load1 (v := .int .i8 x_1) rfl (ad := ad_1.add (s_1.toNat * 1)) (by kernel_rfl) (by kernel_rfl) (p_1.cell (hc_1 0 _ rfl))) (fun a_9 f_9 => ?_)
          refine W_run (L' := [(0, .slice A0 d0.length cap0), (1, .slice A1 d1.length cap1), (5, .int .i64 s_1), (23, .bool (decide (x_1 < 0)))]) (w' := w_1) f_9 2 [0, 1, 5, 23] (by kernel_rfl) (fun a_10 f_10 => ?_)
          rcases Bool.eq_false_or_eq_true (decide (x_1 < 0)) with h_3 | h_3
          · have k_4 : x_1 < 0 := decide_eq_true_iff.1 h_3
            have hF_7 := cnd_t h_3 hF_6
            have f_11 := Frm.set f_10 23 (v := .bool (decide (x_1 < 0))) (v' := .bool true) (by kernel_rfl) (congrArg Value.bool h_3)
            have f_12 : Frm 59 [(0, .slice A0 d0.length cap0), (1, .slice A1 d1.length cap1), (5, .int .i64 s_1), (23, .bool true)] a_10 := f_11.keep (ks := [0, 1, 5, 23]) (by kernel_rfl)
            refine W_run (L' := [(0, .slice A0 d0.length cap0), (1, .slice A1 d1.length cap1), (5, .int .i64 s_1), (29, .bool true)]) (w' := w_1) f_12 6 [0, 1, 5, 29] (by kernel_rfl) (fun a_11 f_13 => ?_)
            refine W_end rfl ?_
            refine T_n ?_
            exact ⟨(true), (Option.some.inj hF_7).symm, M_1, (Mem.le_refl _), f_13.keep (ks := [0, 1, 5, 29]) (by kernel_rfl), p_1⟩
          · have k_5 : ¬ (x_1 < 0) := iff_f decide_eq_true_iff h_3
            have hF_8 := cnd_f h_3 hF_6
            have f_14 := Frm.set f_10 23 (v := .bool (decide (x_1 < 0))) (v' := .bool false) (by kernel_rfl) (congrArg Value.bool h_3)
            have f_15 : Frm 59 [(0, .slice A0 d0.length cap0), (1, .slice A1 d1.length cap1), (5, .int .i64 s_1), (23, .bool false)] a_10 := f_14.keep (ks := [0, 1, 5, 23]) (by kernel_rfl)
            refine W_run (L' := [(0, .slice A0 d0.length cap0), (1, .slice A1 d1.length cap1), (5, .int .i64 s_1), (23, .bool false), (24, .slice A1 d1.length cap1), (25, .int .i64 s_1)]) (w' := w_1) f_15 2 [0, 1, 5, 23, 24, 25] (by kernel_rfl) (fun a_12 f_16 => ?_)
            obtain ⟨x_2, hx_2, hF_9⟩ := bind_some' hF_8
            obtain ⟨ad_2, c_2, e_2, hl_2, hr_2, hc_2⟩ := Sli.at_ (h1.mono hM_1) hx_2
            clear hl_2
            obtain rfl : c_2 = [.int .i8 x_2] := hr_2
            refine W_eq (v := .pointer (some (ad_2.add (s_1.toNat * 1)))) f_16 (by kernel_rfl) (by kernel_rfl) rfl rfl (X_indexAddrA e_2 rfl (len := d1.length) (cap := cap1) (k := .i64) (i := s_1) (by kernel_rfl) (by kernel_rfl) (e := 24) (by kernel_rfl) (sz := 1) (by kernel_rfl) (getI_nn hx_2) (getI_lt hx_2)) (fun a_13 f_17 => ?_)
            refine W_eq (v := .int .i8 x_2) f_17 (by kernel_rfl) (by kernel_rfl) rfl rfl (X_load1 (v := .int .i8 x_2) rfl (ad := ad_2.add (s_1.toNat * 1)) (by kernel_rfl) (by kernel_rfl) (p_1.cell (hc_2 0 _ rfl))) (fun a_14 f_18 => ?_)
            refine W_run (L' := [(0, .slice A0 d0.length cap0), (1, .slice A1 d1.length cap1), (5, .int .i64 s_1), (29, .bool (decide ((5 : Int) < x_2)))]) (w' := w_1) f_18 2 [0, 1, 5, 29] (by kernel_rfl) (fun a_15 f_19 => ?_)
            refine W_end rfl ?_
            refine T_n ?_
            exact ⟨(decide ((5 : Int) < x_2)), (Option.some.inj hF_9).symm, M_1, (Mem.le_refl _), f_19.keep (ks := [0, 1, 5, 29]) (by kernel_rfl), p_1⟩
        · rintro a_16 w_2 ⟨y_1, hq_1, M_2, hM_2, f_20, p_2⟩
          subst j_1
          refine T_n ?_
          refine R_cond f_20 (b := y_1) (by kernel_rfl) (by kernel_rfl) (fun h_4 => ?_) (fun h_4 => ?_)
          · have hF_10 := cnd_t h_4 hF_5
            refine R_seq ?_
            refine R_reg ?_
            refine W_run (L' := [(4, .bool false)]) (w' := w_2) f_20 1 [4] (by kernel_rfl) (fun a_17 f_21 => ?_)
            refine W_end rfl ?_
            refine T_n ?_
            refine wp_ret ?_
            refine T_r ?_
            refine B_r ?_
            refine T_r ?_
            refine T_r ?_
            obtain rfl := Option.some.inj hF_10
            exact .inl ⟨rfl, (), (Option.some.inj hn_1).symm, M_2, (hM_1.trans hM_2), f_21.keep (ks := [4]) (by kernel_rfl), p_2⟩
          · have hF_11 := cnd_f h_4 hF_5
            refine wp_skip ?_
            refine T_n ?_
            refine R_seq ?_
            refine R_reg ?_
            refine W_run (L' := [(0, .slice A0 d0.length cap0), (1, .slice A1 d1.length cap1), (5, .int .i64 s_1), (6, .int .i64 0)]) (w' := w_2) f_20 1 [0, 1, 5, 6] (by kernel_rfl) (fun a_18 f_22 => ?_)
            refine W_end rfl ?_
            refine T_n ?_
            refine wp_block ?_
            obtain ⟨b_2, hL_2, hF_12⟩ := bind_some' hF_11
            refine wp_mono (Q := fun e a w => (e = .ret ∧ (∃ y_2 : Unit, b_2 = .inl y_2 ∧ ∃ M_4 : Mem, M_2.le M_4 ∧ Frm 59 [(4, .bool false)] a ∧ Hp w0 M_4 (H) w)) ∨ (e = .exit 2 ∧ (∃ y_3 : Unit, b_2 = .inr y_3 ∧ ∃ M_5 : Mem, M_2.le M_5 ∧ Frm 59 [(0, .slice A0 d0.length cap0), (1, .slice A1 d1.length cap1), (5, .int .i64 s_1)] a ∧ Hp w0 M_5 (H) w))) (R_loop (n := 59) (w0 := w0) (M := M_2) (fun (x : Nat × Int) => match x with | (m_3, s_2) => [(0, .slice A0 d0.length cap0), (1, .slice A1 d1.length cap1), (5, .int .i64 s_1), (6, .int .i64 s_2)]) (fun (x : Nat × Int) => match x with | (m_3, s_2) => (H)) (fun (x : Nat × Int) (MM : Mem) => match x with | (m_3, s_2) => loopF (ref21_May_s2 n d0 s_1) m_3 s_2 = some b_2) (fun (x : Nat × Int) => match x with | (m_3, s_2) => m_3) (n, (0 : Int)) (f_22.keep (ks := [0, 1, 5, 6]) (by kernel_rfl)) p_2 hL_2 ?_) ?_
            · rintro ⟨m_3, s_2⟩ M_3 a_19 w_3 hM_3 I_2 f_23 p_3
              replace f_23 : Frm 59 [(0, .slice A0 d0.length cap0), (1, .slice A1 d1.length cap1), (5, .int .i64 s_1), (6, .int .i64 s_2)] a_19 := f_23
              replace p_3 : Hp w0 M_3 (H) w_3 := p_3
              have I_2L := I_2
              obtain ⟨m_4, r_2, rfl, hs_2, hn_2⟩ := loop_step I_2L
              unfold ref21_May_s2 at hs_2
              refine R_seq ?_
              refine R_seq ?_
              refine R_reg ?_
              refine W_run (L' := [(0, .slice A0 d0.length cap0), (1, .slice A1 d1.length cap1), (5, .int .i64 s_1), (6, .int .i64 s_2), (30, .int .i64 s_2), (31, .slice A0 d0.length cap0), (32, .int .i64 s_1)]) (w' := w_3) f_23 3 [0, 1, 5, 6, 30, 31, 32] (by kernel_rfl) (fun a_20 f_24 => ?_)
              obtain ⟨x_3, hx_3, hF_13⟩ := bind_some' hs_2
              obtain ⟨ad_3, c_3, e_3, hl_3, hr_3, hc_3⟩ := Sli.at_ (h0.mono ((hM_1.trans hM_2).trans hM_3)) hx_3
              clear hl_3
              obtain ⟨A_1, cap_1, rfl, h_5⟩ := Rep.sli hr_3
              refine W_eq (v := .pointer (some (ad_3.add (s_1.toNat * 1)))) f_24 (by kernel_rfl) (by kernel_rfl) rfl rfl (X_indexAddrA e_3 rfl (len := d0.length) (cap := cap0) (k := .i64) (i := s_1) (by kernel_rfl) (by kernel_rfl) (e := 27) (by kernel_rfl) (sz := 1) (by kernel_rfl) (getI_nn hx_3) (getI_lt hx_3)) (fun a_21 f_25 => ?_)
              refine W_eq (v := .slice A_1 x_3.length cap_1) f_25 (by kernel_rfl) (by kernel_rfl) rfl rfl (X_load1 (v := .slice A_1 x_3.length cap_1) rfl (ad := ad_3.add (s_1.toNat * 1)) (by kernel_rfl) (by kernel_rfl) (p_3.cell (hc_3 0 _ rfl))) (fun a_22 f_26 => ?_)
              refine W_run (L' := [(0, .slice A0 d0.length cap0), (1, .slice A1 d1.length cap1), (5, .int .i64 s_1), (6, .int .i64 s_2), (36, .bool (decide (s_2 < ((x_3.length : Nat) : Int))))]) (w' := w_3) f_26 2 [0, 1, 5, 6, 36] (by kernel_rfl) (fun a_23 f_27 => ?_)
              refine W_end rfl ?_
              refine T_n ?_
              refine R_cond f_27 (b := decide (s_2 < ((x_3.length : Nat) : Int))) (by kernel_rfl) (by kernel_rfl) (fun h_6 => ?_) (fun h_6 => ?_)
              · have k_8 : s_2 < ((x_3.length : Nat) : Int) := decide_eq_true_iff.1 h_6
                have hF_14 := cnd_t h_6 hF_13
                refine wp_skip ?_
                refine T_n ?_
                refine R_seq ?_
                refine wp_block ?_
                refine R_seq ?_
                refine R_reg ?_
                refine W_run (L' := [(0, .slice A0 d0.length cap0), (1, .slice A1 d1.length cap1), (5, .int .i64 s_1), (6, .int .i64 s_2), (39, .slice A0 d0.length cap0), (40, .int .i64 s_1)]) (w' := w_3) f_27 2 [0, 1, 5, 6, 39, 40] (by kernel_rfl) (fun a_24 f_28 => ?_)
                obtain ⟨x_4, hx_4, hF_15⟩ := bind_some' hF_14
                obtain ⟨ad_4, c_4, e_4, hl_4, hr_4, hc_4⟩ := Sli.at_ (h0.mono ((hM_1.trans hM_2).trans hM_3)) hx_4
                clear hl_4
                obtain ⟨A_2, cap_2, rfl, h_7⟩ := Rep.sli hr_4
                refine W_eq (v := .pointer (some (ad_4.add (s_1.toNat * 1)))) f_28 (by kernel_rfl) (by kernel_rfl) rfl rfl (X_indexAddrA e_4 rfl (len := d0.length) (cap := cap0) (k := .i64) (i := s_1) (by kernel_rfl) (by kernel_rfl) (e := 27) (by kernel_rfl) (sz := 1) (by kernel_rfl) (getI_nn hx_4) (getI_lt hx_4)) (fun a_25 f_29 => ?_)
                refine W_eq (v := .slice A_2 x_4.length cap_2) f_29 (by kernel_rfl) (by kernel_rfl) rfl rfl (X_load1 (v := .slice A_2 x_4.length cap_2) rfl (ad := ad_4.add (s_1.toNat * 1)) (by kernel_rfl) (by kernel_rfl) (p_3.cell (hc_4 0 _ rfl))) (fun a_26 f_30 => ?_)
                refine W_run (L' := [(0, .slice A0 d0.length cap0), (1, .slice A1 d1.length cap1), (5, .int .i64 s_1), (6, .int .i64 s_2), (42, .slice A_2 x_4.length cap_2), (43, .int .i64 s_2)]) (w' := w_3) f_30 1 [0, 1, 5, 6, 42, 43] (by kernel_rfl) (fun a_27 f_31 => ?_)
                obtain ⟨x_5, hx_5, hF_16⟩ := bind_some' hF_15
                obtain ⟨ad_5, c_5, e_5, hl_5, hr_5, hc_5⟩ := Sli.at_ h_7 hx_5
                clear hl_5
                obtain rfl : c_5 = [.int .i64 x_5] := hr_5
                refine W_eq (v := .pointer (some (ad_5.add (s_2.toNat * 1)))) f_31 (by kernel_rfl) (by kernel_rfl) rfl rfl (X_indexAddrA e_5 rfl (len := x_4.length) (cap := cap_2) (k := .i64) (i := s_2) (by kernel_rfl) (by kernel_rfl) (e := 3) (by kernel_rfl) (sz := 1) (by kernel_rfl) (getI_nn hx_5) (getI_lt hx_5)) (fun a_28 f_32 => ?_)
                refine W_eq (v := .int .i64 x_5) f_32 (by kernel_rfl) (by kernel_rfl) rfl rfl (X_load1 (v := .int .i64 x_5) rfl (ad := ad_5.add (s_2.toNat * 1)) (by kernel_rfl) (by kernel_rfl) (p_3.cell (hc_5 0 _ rfl))) (fun a_29 f_33 => ?_)
                refine W_run (L' := [(0, .slice A0 d0.length cap0), (1, .slice A1 d1.length cap1), (5, .int .i64 s_1), (6, .int .i64 s_2), (47, .bool (decide (x_5 < 0)))]) (w' := w_3) f_33 2 [0, 1, 5, 6, 47] (by kernel_rfl) (fun a_30 f_34 => ?_)
                rcases Bool.eq_false_or_eq_true (decide (x_5 < 0)) with h_8 | h_8
                · have k_9 : x_5 < 0 := decide_eq_true_iff.1 h_8
                  have hF_17 := cnd_t h_8 hF_16
                  have f_35 := Frm.set f_34 47 (v := .bool (decide (x_5 < 0))) (v' := .bool true) (by kernel_rfl) (congrArg Value.bool h_8)
                  have f_36 : Frm 59 [(0, .slice A0 d0.length cap0), (1, .slice A1 d1.length cap1), (5, .int .i64 s_1), (6, .int .i64 s_2), (47, .bool true)] a_30 := f_35.keep (ks := [0, 1, 5, 6, 47]) (by kernel_rfl)
                  refine W_run (L' := [(0, .slice A0 d0.length cap0), (1, .slice A1 d1.length cap1), (5, .int .i64 s_1), (6, .int .i64 s_2), (58, .bool true)]) (w' := w_3) f_36 11 [0, 1, 5, 6, 58] (by kernel_rfl) (fun a_31 f_37 => ?_)
                  refine W_end rfl ?_
                  refine T_n ?_
                  refine R_cond_t f_37 (by kernel_rfl) (by kernel_rfl) ?_
                  refine R_seq ?_
                  refine R_reg ?_
                  refine W_run (L' := [(4, .bool false)]) (w' := w_3) f_37 1 [4] (by kernel_rfl) (fun a_32 f_38 => ?_)
                  refine W_end rfl ?_
                  refine T_n ?_
                  refine wp_ret ?_
                  refine B_r ?_
                  refine T_r ?_
                  refine T_r ?_
                  obtain rfl := Option.some.inj hF_17
                  exact .inl ⟨rfl, (), (Option.some.inj hn_2).symm, M_3, hM_3, f_38.keep (ks := [4]) (by kernel_rfl), p_3⟩
                · have k_10 : ¬ (x_5 < 0) := iff_f decide_eq_true_iff h_8
                  have hF_18 := cnd_f h_8 hF_16
                  have f_39 := Frm.set f_34 47 (v := .bool (decide (x_5 < 0))) (v' := .bool false) (by kernel_rfl) (congrArg Value.bool h_8)
                  have f_40 : Frm 59 [(0, .slice A0 d0.length cap0), (1, .slice A1 d1.length cap1), (5, .int .i64 s_1), (6, .int .i64 s_2), (47, .bool false)] a_30 := f_39.keep (ks := [0, 1, 5, 6, 47]) (by kernel_rfl)
                  refine W_run (L' := [(0, .slice A0 d0.length cap0), (1, .slice A1 d1.length cap1), (5, .int .i64 s_1), (6, .int .i64 s_2), (47, .bool false), (48, .slice A0 d0.length cap0), (49, .int .i64 s_1)]) (w' := w_3) f_40 2 [0, 1, 5, 6, 47, 48, 49] (by kernel_rfl) (fun a_33 f_41 => ?_)
                  obtain ⟨x_6, hx_6, hF_19⟩ := bind_some' hF_18
                  obtain ⟨ad_6, c_6, e_6, hl_6, hr_6, hc_6⟩ := Sli.at_ (h0.mono ((hM_1.trans hM_2).trans hM_3)) hx_6
                  clear hl_6
                  obtain ⟨A_3, cap_3, rfl, h_9⟩ := Rep.sli hr_6
                  refine W_eq (v := .pointer (some (ad_6.add (s_1.toNat * 1)))) f_41 (by kernel_rfl) (by kernel_rfl) rfl rfl (X_indexAddrA e_6 rfl (len := d0.length) (cap := cap0) (k := .i64) (i := s_1) (by kernel_rfl) (by kernel_rfl) (e := 27) (by kernel_rfl) (sz := 1) (by kernel_rfl) (getI_nn hx_6) (getI_lt hx_6)) (fun a_34 f_42 => ?_)
                  refine W_eq (v := .slice A_3 x_6.length cap_3) f_42 (by kernel_rfl) (by kernel_rfl) rfl rfl (X_load1 (v := .slice A_3 x_6.length cap_3) rfl (ad := ad_6.add (s_1.toNat * 1)) (by kernel_rfl) (by kernel_rfl) (p_3.cell (hc_6 0 _ rfl))) (fun a_35 f_43 => ?_)
                  refine W_run (L' := [(0, .slice A0 d0.length cap0), (1, .slice A1 d1.length cap1), (5, .int .i64 s_1), (6, .int .i64 s_2), (47, .bool false), (51, .slice A_3 x_6.length cap_3), (52, .int .i64 s_2)]) (w' := w_3) f_43 1 [0, 1, 5, 6, 47, 51, 52] (by kernel_rfl) (fun a_36 f_44 => ?_)
                  obtain ⟨x_7, hx_7, hF_20⟩ := bind_some' hF_19
                  obtain ⟨ad_7, c_7, e_7, hl_7, hr_7, hc_7⟩ := Sli.at_ h_9 hx_7
                  clear hl_7
                  obtain rfl : c_7 = [.int .i64 x_7] := hr_7
                  refine W_eq (v := .pointer (some (ad_7.add (s_2.toNat * 1)))) f_44 (by kernel_rfl) (by kernel_rfl) rfl rfl (X_indexAddrA e_7 rfl (len := x_6.length) (cap := cap_3) (k := .i64) (i := s_2) (by kernel_rfl) (by kernel_rfl) (e := 3) (by kernel_rfl) (sz := 1) (by kernel_rfl) (getI_nn hx_7) (getI_lt hx_7)) (fun a_37 f_45 => ?_)
                  refine W_eq (v := .int .i64 x_7) f_45 (by kernel_rfl) (by kernel_rfl) rfl rfl (X_load1 (v := .int .i64 x_7) rfl (ad := ad_7.add (s_2.toNat * 1)) (by kernel_rfl) (by kernel_rfl) (p_3.cell (hc_7 0 _ rfl))) (fun a_38 f_46 => ?_)
                  refine W_run (L' := [(0, .slice A0 d0.length cap0), (1, .slice A1 d1.length cap1), (5, .int .i64 s_1), (6, .int .i64 s_2), (58, .bool (decide (((d0.length : Nat) : Int) ≤ x_7)))]) (w' := w_3) f_46 4 [0, 1, 5, 6, 58] (by kernel_rfl) (fun a_39 f_47 => ?_)
                  refine W_end rfl ?_
                  refine T_n ?_
                  refine R_cond f_47 (b := decide (((d0.length : Nat) : Int) ≤ x_7)) (by kernel_rfl) (by kernel_rfl) (fun h_10 => ?_) (fun h_10 => ?_)
                  · have k_11 : ((d0.length : Nat) : Int) ≤ x_7 := decide_eq_true_iff.1 h_10
                    have hF_21 := cnd_t h_10 hF_20
                    refine R_seq ?_
                    refine R_reg ?_
                    refine W_run (L' := [(4, .bool false)]) (w' := w_3) f_47 1 [4] (by kernel_rfl) (fun a_40 f_48 => ?_)
                    refine W_end rfl ?_
                    refine T_n ?_
                    refine wp_ret ?_
                    refine B_r ?_
                    refine T_r ?_
                    refine T_r ?_
                    obtain rfl := Option.some.inj hF_21
                    exact .inl ⟨rfl, (), (Option.some.inj hn_2).symm, M_3, hM_3, f_48.keep (ks := [4]) (by kernel_rfl), p_3⟩
                  · have k_12 : ¬ (((d0.length : Nat) : Int) ≤ x_7) := iff_f decide_eq_true_iff h_10
                    have hF_22 := cnd_f h_10 hF_20
                    refine wp_skip ?_
                    refine B_n ?_
                    refine T_n ?_
                    refine R_reg ?_
                    refine W_run (L' := [(0, .slice A0 d0.length cap0), (1, .slice A1 d1.length cap1), (5, .int .i64 s_1), (37, .int .i64 s_2)]) (w' := w_3) f_47 1 [0, 1, 5, 37] (by kernel_rfl) (fun a_41 f_49 => ?_)
                    obtain ⟨g_1, hF_23⟩ := need_some hF_22
                    refine W_run (L' := [(0, .slice A0 d0.length cap0), (1, .slice A1 d1.length cap1), (5, .int .i64 s_1), (37, .int .i64 s_2), (38, .int .i64 (IntKind.wrap .i64 (s_2 + 1)))]) (w' := w_3) f_49 1 [0, 1, 5, 37, 38] (by kernel_rfl) (fun a_42 f_50 => ?_)
                    have f_51 := Frm.set f_50 38 (v := .int .i64 (IntKind.wrap .i64 (s_2 + 1))) (v' := .int .i64 (s_2 + 1)) (by kernel_rfl) (congrArg (Value.int .i64) (inR_wrap g_1))
                    have f_52 : Frm 59 [(0, .slice A0 d0.length cap0), (1, .slice A1 d1.length cap1), (5, .int .i64 s_1), (37, .int .i64 s_2), (38, .int .i64 (s_2 + 1))] a_42 := f_51.keep (ks := [0, 1, 5, 37, 38]) (by kernel_rfl)
                    refine W_run (L' := [(0, .slice A0 d0.length cap0), (1, .slice A1 d1.length cap1), (5, .int .i64 s_1), (6, .int .i64 (s_2 + 1))]) (w' := w_3) f_52 1 [0, 1, 5, 6] (by kernel_rfl) (fun a_43 f_53 => ?_)
                    refine W_end rfl ?_
                    refine T_n ?_
                    obtain rfl := Option.some.inj hF_23
                    exact ⟨⟨m_4, s_2 + 1⟩, Nat.lt_succ_self _, M_3, hM_3, hn_2, f_53.keep (ks := [0, 1, 5, 6]) (by kernel_rfl), p_3⟩
              · have k_13 : ¬ (s_2 < ((x_3.length : Nat) : Int)) := iff_f decide_eq_true_iff h_6
                have hF_24 := cnd_f h_6 hF_13
                refine wp_exit ?_
                refine T_x ?_
                refine T_x ?_
                obtain rfl := Option.some.inj hF_24
                exact .inr ⟨rfl, (), (Option.some.inj hn_2).symm, M_3, hM_3, f_27.keep (ks := [0, 1, 5]) (by kernel_rfl), p_3⟩
            · rintro _ a_46 w_6 (⟨rfl, y_2, rfl, M_4, hM_4, f_54, p_4⟩ | ⟨rfl, y_3, rfl, M_5, hM_5, f_55, p_5⟩)
              · refine B_r ?_
                refine B_r ?_
                refine T_r ?_
                refine T_r ?_
                obtain rfl := Option.some.inj hF_12
                exact .inl ⟨rfl, (), (Option.some.inj hn_1).symm, M_4, ((hM_1.trans hM_2).trans hM_4), f_54.keep (ks := [4]) (by kernel_rfl), p_4⟩
              · refine B_x ?_
                refine B_n ?_
                refine T_n ?_
                refine R_reg ?_
                refine W_run (L' := [(0, .slice A0 d0.length cap0), (1, .slice A1 d1.length cap1), (16, .int .i64 s_1)]) (w' := w_6) f_55 1 [0, 1, 16] (by kernel_rfl) (fun a_47 f_56 => ?_)
                obtain ⟨g_2, hF_25⟩ := need_some hF_12
                refine W_run (L' := [(0, .slice A0 d0.length cap0), (1, .slice A1 d1.length cap1), (16, .int .i64 s_1), (17, .int .i64 (IntKind.wrap .i64 (s_1 + 1)))]) (w' := w_6) f_56 1 [0, 1, 16, 17] (by kernel_rfl) (fun a_48 f_57 => ?_)
                have f_58 := Frm.set f_57 17 (v := .int .i64 (IntKind.wrap .i64 (s_1 + 1))) (v' := .int .i64 (s_1 + 1)) (by kernel_rfl) (congrArg (Value.int .i64) (inR_wrap g_2))
                have f_59 : Frm 59 [(0, .slice A0 d0.length cap0), (1, .slice A1 d1.length cap1), (16, .int .i64 s_1), (17, .int .i64 (s_1 + 1))] a_48 := f_58.keep (ks := [0, 1, 16, 17]) (by kernel_rfl)
                refine W_run (L' := [(0, .slice A0 d0.length cap0), (1, .slice A1 d1.length cap1), (5, .int .i64 (s_1 + 1))]) (w' := w_6) f_59 1 [0, 1, 5] (by kernel_rfl) (fun a_49 f_60 => ?_)
                refine W_end rfl ?_
                refine T_n ?_
                obtain rfl := Option.some.inj hF_25
                exact ⟨⟨m_2, s_1 + 1⟩, Nat.lt_succ_self _, M_5, ((hM_1.trans hM_2).trans hM_5), hn_1, f_60.keep (ks := [0, 1, 5]) (by kernel_rfl), p_5⟩
      · have k_14 : ¬ (s_1 < ((d0.length : Nat) : Int)) := iff_f decide_eq_true_iff h_2
        have hF_26 := cnd_f h_2 hs_1
        refine wp_exit ?_
        refine T_x ?_
        refine T_x ?_
        obtain rfl := Option.some.inj hF_26
        exact .inr ⟨rfl, (), (Option.some.inj hn_1).symm, M_1, hM_1, f_6.keep (ks := []) (by kernel_rfl), p_1⟩
    · rintro _ a_52 w_9 (⟨rfl, y_4, rfl, M_6, hM_6, f_61, p_6⟩ | ⟨rfl, y_5, rfl, M_7, hM_7, f_62, p_7⟩)
      · refine B_r ?_
        refine T_r ?_
        refine E_ret1 f_61 rfl (by kernel_rfl : Vc.look _ 4 = some (.bool false)) ?_
        obtain rfl := Option.some.inj hF_3
        exact ⟨_, rfl, M_6, hM_6, p_6, rfl⟩
      · refine B_x ?_
        refine T_n ?_
        refine R_seq ?_
        refine R_reg ?_
        refine W_run (L' := [(4, .bool true)]) (w' := w_9) f_62 1 [4] (by kernel_rfl) (fun a_53 f_63 => ?_)
        refine W_end rfl ?_
        refine T_n ?_
        refine wp_ret ?_
        refine E_ret1 f_63 rfl (by kernel_rfl : Vc.look _ 4 = some (.bool true)) ?_
        obtain rfl := Option.some.inj hF_3
        exact ⟨_, rfl, M_7, hM_7, p_7, rfl⟩

def ref21_Over (n : Nat) (d0 : List Int) : Option Bool :=
  (ref21_Count n d0 (1 : Int)).bind fun x_1 =>
  (ref21_Count n d0 (2 : Int)).bind fun x_2 =>
  need (inR .i64 (x_1 + x_2)) <|
  some ((decide ((x_1 + x_2) = 0)))
theorem ref21_Over_ok (n : Nat) (M : Mem) (A0 : Option Addr) (cap0 : Nat) (d0 : List Int) (h0 : Sli M 1 (Dat.int .i8) A0 cap0 d0) (r : Bool) (hF : ref21_Over n d0 = some r) : Ok Try.prog M 14 [.slice A0 d0.length cap0] (fun _ v => v = .bool r) := by
  unfold ref21_Over at hF
  intro M1 hM0 w0 H w p0
  replace h0 := h0.mono hM0
  refine R_enter 9 Try.func14 rfl rfl (by simp) (fun a0 f0 => ?_)
  replace f0 : Frm 9 [(0, .slice A0 d0.length cap0)] a0 := f0
  refine R_seq ?_
  refine R_reg ?_
  refine W_run (L' := [(0, .slice A0 d0.length cap0)]) (w' := w) f0 1 [0] (by kernel_rfl) (fun a_1 f_1 => ?_)
  refine W_end rfl ?_
  refine T_n ?_
  refine R_seq ?_
  refine R_reg ?_
  refine W_run (L' := [(0, .slice A0 d0.length cap0), (3, .slice A0 d0.length cap0)]) (w' := w) f_1 1 [0, 3] (by kernel_rfl) (fun a_2 f_2 => ?_)
  obtain ⟨x_1, hx_1, hF_1⟩ := bind_some' hF
  refine W_okv (v := .int .i64 x_1) f_2 p0 (by kernel_rfl) (by kernel_rfl) rfl rfl (fun _ => by kernel_rfl) (ref21_Count_ok n _ A0 cap0 d0 h0 (1 : Int) x_1 hx_1) (fun w_1 p_1 a_3 f_3 => ?_)
  refine W_run (L' := [(4, .int .i64 x_1), (5, .slice A0 d0.length cap0)]) (w' := w_1) f_3 1 [4, 5] (by kernel_rfl) (fun a_4 f_4 => ?_)
  obtain ⟨x_2, hx_2, hF_2⟩ := bind_some' hF_1
  refine W_okv (v := .int .i64 x_2) f_4 p_1 (by kernel_rfl) (by kernel_rfl) rfl rfl (fun _ => by kernel_rfl) (ref21_Count_ok n _ A0 cap0 d0 h0 (2 : Int) x_2 hx_2) (fun w_2 p_2 a_5 f_5 => ?_)
  obtain ⟨g_1, hF_3⟩ := need_some hF_2
  refine W_run (L' := [(4, .int .i64 x_1), (5, .slice A0 d0.length cap0), (6, .int .i64 x_2), (7, .int .i64 (IntKind.wrap .i64 (x_1 + x_2)))]) (w' := w_2) f_5 1 [4, 5, 6, 7] (by kernel_rfl) (fun a_6 f_6 => ?_)
  have f_7 := Frm.set f_6 7 (v := .int .i64 (IntKind.wrap .i64 (x_1 + x_2))) (v' := .int .i64 (x_1 + x_2)) (by kernel_rfl) (congrArg (Value.int .i64) (inR_wrap g_1))
  have f_8 : Frm 9 [(4, .int .i64 x_1), (5, .slice A0 d0.length cap0), (6, .int .i64 x_2), (7, .int .i64 (x_1 + x_2))] a_6 := f_7.keep (ks := [4, 5, 6, 7]) (by kernel_rfl)
  refine W_run (L' := [(2, .bool (decide ((x_1 + x_2) = 0)))]) (w' := w_2) f_8 2 [2] (by kernel_rfl) (fun a_7 f_9 => ?_)
  refine W_end rfl ?_
  refine T_n ?_
  refine wp_ret ?_
  refine E_ret1 f_9 rfl (by kernel_rfl : Vc.look _ 2 = some (.bool (decide ((x_1 + x_2) = 0)))) ?_
  obtain rfl := Option.some.inj hF_3
  exact ⟨_, rfl, M1, (Mem.le_refl _), p_2, rfl⟩

def ready_May_1 (n : Nat) (d0 : Int) (d1 : List (List Int)) : Option Bool :=
  bif (decide (d0 < 0)) then
    (some ((true)))
  else
    some ((decide (((d1.length : Nat) : Int) ≤ d0)))
theorem ready_May_1_ok (n : Nat) (M : Mem) (d0 : Int) (ad1 : Addr) (c1 : List Value) (d1 : List (List Int)) (h1 : Rep M ((eL 1 (eL 1 (Dat.int .i64))) d1) c1) (q1 : ∀ j v, c1[j]? = some v → M.cell? (ad1.add j) = some v) (r : Bool) (hF : ready_May_1 n d0 d1 = some r) : Ok Try.prog M 38 [.int .i64 d0, .pointer (some ad1)] (fun _ v => v = .bool r) := by
  unfold ready_May_1 at hF
  intro M1 hM0 w0 H w p0
  replace h1 := Rep.mono hM0 _ _ h1
  replace q1 := fun j v h => hM0.cell (q1 j v h)
  obtain ⟨A_1, cap_1, rfl, h_1⟩ := Rep.sli h1
  refine R_enter 12 Try.func38 rfl rfl (by simp) (fun a0 f0 => ?_)
  replace f0 : Frm 12 [(0, .int .i64 d0), (1, .pointer (some ad1))] a0 := f0
  refine R_seq ?_
  refine R_reg ?_
  refine W_run (L' := [(0, .int .i64 d0), (1, .pointer (some ad1))]) (w' := w) f0 1 [0, 1] (by kernel_rfl) (fun a_1 f_1 => ?_)
  refine W_end rfl ?_
  refine T_n ?_
  refine R_seq ?_
  refine R_reg ?_
  refine W_run (L' := [(0, .int .i64 d0), (1, .pointer (some ad1)), (6, .bool (decide (d0 < 0)))]) (w' := w) f_1 3 [0, 1, 6] (by kernel_rfl) (fun a_2 f_2 => ?_)
  rcases Bool.eq_false_or_eq_true (decide (d0 < 0)) with h_2 | h_2
  · have k_1 : d0 < 0 := decide_eq_true_iff.1 h_2
    have hF_1 := cnd_t h_2 hF
    have f_3 := Frm.set f_2 6 (v := .bool (decide (d0 < 0))) (v' := .bool true) (by kernel_rfl) (congrArg Value.bool h_2)
    have f_4 : Frm 12 [(0, .int .i64 d0), (1, .pointer (some ad1)), (6, .bool true)] a_2 := f_3.keep (ks := [0, 1, 6]) (by kernel_rfl)
    refine W_run (L' := [(3, .bool true)]) (w' := w) f_4 6 [3] (by kernel_rfl) (fun a_3 f_5 => ?_)
    refine W_end rfl ?_
    refine T_n ?_
    refine wp_ret ?_
    refine E_ret1 f_5 rfl (by kernel_rfl : Vc.look _ 3 = some (.bool true)) ?_
    obtain rfl := Option.some.inj hF_1
    exact ⟨_, rfl, M1, (Mem.le_refl _), p0, rfl⟩
  · have k_2 : ¬ (d0 < 0) := iff_f decide_eq_true_iff h_2
    have hF_2 := cnd_f h_2 hF
    have f_6 := Frm.set f_2 6 (v := .bool (decide (d0 < 0))) (v' := .bool false) (by kernel_rfl) (congrArg Value.bool h_2)
    have f_7 : Frm 12 [(0, .int .i64 d0), (1, .pointer (some ad1)), (6, .bool false)] a_2 := f_6.keep (ks := [0, 1, 6]) (by kernel_rfl)
    refine W_run (L' := [(1, .pointer (some ad1)), (6, .bool false), (7, .int .i64 d0)]) (w' := w) f_7 1 [1, 6, 7] (by kernel_rfl) (fun a_4 f_8 => ?_)
    refine W_eq (v := .slice A_1 d1.length cap_1) f_8 (by kernel_rfl) (by kernel_rfl) rfl rfl (X_load1 (v := .slice A_1 d1.length cap_1) rfl (ad := ad1) (by kernel_rfl) (by kernel_rfl) (p0.cell (q1 0 _ rfl))) (fun a_5 f_9 => ?_)
    refine W_run (L' := [(3, .bool (decide (((d1.length : Nat) : Int) ≤ d0)))]) (w' := w) f_9 4 [3] (by kernel_rfl) (fun a_6 f_10 => ?_)
    refine W_end rfl ?_
    refine T_n ?_
    refine wp_ret ?_
    refine E_ret1 f_10 rfl (by kernel_rfl : Vc.look _ 3 = some (.bool (decide (((d1.length : Nat) : Int) ≤ d0)))) ?_
    obtain rfl := Option.some.inj hF_2
    exact ⟨_, rfl, M1, (Mem.le_refl _), p0, rfl⟩

def slices_IndexFuncint_int_s1 (n : Nat) (d0 : List Int) (d1_0 : List (List Int)) (s_1 : Int) : Option (Lp Int (Sum Int Unit)) :=
    bif (decide (s_1 < ((d0.length : Nat) : Int))) then
      ((getI d0 s_1).bind fun x_1 =>
      (ready_May_1 n x_1 d1_0).bind fun x_2 =>
      bif x_2 then
        (some (.br (.inl s_1)))
      else
        need (inR .i64 (s_1 + 1)) <|
        some (.nx (s_1 + 1)))
    else
      some (.br (.inr ()))
def slices_IndexFuncint_int (n : Nat) (d0 : List Int) (d1_0 : List (List Int)) : Option Int :=
  (loopF (slices_IndexFuncint_int_s1 n d0 d1_0) n (0 : Int)).bind fun b_1 =>
  (match b_1 with 
  | .inl y_1 => some (y_1) 
  | .inr y_2 => some ((-1 : Int)))
theorem slices_IndexFuncint_int_ok (n : Nat) (M : Mem) (A0 : Option Addr) (cap0 : Nat) (d0 : List Int) (h0 : Sli M 1 (Dat.int .i64) A0 cap0 d0) (ad1_0 : Addr) (c1_0 : List Value) (d1_0 : List (List Int)) (h1_0 : Rep M ((eL 1 (eL 1 (Dat.int .i64))) d1_0) c1_0) (q1_0 : ∀ j v, c1_0[j]? = some v → M.cell? (ad1_0.add j) = some v) (r : Int) (hF : slices_IndexFuncint_int n d0 d1_0 = some r) : Ok Try.prog M 53 [.slice A0 d0.length cap0, .func (.func 38) #[] #[.pointer (some ad1_0)]] (fun _ v => v = .int .i64 r) := by
  unfold slices_IndexFuncint_int at hF
  intro M1 hM0 w0 H w p0
  replace h0 := h0.mono hM0
  replace h1_0 := Rep.mono hM0 _ _ h1_0
  replace q1_0 := fun j v h => hM0.cell (q1_0 j v h)
  obtain ⟨A_1, cap_1, rfl, h_1⟩ := Rep.sli h1_0
  refine R_enter 19 Try.func53 rfl rfl (by simp) (fun a0 f0 => ?_)
  replace f0 : Frm 19 [(0, .slice A0 d0.length cap0), (1, .func (.func 38) #[] #[.pointer (some ad1_0)])] a0 := f0
  refine R_seq ?_
  refine R_reg ?_
  refine W_run (L' := [(0, .slice A0 d0.length cap0), (1, .func (.func 38) #[] #[.pointer (some ad1_0)])]) (w' := w) f0 1 [0, 1] (by kernel_rfl) (fun a_1 f_1 => ?_)
  refine W_end rfl ?_
  refine T_n ?_
  refine R_seq ?_
  refine R_seq ?_
  refine R_reg ?_
  refine W_run (L' := [(0, .slice A0 d0.length cap0), (1, .func (.func 38) #[] #[.pointer (some ad1_0)]), (7, .int .i64 ((d0.length : Nat) : Int)), (8, .int .i64 0)]) (w' := w) f_1 3 [0, 1, 7, 8] (by kernel_rfl) (fun a_2 f_2 => ?_)
  refine W_end rfl ?_
  refine T_n ?_
  refine wp_block ?_
  obtain ⟨b_1, hL_1, hF_1⟩ := bind_some' hF
  refine wp_mono (Q := fun e a w => (e = .ret ∧ (∃ y_1 : Int, b_1 = .inl y_1 ∧ ∃ M_2 : Mem, M1.le M_2 ∧ Frm 19 [(4, .int .i64 y_1)] a ∧ Hp w0 M_2 (H) w)) ∨ (e = .exit 0 ∧ (∃ y_2 : Unit, b_1 = .inr y_2 ∧ ∃ M_3 : Mem, M1.le M_3 ∧ Frm 19 [] a ∧ Hp w0 M_3 (H) w))) (R_loop (n := 19) (w0 := w0) (M := M1) (fun (x : Nat × Int) => match x with | (m_1, s_1) => [(0, .slice A0 d0.length cap0), (1, .func (.func 38) #[] #[.pointer (some ad1_0)]), (7, .int .i64 ((d0.length : Nat) : Int)), (8, .int .i64 s_1)]) (fun (x : Nat × Int) => match x with | (m_1, s_1) => (H)) (fun (x : Nat × Int) (MM : Mem) => match x with | (m_1, s_1) => loopF (slices_IndexFuncint_int_s1 n d0 d1_0) m_1 s_1 = some b_1) (fun (x : Nat × Int) => match x with | (m_1, s_1) => m_1) (n, (0 : Int)) (f_2.keep (ks := [0, 1, 7, 8]) (by kernel_rfl)) p0 hL_1 ?_) ?_
  · rintro ⟨m_1, s_1⟩ M_1 a_3 w_1 hM_1 I_1 f_3 p_1
    replace f_3 : Frm 19 [(0, .slice A0 d0.length cap0), (1, .func (.func 38) #[] #[.pointer (some ad1_0)]), (7, .int .i64 ((d0.length : Nat) : Int)), (8, .int .i64 s_1)] a_3 := f_3
    replace p_1 : Hp w0 M_1 (H) w_1 := p_1
    have I_1L := I_1
    obtain ⟨m_2, r_1, rfl, hs_1, hn_1⟩ := loop_step I_1L
    unfold slices_IndexFuncint_int_s1 at hs_1
    refine R_seq ?_
    refine R_reg ?_
    refine W_run (L' := [(0, .slice A0 d0.length cap0), (1, .func (.func 38) #[] #[.pointer (some ad1_0)]), (7, .int .i64 ((d0.length : Nat) : Int)), (8, .int .i64 s_1), (9, .bool (decide (s_1 < ((d0.length : Nat) : Int))))]) (w' := w_1) f_3 1 [0, 1, 7, 8, 9] (by kernel_rfl) (fun a_4 f_4 => ?_)
    refine W_end rfl ?_
    refine T_n ?_
    refine R_seq ?_
    refine R_cond f_4 (b := decide (s_1 < ((d0.length : Nat) : Int))) (by kernel_rfl) (by kernel_rfl) (fun h_2 => ?_) (fun h_2 => ?_)
    · have k_1 : s_1 < ((d0.length : Nat) : Int) := decide_eq_true_iff.1 h_2
      have hF_2 := cnd_t h_2 hs_1
      refine wp_skip ?_
      refine T_n ?_
      refine R_seq ?_
      refine wp_block ?_
      refine R_seq ?_
      refine R_reg ?_
      refine W_run (L' := [(0, .slice A0 d0.length cap0), (1, .func (.func 38) #[] #[.pointer (some ad1_0)]), (5, .int .i64 s_1), (7, .int .i64 ((d0.length : Nat) : Int)), (8, .int .i64 s_1)]) (w' := w_1) f_4 2 [0, 1, 5, 7, 8] (by kernel_rfl) (fun a_5 f_5 => ?_)
      refine W_end rfl ?_
      refine T_n ?_
      refine R_seq ?_
      refine R_reg ?_
      refine W_run (L' := [(0, .slice A0 d0.length cap0), (1, .func (.func 38) #[] #[.pointer (some ad1_0)]), (5, .int .i64 s_1), (7, .int .i64 ((d0.length : Nat) : Int)), (8, .int .i64 s_1), (11, .func (.func 38) #[] #[.pointer (some ad1_0)]), (12, .slice A0 d0.length cap0), (13, .int .i64 s_1)]) (w' := w_1) f_5 3 [0, 1, 5, 7, 8, 11, 12, 13] (by kernel_rfl) (fun a_6 f_6 => ?_)
      obtain ⟨x_1, hx_1, hF_3⟩ := bind_some' hF_2
      obtain ⟨ad_1, c_1, e_1, hl_1, hr_1, hc_1⟩ := Sli.at_ (h0.mono hM_1) hx_1
      clear hl_1
      obtain rfl : c_1 = [.int .i64 x_1] := hr_1
      refine W_eq (v := .pointer (some (ad_1.add (s_1.toNat * 1)))) f_6 (by kernel_rfl) (by kernel_rfl) rfl rfl (X_indexAddrA e_1 rfl (len := d0.length) (cap := cap0) (k := .i64) (i := s_1) (by kernel_rfl) (by kernel_rfl) (e := 3) (by kernel_rfl) (sz := 1) (by kernel_rfl) (getI_nn hx_1) (getI_lt hx_1)) (fun a_7 f_7 => ?_)
      refine W_eq (v := .int .i64 x_1) f_7 (by kernel_rfl) (by kernel_rfl) rfl rfl (X_load1 (v := .int .i64 x_1) rfl (ad := ad_1.add (s_1.toNat * 1)) (by kernel_rfl) (by kernel_rfl) (p_1.cell (hc_1 0 _ rfl))) (fun a_8 f_8 => ?_)
      obtain ⟨x_2, hx_2, hF_4⟩ := bind_some' hF_3
      refine W_okv (v := .bool x_2) f_8 p_1 (by kernel_rfl) (by kernel_rfl) rfl rfl (fun _ => by kernel_rfl) (ready_May_1_ok n _ x_1 ad1_0 [.slice A_1 d1_0.length cap_1] d1_0 (Sli.rep (h_1.mono hM_1)) (fz_at ((fun j v h => hM_1.cell (q1_0 j v h))) 0 rfl) x_2 hx_2) (fun w_2 p_2 a_9 f_9 => ?_)
      refine W_end rfl ?_
      refine T_n ?_
      refine R_cond f_9 (b := x_2) (by kernel_rfl) (by kernel_rfl) (fun h_3 => ?_) (fun h_3 => ?_)
      · have hF_5 := cnd_t h_3 hF_4
        refine R_seq ?_
        refine R_reg ?_
        refine W_run (L' := [(4, .int .i64 s_1)]) (w' := w_2) f_9 2 [4] (by kernel_rfl) (fun a_10 f_10 => ?_)
        refine W_end rfl ?_
        refine T_n ?_
        refine wp_ret ?_
        refine B_r ?_
        refine T_r ?_
        refine T_r ?_
        obtain rfl := Option.some.inj hF_5
        exact .inl ⟨rfl, s_1, (Option.some.inj hn_1).symm, M_1, hM_1, f_10.keep (ks := [4]) (by kernel_rfl), p_2⟩
      · have hF_6 := cnd_f h_3 hF_4
        refine wp_skip ?_
        refine B_n ?_
        refine T_n ?_
        refine R_reg ?_
        obtain ⟨g_1, hF_7⟩ := need_some hF_6
        refine W_run (L' := [(0, .slice A0 d0.length cap0), (1, .func (.func 38) #[] #[.pointer (some ad1_0)]), (5, .int .i64 s_1), (7, .int .i64 ((d0.length : Nat) : Int)), (8, .int .i64 s_1), (11, .func (.func 38) #[] #[.pointer (some ad1_0)]), (12, .slice A0 d0.length cap0), (13, .int .i64 s_1), (14, .pointer (some (ad_1.add (s_1.toNat * 1)))), (15, .int .i64 x_1), (16, .bool x_2), (18, .int .i64 (IntKind.wrap .i64 (s_1 + 1)))]) (w' := w_2) f_9 1 [0, 1, 5, 7, 8, 11, 12, 13, 14, 15, 16, 18] (by kernel_rfl) (fun a_11 f_11 => ?_)
        have f_12 := Frm.set f_11 18 (v := .int .i64 (IntKind.wrap .i64 (s_1 + 1))) (v' := .int .i64 (s_1 + 1)) (by kernel_rfl) (congrArg (Value.int .i64) (inR_wrap g_1))
        have f_13 : Frm 19 [(0, .slice A0 d0.length cap0), (1, .func (.func 38) #[] #[.pointer (some ad1_0)]), (5, .int .i64 s_1), (7, .int .i64 ((d0.length : Nat) : Int)), (8, .int .i64 s_1), (11, .func (.func 38) #[] #[.pointer (some ad1_0)]), (12, .slice A0 d0.length cap0), (13, .int .i64 s_1), (14, .pointer (some (ad_1.add (s_1.toNat * 1)))), (15, .int .i64 x_1), (16, .bool x_2), (18, .int .i64 (s_1 + 1))] a_11 := f_12.keep (ks := [0, 1, 5, 7, 8, 11, 12, 13, 14, 15, 16, 18]) (by kernel_rfl)
        refine W_run (L' := [(0, .slice A0 d0.length cap0), (1, .func (.func 38) #[] #[.pointer (some ad1_0)]), (7, .int .i64 ((d0.length : Nat) : Int)), (8, .int .i64 (s_1 + 1))]) (w' := w_2) f_13 1 [0, 1, 7, 8] (by kernel_rfl) (fun a_12 f_14 => ?_)
        refine W_end rfl ?_
        refine T_n ?_
        obtain rfl := Option.some.inj hF_7
        exact ⟨⟨m_2, s_1 + 1⟩, Nat.lt_succ_self _, M_1, hM_1, hn_1, f_14.keep (ks := [0, 1, 7, 8]) (by kernel_rfl), p_2⟩
    · have k_4 : ¬ (s_1 < ((d0.length : Nat) : Int)) := iff_f decide_eq_true_iff h_2
      have hF_8 := cnd_f h_2 hs_1
      refine wp_exit ?_
      refine T_x ?_
      refine T_x ?_
      obtain rfl := Option.some.inj hF_8
      exact .inr ⟨rfl, (), (Option.some.inj hn_1).symm, M_1, hM_1, f_4.keep (ks := []) (by kernel_rfl), p_1⟩
  · rintro _ a_15 w_5 (⟨rfl, y_1, rfl, M_2, hM_2, f_15, p_3⟩ | ⟨rfl, y_2, rfl, M_3, hM_3, f_16, p_4⟩)
    · refine B_r ?_
      refine T_r ?_
      refine E_ret1 f_15 rfl (by kernel_rfl : Vc.look _ 4 = some (.int .i64 y_1)) ?_
      obtain rfl := Option.some.inj hF_1
      exact ⟨_, rfl, M_2, hM_2, p_3, rfl⟩
    · refine B_x ?_
      refine T_n ?_
      refine R_seq ?_
      refine R_reg ?_
      refine W_run (L' := [(4, .int .i64 (-1))]) (w' := w_5) f_16 1 [4] (by kernel_rfl) (fun a_16 f_17 => ?_)
      refine W_end rfl ?_
      refine T_n ?_
      refine wp_ret ?_
      refine E_ret1 f_17 rfl (by kernel_rfl : Vc.look _ 4 = some (.int .i64 (-1))) ?_
      obtain rfl := Option.some.inj hF_1
      exact ⟨_, rfl, M_3, hM_3, p_4, rfl⟩

def slices_ContainsFuncint_int (n : Nat) (d0 : List Int) (d1_0 : List (List Int)) : Option Bool :=
  (slices_IndexFuncint_int n d0 d1_0).bind fun x_1 =>
  some ((decide ((0 : Int) ≤ x_1)))
theorem slices_ContainsFuncint_int_ok (n : Nat) (M : Mem) (A0 : Option Addr) (cap0 : Nat) (d0 : List Int) (h0 : Sli M 1 (Dat.int .i64) A0 cap0 d0) (ad1_0 : Addr) (c1_0 : List Value) (d1_0 : List (List Int)) (h1_0 : Rep M ((eL 1 (eL 1 (Dat.int .i64))) d1_0) c1_0) (q1_0 : ∀ j v, c1_0[j]? = some v → M.cell? (ad1_0.add j) = some v) (r : Bool) (hF : slices_ContainsFuncint_int n d0 d1_0 = some r) : Ok Try.prog M 37 [.slice A0 d0.length cap0, .func (.func 38) #[] #[.pointer (some ad1_0)]] (fun _ v => v = .bool r) := by
  unfold slices_ContainsFuncint_int at hF
  intro M1 hM0 w0 H w p0
  replace h0 := h0.mono hM0
  replace h1_0 := Rep.mono hM0 _ _ h1_0
  replace q1_0 := fun j v h => hM0.cell (q1_0 j v h)
  obtain ⟨A_1, cap_1, rfl, h_1⟩ := Rep.sli h1_0
  refine R_enter 9 Try.func37 rfl rfl (by simp) (fun a0 f0 => ?_)
  replace f0 : Frm 9 [(0, .slice A0 d0.length cap0), (1, .func (.func 38) #[] #[.pointer (some ad1_0)])] a0 := f0
  refine R_seq ?_
  refine R_reg ?_
  refine W_run (L' := [(0, .slice A0 d0.length cap0), (1, .func (.func 38) #[] #[.pointer (some ad1_0)])]) (w' := w) f0 1 [0, 1] (by kernel_rfl) (fun a_1 f_1 => ?_)
  refine W_end rfl ?_
  refine T_n ?_
  refine R_seq ?_
  refine R_reg ?_
  refine W_run (L' := [(5, .slice A0 d0.length cap0), (6, .func (.func 38) #[] #[.pointer (some ad1_0)])]) (w' := w) f_1 2 [5, 6] (by kernel_rfl) (fun a_2 f_2 => ?_)
  obtain ⟨x_1, hx_1, hF_1⟩ := bind_some' hF
  refine W_okv (v := .int .i64 x_1) f_2 p0 (by kernel_rfl) (by kernel_rfl) rfl rfl (fun _ => by kernel_rfl) (slices_IndexFuncint_int_ok n _ A0 cap0 d0 h0 ad1_0 [.slice A_1 d1_0.length cap_1] d1_0 (Sli.rep h_1) (fz_at (q1_0) 0 rfl) x_1 hx_1) (fun w_1 p_1 a_3 f_3 => ?_)
  refine W_run (L' := [(4, .bool (decide ((0 : Int) ≤ x_1)))]) (w' := w_1) f_3 2 [4] (by kernel_rfl) (fun a_4 f_4 => ?_)
  refine W_end rfl ?_
  refine T_n ?_
  refine wp_ret ?_
  refine E_ret1 f_4 rfl (by kernel_rfl : Vc.look _ 4 = some (.bool (decide ((0 : Int) ≤ x_1)))) ?_
  obtain rfl := Option.some.inj hF_1
  exact ⟨_, rfl, M1, (Mem.le_refl _), p_1, rfl⟩

def ready_May_s1 (n : Nat) (d0 : List (List Int)) (d1 : List Int) (s_1 : Int) : Option (Lp Int (Sum Unit Unit)) :=
    bif (decide (s_1 < ((d0.length : Nat) : Int))) then
      ((getI d0 s_1).bind fun x_1 =>
      (getI d1 s_1).bind fun x_2 =>
      bif (decide (x_2 < 0)) then
        (some (.br (.inl ())))
      else
        (getI d1 s_1).bind fun x_3 =>
        bif (decide ((5 : Int) < x_3)) then
          (some (.br (.inl ())))
        else
          (slices_ContainsFuncint_int n x_1 d0).bind fun x_4 =>
          bif x_4 then
            (some (.br (.inl ())))
          else
            need (inR .i64 (s_1 + 1)) <|
            some (.nx (s_1 + 1)))
    else
      some (.br (.inr ()))
def ready_May (n : Nat) (d0 : List (List Int)) (d1 : List Int) : Option Bool :=
  bif (!(decide (((d0.length : Nat) : Int) = ((d1.length : Nat) : Int)))) then
    (some ((false)))
  else
    (loopF (ready_May_s1 n d0 d1) n (0 : Int)).bind fun b_2 =>
    (match b_2 with 
    | .inl y_1 => some ((false)) 
    | .inr y_2 => some ((true)))
set_option maxRecDepth 20000 in
theorem ready_May_ok (n : Nat) (M : Mem) (A0 : Option Addr) (cap0 : Nat) (d0 : List (List Int)) (h0 : Sli M 1 (eL 1 (Dat.int .i64)) A0 cap0 d0) (A1 : Option Addr) (cap1 : Nat) (d1 : List Int) (h1 : Sli M 1 (Dat.int .i8) A1 cap1 d1) (r : Bool) (hF : ready_May n d0 d1 = some r) : Ok Try.prog M 17 [.slice A0 d0.length cap0, .slice A1 d1.length cap1] (fun _ v => v = .bool r) := by
  unfold ready_May at hF
  intro M1 hM0 w0 H w p0
  replace h0 := h0.mono hM0
  replace h1 := h1.mono hM0
  refine R_enter 37 Try.func17 rfl rfl (by simp) (fun a0 f0 => ?_)
  replace f0 : Frm 37 [(0, .slice A0 d0.length cap0), (1, .slice A1 d1.length cap1)] a0 := f0
  refine R_seq ?_
  refine R_reg ?_
  refine W_box (cs := #[.slice A0 d0.length cap0]) (T := 22) f0 p0 1 [0, 1, 2] (fun b_1 => [(0, .slice A0 d0.length cap0), (1, .slice A1 d1.length cap1), (2, .pointer (some (⟨b_1, 0, none⟩)))]) (fun _ => by kernel_rfl) (fun b_1 M_1 w_1 hM_1 hc_1 p_1 a_1 f_1 => ?_)
  replace f_1 : Frm 37 [(0, .slice A0 d0.length cap0), (1, .slice A1 d1.length cap1), (2, .pointer (some (⟨b_1, 0, none⟩)))] a_1 := f_1
  have hc_2 := fz_box hc_1
  refine W_run (L' := [(1, .slice A1 d1.length cap1), (2, .pointer (some (⟨b_1, 0, none⟩)))]) (w' := w_1) f_1 1 [1, 2] (by kernel_rfl) (fun a_2 f_2 => ?_)
  refine W_end rfl ?_
  refine T_n ?_
  refine R_seq ?_
  refine R_seq ?_
  refine R_reg ?_
  refine W_eq (v := .slice A0 d0.length cap0) f_2 (by kernel_rfl) (by kernel_rfl) rfl rfl (X_load1 (v := .slice A0 d0.length cap0) rfl (ad := ⟨b_1, 0, none⟩) (by kernel_rfl) (by kernel_rfl) (p_1.cell (hc_2 0 _ rfl))) (fun a_3 f_3 => ?_)
  refine W_run (L' := [(1, .slice A1 d1.length cap1), (2, .pointer (some (⟨b_1, 0, none⟩))), (11, .bool (!(decide (((d0.length : Nat) : Int) = ((d1.length : Nat) : Int)))))]) (w' := w_1) f_3 4 [1, 2, 11] (by kernel_rfl) (fun a_4 f_4 => ?_)
  refine W_end rfl ?_
  refine T_n ?_
  refine R_cond f_4 (b := !(decide (((d0.length : Nat) : Int) = ((d1.length : Nat) : Int)))) (by kernel_rfl) (by kernel_rfl) (fun h_1 => ?_) (fun h_1 => ?_)
  · have k_1 : ¬ (((d0.length : Nat) : Int) = ((d1.length : Nat) : Int)) := (not_iff decide_eq_true_iff).1 h_1
    have hF_1 := cnd_t h_1 hF
    refine R_seq ?_
    refine R_reg ?_
    refine W_run (L' := [(4, .bool false)]) (w' := w_1) f_4 1 [4] (by kernel_rfl) (fun a_5 f_5 => ?_)
    refine W_end rfl ?_
    refine T_n ?_
    refine wp_ret ?_
    refine T_r ?_
    refine E_ret1 f_5 rfl (by kernel_rfl : Vc.look _ 4 = some (.bool false)) ?_
    obtain rfl := Option.some.inj hF_1
    exact ⟨_, rfl, M_1, hM_1, p_1, rfl⟩
  · have k_2 : ¬ (¬ (((d0.length : Nat) : Int) = ((d1.length : Nat) : Int))) := iff_f (not_iff decide_eq_true_iff) h_1
    have hF_2 := cnd_f h_1 hF
    refine wp_skip ?_
    refine T_n ?_
    refine R_seq ?_
    refine R_seq ?_
    refine R_reg ?_
    refine W_eq (v := .slice A0 d0.length cap0) f_4 (by kernel_rfl) (by kernel_rfl) rfl rfl (X_load1 (v := .slice A0 d0.length cap0) rfl (ad := ⟨b_1, 0, none⟩) (by kernel_rfl) (by kernel_rfl) (p_1.cell (hc_2 0 _ rfl))) (fun a_6 f_6 => ?_)
    refine W_run (L' := [(1, .slice A1 d1.length cap1), (2, .pointer (some (⟨b_1, 0, none⟩))), (12, .slice A0 d0.length cap0), (13, .int .i64 ((d0.length : Nat) : Int)), (14, .int .i64 0)]) (w' := w_1) f_6 2 [1, 2, 12, 13, 14] (by kernel_rfl) (fun a_7 f_7 => ?_)
    refine W_end rfl ?_
    refine T_n ?_
    refine wp_block ?_
    obtain ⟨b_2, hL_1, hF_3⟩ := bind_some' hF_2
    refine wp_mono (Q := fun e a w => (e = .ret ∧ (∃ y_1 : Unit, b_2 = .inl y_1 ∧ ∃ M_3 : Mem, M_1.le M_3 ∧ Frm 37 [(4, .bool false)] a ∧ Hp w0 M_3 (H) w)) ∨ (e = .exit 0 ∧ (∃ y_2 : Unit, b_2 = .inr y_2 ∧ ∃ M_4 : Mem, M_1.le M_4 ∧ Frm 37 [] a ∧ Hp w0 M_4 (H) w))) (R_loop (n := 37) (w0 := w0) (M := M_1) (fun (x : Nat × Int) => match x with | (m_1, s_1) => [(1, .slice A1 d1.length cap1), (2, .pointer (some (⟨b_1, 0, none⟩))), (12, .slice A0 d0.length cap0), (13, .int .i64 ((d0.length : Nat) : Int)), (14, .int .i64 s_1)]) (fun (x : Nat × Int) => match x with | (m_1, s_1) => (H)) (fun (x : Nat × Int) (MM : Mem) => match x with | (m_1, s_1) => loopF (ready_May_s1 n d0 d1) m_1 s_1 = some b_2) (fun (x : Nat × Int) => match x with | (m_1, s_1) => m_1) (n, (0 : Int)) (f_7.keep (ks := [1, 2, 12, 13, 14]) (by kernel_rfl)) p_1 hL_1 ?_) ?_
    · rintro ⟨m_1, s_1⟩ M_2 a_8 w_2 hM_2 I_1 f_8 p_2
      replace f_8 : Frm 37 [(1, .slice A1 d1.length cap1), (2, .pointer (some (⟨b_1, 0, none⟩))), (12, .slice A0 d0.length cap0), (13, .int .i64 ((d0.length : Nat) : Int)), (14, .int .i64 s_1)] a_8 := f_8
      replace p_2 : Hp w0 M_2 (H) w_2 := p_2
      have I_1L := I_1
      obtain ⟨m_2, r_1, rfl, hs_1, hn_1⟩ := loop_step I_1L
      unfold ready_May_s1 at hs_1
      refine R_seq ?_
      refine R_reg ?_
      refine W_run (L' := [(1, .slice A1 d1.length cap1), (2, .pointer (some (⟨b_1, 0, none⟩))), (12, .slice A0 d0.length cap0), (13, .int .i64 ((d0.length : Nat) : Int)), (14, .int .i64 s_1), (15, .bool (decide (s_1 < ((d0.length : Nat) : Int))))]) (w' := w_2) f_8 1 [1, 2, 12, 13, 14, 15] (by kernel_rfl) (fun a_9 f_9 => ?_)
      refine W_end rfl ?_
      refine T_n ?_
      refine R_seq ?_
      refine R_cond f_9 (b := decide (s_1 < ((d0.length : Nat) : Int))) (by kernel_rfl) (by kernel_rfl) (fun h_2 => ?_) (fun h_2 => ?_)
      · have k_3 : s_1 < ((d0.length : Nat) : Int) := decide_eq_true_iff.1 h_2
        have hF_4 := cnd_t h_2 hs_1
        refine wp_skip ?_
        refine T_n ?_
        refine R_seq ?_
        refine wp_block ?_
        refine R_seq ?_
        refine R_reg ?_
        refine W_run (L' := [(1, .slice A1 d1.length cap1), (2, .pointer (some (⟨b_1, 0, none⟩))), (12, .slice A0 d0.length cap0), (13, .int .i64 ((d0.length : Nat) : Int)), (14, .int .i64 s_1), (16, .int .i64 s_1)]) (w' := w_2) f_9 1 [1, 2, 12, 13, 14, 16] (by kernel_rfl) (fun a_10 f_10 => ?_)
        obtain ⟨x_1, hx_1, hF_5⟩ := bind_some' hF_4
        obtain ⟨ad_1, c_1, e_1, hl_1, hr_1, hc_3⟩ := Sli.at_ (h0.mono (hM_1.trans hM_2)) hx_1
        clear hl_1
        obtain ⟨A_1, cap_1, rfl, h_3⟩ := Rep.sli hr_1
        refine W_eq (v := .pointer (some (ad_1.add (s_1.toNat * 1)))) f_10 (by kernel_rfl) (by kernel_rfl) rfl rfl (X_indexAddrA e_1 rfl (len := d0.length) (cap := cap0) (k := .i64) (i := s_1) (by kernel_rfl) (by kernel_rfl) (e := 27) (by kernel_rfl) (sz := 1) (by kernel_rfl) (getI_nn hx_1) (getI_lt hx_1)) (fun a_11 f_11 => ?_)
        refine W_eq (v := .slice A_1 x_1.length cap_1) f_11 (by kernel_rfl) (by kernel_rfl) rfl rfl (X_load1 (v := .slice A_1 x_1.length cap_1) rfl (ad := ad_1.add (s_1.toNat * 1)) (by kernel_rfl) (by kernel_rfl) (p_2.cell (hc_3 0 _ rfl))) (fun a_12 f_12 => ?_)
        refine W_run (L' := [(1, .slice A1 d1.length cap1), (2, .pointer (some (⟨b_1, 0, none⟩))), (5, .int .i64 s_1), (6, .slice A_1 x_1.length cap_1), (12, .slice A0 d0.length cap0), (13, .int .i64 ((d0.length : Nat) : Int)), (14, .int .i64 s_1)]) (w' := w_2) f_12 2 [1, 2, 5, 6, 12, 13, 14] (by kernel_rfl) (fun a_13 f_13 => ?_)
        refine W_end rfl ?_
        refine T_n ?_
        refine R_seq ?_
        refine R_reg ?_
        refine W_run (L' := [(1, .slice A1 d1.length cap1), (2, .pointer (some (⟨b_1, 0, none⟩))), (5, .int .i64 s_1), (6, .slice A_1 x_1.length cap_1), (12, .slice A0 d0.length cap0), (13, .int .i64 ((d0.length : Nat) : Int)), (14, .int .i64 s_1), (19, .slice A1 d1.length cap1), (20, .int .i64 s_1)]) (w' := w_2) f_13 2 [1, 2, 5, 6, 12, 13, 14, 19, 20] (by kernel_rfl) (fun a_14 f_14 => ?_)
        obtain ⟨x_2, hx_2, hF_6⟩ := bind_some' hF_5
        obtain ⟨ad_2, c_2, e_2, hl_2, hr_2, hc_4⟩ := Sli.at_ (h1.mono (hM_1.trans hM_2)) hx_2
        clear hl_2
        obtain rfl : c_2 = [.int .i8 x_2] := hr_2
        refine W_eq (v := .pointer (some (ad_2.add (s_1.toNat * 1)))) f_14 (by kernel_rfl) (by kernel_rfl) rfl rfl (X_indexAddrA e_2 rfl (len := d1.length) (cap := cap1) (k := .i64) (i := s_1) (by kernel_rfl) (by kernel_rfl) (e := 24) (by kernel_rfl) (sz := 1) (by kernel_rfl) (getI_nn hx_2) (getI_lt hx_2)) (fun a_15 f_15 => ?_)
        refine W_eq (v := .int .i8 x_2) f_15 (by kernel_rfl) (by kernel_rfl) rfl rfl (X_load1 (v := .int .i8 x_2) rfl (ad := ad_2.add (s_1.toNat * 1)) (by kernel_rfl) (by kernel_rfl) (p_2.cell (hc_4 0 _ rfl))) (fun a_16 f_16 => ?_)
        refine W_run (L' := [(1, .slice A1 d1.length cap1), (2, .pointer (some (⟨b_1, 0, none⟩))), (5, .int .i64 s_1), (6, .slice A_1 x_1.length cap_1), (12, .slice A0 d0.length cap0), (13, .int .i64 ((d0.length : Nat) : Int)), (14, .int .i64 s_1), (24, .bool (decide (x_2 < 0)))]) (w' := w_2) f_16 2 [1, 2, 5, 6, 12, 13, 14, 24] (by kernel_rfl) (fun a_17 f_17 => ?_)
        rcases Bool.eq_false_or_eq_true (decide (x_2 < 0)) with h_4 | h_4
        · have k_4 : x_2 < 0 := decide_eq_true_iff.1 h_4
          have hF_7 := cnd_t h_4 hF_6
          have f_18 := Frm.set f_17 24 (v := .bool (decide (x_2 < 0))) (v' := .bool true) (by kernel_rfl) (congrArg Value.bool h_4)
          have f_19 : Frm 37 [(1, .slice A1 d1.length cap1), (2, .pointer (some (⟨b_1, 0, none⟩))), (5, .int .i64 s_1), (6, .slice A_1 x_1.length cap_1), (12, .slice A0 d0.length cap0), (13, .int .i64 ((d0.length : Nat) : Int)), (14, .int .i64 s_1), (24, .bool true)] a_17 := f_18.keep (ks := [1, 2, 5, 6, 12, 13, 14, 24]) (by kernel_rfl)
          refine W_run (L' := [(1, .slice A1 d1.length cap1), (2, .pointer (some (⟨b_1, 0, none⟩))), (12, .slice A0 d0.length cap0), (13, .int .i64 ((d0.length : Nat) : Int)), (14, .int .i64 s_1), (35, .bool true)]) (w' := w_2) f_19 11 [1, 2, 12, 13, 14, 35] (by kernel_rfl) (fun a_18 f_20 => ?_)
          refine W_end rfl ?_
          refine T_n ?_
          refine R_cond_t f_20 (by kernel_rfl) (by kernel_rfl) ?_
          refine R_seq ?_
          refine R_reg ?_
          refine W_run (L' := [(4, .bool false)]) (w' := w_2) f_20 1 [4] (by kernel_rfl) (fun a_19 f_21 => ?_)
          refine W_end rfl ?_
          refine T_n ?_
          refine wp_ret ?_
          refine B_r ?_
          refine T_r ?_
          refine T_r ?_
          obtain rfl := Option.some.inj hF_7
          exact .inl ⟨rfl, (), (Option.some.inj hn_1).symm, M_2, hM_2, f_21.keep (ks := [4]) (by kernel_rfl), p_2⟩
        · have k_5 : ¬ (x_2 < 0) := iff_f decide_eq_true_iff h_4
          have hF_8 := cnd_f h_4 hF_6
          have f_22 := Frm.set f_17 24 (v := .bool (decide (x_2 < 0))) (v' := .bool false) (by kernel_rfl) (congrArg Value.bool h_4)
          have f_23 : Frm 37 [(1, .slice A1 d1.length cap1), (2, .pointer (some (⟨b_1, 0, none⟩))), (5, .int .i64 s_1), (6, .slice A_1 x_1.length cap_1), (12, .slice A0 d0.length cap0), (13, .int .i64 ((d0.length : Nat) : Int)), (14, .int .i64 s_1), (24, .bool false)] a_17 := f_22.keep (ks := [1, 2, 5, 6, 12, 13, 14, 24]) (by kernel_rfl)
          refine W_run (L' := [(1, .slice A1 d1.length cap1), (2, .pointer (some (⟨b_1, 0, none⟩))), (6, .slice A_1 x_1.length cap_1), (12, .slice A0 d0.length cap0), (13, .int .i64 ((d0.length : Nat) : Int)), (14, .int .i64 s_1), (24, .bool false), (25, .slice A1 d1.length cap1), (26, .int .i64 s_1)]) (w' := w_2) f_23 2 [1, 2, 6, 12, 13, 14, 24, 25, 26] (by kernel_rfl) (fun a_20 f_24 => ?_)
          obtain ⟨x_3, hx_3, hF_9⟩ := bind_some' hF_8
          obtain ⟨ad_3, c_3, e_3, hl_3, hr_3, hc_5⟩ := Sli.at_ (h1.mono (hM_1.trans hM_2)) hx_3
          clear hl_3
          obtain rfl : c_3 = [.int .i8 x_3] := hr_3
          refine W_eq (v := .pointer (some (ad_3.add (s_1.toNat * 1)))) f_24 (by kernel_rfl) (by kernel_rfl) rfl rfl (X_indexAddrA e_3 rfl (len := d1.length) (cap := cap1) (k := .i64) (i := s_1) (by kernel_rfl) (by kernel_rfl) (e := 24) (by kernel_rfl) (sz := 1) (by kernel_rfl) (getI_nn hx_3) (getI_lt hx_3)) (fun a_21 f_25 => ?_)
          refine W_eq (v := .int .i8 x_3) f_25 (by kernel_rfl) (by kernel_rfl) rfl rfl (X_load1 (v := .int .i8 x_3) rfl (ad := ad_3.add (s_1.toNat * 1)) (by kernel_rfl) (by kernel_rfl) (p_2.cell (hc_5 0 _ rfl))) (fun a_22 f_26 => ?_)
          refine W_run (L' := [(1, .slice A1 d1.length cap1), (2, .pointer (some (⟨b_1, 0, none⟩))), (6, .slice A_1 x_1.length cap_1), (12, .slice A0 d0.length cap0), (13, .int .i64 ((d0.length : Nat) : Int)), (14, .int .i64 s_1), (31, .bool (decide ((5 : Int) < x_3)))]) (w' := w_2) f_26 3 [1, 2, 6, 12, 13, 14, 31] (by kernel_rfl) (fun a_23 f_27 => ?_)
          rcases Bool.eq_false_or_eq_true (decide ((5 : Int) < x_3)) with h_5 | h_5
          · have k_6 : (5 : Int) < x_3 := decide_eq_true_iff.1 h_5
            have hF_10 := cnd_t h_5 hF_9
            have f_28 := Frm.set f_27 31 (v := .bool (decide ((5 : Int) < x_3))) (v' := .bool true) (by kernel_rfl) (congrArg Value.bool h_5)
            have f_29 : Frm 37 [(1, .slice A1 d1.length cap1), (2, .pointer (some (⟨b_1, 0, none⟩))), (6, .slice A_1 x_1.length cap_1), (12, .slice A0 d0.length cap0), (13, .int .i64 ((d0.length : Nat) : Int)), (14, .int .i64 s_1), (31, .bool true)] a_23 := f_28.keep (ks := [1, 2, 6, 12, 13, 14, 31]) (by kernel_rfl)
            refine W_run (L' := [(1, .slice A1 d1.length cap1), (2, .pointer (some (⟨b_1, 0, none⟩))), (12, .slice A0 d0.length cap0), (13, .int .i64 ((d0.length : Nat) : Int)), (14, .int .i64 s_1), (35, .bool true)]) (w' := w_2) f_29 4 [1, 2, 12, 13, 14, 35] (by kernel_rfl) (fun a_24 f_30 => ?_)
            refine W_end rfl ?_
            refine T_n ?_
            refine R_cond_t f_30 (by kernel_rfl) (by kernel_rfl) ?_
            refine R_seq ?_
            refine R_reg ?_
            refine W_run (L' := [(4, .bool false)]) (w' := w_2) f_30 1 [4] (by kernel_rfl) (fun a_25 f_31 => ?_)
            refine W_end rfl ?_
            refine T_n ?_
            refine wp_ret ?_
            refine B_r ?_
            refine T_r ?_
            refine T_r ?_
            obtain rfl := Option.some.inj hF_10
            exact .inl ⟨rfl, (), (Option.some.inj hn_1).symm, M_2, hM_2, f_31.keep (ks := [4]) (by kernel_rfl), p_2⟩
          · have k_7 : ¬ ((5 : Int) < x_3) := iff_f decide_eq_true_iff h_5
            have hF_11 := cnd_f h_5 hF_9
            have f_32 := Frm.set f_27 31 (v := .bool (decide ((5 : Int) < x_3))) (v' := .bool false) (by kernel_rfl) (congrArg Value.bool h_5)
            have f_33 : Frm 37 [(1, .slice A1 d1.length cap1), (2, .pointer (some (⟨b_1, 0, none⟩))), (6, .slice A_1 x_1.length cap_1), (12, .slice A0 d0.length cap0), (13, .int .i64 ((d0.length : Nat) : Int)), (14, .int .i64 s_1), (31, .bool false)] a_23 := f_32.keep (ks := [1, 2, 6, 12, 13, 14, 31]) (by kernel_rfl)
            refine W_run (L' := [(1, .slice A1 d1.length cap1), (2, .pointer (some (⟨b_1, 0, none⟩))), (12, .slice A0 d0.length cap0), (13, .int .i64 ((d0.length : Nat) : Int)), (14, .int .i64 s_1), (31, .bool false), (32, .slice A_1 x_1.length cap_1), (33, .func (.func 38) #[] #[.pointer (some (⟨b_1, 0, none⟩))])]) (w' := w_2) f_33 2 [1, 2, 12, 13, 14, 31, 32, 33] (by kernel_rfl) (fun a_26 f_34 => ?_)
            obtain ⟨x_4, hx_4, hF_12⟩ := bind_some' hF_11
            refine W_okv (v := .bool x_4) f_34 p_2 (by kernel_rfl) (by kernel_rfl) rfl rfl (fun _ => by kernel_rfl) (slices_ContainsFuncint_int_ok n _ A_1 cap_1 x_1 h_3 (⟨b_1, 0, none⟩) [.slice A0 d0.length cap0] d0 (Sli.rep (h0.mono (hM_1.trans hM_2))) (fz_at ((fun j v h => hM_2.cell (hc_2 j v h))) 0 rfl) x_4 hx_4) (fun w_3 p_3 a_27 f_35 => ?_)
            refine W_run (L' := [(1, .slice A1 d1.length cap1), (2, .pointer (some (⟨b_1, 0, none⟩))), (12, .slice A0 d0.length cap0), (13, .int .i64 ((d0.length : Nat) : Int)), (14, .int .i64 s_1), (35, .bool x_4)]) (w' := w_3) f_35 1 [1, 2, 12, 13, 14, 35] (by kernel_rfl) (fun a_28 f_36 => ?_)
            refine W_end rfl ?_
            refine T_n ?_
            refine R_cond f_36 (b := x_4) (by kernel_rfl) (by kernel_rfl) (fun h_6 => ?_) (fun h_6 => ?_)
            · have hF_13 := cnd_t h_6 hF_12
              refine R_seq ?_
              refine R_reg ?_
              refine W_run (L' := [(4, .bool false)]) (w' := w_3) f_36 1 [4] (by kernel_rfl) (fun a_29 f_37 => ?_)
              refine W_end rfl ?_
              refine T_n ?_
              refine wp_ret ?_
              refine B_r ?_
              refine T_r ?_
              refine T_r ?_
              obtain rfl := Option.some.inj hF_13
              exact .inl ⟨rfl, (), (Option.some.inj hn_1).symm, M_2, hM_2, f_37.keep (ks := [4]) (by kernel_rfl), p_3⟩
            · have hF_14 := cnd_f h_6 hF_12
              refine wp_skip ?_
              refine B_n ?_
              refine T_n ?_
              refine R_reg ?_
              obtain ⟨g_1, hF_15⟩ := need_some hF_14
              refine W_run (L' := [(1, .slice A1 d1.length cap1), (2, .pointer (some (⟨b_1, 0, none⟩))), (12, .slice A0 d0.length cap0), (13, .int .i64 ((d0.length : Nat) : Int)), (14, .int .i64 s_1), (35, .bool x_4), (36, .int .i64 (IntKind.wrap .i64 (s_1 + 1)))]) (w' := w_3) f_36 1 [1, 2, 12, 13, 14, 35, 36] (by kernel_rfl) (fun a_30 f_38 => ?_)
              have f_39 := Frm.set f_38 36 (v := .int .i64 (IntKind.wrap .i64 (s_1 + 1))) (v' := .int .i64 (s_1 + 1)) (by kernel_rfl) (congrArg (Value.int .i64) (inR_wrap g_1))
              have f_40 : Frm 37 [(1, .slice A1 d1.length cap1), (2, .pointer (some (⟨b_1, 0, none⟩))), (12, .slice A0 d0.length cap0), (13, .int .i64 ((d0.length : Nat) : Int)), (14, .int .i64 s_1), (35, .bool x_4), (36, .int .i64 (s_1 + 1))] a_30 := f_39.keep (ks := [1, 2, 12, 13, 14, 35, 36]) (by kernel_rfl)
              refine W_run (L' := [(1, .slice A1 d1.length cap1), (2, .pointer (some (⟨b_1, 0, none⟩))), (12, .slice A0 d0.length cap0), (13, .int .i64 ((d0.length : Nat) : Int)), (14, .int .i64 (s_1 + 1))]) (w' := w_3) f_40 1 [1, 2, 12, 13, 14] (by kernel_rfl) (fun a_31 f_41 => ?_)
              refine W_end rfl ?_
              refine T_n ?_
              obtain rfl := Option.some.inj hF_15
              exact ⟨⟨m_2, s_1 + 1⟩, Nat.lt_succ_self _, M_2, hM_2, hn_1, f_41.keep (ks := [1, 2, 12, 13, 14]) (by kernel_rfl), p_3⟩
      · have k_10 : ¬ (s_1 < ((d0.length : Nat) : Int)) := iff_f decide_eq_true_iff h_2
        have hF_16 := cnd_f h_2 hs_1
        refine wp_exit ?_
        refine T_x ?_
        refine T_x ?_
        obtain rfl := Option.some.inj hF_16
        exact .inr ⟨rfl, (), (Option.some.inj hn_1).symm, M_2, hM_2, f_9.keep (ks := []) (by kernel_rfl), p_2⟩
    · rintro _ a_34 w_6 (⟨rfl, y_1, rfl, M_3, hM_3, f_42, p_4⟩ | ⟨rfl, y_2, rfl, M_4, hM_4, f_43, p_5⟩)
      · refine B_r ?_
        refine T_r ?_
        refine E_ret1 f_42 rfl (by kernel_rfl : Vc.look _ 4 = some (.bool false)) ?_
        obtain rfl := Option.some.inj hF_3
        exact ⟨_, rfl, M_3, (hM_1.trans hM_3), p_4, rfl⟩
      · refine B_x ?_
        refine T_n ?_
        refine R_seq ?_
        refine R_reg ?_
        refine W_run (L' := [(4, .bool true)]) (w' := w_6) f_43 1 [4] (by kernel_rfl) (fun a_35 f_44 => ?_)
        refine W_end rfl ?_
        refine T_n ?_
        refine wp_ret ?_
        refine E_ret1 f_44 rfl (by kernel_rfl : Vc.look _ 4 = some (.bool true)) ?_
        obtain rfl := Option.some.inj hF_3
        exact ⟨_, rfl, M_4, (hM_1.trans hM_4), p_5, rfl⟩

def slices_Indexint8_int8_s1 (n : Nat) (d0 : List Int) (d1 : Int) (s_1 : Int) : Option (Lp Int (Sum Int Unit)) :=
    bif (decide (s_1 < ((d0.length : Nat) : Int))) then
      ((getI d0 s_1).bind fun x_1 =>
      bif (decide (d1 = x_1)) then
        (some (.br (.inl s_1)))
      else
        need (inR .i64 (s_1 + 1)) <|
        some (.nx (s_1 + 1)))
    else
      some (.br (.inr ()))
def slices_Indexint8_int8 (n : Nat) (d0 : List Int) (d1 : Int) : Option Int :=
  (loopF (slices_Indexint8_int8_s1 n d0 d1) n (0 : Int)).bind fun b_1 =>
  (match b_1 with 
  | .inl y_1 => some (y_1) 
  | .inr y_2 => some ((-1 : Int)))
theorem slices_Indexint8_int8_ok (n : Nat) (M : Mem) (A0 : Option Addr) (cap0 : Nat) (d0 : List Int) (h0 : Sli M 1 (Dat.int .i8) A0 cap0 d0) (d1 : Int) (r : Int) (hF : slices_Indexint8_int8 n d0 d1 = some r) : Ok Try.prog M 52 [.slice A0 d0.length cap0, .int .i8 d1] (fun _ v => v = .int .i64 r) := by
  unfold slices_Indexint8_int8 at hF
  intro M1 hM0 w0 H w p0
  replace h0 := h0.mono hM0
  refine R_enter 19 Try.func52 rfl rfl (by simp) (fun a0 f0 => ?_)
  replace f0 : Frm 19 [(0, .slice A0 d0.length cap0), (1, .int .i8 d1)] a0 := f0
  refine R_seq ?_
  refine R_reg ?_
  refine W_run (L' := [(0, .slice A0 d0.length cap0), (1, .int .i8 d1)]) (w' := w) f0 1 [0, 1] (by kernel_rfl) (fun a_1 f_1 => ?_)
  refine W_end rfl ?_
  refine T_n ?_
  refine R_seq ?_
  refine R_seq ?_
  refine R_reg ?_
  refine W_run (L' := [(0, .slice A0 d0.length cap0), (1, .int .i8 d1), (7, .int .i64 ((d0.length : Nat) : Int)), (8, .int .i64 0)]) (w' := w) f_1 3 [0, 1, 7, 8] (by kernel_rfl) (fun a_2 f_2 => ?_)
  refine W_end rfl ?_
  refine T_n ?_
  refine wp_block ?_
  obtain ⟨b_1, hL_1, hF_1⟩ := bind_some' hF
  refine wp_mono (Q := fun e a w => (e = .ret ∧ (∃ y_1 : Int, b_1 = .inl y_1 ∧ ∃ M_2 : Mem, M1.le M_2 ∧ Frm 19 [(4, .int .i64 y_1)] a ∧ Hp w0 M_2 (H) w)) ∨ (e = .exit 0 ∧ (∃ y_2 : Unit, b_1 = .inr y_2 ∧ ∃ M_3 : Mem, M1.le M_3 ∧ Frm 19 [] a ∧ Hp w0 M_3 (H) w))) (R_loop (n := 19) (w0 := w0) (M := M1) (fun (x : Nat × Int) => match x with | (m_1, s_1) => [(0, .slice A0 d0.length cap0), (1, .int .i8 d1), (7, .int .i64 ((d0.length : Nat) : Int)), (8, .int .i64 s_1)]) (fun (x : Nat × Int) => match x with | (m_1, s_1) => (H)) (fun (x : Nat × Int) (MM : Mem) => match x with | (m_1, s_1) => loopF (slices_Indexint8_int8_s1 n d0 d1) m_1 s_1 = some b_1) (fun (x : Nat × Int) => match x with | (m_1, s_1) => m_1) (n, (0 : Int)) (f_2.keep (ks := [0, 1, 7, 8]) (by kernel_rfl)) p0 hL_1 ?_) ?_
  · rintro ⟨m_1, s_1⟩ M_1 a_3 w_1 hM_1 I_1 f_3 p_1
    replace f_3 : Frm 19 [(0, .slice A0 d0.length cap0), (1, .int .i8 d1), (7, .int .i64 ((d0.length : Nat) : Int)), (8, .int .i64 s_1)] a_3 := f_3
    replace p_1 : Hp w0 M_1 (H) w_1 := p_1
    have I_1L := I_1
    obtain ⟨m_2, r_1, rfl, hs_1, hn_1⟩ := loop_step I_1L
    unfold slices_Indexint8_int8_s1 at hs_1
    refine R_seq ?_
    refine R_reg ?_
    refine W_run (L' := [(0, .slice A0 d0.length cap0), (1, .int .i8 d1), (7, .int .i64 ((d0.length : Nat) : Int)), (8, .int .i64 s_1), (9, .bool (decide (s_1 < ((d0.length : Nat) : Int))))]) (w' := w_1) f_3 1 [0, 1, 7, 8, 9] (by kernel_rfl) (fun a_4 f_4 => ?_)
    refine W_end rfl ?_
    refine T_n ?_
    refine R_seq ?_
    refine R_cond f_4 (b := decide (s_1 < ((d0.length : Nat) : Int))) (by kernel_rfl) (by kernel_rfl) (fun h_1 => ?_) (fun h_1 => ?_)
    · have k_1 : s_1 < ((d0.length : Nat) : Int) := decide_eq_true_iff.1 h_1
      have hF_2 := cnd_t h_1 hs_1
      refine wp_skip ?_
      refine T_n ?_
      refine R_seq ?_
      refine wp_block ?_
      refine R_seq ?_
      refine R_reg ?_
      refine W_run (L' := [(0, .slice A0 d0.length cap0), (1, .int .i8 d1), (5, .int .i64 s_1), (7, .int .i64 ((d0.length : Nat) : Int)), (8, .int .i64 s_1)]) (w' := w_1) f_4 2 [0, 1, 5, 7, 8] (by kernel_rfl) (fun a_5 f_5 => ?_)
      refine W_end rfl ?_
      refine T_n ?_
      refine R_seq ?_
      refine R_reg ?_
      refine W_run (L' := [(0, .slice A0 d0.length cap0), (1, .int .i8 d1), (5, .int .i64 s_1), (7, .int .i64 ((d0.length : Nat) : Int)), (8, .int .i64 s_1), (11, .int .i8 d1), (12, .slice A0 d0.length cap0), (13, .int .i64 s_1)]) (w' := w_1) f_5 3 [0, 1, 5, 7, 8, 11, 12, 13] (by kernel_rfl) (fun a_6 f_6 => ?_)
      obtain ⟨x_1, hx_1, hF_3⟩ := bind_some' hF_2
      obtain ⟨ad_1, c_1, e_1, hl_1, hr_1, hc_1⟩ := Sli.at_ (h0.mono hM_1) hx_1
      clear hl_1
      obtain rfl : c_1 = [.int .i8 x_1] := hr_1
      refine W_eq (v := .pointer (some (ad_1.add (s_1.toNat * 1)))) f_6 (by kernel_rfl) (by kernel_rfl) rfl rfl (X_indexAddrA e_1 rfl (len := d0.length) (cap := cap0) (k := .i64) (i := s_1) (by kernel_rfl) (by kernel_rfl) (e := 24) (by kernel_rfl) (sz := 1) (by kernel_rfl) (getI_nn hx_1) (getI_lt hx_1)) (fun a_7 f_7 => ?_)
      refine W_eq (v := .int .i8 x_1) f_7 (by kernel_rfl) (by kernel_rfl) rfl rfl (X_load1 (v := .int .i8 x_1) rfl (ad := ad_1.add (s_1.toNat * 1)) (by kernel_rfl) (by kernel_rfl) (p_1.cell (hc_1 0 _ rfl))) (fun a_8 f_8 => ?_)
      refine W_run (L' := [(0, .slice A0 d0.length cap0), (1, .int .i8 d1), (5, .int .i64 s_1), (7, .int .i64 ((d0.length : Nat) : Int)), (8, .int .i64 s_1), (16, .bool (decide (d1 = x_1)))]) (w' := w_1) f_8 1 [0, 1, 5, 7, 8, 16] (by kernel_rfl) (fun a_9 f_9 => ?_)
      refine W_end rfl ?_
      refine T_n ?_
      refine R_cond f_9 (b := decide (d1 = x_1)) (by kernel_rfl) (by kernel_rfl) (fun h_2 => ?_) (fun h_2 => ?_)
      · have k_2 : d1 = x_1 := decide_eq_true_iff.1 h_2
        have hF_4 := cnd_t h_2 hF_3
        refine R_seq ?_
        refine R_reg ?_
        refine W_run (L' := [(4, .int .i64 s_1)]) (w' := w_1) f_9 2 [4] (by kernel_rfl) (fun a_10 f_10 => ?_)
        refine W_end rfl ?_
        refine T_n ?_
        refine wp_ret ?_
        refine B_r ?_
        refine T_r ?_
        refine T_r ?_
        obtain rfl := Option.some.inj hF_4
        exact .inl ⟨rfl, s_1, (Option.some.inj hn_1).symm, M_1, hM_1, f_10.keep (ks := [4]) (by kernel_rfl), p_1⟩
      · have k_3 : ¬ (d1 = x_1) := iff_f decide_eq_true_iff h_2
        have hF_5 := cnd_f h_2 hF_3
        refine wp_skip ?_
        refine B_n ?_
        refine T_n ?_
        refine R_reg ?_
        obtain ⟨g_1, hF_6⟩ := need_some hF_5
        refine W_run (L' := [(0, .slice A0 d0.length cap0), (1, .int .i8 d1), (5, .int .i64 s_1), (7, .int .i64 ((d0.length : Nat) : Int)), (8, .int .i64 s_1), (16, .bool (decide (d1 = x_1))), (18, .int .i64 (IntKind.wrap .i64 (s_1 + 1)))]) (w' := w_1) f_9 1 [0, 1, 5, 7, 8, 16, 18] (by kernel_rfl) (fun a_11 f_11 => ?_)
        have f_12 := Frm.set f_11 18 (v := .int .i64 (IntKind.wrap .i64 (s_1 + 1))) (v' := .int .i64 (s_1 + 1)) (by kernel_rfl) (congrArg (Value.int .i64) (inR_wrap g_1))
        have f_13 : Frm 19 [(0, .slice A0 d0.length cap0), (1, .int .i8 d1), (5, .int .i64 s_1), (7, .int .i64 ((d0.length : Nat) : Int)), (8, .int .i64 s_1), (16, .bool (decide (d1 = x_1))), (18, .int .i64 (s_1 + 1))] a_11 := f_12.keep (ks := [0, 1, 5, 7, 8, 16, 18]) (by kernel_rfl)
        refine W_run (L' := [(0, .slice A0 d0.length cap0), (1, .int .i8 d1), (7, .int .i64 ((d0.length : Nat) : Int)), (8, .int .i64 (s_1 + 1))]) (w' := w_1) f_13 1 [0, 1, 7, 8] (by kernel_rfl) (fun a_12 f_14 => ?_)
        refine W_end rfl ?_
        refine T_n ?_
        obtain rfl := Option.some.inj hF_6
        exact ⟨⟨m_2, s_1 + 1⟩, Nat.lt_succ_self _, M_1, hM_1, hn_1, f_14.keep (ks := [0, 1, 7, 8]) (by kernel_rfl), p_1⟩
    · have k_4 : ¬ (s_1 < ((d0.length : Nat) : Int)) := iff_f decide_eq_true_iff h_1
      have hF_7 := cnd_f h_1 hs_1
      refine wp_exit ?_
      refine T_x ?_
      refine T_x ?_
      obtain rfl := Option.some.inj hF_7
      exact .inr ⟨rfl, (), (Option.some.inj hn_1).symm, M_1, hM_1, f_4.keep (ks := []) (by kernel_rfl), p_1⟩
  · rintro _ a_15 w_4 (⟨rfl, y_1, rfl, M_2, hM_2, f_15, p_2⟩ | ⟨rfl, y_2, rfl, M_3, hM_3, f_16, p_3⟩)
    · refine B_r ?_
      refine T_r ?_
      refine E_ret1 f_15 rfl (by kernel_rfl : Vc.look _ 4 = some (.int .i64 y_1)) ?_
      obtain rfl := Option.some.inj hF_1
      exact ⟨_, rfl, M_2, hM_2, p_2, rfl⟩
    · refine B_x ?_
      refine T_n ?_
      refine R_seq ?_
      refine R_reg ?_
      refine W_run (L' := [(4, .int .i64 (-1))]) (w' := w_4) f_16 1 [4] (by kernel_rfl) (fun a_16 f_17 => ?_)
      refine W_end rfl ?_
      refine T_n ?_
      refine wp_ret ?_
      refine E_ret1 f_17 rfl (by kernel_rfl : Vc.look _ 4 = some (.int .i64 (-1))) ?_
      obtain rfl := Option.some.inj hF_1
      exact ⟨_, rfl, M_3, hM_3, p_3, rfl⟩

def slices_Containsint8_int8 (n : Nat) (d0 : List Int) (d1 : Int) : Option Bool :=
  (slices_Indexint8_int8 n d0 d1).bind fun x_1 =>
  some ((decide ((0 : Int) ≤ x_1)))
theorem slices_Containsint8_int8_ok (n : Nat) (M : Mem) (A0 : Option Addr) (cap0 : Nat) (d0 : List Int) (h0 : Sli M 1 (Dat.int .i8) A0 cap0 d0) (d1 : Int) (r : Bool) (hF : slices_Containsint8_int8 n d0 d1 = some r) : Ok Try.prog M 36 [.slice A0 d0.length cap0, .int .i8 d1] (fun _ v => v = .bool r) := by
  unfold slices_Containsint8_int8 at hF
  intro M1 hM0 w0 H w p0
  replace h0 := h0.mono hM0
  refine R_enter 9 Try.func36 rfl rfl (by simp) (fun a0 f0 => ?_)
  replace f0 : Frm 9 [(0, .slice A0 d0.length cap0), (1, .int .i8 d1)] a0 := f0
  refine R_seq ?_
  refine R_reg ?_
  refine W_run (L' := [(0, .slice A0 d0.length cap0), (1, .int .i8 d1)]) (w' := w) f0 1 [0, 1] (by kernel_rfl) (fun a_1 f_1 => ?_)
  refine W_end rfl ?_
  refine T_n ?_
  refine R_seq ?_
  refine R_reg ?_
  refine W_run (L' := [(5, .slice A0 d0.length cap0), (6, .int .i8 d1)]) (w' := w) f_1 2 [5, 6] (by kernel_rfl) (fun a_2 f_2 => ?_)
  obtain ⟨x_1, hx_1, hF_1⟩ := bind_some' hF
  refine W_okv (v := .int .i64 x_1) f_2 p0 (by kernel_rfl) (by kernel_rfl) rfl rfl (fun _ => by kernel_rfl) (slices_Indexint8_int8_ok n _ A0 cap0 d0 h0 d1 x_1 hx_1) (fun w_1 p_1 a_3 f_3 => ?_)
  refine W_run (L' := [(4, .bool (decide ((0 : Int) ≤ x_1)))]) (w' := w_1) f_3 2 [4] (by kernel_rfl) (fun a_4 f_4 => ?_)
  refine W_end rfl ?_
  refine T_n ?_
  refine wp_ret ?_
  refine E_ret1 f_4 rfl (by kernel_rfl : Vc.look _ 4 = some (.bool (decide ((0 : Int) ≤ x_1)))) ?_
  obtain rfl := Option.some.inj hF_1
  exact ⟨_, rfl, M1, (Mem.le_refl _), p_1, rfl⟩

def ready_Over (n : Nat) (d0 : List Int) : Option Bool :=
  (slices_Containsint8_int8 n d0 (1 : Int)).bind fun x_1 =>
  bif !x_1 then
    ((slices_Containsint8_int8 n d0 (2 : Int)).bind fun x_2 =>
    some ((!x_2)))
  else
    some ((false))
theorem ready_Over_ok (n : Nat) (M : Mem) (A0 : Option Addr) (cap0 : Nat) (d0 : List Int) (h0 : Sli M 1 (Dat.int .i8) A0 cap0 d0) (r : Bool) (hF : ready_Over n d0 = some r) : Ok Try.prog M 13 [.slice A0 d0.length cap0] (fun _ v => v = .bool r) := by
  unfold ready_Over at hF
  intro M1 hM0 w0 H w p0
  replace h0 := h0.mono hM0
  refine R_enter 11 Try.func13 rfl rfl (by simp) (fun a0 f0 => ?_)
  replace f0 : Frm 11 [(0, .slice A0 d0.length cap0)] a0 := f0
  refine R_seq ?_
  refine R_reg ?_
  refine W_run (L' := [(0, .slice A0 d0.length cap0)]) (w' := w) f0 1 [0] (by kernel_rfl) (fun a_1 f_1 => ?_)
  refine W_end rfl ?_
  refine T_n ?_
  refine R_seq ?_
  refine R_reg ?_
  refine W_run (L' := [(0, .slice A0 d0.length cap0), (3, .slice A0 d0.length cap0)]) (w' := w) f_1 1 [0, 3] (by kernel_rfl) (fun a_2 f_2 => ?_)
  obtain ⟨x_1, hx_1, hF_1⟩ := bind_some' hF
  refine W_okv (v := .bool x_1) f_2 p0 (by kernel_rfl) (by kernel_rfl) rfl rfl (fun _ => by kernel_rfl) (slices_Containsint8_int8_ok n _ A0 cap0 d0 h0 (1 : Int) x_1 hx_1) (fun w_1 p_1 a_3 f_3 => ?_)
  refine W_run (L' := [(0, .slice A0 d0.length cap0), (6, .bool !x_1)]) (w' := w_1) f_3 2 [0, 6] (by kernel_rfl) (fun a_4 f_4 => ?_)
  rcases Bool.eq_false_or_eq_true (!x_1) with h_1 | h_1
  · have k_1 : (x_1) = false := by simpa using h_1
    have hF_2 := cnd_t h_1 hF_1
    have f_5 := Frm.set f_4 6 (v := .bool !x_1) (v' := .bool true) (by kernel_rfl) (congrArg Value.bool h_1)
    have f_6 : Frm 11 [(0, .slice A0 d0.length cap0), (6, .bool true)] a_4 := f_5.keep (ks := [0, 6]) (by kernel_rfl)
    refine W_run (L' := [(6, .bool true), (7, .slice A0 d0.length cap0)]) (w' := w_1) f_6 1 [6, 7] (by kernel_rfl) (fun a_5 f_7 => ?_)
    obtain ⟨x_2, hx_2, hF_3⟩ := bind_some' hF_2
    refine W_okv (v := .bool x_2) f_7 p_1 (by kernel_rfl) (by kernel_rfl) rfl rfl (fun _ => by kernel_rfl) (slices_Containsint8_int8_ok n _ A0 cap0 d0 h0 (2 : Int) x_2 hx_2) (fun w_2 p_2 a_6 f_8 => ?_)
    refine W_run (L' := [(2, .bool !x_2)]) (w' := w_2) f_8 3 [2] (by kernel_rfl) (fun a_7 f_9 => ?_)
    refine W_end rfl ?_
    refine T_n ?_
    refine wp_ret ?_
    refine E_ret1 f_9 rfl (by kernel_rfl : Vc.look _ 2 = some (.bool !x_2)) ?_
    obtain rfl := Option.some.inj hF_3
    exact ⟨_, rfl, M1, (Mem.le_refl _), p_2, rfl⟩
  · have k_2 : (x_1) = true := by simpa using h_1
    have hF_4 := cnd_f h_1 hF_1
    have f_10 := Frm.set f_4 6 (v := .bool !x_1) (v' := .bool false) (by kernel_rfl) (congrArg Value.bool h_1)
    have f_11 : Frm 11 [(0, .slice A0 d0.length cap0), (6, .bool false)] a_4 := f_10.keep (ks := [0, 6]) (by kernel_rfl)
    refine W_run (L' := [(2, .bool false)]) (w' := w_1) f_11 5 [2] (by kernel_rfl) (fun a_8 f_12 => ?_)
    refine W_end rfl ?_
    refine T_n ?_
    refine wp_ret ?_
    refine E_ret1 f_12 rfl (by kernel_rfl : Vc.look _ 2 = some (.bool false)) ?_
    obtain rfl := Option.some.inj hF_4
    exact ⟨_, rfl, M1, (Mem.le_refl _), p_1, rfl⟩
end Go.Proofs.Ytfdmlionhbeebaa
