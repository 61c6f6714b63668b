/-
  Printed by a program: of each function its shallow reading, and the proof that the function gives what the reading gives. No condition.
-/
import Derived.Test.YtoonlehffohpaaaQ1
set_option linter.unusedVariables false
set_option linter.unusedSimpArgs false
namespace Go.Proofs.Ytoonlehffohpaaa
open Go Go.Vc Go.RowKit
def ref19_Same_s2 (n : Nat) (d0 : List (List Int)) (d1 : List (List Int)) (s_1 : Int) (s_2 : Int) : Option (Lp Int (Sum Unit Unit)) :=
    (getI d0 s_1).bind fun x_3 =>
    bif (decide (s_2 < ((x_3.length : Nat) : Int))) then
      ((getI d0 s_1).bind fun x_4 =>
      (getI x_4 s_2).bind fun x_5 =>
      (getI d1 s_1).bind fun x_6 =>
      (getI x_6 s_2).bind fun x_7 =>
      bif (!(decide (x_5 = x_7))) then
        (some (.br (.inl ())))
      else
        need (inR .i64 (s_2 + 1)) <|
        some (.nx (s_2 + 1)))
    else
      some (.br (.inr ()))
def ref19_Same_s1 (n : Nat) (d0 : List (List Int)) (d1 : List (List Int)) (s_1 : Int) : Option (Lp Int (Sum Unit Unit)) :=
    bif (decide (s_1 < ((d0.length : Nat) : Int))) then
      ((getI d0 s_1).bind fun x_1 =>
      (getI d1 s_1).bind fun x_2 =>
      bif (!(decide (((x_1.length : Nat) : Int) = ((x_2.length : Nat) : Int)))) then
        (some (.br (.inl ())))
      else
        (loopF (ref19_Same_s2 n d0 d1 s_1) n (0 : Int)).bind fun b_2 =>
        (match b_2 with 
        | .inl y_1 => some (.br (.inl ())) 
        | .inr y_2 => need (inR .i64 (s_1 + 1)) <|
          some (.nx (s_1 + 1))))
    else
      some (.br (.inr ()))
def ref19_Same (n : Nat) (d0 : List (List Int)) (d1 : List (List Int)) : Option Bool :=
  bif (!(decide (((d0.length : Nat) : Int) = ((d1.length : Nat) : Int)))) then
    (some ((false)))
  else
    (loopF (ref19_Same_s1 n d0 d1) n (0 : Int)).bind fun b_1 =>
    (match b_1 with 
    | .inl y_3 => some ((false)) 
    | .inr y_4 => some ((true)))
theorem ref19_Same_ok (n : Nat) (M : Mem) (A0 : Option Addr) (cap0 : Nat) (d0 : List (List Int)) (h0 : Sli M 1 (eL 1 (Dat.int .i64)) A0 cap0 d0) (A1 : Option Addr) (cap1 : Nat) (d1 : List (List Int)) (h1 : Sli M 1 (eL 1 (Dat.int .i64)) A1 cap1 d1) (r : Bool) (hF : ref19_Same n d0 d1 = some r) : Ok Try.prog M 26 [.slice A0 d0.length cap0, .slice A1 d1.length cap1] (fun _ v => v = .bool r) := by
  unfold ref19_Same at hF
  intro M1 hM0 w0 H w p0
  replace h0 := h0.mono hM0
  replace h1 := h1.mono hM0
  refine R_enter 53 Try.func26 rfl rfl (by simp) (fun a0 f0 => ?_)
  replace f0 : Frm 53 [(0, .slice A0 d0.length cap0), (1, .slice A1 d1.length cap1)] a0 := f0
  refine R_seq ?_
  refine R_reg ?_
  refine W_run (L' := [(0, .slice A0 d0.length cap0), (1, .slice A1 d1.length cap1)]) (w' := w) f0 1 [0, 1] (by kernel_rfl) (fun a_1 f_1 => ?_)
  refine W_end rfl ?_
  refine T_n ?_
  refine R_seq ?_
  refine R_seq ?_
  refine R_reg ?_
  refine W_run (L' := [(0, .slice A0 d0.length cap0), (1, .slice A1 d1.length cap1), (11, .bool (!(decide (((d0.length : Nat) : Int) = ((d1.length : Nat) : Int)))))]) (w' := w) f_1 5 [0, 1, 11] (by kernel_rfl) (fun a_2 f_2 => ?_)
  refine W_end rfl ?_
  refine T_n ?_
  refine R_cond f_2 (b := !(decide (((d0.length : Nat) : Int) = ((d1.length : Nat) : Int)))) (by kernel_rfl) (by kernel_rfl) (fun h_1 => ?_) (fun h_1 => ?_)
  · have k_1 : ¬ (((d0.length : Nat) : Int) = ((d1.length : Nat) : Int)) := (not_iff decide_eq_true_iff).1 h_1
    have hF_1 := cnd_t h_1 hF
    refine R_seq ?_
    refine R_reg ?_
    refine W_run (L' := [(4, .bool false)]) (w' := w) f_2 1 [4] (by kernel_rfl) (fun a_3 f_3 => ?_)
    refine W_end rfl ?_
    refine T_n ?_
    refine wp_ret ?_
    refine T_r ?_
    refine E_ret1 f_3 rfl (by kernel_rfl : Vc.look _ 4 = some (.bool false)) ?_
    obtain rfl := Option.some.inj hF_1
    exact ⟨_, rfl, M1, (Mem.le_refl _), p0, rfl⟩
  · have k_2 : ¬ (¬ (((d0.length : Nat) : Int) = ((d1.length : Nat) : Int))) := iff_f (not_iff decide_eq_true_iff) h_1
    have hF_2 := cnd_f h_1 hF
    refine wp_skip ?_
    refine T_n ?_
    refine R_seq ?_
    refine R_seq ?_
    refine R_reg ?_
    refine W_run (L' := [(0, .slice A0 d0.length cap0), (1, .slice A1 d1.length cap1), (5, .int .i64 0)]) (w' := w) f_2 1 [0, 1, 5] (by kernel_rfl) (fun a_4 f_4 => ?_)
    refine W_end rfl ?_
    refine T_n ?_
    refine wp_block ?_
    obtain ⟨b_1, hL_1, hF_3⟩ := bind_some' hF_2
    refine wp_mono (Q := fun e a w => (e = .ret ∧ (∃ y_3 : Unit, b_1 = .inl y_3 ∧ ∃ M_5 : Mem, M1.le M_5 ∧ Frm 53 [(4, .bool false)] a ∧ Hp w0 M_5 (H) w)) ∨ (e = .exit 0 ∧ (∃ y_4 : Unit, b_1 = .inr y_4 ∧ ∃ M_6 : Mem, M1.le M_6 ∧ Frm 53 [] a ∧ Hp w0 M_6 (H) w))) (R_loop (n := 53) (w0 := w0) (M := M1) (fun (x : Nat × Int) => match x with | (m_1, s_1) => [(0, .slice A0 d0.length cap0), (1, .slice A1 d1.length cap1), (5, .int .i64 s_1)]) (fun (x : Nat × Int) => match x with | (m_1, s_1) => (H)) (fun (x : Nat × Int) (MM : Mem) => match x with | (m_1, s_1) => loopF (ref19_Same_s1 n d0 d1) m_1 s_1 = some b_1) (fun (x : Nat × Int) => match x with | (m_1, s_1) => m_1) (n, (0 : Int)) (f_4.keep (ks := [0, 1, 5]) (by kernel_rfl)) p0 hL_1 ?_) ?_
    · rintro ⟨m_1, s_1⟩ M_1 a_5 w_1 hM_1 I_1 f_5 p_1
      replace f_5 : Frm 53 [(0, .slice A0 d0.length cap0), (1, .slice A1 d1.length cap1), (5, .int .i64 s_1)] a_5 := f_5
      replace p_1 : Hp w0 M_1 (H) w_1 := p_1
      have I_1L := I_1
      obtain ⟨m_2, r_1, rfl, hs_1, hn_1⟩ := loop_step I_1L
      unfold ref19_Same_s1 at hs_1
      refine R_seq ?_
      refine R_seq ?_
      refine R_reg ?_
      refine W_run (L' := [(0, .slice A0 d0.length cap0), (1, .slice A1 d1.length cap1), (5, .int .i64 s_1), (15, .bool (decide (s_1 < ((d0.length : Nat) : Int))))]) (w' := w_1) f_5 4 [0, 1, 5, 15] (by kernel_rfl) (fun a_6 f_6 => ?_)
      refine W_end rfl ?_
      refine T_n ?_
      refine R_cond f_6 (b := decide (s_1 < ((d0.length : Nat) : Int))) (by kernel_rfl) (by kernel_rfl) (fun h_2 => ?_) (fun h_2 => ?_)
      · have k_3 : s_1 < ((d0.length : Nat) : Int) := decide_eq_true_iff.1 h_2
        have hF_4 := cnd_t h_2 hs_1
        refine wp_skip ?_
        refine T_n ?_
        refine R_seq ?_
        refine wp_block ?_
        refine R_seq ?_
        refine R_seq ?_
        refine R_draw p_1 (by kernel_rfl) (by kernel_rfl) ?_
        refine Q_eq (v := .slice A0 d0.length cap0) f_6 (by kernel_rfl) (by kernel_rfl) rfl rfl (fun _ _ => by kernel_rfl) (fun a_7 f_7 => ?_)
        refine Q_eq (v := .int .i64 s_1) f_7 (by kernel_rfl) (by kernel_rfl) rfl rfl (fun _ _ => by kernel_rfl) (fun a_8 f_8 => ?_)
        have f_9 : Frm 53 [(0, .slice A0 d0.length cap0), (1, .slice A1 d1.length cap1), (5, .int .i64 s_1), (18, .slice A0 d0.length cap0), (19, .int .i64 s_1)] a_8 := f_8.keep (ks := [0, 1, 5, 18, 19]) (by kernel_rfl)
        obtain ⟨x_1, hx_1, hF_5⟩ := bind_some' hF_4
        obtain ⟨ad_1, c_1, e_1, hl_1, hr_1, hc_1⟩ := Sli.at_ (h0.mono hM_1) hx_1
        clear hl_1
        obtain ⟨A_1, cap_1, rfl, h_3⟩ := Rep.sli hr_1
        refine Q_eq (v := .pointer (some (ad_1.add (s_1.toNat * 1)))) f_9 (by kernel_rfl) (by kernel_rfl) rfl rfl (fun _ pq => X_indexAddrA e_1 rfl (len := d0.length) (cap := cap0) (k := .i64) (i := s_1) (by kernel_rfl) (by kernel_rfl) (e := 26) (by kernel_rfl) (sz := 1) (by kernel_rfl) (getI_nn hx_1) (getI_lt hx_1)) (fun a_9 f_10 => ?_)
        refine Q_eq (v := .slice A_1 x_1.length cap_1) f_10 (by kernel_rfl) (by kernel_rfl) rfl rfl (fun _ pq => X_load1 (v := .slice A_1 x_1.length cap_1) rfl (ad := ad_1.add (s_1.toNat * 1)) (by kernel_rfl) (by kernel_rfl) (pq.cell (hc_1 0 _ rfl))) (fun a_10 f_11 => ?_)
        refine Q_eq (v := .int .i64 ((x_1.length : Nat) : Int)) f_11 (by kernel_rfl) (by kernel_rfl) rfl rfl (fun _ _ => by kernel_rfl) (fun a_11 f_12 => ?_)
        refine Q_eq (v := .slice A1 d1.length cap1) f_12 (by kernel_rfl) (by kernel_rfl) rfl rfl (fun _ _ => by kernel_rfl) (fun a_12 f_13 => ?_)
        refine Q_eq (v := .int .i64 s_1) f_13 (by kernel_rfl) (by kernel_rfl) rfl rfl (fun _ _ => by kernel_rfl) (fun a_13 f_14 => ?_)
        have f_15 : Frm 53 [(0, .slice A0 d0.length cap0), (1, .slice A1 d1.length cap1), (5, .int .i64 s_1), (22, .int .i64 ((x_1.length : Nat) : Int)), (23, .slice A1 d1.length cap1), (24, .int .i64 s_1)] a_13 := f_14.keep (ks := [0, 1, 5, 22, 23, 24]) (by kernel_rfl)
        obtain ⟨x_2, hx_2, hF_6⟩ := bind_some' hF_5
        obtain ⟨ad_2, c_2, e_2, hl_2, hr_2, hc_2⟩ := Sli.at_ (h1.mono hM_1) hx_2
        clear hl_2
        obtain ⟨A_2, cap_2, rfl, h_4⟩ := Rep.sli hr_2
        refine Q_eq (v := .pointer (some (ad_2.add (s_1.toNat * 1)))) f_15 (by kernel_rfl) (by kernel_rfl) rfl rfl (fun _ pq => X_indexAddrA e_2 rfl (len := d1.length) (cap := cap1) (k := .i64) (i := s_1) (by kernel_rfl) (by kernel_rfl) (e := 26) (by kernel_rfl) (sz := 1) (by kernel_rfl) (getI_nn hx_2) (getI_lt hx_2)) (fun a_14 f_16 => ?_)
        refine Q_eq (v := .slice A_2 x_2.length cap_2) f_16 (by kernel_rfl) (by kernel_rfl) rfl rfl (fun _ pq => X_load1 (v := .slice A_2 x_2.length cap_2) rfl (ad := ad_2.add (s_1.toNat * 1)) (by kernel_rfl) (by kernel_rfl) (pq.cell (hc_2 0 _ rfl))) (fun a_15 f_17 => ?_)
        refine Q_eq (v := .int .i64 ((x_2.length : Nat) : Int)) f_17 (by kernel_rfl) (by kernel_rfl) rfl rfl (fun _ _ => by kernel_rfl) (fun a_16 f_18 => ?_)
        refine Q_eq (v := .bool (!(decide (((x_1.length : Nat) : Int) = ((x_2.length : Nat) : Int))))) f_18 (by kernel_rfl) (by kernel_rfl) rfl rfl (fun _ _ => by kernel_rfl) (fun a_17 f_19 => ?_)
        have f_20 : Frm 53 [(0, .slice A0 d0.length cap0), (1, .slice A1 d1.length cap1), (5, .int .i64 s_1), (28, .bool (!(decide (((x_1.length : Nat) : Int) = ((x_2.length : Nat) : Int)))))] a_17 := f_19.keep (ks := [0, 1, 5, 28]) (by kernel_rfl)
        refine Q_end rfl ?_
        intro w_2 p_2
        refine T_n ?_
        refine R_cond f_20 (b := !(decide (((x_1.length : Nat) : Int) = ((x_2.length : Nat) : Int)))) (by kernel_rfl) (by kernel_rfl) (fun h_5 => ?_) (fun h_5 => ?_)
        · have k_4 : ¬ (((x_1.length : Nat) : Int) = ((x_2.length : Nat) : Int)) := (not_iff decide_eq_true_iff).1 h_5
          have hF_7 := cnd_t h_5 hF_6
          refine R_seq ?_
          refine R_reg ?_
          refine W_run (L' := [(4, .bool false)]) (w' := w_2) f_20 1 [4] (by kernel_rfl) (fun a_18 f_21 => ?_)
          refine W_end rfl ?_
          refine T_n ?_
          refine wp_ret ?_
          refine T_r ?_
          refine B_r ?_
          refine T_r ?_
          refine T_r ?_
          obtain rfl := Option.some.inj hF_7
          exact .inl ⟨rfl, (), (Option.some.inj hn_1).symm, M_1, hM_1, f_21.keep (ks := [4]) (by kernel_rfl), p_2⟩
        · have k_5 : ¬ (¬ (((x_1.length : Nat) : Int) = ((x_2.length : Nat) : Int))) := iff_f (not_iff decide_eq_true_iff) h_5
          have hF_8 := cnd_f h_5 hF_6
          refine wp_skip ?_
          refine T_n ?_
          refine R_seq ?_
          refine R_reg ?_
          refine W_run (L' := [(0, .slice A0 d0.length cap0), (1, .slice A1 d1.length cap1), (5, .int .i64 s_1), (6, .int .i64 0)]) (w' := w_2) f_20 1 [0, 1, 5, 6] (by kernel_rfl) (fun a_19 f_22 => ?_)
          refine W_end rfl ?_
          refine T_n ?_
          refine wp_block ?_
          obtain ⟨b_2, hL_2, hF_9⟩ := bind_some' hF_8
          refine wp_mono (Q := fun e a w => (e = .ret ∧ (∃ y_1 : Unit, b_2 = .inl y_1 ∧ ∃ M_3 : Mem, M_1.le M_3 ∧ Frm 53 [(4, .bool false)] a ∧ Hp w0 M_3 (H) w)) ∨ (e = .exit 2 ∧ (∃ y_2 : Unit, b_2 = .inr y_2 ∧ ∃ M_4 : Mem, M_1.le M_4 ∧ Frm 53 [(0, .slice A0 d0.length cap0), (1, .slice A1 d1.length cap1), (5, .int .i64 s_1)] a ∧ Hp w0 M_4 (H) w))) (R_loop (n := 53) (w0 := w0) (M := M_1) (fun (x : Nat × Int) => match x with | (m_3, s_2) => [(0, .slice A0 d0.length cap0), (1, .slice A1 d1.length cap1), (5, .int .i64 s_1), (6, .int .i64 s_2)]) (fun (x : Nat × Int) => match x with | (m_3, s_2) => (H)) (fun (x : Nat × Int) (MM : Mem) => match x with | (m_3, s_2) => loopF (ref19_Same_s2 n d0 d1 s_1) m_3 s_2 = some b_2) (fun (x : Nat × Int) => match x with | (m_3, s_2) => m_3) (n, (0 : Int)) (f_22.keep (ks := [0, 1, 5, 6]) (by kernel_rfl)) p_2 hL_2 ?_) ?_
          · rintro ⟨m_3, s_2⟩ M_2 a_20 w_3 hM_2 I_2 f_23 p_3
            replace f_23 : Frm 53 [(0, .slice A0 d0.length cap0), (1, .slice A1 d1.length cap1), (5, .int .i64 s_1), (6, .int .i64 s_2)] a_20 := f_23
            replace p_3 : Hp w0 M_2 (H) w_3 := p_3
            have I_2L := I_2
            obtain ⟨m_4, r_2, rfl, hs_2, hn_2⟩ := loop_step I_2L
            unfold ref19_Same_s2 at hs_2
            refine R_seq ?_
            refine R_seq ?_
            refine R_reg ?_
            refine W_run (L' := [(0, .slice A0 d0.length cap0), (1, .slice A1 d1.length cap1), (5, .int .i64 s_1), (6, .int .i64 s_2), (29, .int .i64 s_2), (30, .slice A0 d0.length cap0), (31, .int .i64 s_1)]) (w' := w_3) f_23 3 [0, 1, 5, 6, 29, 30, 31] (by kernel_rfl) (fun a_21 f_24 => ?_)
            obtain ⟨x_3, hx_3, hF_10⟩ := bind_some' hs_2
            obtain ⟨ad_3, c_3, e_3, hl_3, hr_3, hc_3⟩ := Sli.at_ (h0.mono (hM_1.trans hM_2)) hx_3
            clear hl_3
            obtain ⟨A_3, cap_3, rfl, h_6⟩ := Rep.sli hr_3
            refine W_eq (v := .pointer (some (ad_3.add (s_1.toNat * 1)))) f_24 (by kernel_rfl) (by kernel_rfl) rfl rfl (X_indexAddrA e_3 rfl (len := d0.length) (cap := cap0) (k := .i64) (i := s_1) (by kernel_rfl) (by kernel_rfl) (e := 26) (by kernel_rfl) (sz := 1) (by kernel_rfl) (getI_nn hx_3) (getI_lt hx_3)) (fun a_22 f_25 => ?_)
            refine W_eq (v := .slice A_3 x_3.length cap_3) f_25 (by kernel_rfl) (by kernel_rfl) rfl rfl (X_load1 (v := .slice A_3 x_3.length cap_3) rfl (ad := ad_3.add (s_1.toNat * 1)) (by kernel_rfl) (by kernel_rfl) (p_3.cell (hc_3 0 _ rfl))) (fun a_23 f_26 => ?_)
            refine W_run (L' := [(0, .slice A0 d0.length cap0), (1, .slice A1 d1.length cap1), (5, .int .i64 s_1), (6, .int .i64 s_2), (35, .bool (decide (s_2 < ((x_3.length : Nat) : Int))))]) (w' := w_3) f_26 2 [0, 1, 5, 6, 35] (by kernel_rfl) (fun a_24 f_27 => ?_)
            refine W_end rfl ?_
            refine T_n ?_
            refine R_cond f_27 (b := decide (s_2 < ((x_3.length : Nat) : Int))) (by kernel_rfl) (by kernel_rfl) (fun h_7 => ?_) (fun h_7 => ?_)
            · have k_6 : s_2 < ((x_3.length : Nat) : Int) := decide_eq_true_iff.1 h_7
              have hF_11 := cnd_t h_7 hF_10
              refine wp_skip ?_
              refine T_n ?_
              refine R_seq ?_
              refine wp_block ?_
              refine R_seq ?_
              refine R_draw p_3 (by kernel_rfl) (by kernel_rfl) ?_
              refine Q_eq (v := .slice A0 d0.length cap0) f_27 (by kernel_rfl) (by kernel_rfl) rfl rfl (fun _ _ => by kernel_rfl) (fun a_25 f_28 => ?_)
              refine Q_eq (v := .int .i64 s_1) f_28 (by kernel_rfl) (by kernel_rfl) rfl rfl (fun _ _ => by kernel_rfl) (fun a_26 f_29 => ?_)
              have f_30 : Frm 53 [(0, .slice A0 d0.length cap0), (1, .slice A1 d1.length cap1), (5, .int .i64 s_1), (6, .int .i64 s_2), (38, .slice A0 d0.length cap0), (39, .int .i64 s_1)] a_26 := f_29.keep (ks := [0, 1, 5, 6, 38, 39]) (by kernel_rfl)
              obtain ⟨x_4, hx_4, hF_12⟩ := bind_some' hF_11
              obtain ⟨ad_4, c_4, e_4, hl_4, hr_4, hc_4⟩ := Sli.at_ (h0.mono (hM_1.trans hM_2)) hx_4
              clear hl_4
              obtain ⟨A_4, cap_4, rfl, h_8⟩ := Rep.sli hr_4
              refine Q_eq (v := .pointer (some (ad_4.add (s_1.toNat * 1)))) f_30 (by kernel_rfl) (by kernel_rfl) rfl rfl (fun _ pq => X_indexAddrA e_4 rfl (len := d0.length) (cap := cap0) (k := .i64) (i := s_1) (by kernel_rfl) (by kernel_rfl) (e := 26) (by kernel_rfl) (sz := 1) (by kernel_rfl) (getI_nn hx_4) (getI_lt hx_4)) (fun a_27 f_31 => ?_)
              refine Q_eq (v := .slice A_4 x_4.length cap_4) f_31 (by kernel_rfl) (by kernel_rfl) rfl rfl (fun _ pq => X_load1 (v := .slice A_4 x_4.length cap_4) rfl (ad := ad_4.add (s_1.toNat * 1)) (by kernel_rfl) (by kernel_rfl) (pq.cell (hc_4 0 _ rfl))) (fun a_28 f_32 => ?_)
              refine Q_eq (v := .int .i64 s_2) f_32 (by kernel_rfl) (by kernel_rfl) rfl rfl (fun _ _ => by kernel_rfl) (fun a_29 f_33 => ?_)
              have f_34 : Frm 53 [(0, .slice A0 d0.length cap0), (1, .slice A1 d1.length cap1), (5, .int .i64 s_1), (6, .int .i64 s_2), (41, .slice A_4 x_4.length cap_4), (42, .int .i64 s_2)] a_29 := f_33.keep (ks := [0, 1, 5, 6, 41, 42]) (by kernel_rfl)
              obtain ⟨x_5, hx_5, hF_13⟩ := bind_some' hF_12
              obtain ⟨ad_5, c_5, e_5, hl_5, hr_5, hc_5⟩ := Sli.at_ h_8 hx_5
              clear hl_5
              obtain rfl : c_5 = [.int .i64 x_5] := hr_5
              refine Q_eq (v := .pointer (some (ad_5.add (s_2.toNat * 1)))) f_34 (by kernel_rfl) (by kernel_rfl) rfl rfl (fun _ pq => X_indexAddrA e_5 rfl (len := x_4.length) (cap := cap_4) (k := .i64) (i := s_2) (by kernel_rfl) (by kernel_rfl) (e := 3) (by kernel_rfl) (sz := 1) (by kernel_rfl) (getI_nn hx_5) (getI_lt hx_5)) (fun a_30 f_35 => ?_)
              refine Q_eq (v := .int .i64 x_5) f_35 (by kernel_rfl) (by kernel_rfl) rfl rfl (fun _ pq => X_load1 (v := .int .i64 x_5) rfl (ad := ad_5.add (s_2.toNat * 1)) (by kernel_rfl) (by kernel_rfl) (pq.cell (hc_5 0 _ rfl))) (fun a_31 f_36 => ?_)
              refine Q_eq (v := .slice A1 d1.length cap1) f_36 (by kernel_rfl) (by kernel_rfl) rfl rfl (fun _ _ => by kernel_rfl) (fun a_32 f_37 => ?_)
              refine Q_eq (v := .int .i64 s_1) f_37 (by kernel_rfl) (by kernel_rfl) rfl rfl (fun _ _ => by kernel_rfl) (fun a_33 f_38 => ?_)
              have f_39 : Frm 53 [(0, .slice A0 d0.length cap0), (1, .slice A1 d1.length cap1), (5, .int .i64 s_1), (6, .int .i64 s_2), (44, .int .i64 x_5), (45, .slice A1 d1.length cap1), (46, .int .i64 s_1)] a_33 := f_38.keep (ks := [0, 1, 5, 6, 44, 45, 46]) (by kernel_rfl)
              obtain ⟨x_6, hx_6, hF_14⟩ := bind_some' hF_13
              obtain ⟨ad_6, c_6, e_6, hl_6, hr_6, hc_6⟩ := Sli.at_ (h1.mono (hM_1.trans hM_2)) hx_6
              clear hl_6
              obtain ⟨A_5, cap_5, rfl, h_9⟩ := Rep.sli hr_6
              refine Q_eq (v := .pointer (some (ad_6.add (s_1.toNat * 1)))) f_39 (by kernel_rfl) (by kernel_rfl) rfl rfl (fun _ pq => X_indexAddrA e_6 rfl (len := d1.length) (cap := cap1) (k := .i64) (i := s_1) (by kernel_rfl) (by kernel_rfl) (e := 26) (by kernel_rfl) (sz := 1) (by kernel_rfl) (getI_nn hx_6) (getI_lt hx_6)) (fun a_34 f_40 => ?_)
              refine Q_eq (v := .slice A_5 x_6.length cap_5) f_40 (by kernel_rfl) (by kernel_rfl) rfl rfl (fun _ pq => X_load1 (v := .slice A_5 x_6.length cap_5) rfl (ad := ad_6.add (s_1.toNat * 1)) (by kernel_rfl) (by kernel_rfl) (pq.cell (hc_6 0 _ rfl))) (fun a_35 f_41 => ?_)
              refine Q_eq (v := .int .i64 s_2) f_41 (by kernel_rfl) (by kernel_rfl) rfl rfl (fun _ _ => by kernel_rfl) (fun a_36 f_42 => ?_)
              have f_43 : Frm 53 [(0, .slice A0 d0.length cap0), (1, .slice A1 d1.length cap1), (5, .int .i64 s_1), (6, .int .i64 s_2), (44, .int .i64 x_5), (48, .slice A_5 x_6.length cap_5), (49, .int .i64 s_2)] a_36 := f_42.keep (ks := [0, 1, 5, 6, 44, 48, 49]) (by kernel_rfl)
              obtain ⟨x_7, hx_7, hF_15⟩ := bind_some' hF_14
              obtain ⟨ad_7, c_7, e_7, hl_7, hr_7, hc_7⟩ := Sli.at_ h_9 hx_7
              clear hl_7
              obtain rfl : c_7 = [.int .i64 x_7] := hr_7
              refine Q_eq (v := .pointer (some (ad_7.add (s_2.toNat * 1)))) f_43 (by kernel_rfl) (by kernel_rfl) rfl rfl (fun _ pq => X_indexAddrA e_7 rfl (len := x_6.length) (cap := cap_5) (k := .i64) (i := s_2) (by kernel_rfl) (by kernel_rfl) (e := 3) (by kernel_rfl) (sz := 1) (by kernel_rfl) (getI_nn hx_7) (getI_lt hx_7)) (fun a_37 f_44 => ?_)
              refine Q_eq (v := .int .i64 x_7) f_44 (by kernel_rfl) (by kernel_rfl) rfl rfl (fun _ pq => X_load1 (v := .int .i64 x_7) rfl (ad := ad_7.add (s_2.toNat * 1)) (by kernel_rfl) (by kernel_rfl) (pq.cell (hc_7 0 _ rfl))) (fun a_38 f_45 => ?_)
              refine Q_eq (v := .bool (!(decide (x_5 = x_7)))) f_45 (by kernel_rfl) (by kernel_rfl) rfl rfl (fun _ _ => by kernel_rfl) (fun a_39 f_46 => ?_)
              have f_47 : Frm 53 [(0, .slice A0 d0.length cap0), (1, .slice A1 d1.length cap1), (5, .int .i64 s_1), (6, .int .i64 s_2), (52, .bool (!(decide (x_5 = x_7))))] a_39 := f_46.keep (ks := [0, 1, 5, 6, 52]) (by kernel_rfl)
              refine Q_end rfl ?_
              intro w_4 p_4
              refine T_n ?_
              refine R_cond f_47 (b := !(decide (x_5 = x_7))) (by kernel_rfl) (by kernel_rfl) (fun h_10 => ?_) (fun h_10 => ?_)
              · have k_7 : ¬ (x_5 = x_7) := (not_iff decide_eq_true_iff).1 h_10
                have hF_16 := cnd_t h_10 hF_15
                refine R_seq ?_
                refine R_reg ?_
                refine W_run (L' := [(4, .bool false)]) (w' := w_4) f_47 1 [4] (by kernel_rfl) (fun a_40 f_48 => ?_)
                refine W_end rfl ?_
                refine T_n ?_
                refine wp_ret ?_
                refine B_r ?_
                refine T_r ?_
                refine T_r ?_
                obtain rfl := Option.some.inj hF_16
                exact .inl ⟨rfl, (), (Option.some.inj hn_2).symm, M_2, hM_2, f_48.keep (ks := [4]) (by kernel_rfl), p_4⟩
              · have k_8 : ¬ (¬ (x_5 = x_7)) := iff_f (not_iff decide_eq_true_iff) h_10
                have hF_17 := cnd_f h_10 hF_15
                refine wp_skip ?_
                refine B_n ?_
                refine T_n ?_
                refine R_reg ?_
                refine W_run (L' := [(0, .slice A0 d0.length cap0), (1, .slice A1 d1.length cap1), (5, .int .i64 s_1), (36, .int .i64 s_2)]) (w' := w_4) f_47 1 [0, 1, 5, 36] (by kernel_rfl) (fun a_41 f_49 => ?_)
                obtain ⟨g_1, hF_18⟩ := need_some hF_17
                refine W_run (L' := [(0, .slice A0 d0.length cap0), (1, .slice A1 d1.length cap1), (5, .int .i64 s_1), (36, .int .i64 s_2), (37, .int .i64 (IntKind.wrap .i64 (s_2 + 1)))]) (w' := w_4) f_49 1 [0, 1, 5, 36, 37] (by kernel_rfl) (fun a_42 f_50 => ?_)
                have f_51 := Frm.set f_50 37 (v := .int .i64 (IntKind.wrap .i64 (s_2 + 1))) (v' := .int .i64 (s_2 + 1)) (by kernel_rfl) (congrArg (Value.int .i64) (inR_wrap g_1))
                have f_52 : Frm 53 [(0, .slice A0 d0.length cap0), (1, .slice A1 d1.length cap1), (5, .int .i64 s_1), (36, .int .i64 s_2), (37, .int .i64 (s_2 + 1))] a_42 := f_51.keep (ks := [0, 1, 5, 36, 37]) (by kernel_rfl)
                refine W_run (L' := [(0, .slice A0 d0.length cap0), (1, .slice A1 d1.length cap1), (5, .int .i64 s_1), (6, .int .i64 (s_2 + 1))]) (w' := w_4) f_52 1 [0, 1, 5, 6] (by kernel_rfl) (fun a_43 f_53 => ?_)
                refine W_end rfl ?_
                refine T_n ?_
                obtain rfl := Option.some.inj hF_18
                exact ⟨⟨m_4, s_2 + 1⟩, Nat.lt_succ_self _, M_2, hM_2, hn_2, f_53.keep (ks := [0, 1, 5, 6]) (by kernel_rfl), p_4⟩
            · have k_9 : ¬ (s_2 < ((x_3.length : Nat) : Int)) := iff_f decide_eq_true_iff h_7
              have hF_19 := cnd_f h_7 hF_10
              refine wp_exit ?_
              refine T_x ?_
              refine T_x ?_
              obtain rfl := Option.some.inj hF_19
              exact .inr ⟨rfl, (), (Option.some.inj hn_2).symm, M_2, hM_2, f_27.keep (ks := [0, 1, 5]) (by kernel_rfl), p_3⟩
          · rintro _ a_46 w_7 (⟨rfl, y_1, rfl, M_3, hM_3, f_54, p_5⟩ | ⟨rfl, y_2, rfl, M_4, hM_4, f_55, p_6⟩)
            · refine B_r ?_
              refine B_r ?_
              refine T_r ?_
              refine T_r ?_
              obtain rfl := Option.some.inj hF_9
              exact .inl ⟨rfl, (), (Option.some.inj hn_1).symm, M_3, (hM_1.trans hM_3), f_54.keep (ks := [4]) (by kernel_rfl), p_5⟩
            · refine B_x ?_
              refine B_n ?_
              refine T_n ?_
              refine R_reg ?_
              refine W_run (L' := [(0, .slice A0 d0.length cap0), (1, .slice A1 d1.length cap1), (16, .int .i64 s_1)]) (w' := w_7) f_55 1 [0, 1, 16] (by kernel_rfl) (fun a_47 f_56 => ?_)
              obtain ⟨g_2, hF_20⟩ := need_some hF_9
              refine W_run (L' := [(0, .slice A0 d0.length cap0), (1, .slice A1 d1.length cap1), (16, .int .i64 s_1), (17, .int .i64 (IntKind.wrap .i64 (s_1 + 1)))]) (w' := w_7) f_56 1 [0, 1, 16, 17] (by kernel_rfl) (fun a_48 f_57 => ?_)
              have f_58 := Frm.set f_57 17 (v := .int .i64 (IntKind.wrap .i64 (s_1 + 1))) (v' := .int .i64 (s_1 + 1)) (by kernel_rfl) (congrArg (Value.int .i64) (inR_wrap g_2))
              have f_59 : Frm 53 [(0, .slice A0 d0.length cap0), (1, .slice A1 d1.length cap1), (16, .int .i64 s_1), (17, .int .i64 (s_1 + 1))] a_48 := f_58.keep (ks := [0, 1, 16, 17]) (by kernel_rfl)
              refine W_run (L' := [(0, .slice A0 d0.length cap0), (1, .slice A1 d1.length cap1), (5, .int .i64 (s_1 + 1))]) (w' := w_7) f_59 1 [0, 1, 5] (by kernel_rfl) (fun a_49 f_60 => ?_)
              refine W_end rfl ?_
              refine T_n ?_
              obtain rfl := Option.some.inj hF_20
              exact ⟨⟨m_2, s_1 + 1⟩, Nat.lt_succ_self _, M_4, (hM_1.trans hM_4), hn_1, f_60.keep (ks := [0, 1, 5]) (by kernel_rfl), p_6⟩
      · have k_10 : ¬ (s_1 < ((d0.length : Nat) : Int)) := iff_f decide_eq_true_iff h_2
        have hF_21 := cnd_f h_2 hs_1
        refine wp_exit ?_
        refine T_x ?_
        refine T_x ?_
        obtain rfl := Option.some.inj hF_21
        exact .inr ⟨rfl, (), (Option.some.inj hn_1).symm, M_1, hM_1, f_6.keep (ks := []) (by kernel_rfl), p_1⟩
    · rintro _ a_52 w_10 (⟨rfl, y_3, rfl, M_5, hM_5, f_61, p_7⟩ | ⟨rfl, y_4, rfl, M_6, hM_6, f_62, p_8⟩)
      · refine B_r ?_
        refine T_r ?_
        refine E_ret1 f_61 rfl (by kernel_rfl : Vc.look _ 4 = some (.bool false)) ?_
        obtain rfl := Option.some.inj hF_3
        exact ⟨_, rfl, M_5, hM_5, p_7, rfl⟩
      · refine B_x ?_
        refine T_n ?_
        refine R_seq ?_
        refine R_reg ?_
        refine W_run (L' := [(4, .bool true)]) (w' := w_10) f_62 1 [4] (by kernel_rfl) (fun a_53 f_63 => ?_)
        refine W_end rfl ?_
        refine T_n ?_
        refine wp_ret ?_
        refine E_ret1 f_63 rfl (by kernel_rfl : Vc.look _ 4 = some (.bool true)) ?_
        obtain rfl := Option.some.inj hF_3
        exact ⟨_, rfl, M_6, hM_6, p_8, rfl⟩

def graph_May_s2 (n : Nat) (d0 : List (List Int)) (x_1 : List Int) (s_2 : Int) : Option (Lp Int (Sum Unit Unit)) :=
    bif (decide (s_2 < ((x_1.length : Nat) : Int))) then
      ((getI x_1 s_2).bind fun x_2 =>
      bif (decide (x_2 < 0)) then
        (some (.br (.inl ())))
      else
        bif (decide (((d0.length : Nat) : Int) ≤ x_2)) then
          (some (.br (.inl ())))
        else
          need (inR .i64 (s_2 + 1)) <|
          some (.nx (s_2 + 1)))
    else
      some (.br (.inr ()))
def graph_May_s1 (n : Nat) (d0 : List (List Int)) (s_1 : Int) : Option (Lp Int (Sum Unit Unit)) :=
    bif (decide (s_1 < ((d0.length : Nat) : Int))) then
      ((getI d0 s_1).bind fun x_1 =>
      (loopF (graph_May_s2 n d0 x_1) n (0 : Int)).bind fun b_2 =>
      (match b_2 with 
      | .inl y_1 => some (.br (.inl ())) 
      | .inr y_2 => need (inR .i64 (s_1 + 1)) <|
        some (.nx (s_1 + 1))))
    else
      some (.br (.inr ()))
def graph_May (n : Nat) (d0 : List (List Int)) : Option Bool :=
  (loopF (graph_May_s1 n d0) n (0 : Int)).bind fun b_1 =>
  (match b_1 with 
  | .inl y_3 => some ((false)) 
  | .inr y_4 => some ((true)))
theorem graph_May_ok (n : Nat) (M : Mem) (A0 : Option Addr) (cap0 : Nat) (d0 : List (List Int)) (h0 : Sli M 1 (eL 1 (Dat.int .i64)) A0 cap0 d0) (r : Bool) (hF : graph_May n d0 = some r) : Ok Try.prog M 39 [.slice A0 d0.length cap0] (fun _ v => v = .bool r) := by
  unfold graph_May at hF
  intro M1 hM0 w0 H w p0
  replace h0 := h0.mono hM0
  refine R_enter 29 Try.func39 rfl rfl (by simp) (fun a0 f0 => ?_)
  replace f0 : Frm 29 [(0, .slice A0 d0.length cap0)] a0 := f0
  refine R_seq ?_
  refine R_reg ?_
  refine W_run (L' := [(0, .slice A0 d0.length cap0)]) (w' := w) f0 1 [0] (by kernel_rfl) (fun a_1 f_1 => ?_)
  refine W_end rfl ?_
  refine T_n ?_
  refine R_seq ?_
  refine R_seq ?_
  refine R_reg ?_
  refine W_run (L' := [(0, .slice A0 d0.length cap0), (7, .slice A0 d0.length cap0), (8, .int .i64 ((d0.length : Nat) : Int)), (9, .int .i64 0)]) (w' := w) f_1 3 [0, 7, 8, 9] (by kernel_rfl) (fun a_2 f_2 => ?_)
  refine W_end rfl ?_
  refine T_n ?_
  refine wp_block ?_
  obtain ⟨b_1, hL_1, hF_1⟩ := bind_some' hF
  refine wp_mono (Q := fun e a w => (e = .ret ∧ (∃ y_3 : Unit, b_1 = .inl y_3 ∧ ∃ M_5 : Mem, M1.le M_5 ∧ Frm 29 [(2, .bool false)] a ∧ Hp w0 M_5 (H) w)) ∨ (e = .exit 0 ∧ (∃ y_4 : Unit, b_1 = .inr y_4 ∧ ∃ M_6 : Mem, M1.le M_6 ∧ Frm 29 [] a ∧ Hp w0 M_6 (H) w))) (R_loop (n := 29) (w0 := w0) (M := M1) (fun (x : Nat × Int) => match x with | (m_1, s_1) => [(0, .slice A0 d0.length cap0), (7, .slice A0 d0.length cap0), (8, .int .i64 ((d0.length : Nat) : Int)), (9, .int .i64 s_1)]) (fun (x : Nat × Int) => match x with | (m_1, s_1) => (H)) (fun (x : Nat × Int) (MM : Mem) => match x with | (m_1, s_1) => loopF (graph_May_s1 n d0) m_1 s_1 = some b_1) (fun (x : Nat × Int) => match x with | (m_1, s_1) => m_1) (n, (0 : Int)) (f_2.keep (ks := [0, 7, 8, 9]) (by kernel_rfl)) p0 hL_1 ?_) ?_
  · rintro ⟨m_1, s_1⟩ M_1 a_3 w_1 hM_1 I_1 f_3 p_1
    replace f_3 : Frm 29 [(0, .slice A0 d0.length cap0), (7, .slice A0 d0.length cap0), (8, .int .i64 ((d0.length : Nat) : Int)), (9, .int .i64 s_1)] a_3 := f_3
    replace p_1 : Hp w0 M_1 (H) w_1 := p_1
    have I_1L := I_1
    obtain ⟨m_2, r_1, rfl, hs_1, hn_1⟩ := loop_step I_1L
    unfold graph_May_s1 at hs_1
    refine R_seq ?_
    refine R_reg ?_
    refine W_run (L' := [(0, .slice A0 d0.length cap0), (7, .slice A0 d0.length cap0), (8, .int .i64 ((d0.length : Nat) : Int)), (9, .int .i64 s_1), (10, .bool (decide (s_1 < ((d0.length : Nat) : Int))))]) (w' := w_1) f_3 1 [0, 7, 8, 9, 10] (by kernel_rfl) (fun a_4 f_4 => ?_)
    refine W_end rfl ?_
    refine T_n ?_
    refine R_seq ?_
    refine R_cond f_4 (b := decide (s_1 < ((d0.length : Nat) : Int))) (by kernel_rfl) (by kernel_rfl) (fun h_1 => ?_) (fun h_1 => ?_)
    · have k_1 : s_1 < ((d0.length : Nat) : Int) := decide_eq_true_iff.1 h_1
      have hF_2 := cnd_t h_1 hs_1
      refine wp_skip ?_
      refine T_n ?_
      refine R_seq ?_
      refine wp_block ?_
      refine R_seq ?_
      refine R_reg ?_
      obtain ⟨x_1, hx_1, hF_3⟩ := bind_some' hF_2
      obtain ⟨ad_1, c_1, e_1, hl_1, hr_1, hc_1⟩ := Sli.at_ (h0.mono hM_1) hx_1
      clear hl_1
      obtain ⟨A_1, cap_1, rfl, h_2⟩ := Rep.sli hr_1
      refine W_eq (v := .pointer (some (ad_1.add (s_1.toNat * 1)))) f_4 (by kernel_rfl) (by kernel_rfl) rfl rfl (X_indexAddrA e_1 rfl (len := d0.length) (cap := cap0) (k := .i64) (i := s_1) (by kernel_rfl) (by kernel_rfl) (e := 26) (by kernel_rfl) (sz := 1) (by kernel_rfl) (getI_nn hx_1) (getI_lt hx_1)) (fun a_5 f_5 => ?_)
      refine W_eq (v := .slice A_1 x_1.length cap_1) f_5 (by kernel_rfl) (by kernel_rfl) rfl rfl (X_load1 (v := .slice A_1 x_1.length cap_1) rfl (ad := ad_1.add (s_1.toNat * 1)) (by kernel_rfl) (by kernel_rfl) (p_1.cell (hc_1 0 _ rfl))) (fun a_6 f_6 => ?_)
      refine W_run (L' := [(0, .slice A0 d0.length cap0), (4, .slice A_1 x_1.length cap_1), (7, .slice A0 d0.length cap0), (8, .int .i64 ((d0.length : Nat) : Int)), (9, .int .i64 s_1)]) (w' := w_1) f_6 1 [0, 4, 7, 8, 9] (by kernel_rfl) (fun a_7 f_7 => ?_)
      refine W_end rfl ?_
      refine T_n ?_
      refine R_seq ?_
      refine R_reg ?_
      refine W_run (L' := [(0, .slice A0 d0.length cap0), (7, .slice A0 d0.length cap0), (8, .int .i64 ((d0.length : Nat) : Int)), (9, .int .i64 s_1), (13, .slice A_1 x_1.length cap_1), (14, .int .i64 ((x_1.length : Nat) : Int)), (15, .int .i64 0)]) (w' := w_1) f_7 3 [0, 7, 8, 9, 13, 14, 15] (by kernel_rfl) (fun a_8 f_8 => ?_)
      refine W_end rfl ?_
      refine T_n ?_
      refine wp_block ?_
      obtain ⟨b_2, hL_2, hF_4⟩ := bind_some' hF_3
      refine wp_mono (Q := fun e a w => (e = .ret ∧ (∃ y_1 : Unit, b_2 = .inl y_1 ∧ ∃ M_3 : Mem, M_1.le M_3 ∧ Frm 29 [(2, .bool false)] a ∧ Hp w0 M_3 (H) w)) ∨ (e = .exit 2 ∧ (∃ y_2 : Unit, b_2 = .inr y_2 ∧ ∃ M_4 : Mem, M_1.le M_4 ∧ Frm 29 [(0, .slice A0 d0.length cap0), (7, .slice A0 d0.length cap0), (8, .int .i64 ((d0.length : Nat) : Int)), (9, .int .i64 s_1)] a ∧ Hp w0 M_4 (H) w))) (R_loop (n := 29) (w0 := w0) (M := M_1) (fun (x : Nat × Int) => match x with | (m_3, s_2) => [(0, .slice A0 d0.length cap0), (7, .slice A0 d0.length cap0), (8, .int .i64 ((d0.length : Nat) : Int)), (9, .int .i64 s_1), (13, .slice A_1 x_1.length cap_1), (14, .int .i64 ((x_1.length : Nat) : Int)), (15, .int .i64 s_2)]) (fun (x : Nat × Int) => match x with | (m_3, s_2) => (H)) (fun (x : Nat × Int) (MM : Mem) => match x with | (m_3, s_2) => loopF (graph_May_s2 n d0 x_1) m_3 s_2 = some b_2) (fun (x : Nat × Int) => match x with | (m_3, s_2) => m_3) (n, (0 : Int)) (f_8.keep (ks := [0, 7, 8, 9, 13, 14, 15]) (by kernel_rfl)) p_1 hL_2 ?_) ?_
      · rintro ⟨m_3, s_2⟩ M_2 a_9 w_2 hM_2 I_2 f_9 p_2
        replace f_9 : Frm 29 [(0, .slice A0 d0.length cap0), (7, .slice A0 d0.length cap0), (8, .int .i64 ((d0.length : Nat) : Int)), (9, .int .i64 s_1), (13, .slice A_1 x_1.length cap_1), (14, .int .i64 ((x_1.length : Nat) : Int)), (15, .int .i64 s_2)] a_9 := f_9
        replace p_2 : Hp w0 M_2 (H) w_2 := p_2
        have I_2L := I_2
        obtain ⟨m_4, r_2, rfl, hs_2, hn_2⟩ := loop_step I_2L
        unfold graph_May_s2 at hs_2
        refine R_seq ?_
        refine R_reg ?_
        refine W_run (L' := [(0, .slice A0 d0.length cap0), (7, .slice A0 d0.length cap0), (8, .int .i64 ((d0.length : Nat) : Int)), (9, .int .i64 s_1), (13, .slice A_1 x_1.length cap_1), (14, .int .i64 ((x_1.length : Nat) : Int)), (15, .int .i64 s_2), (16, .bool (decide (s_2 < ((x_1.length : Nat) : Int))))]) (w' := w_2) f_9 1 [0, 7, 8, 9, 13, 14, 15, 16] (by kernel_rfl) (fun a_10 f_10 => ?_)
        refine W_end rfl ?_
        refine T_n ?_
        refine R_seq ?_
        refine R_cond f_10 (b := decide (s_2 < ((x_1.length : Nat) : Int))) (by kernel_rfl) (by kernel_rfl) (fun h_3 => ?_) (fun h_3 => ?_)
        · have k_2 : s_2 < ((x_1.length : Nat) : Int) := decide_eq_true_iff.1 h_3
          have hF_5 := cnd_t h_3 hs_2
          refine wp_skip ?_
          refine T_n ?_
          refine R_seq ?_
          refine wp_block ?_
          refine R_seq ?_
          refine R_reg ?_
          obtain ⟨x_2, hx_2, hF_6⟩ := bind_some' hF_5
          obtain ⟨ad_2, c_2, e_2, hl_2, hr_2, hc_2⟩ := Sli.at_ (h_2.mono hM_2) hx_2
          clear hl_2
          obtain rfl : c_2 = [.int .i64 x_2] := hr_2
          refine W_eq (v := .pointer (some (ad_2.add (s_2.toNat * 1)))) f_10 (by kernel_rfl) (by kernel_rfl) rfl rfl (X_indexAddrA e_2 rfl (len := x_1.length) (cap := cap_1) (k := .i64) (i := s_2) (by kernel_rfl) (by kernel_rfl) (e := 3) (by kernel_rfl) (sz := 1) (by kernel_rfl) (getI_nn hx_2) (getI_lt hx_2)) (fun a_11 f_11 => ?_)
          refine W_eq (v := .int .i64 x_2) f_11 (by kernel_rfl) (by kernel_rfl) rfl rfl (X_load1 (v := .int .i64 x_2) rfl (ad := ad_2.add (s_2.toNat * 1)) (by kernel_rfl) (by kernel_rfl) (p_2.cell (hc_2 0 _ rfl))) (fun a_12 f_12 => ?_)
          refine W_run (L' := [(0, .slice A0 d0.length cap0), (6, .int .i64 x_2), (7, .slice A0 d0.length cap0), (8, .int .i64 ((d0.length : Nat) : Int)), (9, .int .i64 s_1), (13, .slice A_1 x_1.length cap_1), (14, .int .i64 ((x_1.length : Nat) : Int)), (15, .int .i64 s_2)]) (w' := w_2) f_12 1 [0, 6, 7, 8, 9, 13, 14, 15] (by kernel_rfl) (fun a_13 f_13 => ?_)
          refine W_end rfl ?_
          refine T_n ?_
          refine R_seq ?_
          refine R_reg ?_
          refine W_run (L' := [(0, .slice A0 d0.length cap0), (6, .int .i64 x_2), (7, .slice A0 d0.length cap0), (8, .int .i64 ((d0.length : Nat) : Int)), (9, .int .i64 s_1), (13, .slice A_1 x_1.length cap_1), (14, .int .i64 ((x_1.length : Nat) : Int)), (15, .int .i64 s_2), (21, .bool (decide (x_2 < 0)))]) (w' := w_2) f_13 3 [0, 6, 7, 8, 9, 13, 14, 15, 21] (by kernel_rfl) (fun a_14 f_14 => ?_)
          rcases Bool.eq_false_or_eq_true (decide (x_2 < 0)) with h_4 | h_4
          · have k_3 : x_2 < 0 := decide_eq_true_iff.1 h_4
            have hF_7 := cnd_t h_4 hF_6
            have f_15 := Frm.set f_14 21 (v := .bool (decide (x_2 < 0))) (v' := .bool true) (by kernel_rfl) (congrArg Value.bool h_4)
            have f_16 : Frm 29 [(0, .slice A0 d0.length cap0), (6, .int .i64 x_2), (7, .slice A0 d0.length cap0), (8, .int .i64 ((d0.length : Nat) : Int)), (9, .int .i64 s_1), (13, .slice A_1 x_1.length cap_1), (14, .int .i64 ((x_1.length : Nat) : Int)), (15, .int .i64 s_2), (21, .bool true)] a_14 := f_15.keep (ks := [0, 6, 7, 8, 9, 13, 14, 15, 21]) (by kernel_rfl)
            refine W_run (L' := [(0, .slice A0 d0.length cap0), (7, .slice A0 d0.length cap0), (8, .int .i64 ((d0.length : Nat) : Int)), (9, .int .i64 s_1), (13, .slice A_1 x_1.length cap_1), (14, .int .i64 ((x_1.length : Nat) : Int)), (15, .int .i64 s_2), (26, .bool true)]) (w' := w_2) f_16 5 [0, 7, 8, 9, 13, 14, 15, 26] (by kernel_rfl) (fun a_15 f_17 => ?_)
            refine W_end rfl ?_
            refine T_n ?_
            refine R_cond_t f_17 (by kernel_rfl) (by kernel_rfl) ?_
            refine R_seq ?_
            refine R_reg ?_
            refine W_run (L' := [(2, .bool false)]) (w' := w_2) f_17 1 [2] (by kernel_rfl) (fun a_16 f_18 => ?_)
            refine W_end rfl ?_
            refine T_n ?_
            refine wp_ret ?_
            refine B_r ?_
            refine T_r ?_
            refine T_r ?_
            obtain rfl := Option.some.inj hF_7
            exact .inl ⟨rfl, (), (Option.some.inj hn_2).symm, M_2, hM_2, f_18.keep (ks := [2]) (by kernel_rfl), p_2⟩
          · have k_4 : ¬ (x_2 < 0) := iff_f decide_eq_true_iff h_4
            have hF_8 := cnd_f h_4 hF_6
            have f_19 := Frm.set f_14 21 (v := .bool (decide (x_2 < 0))) (v' := .bool false) (by kernel_rfl) (congrArg Value.bool h_4)
            have f_20 : Frm 29 [(0, .slice A0 d0.length cap0), (6, .int .i64 x_2), (7, .slice A0 d0.length cap0), (8, .int .i64 ((d0.length : Nat) : Int)), (9, .int .i64 s_1), (13, .slice A_1 x_1.length cap_1), (14, .int .i64 ((x_1.length : Nat) : Int)), (15, .int .i64 s_2), (21, .bool false)] a_14 := f_19.keep (ks := [0, 6, 7, 8, 9, 13, 14, 15, 21]) (by kernel_rfl)
            refine W_run (L' := [(0, .slice A0 d0.length cap0), (7, .slice A0 d0.length cap0), (8, .int .i64 ((d0.length : Nat) : Int)), (9, .int .i64 s_1), (13, .slice A_1 x_1.length cap_1), (14, .int .i64 ((x_1.length : Nat) : Int)), (15, .int .i64 s_2), (26, .bool (decide (((d0.length : Nat) : Int) ≤ x_2)))]) (w' := w_2) f_20 5 [0, 7, 8, 9, 13, 14, 15, 26] (by kernel_rfl) (fun a_17 f_21 => ?_)
            refine W_end rfl ?_
            refine T_n ?_
            refine R_cond f_21 (b := decide (((d0.length : Nat) : Int) ≤ x_2)) (by kernel_rfl) (by kernel_rfl) (fun h_5 => ?_) (fun h_5 => ?_)
            · have k_5 : ((d0.length : Nat) : Int) ≤ x_2 := decide_eq_true_iff.1 h_5
              have hF_9 := cnd_t h_5 hF_8
              refine R_seq ?_
              refine R_reg ?_
              refine W_run (L' := [(2, .bool false)]) (w' := w_2) f_21 1 [2] (by kernel_rfl) (fun a_18 f_22 => ?_)
              refine W_end rfl ?_
              refine T_n ?_
              refine wp_ret ?_
              refine B_r ?_
              refine T_r ?_
              refine T_r ?_
              obtain rfl := Option.some.inj hF_9
              exact .inl ⟨rfl, (), (Option.some.inj hn_2).symm, M_2, hM_2, f_22.keep (ks := [2]) (by kernel_rfl), p_2⟩
            · have k_6 : ¬ (((d0.length : Nat) : Int) ≤ x_2) := iff_f decide_eq_true_iff h_5
              have hF_10 := cnd_f h_5 hF_8
              refine wp_skip ?_
              refine B_n ?_
              refine T_n ?_
              refine R_reg ?_
              obtain ⟨g_1, hF_11⟩ := need_some hF_10
              refine W_run (L' := [(0, .slice A0 d0.length cap0), (7, .slice A0 d0.length cap0), (8, .int .i64 ((d0.length : Nat) : Int)), (9, .int .i64 s_1), (13, .slice A_1 x_1.length cap_1), (14, .int .i64 ((x_1.length : Nat) : Int)), (15, .int .i64 s_2), (26, .bool (decide (((d0.length : Nat) : Int) ≤ x_2))), (27, .int .i64 (IntKind.wrap .i64 (s_2 + 1)))]) (w' := w_2) f_21 1 [0, 7, 8, 9, 13, 14, 15, 26, 27] (by kernel_rfl) (fun a_19 f_23 => ?_)
              have f_24 := Frm.set f_23 27 (v := .int .i64 (IntKind.wrap .i64 (s_2 + 1))) (v' := .int .i64 (s_2 + 1)) (by kernel_rfl) (congrArg (Value.int .i64) (inR_wrap g_1))
              have f_25 : Frm 29 [(0, .slice A0 d0.length cap0), (7, .slice A0 d0.length cap0), (8, .int .i64 ((d0.length : Nat) : Int)), (9, .int .i64 s_1), (13, .slice A_1 x_1.length cap_1), (14, .int .i64 ((x_1.length : Nat) : Int)), (15, .int .i64 s_2), (26, .bool (decide (((d0.length : Nat) : Int) ≤ x_2))), (27, .int .i64 (s_2 + 1))] a_19 := f_24.keep (ks := [0, 7, 8, 9, 13, 14, 15, 26, 27]) (by kernel_rfl)
              refine W_run (L' := [(0, .slice A0 d0.length cap0), (7, .slice A0 d0.length cap0), (8, .int .i64 ((d0.length : Nat) : Int)), (9, .int .i64 s_1), (13, .slice A_1 x_1.length cap_1), (14, .int .i64 ((x_1.length : Nat) : Int)), (15, .int .i64 (s_2 + 1))]) (w' := w_2) f_25 1 [0, 7, 8, 9, 13, 14, 15] (by kernel_rfl) (fun a_20 f_26 => ?_)
              refine W_end rfl ?_
              refine T_n ?_
              obtain rfl := Option.some.inj hF_11
              exact ⟨⟨m_4, s_2 + 1⟩, Nat.lt_succ_self _, M_2, hM_2, hn_2, f_26.keep (ks := [0, 7, 8, 9, 13, 14, 15]) (by kernel_rfl), p_2⟩
        · have k_7 : ¬ (s_2 < ((x_1.length : Nat) : Int)) := iff_f decide_eq_true_iff h_3
          have hF_12 := cnd_f h_3 hs_2
          refine wp_exit ?_
          refine T_x ?_
          refine T_x ?_
          obtain rfl := Option.some.inj hF_12
          exact .inr ⟨rfl, (), (Option.some.inj hn_2).symm, M_2, hM_2, f_10.keep (ks := [0, 7, 8, 9]) (by kernel_rfl), p_2⟩
      · rintro _ a_23 w_5 (⟨rfl, y_1, rfl, M_3, hM_3, f_27, p_3⟩ | ⟨rfl, y_2, rfl, M_4, hM_4, f_28, p_4⟩)
        · refine B_r ?_
          refine B_r ?_
          refine T_r ?_
          refine T_r ?_
          obtain rfl := Option.some.inj hF_4
          exact .inl ⟨rfl, (), (Option.some.inj hn_1).symm, M_3, (hM_1.trans hM_3), f_27.keep (ks := [2]) (by kernel_rfl), p_3⟩
        · refine B_x ?_
          refine B_n ?_
          refine T_n ?_
          refine R_reg ?_
          obtain ⟨g_2, hF_13⟩ := need_some hF_4
          refine W_run (L' := [(0, .slice A0 d0.length cap0), (7, .slice A0 d0.length cap0), (8, .int .i64 ((d0.length : Nat) : Int)), (9, .int .i64 s_1), (28, .int .i64 (IntKind.wrap .i64 (s_1 + 1)))]) (w' := w_5) f_28 1 [0, 7, 8, 9, 28] (by kernel_rfl) (fun a_24 f_29 => ?_)
          have f_30 := Frm.set f_29 28 (v := .int .i64 (IntKind.wrap .i64 (s_1 + 1))) (v' := .int .i64 (s_1 + 1)) (by kernel_rfl) (congrArg (Value.int .i64) (inR_wrap g_2))
          have f_31 : Frm 29 [(0, .slice A0 d0.length cap0), (7, .slice A0 d0.length cap0), (8, .int .i64 ((d0.length : Nat) : Int)), (9, .int .i64 s_1), (28, .int .i64 (s_1 + 1))] a_24 := f_30.keep (ks := [0, 7, 8, 9, 28]) (by kernel_rfl)
          refine W_run (L' := [(0, .slice A0 d0.length cap0), (7, .slice A0 d0.length cap0), (8, .int .i64 ((d0.length : Nat) : Int)), (9, .int .i64 (s_1 + 1))]) (w' := w_5) f_31 1 [0, 7, 8, 9] (by kernel_rfl) (fun a_25 f_32 => ?_)
          refine W_end rfl ?_
          refine T_n ?_
          obtain rfl := Option.some.inj hF_13
          exact ⟨⟨m_2, s_1 + 1⟩, Nat.lt_succ_self _, M_4, (hM_1.trans hM_4), hn_1, f_32.keep (ks := [0, 7, 8, 9]) (by kernel_rfl), p_4⟩
    · have k_8 : ¬ (s_1 < ((d0.length : Nat) : Int)) := iff_f decide_eq_true_iff h_1
      have hF_14 := cnd_f h_1 hs_1
      refine wp_exit ?_
      refine T_x ?_
      refine T_x ?_
      obtain rfl := Option.some.inj hF_14
      exact .inr ⟨rfl, (), (Option.some.inj hn_1).symm, M_1, hM_1, f_4.keep (ks := []) (by kernel_rfl), p_1⟩
  · rintro _ a_28 w_8 (⟨rfl, y_3, rfl, M_5, hM_5, f_33, p_5⟩ | ⟨rfl, y_4, rfl, M_6, hM_6, f_34, p_6⟩)
    · refine B_r ?_
      refine T_r ?_
      refine E_ret1 f_33 rfl (by kernel_rfl : Vc.look _ 2 = some (.bool false)) ?_
      obtain rfl := Option.some.inj hF_1
      exact ⟨_, rfl, M_5, hM_5, p_5, rfl⟩
    · refine B_x ?_
      refine T_n ?_
      refine R_seq ?_
      refine R_reg ?_
      refine W_run (L' := [(2, .bool true)]) (w' := w_8) f_34 1 [2] (by kernel_rfl) (fun a_29 f_35 => ?_)
      refine W_end rfl ?_
      refine T_n ?_
      refine wp_ret ?_
      refine E_ret1 f_35 rfl (by kernel_rfl : Vc.look _ 2 = some (.bool true)) ?_
      obtain rfl := Option.some.inj hF_1
      exact ⟨_, rfl, M_6, hM_6, p_6, rfl⟩

def law21_within_s1 (n : Nat) (d1 : List Int) (s_1 : Int × (List (Int × Bool))) : Option (Lp (Int × (List (Int × Bool))) (List (Int × Bool))) :=
    bif (decide (s_1.1 < ((d1.length : Nat) : Int))) then
      ((getI d1 s_1.1).bind fun x_1 =>
      need (inR .i64 (s_1.1 + 1)) <|
      some (.nx (s_1.1 + 1, mput s_1.2 x_1 (true))))
    else
      some (.br s_1.2)
def law21_within_s2 (n : Nat) (d0 : List Int) (y_1 : (List (Int × Bool))) (s_2 : Int) : Option (Lp Int (Sum Unit Unit)) :=
    bif (decide (s_2 < ((d0.length : Nat) : Int))) then
      ((getI d0 s_2).bind fun x_2 =>
      bif (!((mget y_1 x_2).getD false)) then
        (some (.br (.inl ())))
      else
        need (inR .i64 (s_2 + 1)) <|
        some (.nx (s_2 + 1)))
    else
      some (.br (.inr ()))
def law21_within (n : Nat) (d0 : List Int) (d1 : List Int) : Option Bool :=
  (loopF (law21_within_s1 n d1) n ((0 : Int), ([] : List (Int × Bool)))).bind fun y_1 =>
  (loopF (law21_within_s2 n d0 y_1) n (0 : Int)).bind fun b_2 =>
  (match b_2 with 
  | .inl y_2 => some ((false)) 
  | .inr y_3 => some ((true)))
theorem law21_within_ok (n : Nat) (M : Mem) (A0 : Option Addr) (cap0 : Nat) (d0 : List Int) (h0 : Sli M 1 (Dat.int .i64) A0 cap0 d0) (A1 : Option Addr) (cap1 : Nat) (d1 : List Int) (h1 : Sli M 1 (Dat.int .i64) A1 cap1 d1) (r : Bool) (hF : law21_within n d0 d1 = some r) : Ok Try.prog M 12 [.slice A0 d0.length cap0, .slice A1 d1.length cap1] (fun _ v => v = .bool r) := by
  unfold law21_within at hF
  intro M1 hM0 w0 H w p0
  replace h0 := h0.mono hM0
  replace h1 := h1.mono hM0
  refine R_enter 31 Try.func12 rfl rfl (by simp) (fun a0 f0 => ?_)
  replace f0 : Frm 31 [(0, .slice A0 d0.length cap0), (1, .slice A1 d1.length cap1)] a0 := f0
  refine R_seq ?_
  refine R_reg ?_
  refine W_run (L' := [(0, .slice A0 d0.length cap0), (1, .slice A1 d1.length cap1)]) (w' := w) f0 1 [0, 1] (by kernel_rfl) (fun a_1 f_1 => ?_)
  refine W_end rfl ?_
  refine T_n ?_
  refine R_seq ?_
  refine R_reg ?_
  refine W_newmap (Value.int .i64) Value.bool f_1 p0 (by kernel_rfl) (by kernel_rfl) rfl rfl rfl (fun bm_1 w_1 p_1 a_2 f_2 => ?_)
  refine W_run (L' := [(0, .slice A0 d0.length cap0), (1, .slice A1 d1.length cap1), (5, .map (some bm_1))]) (w' := w_1) f_2 1 [0, 1, 5] (by kernel_rfl) (fun a_3 f_3 => ?_)
  refine W_end rfl ?_
  refine T_n ?_
  refine R_seq ?_
  refine R_seq ?_
  refine R_reg ?_
  refine W_run (L' := [(0, .slice A0 d0.length cap0), (5, .map (some bm_1)), (11, .slice A1 d1.length cap1), (12, .int .i64 ((d1.length : Nat) : Int)), (13, .int .i64 0)]) (w' := w_1) f_3 3 [0, 5, 11, 12, 13] (by kernel_rfl) (fun a_4 f_4 => ?_)
  refine W_end rfl ?_
  refine T_n ?_
  refine wp_block ?_
  obtain ⟨b_1, hL_1, hF_1⟩ := bind_some' hF
  refine wp_mono (Q := fun e a w => (e = .exit 0 ∧ (∃ y_1 : (List (Int × Bool)), b_1 = y_1 ∧ ∃ M_2 : Mem, M1.le M_2 ∧ Frm 31 [(0, .slice A0 d0.length cap0), (5, .map (some bm_1))] a ∧ Hp w0 M_2 ((Ent.obj bm_1 (mapO (Value.int .i64) Value.bool y_1)) :: H) w))) (R_loop (n := 31) (w0 := w0) (M := M1) (fun (x : Nat × (Int × (List (Int × Bool)))) => match x with | (m_1, s_1) => [(0, .slice A0 d0.length cap0), (5, .map (some bm_1)), (11, .slice A1 d1.length cap1), (12, .int .i64 ((d1.length : Nat) : Int)), (13, .int .i64 s_1.1)]) (fun (x : Nat × (Int × (List (Int × Bool)))) => match x with | (m_1, s_1) => ((Ent.obj bm_1 (mapO (Value.int .i64) Value.bool s_1.2)) :: H)) (fun (x : Nat × (Int × (List (Int × Bool)))) (MM : Mem) => match x with | (m_1, s_1) => loopF (law21_within_s1 n d1) m_1 s_1 = some b_1) (fun (x : Nat × (Int × (List (Int × Bool)))) => match x with | (m_1, s_1) => m_1) (n, ((0 : Int), ([] : List (Int × Bool)))) (f_4.keep (ks := [0, 5, 11, 12, 13]) (by kernel_rfl)) p_1 hL_1 ?_) ?_
  · rintro ⟨m_1, s_1⟩ M_1 a_5 w_2 hM_1 I_1 f_5 p_2
    replace f_5 : Frm 31 [(0, .slice A0 d0.length cap0), (5, .map (some bm_1)), (11, .slice A1 d1.length cap1), (12, .int .i64 ((d1.length : Nat) : Int)), (13, .int .i64 s_1.1)] a_5 := f_5
    replace p_2 : Hp w0 M_1 ((Ent.obj bm_1 (mapO (Value.int .i64) Value.bool s_1.2)) :: H) w_2 := p_2
    have I_1L := I_1
    obtain ⟨m_2, r_1, rfl, hs_1, hn_1⟩ := loop_step I_1L
    unfold law21_within_s1 at hs_1
    refine R_seq ?_
    refine R_reg ?_
    refine W_run (L' := [(0, .slice A0 d0.length cap0), (5, .map (some bm_1)), (11, .slice A1 d1.length cap1), (12, .int .i64 ((d1.length : Nat) : Int)), (13, .int .i64 s_1.1), (14, .bool (decide (s_1.1 < ((d1.length : Nat) : Int))))]) (w' := w_2) f_5 1 [0, 5, 11, 12, 13, 14] (by kernel_rfl) (fun a_6 f_6 => ?_)
    refine W_end rfl ?_
    refine T_n ?_
    refine R_seq ?_
    refine R_cond f_6 (b := decide (s_1.1 < ((d1.length : Nat) : Int))) (by kernel_rfl) (by kernel_rfl) (fun h_1 => ?_) (fun h_1 => ?_)
    · have k_1 : s_1.1 < ((d1.length : Nat) : Int) := decide_eq_true_iff.1 h_1
      have hF_2 := cnd_t h_1 hs_1
      refine wp_skip ?_
      refine T_n ?_
      refine R_seq ?_
      refine wp_block ?_
      refine R_seq ?_
      refine R_reg ?_
      obtain ⟨x_1, hx_1, hF_3⟩ := bind_some' hF_2
      obtain ⟨ad_1, c_1, e_1, hl_1, hr_1, hc_1⟩ := Sli.at_ (h1.mono hM_1) hx_1
      clear hl_1
      obtain rfl : c_1 = [.int .i64 x_1] := hr_1
      refine W_eq (v := .pointer (some (ad_1.add (s_1.1.toNat * 1)))) f_6 (by kernel_rfl) (by kernel_rfl) rfl rfl (X_indexAddrA e_1 rfl (len := d1.length) (cap := cap1) (k := .i64) (i := s_1.1) (by kernel_rfl) (by kernel_rfl) (e := 3) (by kernel_rfl) (sz := 1) (by kernel_rfl) (getI_nn hx_1) (getI_lt hx_1)) (fun a_7 f_7 => ?_)
      refine W_eq (v := .int .i64 x_1) f_7 (by kernel_rfl) (by kernel_rfl) rfl rfl (X_load1 (v := .int .i64 x_1) rfl (ad := ad_1.add (s_1.1.toNat * 1)) (by kernel_rfl) (by kernel_rfl) (p_2.cell (hc_1 0 _ rfl))) (fun a_8 f_8 => ?_)
      refine W_run (L' := [(0, .slice A0 d0.length cap0), (5, .map (some bm_1)), (7, .int .i64 x_1), (11, .slice A1 d1.length cap1), (12, .int .i64 ((d1.length : Nat) : Int)), (13, .int .i64 s_1.1)]) (w' := w_2) f_8 1 [0, 5, 7, 11, 12, 13] (by kernel_rfl) (fun a_9 f_9 => ?_)
      refine W_end rfl ?_
      refine T_n ?_
      refine R_reg ?_
      refine W_run (L' := [(0, .slice A0 d0.length cap0), (5, .map (some bm_1)), (11, .slice A1 d1.length cap1), (12, .int .i64 ((d1.length : Nat) : Int)), (13, .int .i64 s_1.1), (17, .map (some bm_1)), (18, .int .i64 x_1)]) (w' := w_2) f_9 2 [0, 5, 11, 12, 13, 17, 18] (by kernel_rfl) (fun a_10 f_10 => ?_)
      refine W_mapput (ek := (Value.int .i64)) (ev := Value.bool) (m := s_1.2) (k := x_1) (v := (true)) (kt := 3) (et := 4) f_10 p_2 (by kernel_rfl) (by kernel_rfl) rfl (.inl rfl) (by kernel_rfl) (by kernel_rfl) (by kernel_rfl) (by kernel_rfl) (intKey (by kernel_rfl)) (fun w_3 p_3 a_11 f_11 => ?_)
      refine W_end rfl ?_
      refine B_n ?_
      refine T_n ?_
      refine R_reg ?_
      obtain ⟨g_1, hF_4⟩ := need_some hF_3
      refine W_run (L' := [(0, .slice A0 d0.length cap0), (5, .map (some bm_1)), (11, .slice A1 d1.length cap1), (12, .int .i64 ((d1.length : Nat) : Int)), (13, .int .i64 s_1.1), (17, .map (some bm_1)), (18, .int .i64 x_1), (19, .int .i64 (IntKind.wrap .i64 (s_1.1 + 1)))]) (w' := w_3) f_11 1 [0, 5, 11, 12, 13, 17, 18, 19] (by kernel_rfl) (fun a_12 f_12 => ?_)
      have f_13 := Frm.set f_12 19 (v := .int .i64 (IntKind.wrap .i64 (s_1.1 + 1))) (v' := .int .i64 (s_1.1 + 1)) (by kernel_rfl) (congrArg (Value.int .i64) (inR_wrap g_1))
      have f_14 : Frm 31 [(0, .slice A0 d0.length cap0), (5, .map (some bm_1)), (11, .slice A1 d1.length cap1), (12, .int .i64 ((d1.length : Nat) : Int)), (13, .int .i64 s_1.1), (17, .map (some bm_1)), (18, .int .i64 x_1), (19, .int .i64 (s_1.1 + 1))] a_12 := f_13.keep (ks := [0, 5, 11, 12, 13, 17, 18, 19]) (by kernel_rfl)
      refine W_run (L' := [(0, .slice A0 d0.length cap0), (5, .map (some bm_1)), (11, .slice A1 d1.length cap1), (12, .int .i64 ((d1.length : Nat) : Int)), (13, .int .i64 (s_1.1 + 1))]) (w' := w_3) f_14 1 [0, 5, 11, 12, 13] (by kernel_rfl) (fun a_13 f_15 => ?_)
      refine W_end rfl ?_
      refine T_n ?_
      obtain rfl := Option.some.inj hF_4
      exact ⟨⟨m_2, (s_1.1 + 1, mput s_1.2 x_1 (true))⟩, Nat.lt_succ_self _, M_1, hM_1, hn_1, f_15.keep (ks := [0, 5, 11, 12, 13]) (by kernel_rfl), p_3⟩
    · have k_2 : ¬ (s_1.1 < ((d1.length : Nat) : Int)) := iff_f decide_eq_true_iff h_1
      have hF_5 := cnd_f h_1 hs_1
      refine wp_exit ?_
      refine T_x ?_
      refine T_x ?_
      obtain rfl := Option.some.inj hF_5
      exact ⟨rfl, s_1.2, (Option.some.inj hn_1).symm, M_1, hM_1, f_6.keep (ks := [0, 5]) (by kernel_rfl), p_2⟩
  · rintro _ a_15 w_5 ⟨rfl, y_1, hq_, M_2, hM_2, f_16, p_4⟩
    subst b_1
    refine B_x ?_
    refine T_n ?_
    refine R_seq ?_
    refine R_seq ?_
    refine R_reg ?_
    refine W_run (L' := [(5, .map (some bm_1)), (20, .slice A0 d0.length cap0), (21, .int .i64 ((d0.length : Nat) : Int)), (22, .int .i64 0)]) (w' := w_5) f_16 3 [5, 20, 21, 22] (by kernel_rfl) (fun a_16 f_17 => ?_)
    refine W_end rfl ?_
    refine T_n ?_
    refine wp_block ?_
    obtain ⟨b_2, hL_2, hF_6⟩ := bind_some' hF_1
    refine wp_mono (Q := fun e a w => (e = .ret ∧ (∃ y_2 : Unit, b_2 = .inl y_2 ∧ ∃ M_4 : Mem, M_2.le M_4 ∧ Frm 31 [(4, .bool false)] a ∧ Hp w0 M_4 ((Ent.obj bm_1 (mapO (Value.int .i64) Value.bool y_1)) :: H) w)) ∨ (e = .exit 2 ∧ (∃ y_3 : Unit, b_2 = .inr y_3 ∧ ∃ M_5 : Mem, M_2.le M_5 ∧ Frm 31 [] a ∧ Hp w0 M_5 ((Ent.obj bm_1 (mapO (Value.int .i64) Value.bool y_1)) :: H) w))) (R_loop (n := 31) (w0 := w0) (M := M_2) (fun (x : Nat × Int) => match x with | (m_3, s_2) => [(5, .map (some bm_1)), (20, .slice A0 d0.length cap0), (21, .int .i64 ((d0.length : Nat) : Int)), (22, .int .i64 s_2)]) (fun (x : Nat × Int) => match x with | (m_3, s_2) => ((Ent.obj bm_1 (mapO (Value.int .i64) Value.bool y_1)) :: H)) (fun (x : Nat × Int) (MM : Mem) => match x with | (m_3, s_2) => loopF (law21_within_s2 n d0 y_1) m_3 s_2 = some b_2) (fun (x : Nat × Int) => match x with | (m_3, s_2) => m_3) (n, (0 : Int)) (f_17.keep (ks := [5, 20, 21, 22]) (by kernel_rfl)) p_4 hL_2 ?_) ?_
    · rintro ⟨m_3, s_2⟩ M_3 a_17 w_6 hM_3 I_2 f_18 p_5
      replace f_18 : Frm 31 [(5, .map (some bm_1)), (20, .slice A0 d0.length cap0), (21, .int .i64 ((d0.length : Nat) : Int)), (22, .int .i64 s_2)] a_17 := f_18
      replace p_5 : Hp w0 M_3 ((Ent.obj bm_1 (mapO (Value.int .i64) Value.bool y_1)) :: H) w_6 := p_5
      have I_2L := I_2
      obtain ⟨m_4, r_2, rfl, hs_2, hn_2⟩ := loop_step I_2L
      unfold law21_within_s2 at hs_2
      refine R_seq ?_
      refine R_reg ?_
      refine W_run (L' := [(5, .map (some bm_1)), (20, .slice A0 d0.length cap0), (21, .int .i64 ((d0.length : Nat) : Int)), (22, .int .i64 s_2), (23, .bool (decide (s_2 < ((d0.length : Nat) : Int))))]) (w' := w_6) f_18 1 [5, 20, 21, 22, 23] (by kernel_rfl) (fun a_18 f_19 => ?_)
      refine W_end rfl ?_
      refine T_n ?_
      refine R_seq ?_
      refine R_cond f_19 (b := decide (s_2 < ((d0.length : Nat) : Int))) (by kernel_rfl) (by kernel_rfl) (fun h_2 => ?_) (fun h_2 => ?_)
      · have k_3 : s_2 < ((d0.length : Nat) : Int) := decide_eq_true_iff.1 h_2
        have hF_7 := cnd_t h_2 hs_2
        refine wp_skip ?_
        refine T_n ?_
        refine R_seq ?_
        refine wp_block ?_
        refine R_seq ?_
        refine R_reg ?_
        obtain ⟨x_2, hx_2, hF_8⟩ := bind_some' hF_7
        obtain ⟨ad_2, c_2, e_2, hl_2, hr_2, hc_2⟩ := Sli.at_ (h0.mono (hM_2.trans hM_3)) hx_2
        clear hl_2
        obtain rfl : c_2 = [.int .i64 x_2] := hr_2
        refine W_eq (v := .pointer (some (ad_2.add (s_2.toNat * 1)))) f_19 (by kernel_rfl) (by kernel_rfl) rfl rfl (X_indexAddrA e_2 rfl (len := d0.length) (cap := cap0) (k := .i64) (i := s_2) (by kernel_rfl) (by kernel_rfl) (e := 3) (by kernel_rfl) (sz := 1) (by kernel_rfl) (getI_nn hx_2) (getI_lt hx_2)) (fun a_19 f_20 => ?_)
        refine W_eq (v := .int .i64 x_2) f_20 (by kernel_rfl) (by kernel_rfl) rfl rfl (X_load1 (v := .int .i64 x_2) rfl (ad := ad_2.add (s_2.toNat * 1)) (by kernel_rfl) (by kernel_rfl) (p_5.cell (hc_2 0 _ rfl))) (fun a_20 f_21 => ?_)
        refine W_run (L' := [(5, .map (some bm_1)), (9, .int .i64 x_2), (20, .slice A0 d0.length cap0), (21, .int .i64 ((d0.length : Nat) : Int)), (22, .int .i64 s_2)]) (w' := w_6) f_21 1 [5, 9, 20, 21, 22] (by kernel_rfl) (fun a_21 f_22 => ?_)
        refine W_end rfl ?_
        refine T_n ?_
        refine R_seq ?_
        refine R_reg ?_
        refine W_run (L' := [(5, .map (some bm_1)), (20, .slice A0 d0.length cap0), (21, .int .i64 ((d0.length : Nat) : Int)), (22, .int .i64 s_2), (26, .map (some bm_1)), (27, .int .i64 x_2)]) (w' := w_6) f_22 2 [5, 20, 21, 22, 26, 27] (by kernel_rfl) (fun a_22 f_23 => ?_)
        refine W_eq (v := .bool ((mget y_1 x_2).getD false)) f_23 (by kernel_rfl) (by kernel_rfl) rfl rfl (X_lookup1 (ek := (Value.int .i64)) (ev := Value.bool) (m := y_1) (k := x_2) (z := false) (kt := 3) (et := 4) rfl (by kernel_rfl) (by kernel_rfl) (by kernel_rfl) (intKey (by kernel_rfl)) (by kernel_rfl) (p_5.ownObj 0 rfl)) (fun a_23 f_24 => ?_)
        refine W_run (L' := [(5, .map (some bm_1)), (20, .slice A0 d0.length cap0), (21, .int .i64 ((d0.length : Nat) : Int)), (22, .int .i64 s_2), (29, .bool (!((mget y_1 x_2).getD false)))]) (w' := w_6) f_24 1 [5, 20, 21, 22, 29] (by kernel_rfl) (fun a_24 f_25 => ?_)
        refine W_end rfl ?_
        refine T_n ?_
        refine R_cond f_25 (b := !((mget y_1 x_2).getD false)) (by kernel_rfl) (by kernel_rfl) (fun h_3 => ?_) (fun h_3 => ?_)
        · have k_4 : ((mget y_1 x_2).getD false) = false := by simpa using h_3
          have hF_9 := cnd_t h_3 hF_8
          refine R_seq ?_
          refine R_reg ?_
          refine W_run (L' := [(4, .bool false)]) (w' := w_6) f_25 1 [4] (by kernel_rfl) (fun a_25 f_26 => ?_)
          refine W_end rfl ?_
          refine T_n ?_
          refine wp_ret ?_
          refine B_r ?_
          refine T_r ?_
          refine T_r ?_
          obtain rfl := Option.some.inj hF_9
          exact .inl ⟨rfl, (), (Option.some.inj hn_2).symm, M_3, hM_3, f_26.keep (ks := [4]) (by kernel_rfl), p_5⟩
        · have k_5 : ((mget y_1 x_2).getD false) = true := by simpa using h_3
          have hF_10 := cnd_f h_3 hF_8
          refine wp_skip ?_
          refine B_n ?_
          refine T_n ?_
          refine R_reg ?_
          obtain ⟨g_2, hF_11⟩ := need_some hF_10
          refine W_run (L' := [(5, .map (some bm_1)), (20, .slice A0 d0.length cap0), (21, .int .i64 ((d0.length : Nat) : Int)), (22, .int .i64 s_2), (29, .bool (!((mget y_1 x_2).getD false))), (30, .int .i64 (IntKind.wrap .i64 (s_2 + 1)))]) (w' := w_6) f_25 1 [5, 20, 21, 22, 29, 30] (by kernel_rfl) (fun a_26 f_27 => ?_)
          have f_28 := Frm.set f_27 30 (v := .int .i64 (IntKind.wrap .i64 (s_2 + 1))) (v' := .int .i64 (s_2 + 1)) (by kernel_rfl) (congrArg (Value.int .i64) (inR_wrap g_2))
          have f_29 : Frm 31 [(5, .map (some bm_1)), (20, .slice A0 d0.length cap0), (21, .int .i64 ((d0.length : Nat) : Int)), (22, .int .i64 s_2), (29, .bool (!((mget y_1 x_2).getD false))), (30, .int .i64 (s_2 + 1))] a_26 := f_28.keep (ks := [5, 20, 21, 22, 29, 30]) (by kernel_rfl)
          refine W_run (L' := [(5, .map (some bm_1)), (20, .slice A0 d0.length cap0), (21, .int .i64 ((d0.length : Nat) : Int)), (22, .int .i64 (s_2 + 1))]) (w' := w_6) f_29 1 [5, 20, 21, 22] (by kernel_rfl) (fun a_27 f_30 => ?_)
          refine W_end rfl ?_
          refine T_n ?_
          obtain rfl := Option.some.inj hF_11
          exact ⟨⟨m_4, s_2 + 1⟩, Nat.lt_succ_self _, M_3, hM_3, hn_2, f_30.keep (ks := [5, 20, 21, 22]) (by kernel_rfl), p_5⟩
      · have k_6 : ¬ (s_2 < ((d0.length : Nat) : Int)) := iff_f decide_eq_true_iff h_2
        have hF_12 := cnd_f h_2 hs_2
        refine wp_exit ?_
        refine T_x ?_
        refine T_x ?_
        obtain rfl := Option.some.inj hF_12
        exact .inr ⟨rfl, (), (Option.some.inj hn_2).symm, M_3, hM_3, f_19.keep (ks := []) (by kernel_rfl), p_5⟩
    · rintro _ a_30 w_9 (⟨rfl, y_2, rfl, M_4, hM_4, f_31, p_6⟩ | ⟨rfl, y_3, rfl, M_5, hM_5, f_32, p_7⟩)
      · refine B_r ?_
        refine T_r ?_
        refine E_ret1 f_31 rfl (by kernel_rfl : Vc.look _ 4 = some (.bool false)) ?_
        obtain rfl := Option.some.inj hF_6
        exact ⟨_, rfl, M_4, (hM_2.trans hM_4), (p_6.dropN 1), rfl⟩
      · refine B_x ?_
        refine T_n ?_
        refine R_seq ?_
        refine R_reg ?_
        refine W_run (L' := [(4, .bool true)]) (w' := w_9) f_32 1 [4] (by kernel_rfl) (fun a_31 f_33 => ?_)
        refine W_end rfl ?_
        refine T_n ?_
        refine wp_ret ?_
        refine E_ret1 f_33 rfl (by kernel_rfl : Vc.look _ 4 = some (.bool true)) ?_
        obtain rfl := Option.some.inj hF_6
        exact ⟨_, rfl, M_5, (hM_2.trans hM_5), (p_7.dropN 1), rfl⟩

def graph_Order_1_s1 (n : Nat) (d1_0 : List (Int × Bool)) (x_1 : List Int) (s_1 : Int) : Option (Lp Int (Sum Unit Unit)) :=
    bif (decide (s_1 < ((x_1.length : Nat) : Int))) then
      ((getI x_1 s_1).bind fun x_2 =>
      bif (!((mget d1_0 x_2).getD false)) then
        (some (.br (.inl ())))
      else
        need (inR .i64 (s_1 + 1)) <|
        some (.nx (s_1 + 1)))
    else
      some (.br (.inr ()))
def graph_Order_1 (n : Nat) (d0 : Int) (d1_0 : List (Int × Bool)) (d2 : List (List Int)) : Option (Bool × (List (Int × Bool))) :=
  bif ((mget d1_0 d0).getD false) then
    (some (((false), d1_0)))
  else
    (getI d2 d0).bind fun x_1 =>
    (loopF (graph_Order_1_s1 n d1_0 x_1) n (0 : Int)).bind fun b_1 =>
    (match b_1 with 
    | .inl y_1 => some (((false), d1_0)) 
    | .inr y_2 => some (((true), d1_0)))
theorem graph_Order_1_ok (n : Nat) (M : Mem) (d0 : Int) (b1 : Nat) (m1_0 : Nat) (d1_0 : List (Int × Bool)) (ad2 : Addr) (c2 : List Value) (d2 : List (List Int)) (h2 : Rep M ((eL 1 (eL 1 (Dat.int .i64))) d2) c2) (q2 : ∀ j v, c2[j]? = some v → M.cell? (ad2.add j) = some v) (r : Bool × (List (Int × Bool))) (hF : graph_Order_1 n d0 d1_0 d2 = some r) : OkH Try.prog M [Ent.obj b1 (.cells #[.map (some m1_0)] 49 (0, 0)), Ent.obj m1_0 (mapO (Value.int .i64) Value.bool d1_0)] 40 [.int .i64 d0, .pointer (some (⟨b1, 0, none⟩)), .pointer (some ad2)] (fun M' E' v => v = .bool r.1 ∧ E' = [Ent.obj b1 (.cells #[.map (some m1_0)] 49 (0, 0)), Ent.obj m1_0 (mapO (Value.int .i64) Value.bool r.2)]) := by
  unfold graph_Order_1 at hF
  intro M1 hM0 w0 H w p0
  replace h2 := Rep.mono hM0 _ _ h2
  replace q2 := fun j v h => hM0.cell (q2 j v h)
  replace p0 : Hp w0 M1 ((Ent.obj b1 (.cells #[.map (some m1_0)] 49 (0, 0))) :: (Ent.obj m1_0 (mapO (Value.int .i64) Value.bool d1_0)) :: H) w := p0
  obtain ⟨A_1, cap_1, rfl, h_1⟩ := Rep.sli h2
  refine R_enter 24 Try.func40 rfl rfl (by simp) (fun a0 f0 => ?_)
  replace f0 : Frm 24 [(0, .int .i64 d0), (1, .pointer (some (⟨b1, 0, none⟩))), (2, .pointer (some ad2))] a0 := f0
  refine R_seq ?_
  refine R_reg ?_
  refine W_run (L' := [(0, .int .i64 d0), (1, .pointer (some (⟨b1, 0, none⟩))), (2, .pointer (some ad2))]) (w' := w) f0 1 [0, 1, 2] (by kernel_rfl) (fun a_1 f_1 => ?_)
  refine W_end rfl ?_
  refine T_n ?_
  refine R_seq ?_
  refine R_seq ?_
  refine R_reg ?_
  refine W_eq (v := .map (some m1_0)) f_1 (by kernel_rfl) (by kernel_rfl) rfl rfl (X_load1 (v := .map (some m1_0)) rfl (ad := ⟨b1, 0, none⟩) (by kernel_rfl) (by kernel_rfl) (p0.ownCell 0 rfl 0)) (fun a_2 f_2 => ?_)
  refine W_run (L' := [(0, .int .i64 d0), (1, .pointer (some (⟨b1, 0, none⟩))), (2, .pointer (some ad2)), (7, .map (some m1_0)), (8, .int .i64 d0)]) (w' := w) f_2 1 [0, 1, 2, 7, 8] (by kernel_rfl) (fun a_3 f_3 => ?_)
  refine W_eq (v := .bool ((mget d1_0 d0).getD false)) f_3 (by kernel_rfl) (by kernel_rfl) rfl rfl (X_lookup1 (ek := (Value.int .i64)) (ev := Value.bool) (m := d1_0) (k := d0) (z := false) (kt := 3) (et := 4) rfl (by kernel_rfl) (by kernel_rfl) (by kernel_rfl) (intKey (by kernel_rfl)) (by kernel_rfl) (p0.ownObj 1 rfl)) (fun a_4 f_4 => ?_)
  refine W_end rfl ?_
  refine T_n ?_
  refine R_cond f_4 (b := (mget d1_0 d0).getD false) (by kernel_rfl) (by kernel_rfl) (fun h_2 => ?_) (fun h_2 => ?_)
  · have hF_1 := cnd_t h_2 hF
    refine R_seq ?_
    refine R_reg ?_
    refine W_run (L' := [(4, .bool false)]) (w' := w) f_4 1 [4] (by kernel_rfl) (fun a_5 f_5 => ?_)
    refine W_end rfl ?_
    refine T_n ?_
    refine wp_ret ?_
    refine T_r ?_
    refine E_ret1 f_5 rfl (by kernel_rfl : Vc.look _ 4 = some (.bool false)) ?_
    obtain rfl := Option.some.inj hF_1
    exact ⟨_, rfl, M1, _, (Mem.le_refl _), p0, ⟨rfl, rfl⟩⟩
  · have hF_2 := cnd_f h_2 hF
    refine wp_skip ?_
    refine T_n ?_
    refine R_seq ?_
    refine R_seq ?_
    refine R_reg ?_
    refine W_eq (v := .slice A_1 d2.length cap_1) f_4 (by kernel_rfl) (by kernel_rfl) rfl rfl (X_load1 (v := .slice A_1 d2.length cap_1) rfl (ad := ad2) (by kernel_rfl) (by kernel_rfl) (p0.cell (q2 0 _ rfl))) (fun a_6 f_6 => ?_)
    refine W_run (L' := [(1, .pointer (some (⟨b1, 0, none⟩))), (10, .slice A_1 d2.length cap_1), (11, .int .i64 d0)]) (w' := w) f_6 1 [1, 10, 11] (by kernel_rfl) (fun a_7 f_7 => ?_)
    obtain ⟨x_1, hx_1, hF_3⟩ := bind_some' hF_2
    obtain ⟨ad_1, c_1, e_1, hl_1, hr_1, hc_1⟩ := Sli.at_ h_1 hx_1
    clear hl_1
    obtain ⟨A_2, cap_2, rfl, h_3⟩ := Rep.sli hr_1
    refine W_eq (v := .pointer (some (ad_1.add (d0.toNat * 1)))) f_7 (by kernel_rfl) (by kernel_rfl) rfl rfl (X_indexAddrA e_1 rfl (len := d2.length) (cap := cap_1) (k := .i64) (i := d0) (by kernel_rfl) (by kernel_rfl) (e := 26) (by kernel_rfl) (sz := 1) (by kernel_rfl) (getI_nn hx_1) (getI_lt hx_1)) (fun a_8 f_8 => ?_)
    refine W_eq (v := .slice A_2 x_1.length cap_2) f_8 (by kernel_rfl) (by kernel_rfl) rfl rfl (X_load1 (v := .slice A_2 x_1.length cap_2) rfl (ad := ad_1.add (d0.toNat * 1)) (by kernel_rfl) (by kernel_rfl) (p0.cell (hc_1 0 _ rfl))) (fun a_9 f_9 => ?_)
    refine W_run (L' := [(1, .pointer (some (⟨b1, 0, none⟩))), (13, .slice A_2 x_1.length cap_2), (14, .int .i64 ((x_1.length : Nat) : Int)), (15, .int .i64 0)]) (w' := w) f_9 2 [1, 13, 14, 15] (by kernel_rfl) (fun a_10 f_10 => ?_)
    refine W_end rfl ?_
    refine T_n ?_
    refine wp_block ?_
    obtain ⟨b_1, hL_1, hF_4⟩ := bind_some' hF_3
    refine wp_mono (Q := fun e a w => (e = .ret ∧ (∃ y_1 : Unit, b_1 = .inl y_1 ∧ ∃ M_2 : Mem, M1.le M_2 ∧ Frm 24 [(4, .bool false)] a ∧ Hp w0 M_2 ((Ent.obj b1 (.cells #[.map (some m1_0)] 49 (0, 0))) :: (Ent.obj m1_0 (mapO (Value.int .i64) Value.bool d1_0)) :: H) w)) ∨ (e = .exit 0 ∧ (∃ y_2 : Unit, b_1 = .inr y_2 ∧ ∃ M_3 : Mem, M1.le M_3 ∧ Frm 24 [] a ∧ Hp w0 M_3 ((Ent.obj b1 (.cells #[.map (some m1_0)] 49 (0, 0))) :: (Ent.obj m1_0 (mapO (Value.int .i64) Value.bool d1_0)) :: H) w))) (R_loop (n := 24) (w0 := w0) (M := M1) (fun (x : Nat × Int) => match x with | (m_1, s_1) => [(1, .pointer (some (⟨b1, 0, none⟩))), (13, .slice A_2 x_1.length cap_2), (14, .int .i64 ((x_1.length : Nat) : Int)), (15, .int .i64 s_1)]) (fun (x : Nat × Int) => match x with | (m_1, s_1) => ((Ent.obj b1 (.cells #[.map (some m1_0)] 49 (0, 0))) :: (Ent.obj m1_0 (mapO (Value.int .i64) Value.bool d1_0)) :: H)) (fun (x : Nat × Int) (MM : Mem) => match x with | (m_1, s_1) => loopF (graph_Order_1_s1 n d1_0 x_1) m_1 s_1 = some b_1) (fun (x : Nat × Int) => match x with | (m_1, s_1) => m_1) (n, (0 : Int)) (f_10.keep (ks := [1, 13, 14, 15]) (by kernel_rfl)) p0 hL_1 ?_) ?_
    · rintro ⟨m_1, s_1⟩ M_1 a_11 w_1 hM_1 I_1 f_11 p_1
      replace f_11 : Frm 24 [(1, .pointer (some (⟨b1, 0, none⟩))), (13, .slice A_2 x_1.length cap_2), (14, .int .i64 ((x_1.length : Nat) : Int)), (15, .int .i64 s_1)] a_11 := f_11
      replace p_1 : Hp w0 M_1 ((Ent.obj b1 (.cells #[.map (some m1_0)] 49 (0, 0))) :: (Ent.obj m1_0 (mapO (Value.int .i64) Value.bool d1_0)) :: H) w_1 := p_1
      have I_1L := I_1
      obtain ⟨m_2, r_1, rfl, hs_1, hn_1⟩ := loop_step I_1L
      unfold graph_Order_1_s1 at hs_1
      refine R_seq ?_
      refine R_reg ?_
      refine W_run (L' := [(1, .pointer (some (⟨b1, 0, none⟩))), (13, .slice A_2 x_1.length cap_2), (14, .int .i64 ((x_1.length : Nat) : Int)), (15, .int .i64 s_1), (16, .bool (decide (s_1 < ((x_1.length : Nat) : Int))))]) (w' := w_1) f_11 1 [1, 13, 14, 15, 16] (by kernel_rfl) (fun a_12 f_12 => ?_)
      refine W_end rfl ?_
      refine T_n ?_
      refine R_seq ?_
      refine R_cond f_12 (b := decide (s_1 < ((x_1.length : Nat) : Int))) (by kernel_rfl) (by kernel_rfl) (fun h_4 => ?_) (fun h_4 => ?_)
      · have k_3 : s_1 < ((x_1.length : Nat) : Int) := decide_eq_true_iff.1 h_4
        have hF_5 := cnd_t h_4 hs_1
        refine wp_skip ?_
        refine T_n ?_
        refine R_seq ?_
        refine wp_block ?_
        refine R_seq ?_
        refine R_reg ?_
        obtain ⟨x_2, hx_2, hF_6⟩ := bind_some' hF_5
        obtain ⟨ad_2, c_2, e_2, hl_2, hr_2, hc_2⟩ := Sli.at_ (h_3.mono hM_1) hx_2
        clear hl_2
        obtain rfl : c_2 = [.int .i64 x_2] := hr_2
        refine W_eq (v := .pointer (some (ad_2.add (s_1.toNat * 1)))) f_12 (by kernel_rfl) (by kernel_rfl) rfl rfl (X_indexAddrA e_2 rfl (len := x_1.length) (cap := cap_2) (k := .i64) (i := s_1) (by kernel_rfl) (by kernel_rfl) (e := 3) (by kernel_rfl) (sz := 1) (by kernel_rfl) (getI_nn hx_2) (getI_lt hx_2)) (fun a_13 f_13 => ?_)
        refine W_eq (v := .int .i64 x_2) f_13 (by kernel_rfl) (by kernel_rfl) rfl rfl (X_load1 (v := .int .i64 x_2) rfl (ad := ad_2.add (s_1.toNat * 1)) (by kernel_rfl) (by kernel_rfl) (p_1.cell (hc_2 0 _ rfl))) (fun a_14 f_14 => ?_)
        refine W_run (L' := [(1, .pointer (some (⟨b1, 0, none⟩))), (6, .int .i64 x_2), (13, .slice A_2 x_1.length cap_2), (14, .int .i64 ((x_1.length : Nat) : Int)), (15, .int .i64 s_1)]) (w' := w_1) f_14 1 [1, 6, 13, 14, 15] (by kernel_rfl) (fun a_15 f_15 => ?_)
        refine W_end rfl ?_
        refine T_n ?_
        refine R_seq ?_
        refine R_reg ?_
        refine W_eq (v := .map (some m1_0)) f_15 (by kernel_rfl) (by kernel_rfl) rfl rfl (X_load1 (v := .map (some m1_0)) rfl (ad := ⟨b1, 0, none⟩) (by kernel_rfl) (by kernel_rfl) (p_1.ownCell 0 rfl 0)) (fun a_16 f_16 => ?_)
        refine W_run (L' := [(1, .pointer (some (⟨b1, 0, none⟩))), (13, .slice A_2 x_1.length cap_2), (14, .int .i64 ((x_1.length : Nat) : Int)), (15, .int .i64 s_1), (19, .map (some m1_0)), (20, .int .i64 x_2)]) (w' := w_1) f_16 1 [1, 13, 14, 15, 19, 20] (by kernel_rfl) (fun a_17 f_17 => ?_)
        refine W_eq (v := .bool ((mget d1_0 x_2).getD false)) f_17 (by kernel_rfl) (by kernel_rfl) rfl rfl (X_lookup1 (ek := (Value.int .i64)) (ev := Value.bool) (m := d1_0) (k := x_2) (z := false) (kt := 3) (et := 4) rfl (by kernel_rfl) (by kernel_rfl) (by kernel_rfl) (intKey (by kernel_rfl)) (by kernel_rfl) (p_1.ownObj 1 rfl)) (fun a_18 f_18 => ?_)
        refine W_run (L' := [(1, .pointer (some (⟨b1, 0, none⟩))), (13, .slice A_2 x_1.length cap_2), (14, .int .i64 ((x_1.length : Nat) : Int)), (15, .int .i64 s_1), (22, .bool (!((mget d1_0 x_2).getD false)))]) (w' := w_1) f_18 1 [1, 13, 14, 15, 22] (by kernel_rfl) (fun a_19 f_19 => ?_)
        refine W_end rfl ?_
        refine T_n ?_
        refine R_cond f_19 (b := !((mget d1_0 x_2).getD false)) (by kernel_rfl) (by kernel_rfl) (fun h_5 => ?_) (fun h_5 => ?_)
        · have k_4 : ((mget d1_0 x_2).getD false) = false := by simpa using h_5
          have hF_7 := cnd_t h_5 hF_6
          refine R_seq ?_
          refine R_reg ?_
          refine W_run (L' := [(4, .bool false)]) (w' := w_1) f_19 1 [4] (by kernel_rfl) (fun a_20 f_20 => ?_)
          refine W_end rfl ?_
          refine T_n ?_
          refine wp_ret ?_
          refine B_r ?_
          refine T_r ?_
          refine T_r ?_
          obtain rfl := Option.some.inj hF_7
          exact .inl ⟨rfl, (), (Option.some.inj hn_1).symm, M_1, hM_1, f_20.keep (ks := [4]) (by kernel_rfl), p_1⟩
        · have k_5 : ((mget d1_0 x_2).getD false) = true := by simpa using h_5
          have hF_8 := cnd_f h_5 hF_6
          refine wp_skip ?_
          refine B_n ?_
          refine T_n ?_
          refine R_reg ?_
          obtain ⟨g_1, hF_9⟩ := need_some hF_8
          refine W_run (L' := [(1, .pointer (some (⟨b1, 0, none⟩))), (13, .slice A_2 x_1.length cap_2), (14, .int .i64 ((x_1.length : Nat) : Int)), (15, .int .i64 s_1), (22, .bool (!((mget d1_0 x_2).getD false))), (23, .int .i64 (IntKind.wrap .i64 (s_1 + 1)))]) (w' := w_1) f_19 1 [1, 13, 14, 15, 22, 23] (by kernel_rfl) (fun a_21 f_21 => ?_)
          have f_22 := Frm.set f_21 23 (v := .int .i64 (IntKind.wrap .i64 (s_1 + 1))) (v' := .int .i64 (s_1 + 1)) (by kernel_rfl) (congrArg (Value.int .i64) (inR_wrap g_1))
          have f_23 : Frm 24 [(1, .pointer (some (⟨b1, 0, none⟩))), (13, .slice A_2 x_1.length cap_2), (14, .int .i64 ((x_1.length : Nat) : Int)), (15, .int .i64 s_1), (22, .bool (!((mget d1_0 x_2).getD false))), (23, .int .i64 (s_1 + 1))] a_21 := f_22.keep (ks := [1, 13, 14, 15, 22, 23]) (by kernel_rfl)
          refine W_run (L' := [(1, .pointer (some (⟨b1, 0, none⟩))), (13, .slice A_2 x_1.length cap_2), (14, .int .i64 ((x_1.length : Nat) : Int)), (15, .int .i64 (s_1 + 1))]) (w' := w_1) f_23 1 [1, 13, 14, 15] (by kernel_rfl) (fun a_22 f_24 => ?_)
          refine W_end rfl ?_
          refine T_n ?_
          obtain rfl := Option.some.inj hF_9
          exact ⟨⟨m_2, s_1 + 1⟩, Nat.lt_succ_self _, M_1, hM_1, hn_1, f_24.keep (ks := [1, 13, 14, 15]) (by kernel_rfl), p_1⟩
      · have k_6 : ¬ (s_1 < ((x_1.length : Nat) : Int)) := iff_f decide_eq_true_iff h_4
        have hF_10 := cnd_f h_4 hs_1
        refine wp_exit ?_
        refine T_x ?_
        refine T_x ?_
        obtain rfl := Option.some.inj hF_10
        exact .inr ⟨rfl, (), (Option.some.inj hn_1).symm, M_1, hM_1, f_12.keep (ks := []) (by kernel_rfl), p_1⟩
    · rintro _ a_25 w_4 (⟨rfl, y_1, rfl, M_2, hM_2, f_25, p_2⟩ | ⟨rfl, y_2, rfl, M_3, hM_3, f_26, p_3⟩)
      · refine B_r ?_
        refine T_r ?_
        refine E_ret1 f_25 rfl (by kernel_rfl : Vc.look _ 4 = some (.bool false)) ?_
        obtain rfl := Option.some.inj hF_4
        exact ⟨_, rfl, M_2, _, hM_2, p_2, ⟨rfl, rfl⟩⟩
      · refine B_x ?_
        refine T_n ?_
        refine R_seq ?_
        refine R_reg ?_
        refine W_run (L' := [(4, .bool true)]) (w' := w_4) f_26 1 [4] (by kernel_rfl) (fun a_26 f_27 => ?_)
        refine W_end rfl ?_
        refine T_n ?_
        refine wp_ret ?_
        refine E_ret1 f_27 rfl (by kernel_rfl : Vc.look _ 4 = some (.bool true)) ?_
        obtain rfl := Option.some.inj hF_4
        exact ⟨_, rfl, M_3, _, hM_3, p_3, ⟨rfl, rfl⟩⟩

def graph_Order_s2 (n : Nat) (d0 : List (List Int)) (s_1 : List Int × Int × (List (Int × Bool))) (s_2 : Int × (List (Int × Bool))) : Option (Lp (Int × (List (Int × Bool))) (Sum (List Int × (List (Int × Bool))) (List (Int × Bool)))) :=
    bif (decide (s_2.1 < ((d0.length : Nat) : Int))) then
      ((graph_Order_1 n s_2.1 s_2.2 d0).bind fun x_2 =>
      bif x_2.1 then
        (need ((s_1.1.length + 1) * 8 ≤ 140737488355328) <|
        some (.br (.inl (s_1.1 ++ [s_2.1], mput x_2.2 s_2.1 (true)))))
      else
        need (inR .i64 (s_2.1 + 1)) <|
        some (.nx (s_2.1 + 1, x_2.2)))
    else
      some (.br (.inr s_2.2))
def graph_Order_s1 (n : Nat) (d0 : List (List Int)) (s_1 : List Int × Int × (List (Int × Bool))) : Option (Lp (List Int × Int × (List (Int × Bool))) (Sum (List (Int × Bool)) (List Int × (List (Int × Bool))))) :=
    bif (decide (s_1.2.1 < ((d0.length : Nat) : Int))) then
      ((loopF (graph_Order_s2 n d0 s_1) n ((0 : Int), s_1.2.2)).bind fun b_4 =>
      (match b_4 with 
      | .inl y_1 => need (inR .i64 (s_1.2.1 + 1)) <|
        some (.nx (y_1.1, s_1.2.1 + 1, y_1.2)) 
      | .inr y_2 => some (.br (.inl y_2))))
    else
      some (.br (.inr (s_1.1, s_1.2.2)))
def graph_Order (n : Nat) (d0 : List (List Int)) : Option (List Int × Int) :=
  (graph_May n d0).bind fun x_1 =>
  bif !x_1 then
    (some ((([] : List Int), (2 : Int))))
  else
    (loopF (graph_Order_s1 n d0) n (([] : List Int), (0 : Int), ([] : List (Int × Bool)))).bind fun b_3 =>
    (match b_3 with 
    | .inl y_3 => some ((([] : List Int), (200 : Int))) 
    | .inr y_4 => some ((y_4.1, (0 : Int))))
theorem graph_Order_ok (n : Nat) (M : Mem) (A0 : Option Addr) (cap0 : Nat) (d0 : List (List Int)) (h0 : Sli M 1 (eL 1 (Dat.int .i64)) A0 cap0 d0) (r : List Int × Int) (hF : graph_Order n d0 = some r) : OkH Try.prog M [] 25 [.slice A0 d0.length cap0] (fun M' E' v => ∃ (A0 : Option Addr) (k0 : Nat) (s0 : List Value), v = .tuple #[.slice A0 r.1.length k0, .int .i64 r.2] ∧ E' = [.row 3 1 (.slice A0 r.1.length k0) r.1.length s0] ∧ RepSeq M' (r.1.map (Dat.int .i64)) s0) := by
  unfold graph_Order at hF
  intro M1 hM0 w0 H w p0
  replace h0 := h0.mono hM0
  refine R_enter 33 Try.func25 rfl rfl (by simp) (fun a0 f0 => ?_)
  replace f0 : Frm 33 [(0, .slice A0 d0.length cap0)] a0 := f0
  refine R_seq ?_
  refine R_reg ?_
  refine W_box (cs := #[.slice A0 d0.length cap0]) (T := 22) f0 p0 1 [0, 1] (fun b_1 => [(0, .slice A0 d0.length cap0), (1, .pointer (some (⟨b_1, 0, none⟩)))]) (fun _ => by kernel_rfl) (fun b_1 M_1 w_1 hM_1 hc_1 p_1 a_1 f_1 => ?_)
  replace f_1 : Frm 33 [(0, .slice A0 d0.length cap0), (1, .pointer (some (⟨b_1, 0, none⟩)))] a_1 := f_1
  have hc_2 := fz_box hc_1
  refine W_run (L' := [(1, .pointer (some (⟨b_1, 0, none⟩))), (2, .slice none 0 0)]) (w' := w_1) f_1 2 [1, 2] (by kernel_rfl) (fun a_2 f_2 => ?_)
  refine W_end rfl ?_
  refine T_n ?_
  refine wp_scope ?_
  refine R_seq ?_
  refine R_seq ?_
  refine R_reg ?_
  refine W_eq (v := .slice A0 d0.length cap0) f_2 (by kernel_rfl) (by kernel_rfl) rfl rfl (X_load1 (v := .slice A0 d0.length cap0) rfl (ad := ⟨b_1, 0, none⟩) (by kernel_rfl) (by kernel_rfl) (p_1.cell (hc_2 0 _ rfl))) (fun a_3 f_3 => ?_)
  obtain ⟨x_1, hx_1, hF_1⟩ := bind_some' hF
  refine W_okv (v := .bool x_1) f_3 p_1 (by kernel_rfl) (by kernel_rfl) rfl rfl (fun _ => by kernel_rfl) (graph_May_ok n _ A0 cap0 d0 (h0.mono hM_1) x_1 hx_1) (fun w_2 p_2 a_4 f_4 => ?_)
  refine W_run (L' := [(1, .pointer (some (⟨b_1, 0, none⟩))), (2, .slice none 0 0), (9, .bool !x_1)]) (w' := w_2) f_4 1 [1, 2, 9] (by kernel_rfl) (fun a_5 f_5 => ?_)
  refine W_end rfl ?_
  refine T_n ?_
  refine R_cond f_5 (b := !x_1) (by kernel_rfl) (by kernel_rfl) (fun h_1 => ?_) (fun h_1 => ?_)
  · have k_1 : (x_1) = false := by simpa using h_1
    have hF_2 := cnd_t h_1 hF_1
    refine R_seq ?_
    refine R_reg ?_
    refine W_run (L' := [(2, .slice none 0 0), (3, .int .i64 2)]) (w' := w_2) f_5 2 [2, 3] (by kernel_rfl) (fun a_6 f_6 => ?_)
    refine W_end rfl ?_
    refine T_n ?_
    refine wp_ret ?_
    refine T_r ?_
    refine S_r ?_
    have p_3 : Hp w0 M_1 ((Ent.row 3 1 (.slice none 0 0) ([] : List Int).length []) :: H) w_2 := p_2.nilRow 3 1
    have hr_1 : RepSeq M_1 (([] : List Int).map (Dat.int .i64)) [] := rfl
    refine E_ret2 f_6 rfl (by kernel_rfl : Vc.look _ 2 = some (.slice none 0 0)) (by kernel_rfl : Vc.look _ 3 = some (.int .i64 2)) ?_
    obtain rfl := Option.some.inj hF_2
    exact ⟨_, rfl, M_1, _, hM_1, p_3, ⟨none, 0, [], rfl, rfl, hr_1⟩⟩
  · have k_2 : (x_1) = true := by simpa using h_1
    have hF_3 := cnd_f h_1 hF_1
    refine wp_skip ?_
    refine T_n ?_
    refine R_seq ?_
    refine R_reg ?_
    refine W_newmap (Value.int .i64) Value.bool f_5 p_2 (by kernel_rfl) (by kernel_rfl) rfl rfl rfl (fun bm_1 w_3 p_4 a_7 f_7 => ?_)
    refine W_alloc f_7 p_4 1 [1, 2, 4, 9, 10] (.cells #[.map none] 49 (0, 0)) (fun b_2 => [(1, .pointer (some (⟨b_1, 0, none⟩))), (2, .slice none 0 0), (4, .pointer (some (⟨b_2, 0, none⟩))), (9, .bool !x_1), (10, .map (some bm_1))]) (fun _ => by kernel_rfl) (fun b_2 w_4 p_5 a_8 f_8 => ?_)
    replace f_8 : Frm 33 [(1, .pointer (some (⟨b_1, 0, none⟩))), (2, .slice none 0 0), (4, .pointer (some (⟨b_2, 0, none⟩))), (9, .bool !x_1), (10, .map (some bm_1))] a_8 := f_8
    refine W_store1 f_8 p_5 0 (by kernel_rfl) (by kernel_rfl) rfl rfl (b := b_2) (j := 0) (v := .map (some bm_1)) (by kernel_rfl) (by kernel_rfl) rfl (by kernel_rfl) (by exact rfl) (by simp) (by simp) ((Ent.obj b_2 (.cells #[.map (some bm_1)] 49 (0, 0))) :: (Ent.obj bm_1 (mapO (Value.int .i64) Value.bool ([] : List (Int × Bool)))) :: H) rfl (fun w_5 p_6 a_9 f_9 => ?_)
    refine W_end rfl ?_
    refine T_n ?_
    refine R_seq ?_
    refine R_reg ?_
    refine W_run (L' := [(1, .pointer (some (⟨b_1, 0, none⟩))), (2, .slice none 0 0), (4, .pointer (some (⟨b_2, 0, none⟩))), (5, .func (.func 40) #[] #[.pointer (some (⟨b_2, 0, none⟩)), .pointer (some (⟨b_1, 0, none⟩))])]) (w' := w_5) f_9 2 [1, 2, 4, 5] (by kernel_rfl) (fun a_10 f_10 => ?_)
    refine W_end rfl ?_
    refine T_n ?_
    refine R_seq ?_
    refine wp_label ?_
    refine T_n ?_
    refine R_seq ?_
    refine R_seq ?_
    refine R_reg ?_
    refine W_eq (v := .slice A0 d0.length cap0) f_10 (by kernel_rfl) (by kernel_rfl) rfl rfl (X_load1 (v := .slice A0 d0.length cap0) rfl (ad := ⟨b_1, 0, none⟩) (by kernel_rfl) (by kernel_rfl) (p_6.cell (hc_2 0 _ rfl))) (fun a_11 f_11 => ?_)
    refine W_run (L' := [(1, .pointer (some (⟨b_1, 0, none⟩))), (2, .slice none 0 0), (4, .pointer (some (⟨b_2, 0, none⟩))), (5, .func (.func 40) #[] #[.pointer (some (⟨b_2, 0, none⟩)), .pointer (some (⟨b_1, 0, none⟩))]), (13, .int .i64 ((d0.length : Nat) : Int)), (14, .int .i64 0)]) (w' := w_5) f_11 2 [1, 2, 4, 5, 13, 14] (by kernel_rfl) (fun a_12 f_12 => ?_)
    refine W_end rfl ?_
    refine T_n ?_
    refine wp_block ?_
    have p_7 : Hp w0 M_1 ((Ent.row 3 1 (.slice none 0 0) ([] : List Int).length []) :: (Ent.obj b_2 (.cells #[.map (some bm_1)] 49 (0, 0))) :: (Ent.obj bm_1 (mapO (Value.int .i64) Value.bool ([] : List (Int × Bool)))) :: H) w_5 := p_6.nilRow 3 1
    have hr_2 : RepSeq M_1 (([] : List Int).map (Dat.int .i64)) [] := rfl
    have p_8 : Hp w0 M_1 ((Ent.obj b_2 (.cells #[.map (some bm_1)] 49 (0, 0))) :: (Ent.row 3 1 (.slice none 0 0) ([] : List Int).length []) :: (Ent.obj bm_1 (mapO (Value.int .i64) Value.bool ([] : List (Int × Bool)))) :: H) w_5 := p_7.pull 1 rfl rfl
    have p_9 : Hp w0 M_1 ((Ent.obj bm_1 (mapO (Value.int .i64) Value.bool ([] : List (Int × Bool)))) :: (Ent.obj b_2 (.cells #[.map (some bm_1)] 49 (0, 0))) :: (Ent.row 3 1 (.slice none 0 0) ([] : List Int).length []) :: H) w_5 := p_8.pull 2 rfl rfl
    have p_10 : Hp w0 M_1 ((Ent.row 3 1 (.slice none 0 0) ([] : List Int).length []) :: (Ent.obj bm_1 (mapO (Value.int .i64) Value.bool ([] : List (Int × Bool)))) :: (Ent.obj b_2 (.cells #[.map (some bm_1)] 49 (0, 0))) :: H) w_5 := p_9.pull 2 rfl rfl
    obtain ⟨b_3, hL_1, hF_4⟩ := bind_some' hF_3
    refine wp_mono (Q := fun e a w => (e = .ret ∧ (∃ y_3 : (List (Int × Bool)), b_3 = .inl y_3 ∧ ∃ M_7 : Mem, M_1.le M_7 ∧ Frm 33 [(2, .slice none 0 0), (3, .int .i64 200)] a ∧ Hp w0 M_7 ((Ent.obj bm_1 (mapO (Value.int .i64) Value.bool y_3)) :: (Ent.obj b_2 (.cells #[.map (some bm_1)] 49 (0, 0))) :: H) w)) ∨ (e = .exit 0 ∧ (∃ y_4 : List Int × (List (Int × Bool)), b_3 = .inr y_4 ∧ ∃ M_8 : Mem, M_1.le M_8 ∧ ∃ (A_4 : Option Addr), ∃ (cap_4 : Nat), ∃ (cs_4 : List Value), RepSeq M_8 (y_4.1.map (Dat.int .i64)) cs_4 ∧ Frm 33 [(2, .slice A_4 y_4.1.length cap_4)] a ∧ Hp w0 M_8 ((Ent.row 3 1 (.slice A_4 y_4.1.length cap_4) y_4.1.length cs_4) :: (Ent.obj bm_1 (mapO (Value.int .i64) Value.bool y_4.2)) :: (Ent.obj b_2 (.cells #[.map (some bm_1)] 49 (0, 0))) :: H) w))) (R_loop (n := 33) (w0 := w0) (M := M_1) (fun (x : Nat × (List Int × Int × (List (Int × Bool))) × (Option Addr) × Nat × (List Value)) => match x with | (m_1, s_1, A_1, cap_1, cs_1) => [(1, .pointer (some (⟨b_1, 0, none⟩))), (2, .slice A_1 s_1.1.length cap_1), (4, .pointer (some (⟨b_2, 0, none⟩))), (5, .func (.func 40) #[] #[.pointer (some (⟨b_2, 0, none⟩)), .pointer (some (⟨b_1, 0, none⟩))]), (13, .int .i64 ((d0.length : Nat) : Int)), (14, .int .i64 s_1.2.1)]) (fun (x : Nat × (List Int × Int × (List (Int × Bool))) × (Option Addr) × Nat × (List Value)) => match x with | (m_1, s_1, A_1, cap_1, cs_1) => ((Ent.row 3 1 (.slice A_1 s_1.1.length cap_1) s_1.1.length cs_1) :: (Ent.obj bm_1 (mapO (Value.int .i64) Value.bool s_1.2.2)) :: (Ent.obj b_2 (.cells #[.map (some bm_1)] 49 (0, 0))) :: H)) (fun (x : Nat × (List Int × Int × (List (Int × Bool))) × (Option Addr) × Nat × (List Value)) (MM : Mem) => match x with | (m_1, s_1, A_1, cap_1, cs_1) => loopF (graph_Order_s1 n d0) m_1 s_1 = some b_3 ∧ RepSeq MM (s_1.1.map (Dat.int .i64)) cs_1) (fun (x : Nat × (List Int × Int × (List (Int × Bool))) × (Option Addr) × Nat × (List Value)) => match x with | (m_1, s_1, A_1, cap_1, cs_1) => m_1) (n, (([] : List Int), (0 : Int), ([] : List (Int × Bool))), none, 0, []) (f_12.keep (ks := [1, 2, 4, 5, 13, 14]) (by kernel_rfl)) p_10 ⟨hL_1, hr_2⟩ ?_) ?_
    · rintro ⟨m_1, s_1, A_1, cap_1, cs_1⟩ M_2 a_13 w_6 hM_2 I_1 f_13 p_11
      replace f_13 : Frm 33 [(1, .pointer (some (⟨b_1, 0, none⟩))), (2, .slice A_1 s_1.1.length cap_1), (4, .pointer (some (⟨b_2, 0, none⟩))), (5, .func (.func 40) #[] #[.pointer (some (⟨b_2, 0, none⟩)), .pointer (some (⟨b_1, 0, none⟩))]), (13, .int .i64 ((d0.length : Nat) : Int)), (14, .int .i64 s_1.2.1)] a_13 := f_13
      replace p_11 : Hp w0 M_2 ((Ent.row 3 1 (.slice A_1 s_1.1.length cap_1) s_1.1.length cs_1) :: (Ent.obj bm_1 (mapO (Value.int .i64) Value.bool s_1.2.2)) :: (Ent.obj b_2 (.cells #[.map (some bm_1)] 49 (0, 0))) :: H) w_6 := p_11
      obtain ⟨I_1L, hr_3⟩ := I_1
      obtain ⟨m_2, r_1, rfl, hs_1, hn_1⟩ := loop_step I_1L
      unfold graph_Order_s1 at hs_1
      refine R_seq ?_
      refine R_reg ?_
      refine W_run (L' := [(1, .pointer (some (⟨b_1, 0, none⟩))), (2, .slice A_1 s_1.1.length cap_1), (4, .pointer (some (⟨b_2, 0, none⟩))), (5, .func (.func 40) #[] #[.pointer (some (⟨b_2, 0, none⟩)), .pointer (some (⟨b_1, 0, none⟩))]), (13, .int .i64 ((d0.length : Nat) : Int)), (14, .int .i64 s_1.2.1), (15, .bool (decide (s_1.2.1 < ((d0.length : Nat) : Int))))]) (w' := w_6) f_13 1 [1, 2, 4, 5, 13, 14, 15] (by kernel_rfl) (fun a_14 f_14 => ?_)
      refine W_end rfl ?_
      refine T_n ?_
      refine R_seq ?_
      refine R_cond f_14 (b := decide (s_1.2.1 < ((d0.length : Nat) : Int))) (by kernel_rfl) (by kernel_rfl) (fun h_2 => ?_) (fun h_2 => ?_)
      · have k_3 : s_1.2.1 < ((d0.length : Nat) : Int) := decide_eq_true_iff.1 h_2
        have hF_5 := cnd_t h_2 hs_1
        refine wp_skip ?_
        refine T_n ?_
        refine R_seq ?_
        refine wp_block ?_
        refine R_seq ?_
        refine R_seq ?_
        refine R_reg ?_
        refine W_eq (v := .slice A0 d0.length cap0) f_14 (by kernel_rfl) (by kernel_rfl) rfl rfl (X_load1 (v := .slice A0 d0.length cap0) rfl (ad := ⟨b_1, 0, none⟩) (by kernel_rfl) (by kernel_rfl) (p_11.cell ((fun j v h => hM_2.cell (hc_2 j v h)) 0 _ rfl))) (fun a_15 f_15 => ?_)
        refine W_run (L' := [(1, .pointer (some (⟨b_1, 0, none⟩))), (2, .slice A_1 s_1.1.length cap_1), (4, .pointer (some (⟨b_2, 0, none⟩))), (5, .func (.func 40) #[] #[.pointer (some (⟨b_2, 0, none⟩)), .pointer (some (⟨b_1, 0, none⟩))]), (13, .int .i64 ((d0.length : Nat) : Int)), (14, .int .i64 s_1.2.1), (17, .int .i64 ((d0.length : Nat) : Int)), (18, .int .i64 0)]) (w' := w_6) f_15 2 [1, 2, 4, 5, 13, 14, 17, 18] (by kernel_rfl) (fun a_16 f_16 => ?_)
        refine W_end rfl ?_
        refine T_n ?_
        refine wp_block ?_
        have p_12 : Hp w0 M_2 ((Ent.obj b_2 (.cells #[.map (some bm_1)] 49 (0, 0))) :: (Ent.row 3 1 (.slice A_1 s_1.1.length cap_1) s_1.1.length cs_1) :: (Ent.obj bm_1 (mapO (Value.int .i64) Value.bool s_1.2.2)) :: H) w_6 := p_11.pull 2 rfl rfl
        have p_13 : Hp w0 M_2 ((Ent.row 3 1 (.slice A_1 s_1.1.length cap_1) s_1.1.length cs_1) :: (Ent.obj b_2 (.cells #[.map (some bm_1)] 49 (0, 0))) :: (Ent.obj bm_1 (mapO (Value.int .i64) Value.bool s_1.2.2)) :: H) w_6 := p_12.pull 1 rfl rfl
        have p_14 : Hp w0 M_2 ((Ent.obj bm_1 (mapO (Value.int .i64) Value.bool s_1.2.2)) :: (Ent.row 3 1 (.slice A_1 s_1.1.length cap_1) s_1.1.length cs_1) :: (Ent.obj b_2 (.cells #[.map (some bm_1)] 49 (0, 0))) :: H) w_6 := p_13.pull 2 rfl rfl
        obtain ⟨b_4, hL_2, hF_6⟩ := bind_some' hF_5
        refine wp_mono (Q := fun e a w => (e = .exit 1 ∧ (∃ y_1 : List Int × (List (Int × Bool)), b_4 = .inl y_1 ∧ ∃ M_5 : Mem, M_2.le M_5 ∧ ∃ (A_3 : Option Addr), ∃ (cap_3 : Nat), ∃ (cs_3 : List Value), RepSeq M_5 (y_1.1.map (Dat.int .i64)) cs_3 ∧ Frm 33 [(1, .pointer (some (⟨b_1, 0, none⟩))), (2, .slice A_3 y_1.1.length cap_3), (4, .pointer (some (⟨b_2, 0, none⟩))), (5, .func (.func 40) #[] #[.pointer (some (⟨b_2, 0, none⟩)), .pointer (some (⟨b_1, 0, none⟩))]), (13, .int .i64 ((d0.length : Nat) : Int)), (14, .int .i64 s_1.2.1)] a ∧ Hp w0 M_5 ((Ent.row 3 1 (.slice A_3 y_1.1.length cap_3) y_1.1.length cs_3) :: (Ent.obj bm_1 (mapO (Value.int .i64) Value.bool y_1.2)) :: (Ent.obj b_2 (.cells #[.map (some bm_1)] 49 (0, 0))) :: H) w)) ∨ (e = .exit 2 ∧ (∃ y_2 : (List (Int × Bool)), b_4 = .inr y_2 ∧ ∃ M_6 : Mem, M_2.le M_6 ∧ Frm 33 [] a ∧ Hp w0 M_6 ((Ent.obj bm_1 (mapO (Value.int .i64) Value.bool y_2)) :: (Ent.row 3 1 (.slice A_1 s_1.1.length cap_1) s_1.1.length cs_1) :: (Ent.obj b_2 (.cells #[.map (some bm_1)] 49 (0, 0))) :: H) w))) (R_loop (n := 33) (w0 := w0) (M := M_2) (fun (x : Nat × (Int × (List (Int × Bool)))) => match x with | (m_3, s_2) => [(1, .pointer (some (⟨b_1, 0, none⟩))), (2, .slice A_1 s_1.1.length cap_1), (4, .pointer (some (⟨b_2, 0, none⟩))), (5, .func (.func 40) #[] #[.pointer (some (⟨b_2, 0, none⟩)), .pointer (some (⟨b_1, 0, none⟩))]), (13, .int .i64 ((d0.length : Nat) : Int)), (14, .int .i64 s_1.2.1), (17, .int .i64 ((d0.length : Nat) : Int)), (18, .int .i64 s_2.1)]) (fun (x : Nat × (Int × (List (Int × Bool)))) => match x with | (m_3, s_2) => ((Ent.obj bm_1 (mapO (Value.int .i64) Value.bool s_2.2)) :: (Ent.row 3 1 (.slice A_1 s_1.1.length cap_1) s_1.1.length cs_1) :: (Ent.obj b_2 (.cells #[.map (some bm_1)] 49 (0, 0))) :: H)) (fun (x : Nat × (Int × (List (Int × Bool)))) (MM : Mem) => match x with | (m_3, s_2) => loopF (graph_Order_s2 n d0 s_1) m_3 s_2 = some b_4) (fun (x : Nat × (Int × (List (Int × Bool)))) => match x with | (m_3, s_2) => m_3) (n, ((0 : Int), s_1.2.2)) (f_16.keep (ks := [1, 2, 4, 5, 13, 14, 17, 18]) (by kernel_rfl)) p_14 hL_2 ?_) ?_
        · rintro ⟨m_3, s_2⟩ M_3 a_17 w_7 hM_3 I_2 f_17 p_15
          replace f_17 : Frm 33 [(1, .pointer (some (⟨b_1, 0, none⟩))), (2, .slice A_1 s_1.1.length cap_1), (4, .pointer (some (⟨b_2, 0, none⟩))), (5, .func (.func 40) #[] #[.pointer (some (⟨b_2, 0, none⟩)), .pointer (some (⟨b_1, 0, none⟩))]), (13, .int .i64 ((d0.length : Nat) : Int)), (14, .int .i64 s_1.2.1), (17, .int .i64 ((d0.length : Nat) : Int)), (18, .int .i64 s_2.1)] a_17 := f_17
          replace p_15 : Hp w0 M_3 ((Ent.obj bm_1 (mapO (Value.int .i64) Value.bool s_2.2)) :: (Ent.row 3 1 (.slice A_1 s_1.1.length cap_1) s_1.1.length cs_1) :: (Ent.obj b_2 (.cells #[.map (some bm_1)] 49 (0, 0))) :: H) w_7 := p_15
          have I_2L := I_2
          obtain ⟨m_4, r_2, rfl, hs_2, hn_2⟩ := loop_step I_2L
          unfold graph_Order_s2 at hs_2
          refine R_seq ?_
          refine R_reg ?_
          refine W_run (L' := [(1, .pointer (some (⟨b_1, 0, none⟩))), (2, .slice A_1 s_1.1.length cap_1), (4, .pointer (some (⟨b_2, 0, none⟩))), (5, .func (.func 40) #[] #[.pointer (some (⟨b_2, 0, none⟩)), .pointer (some (⟨b_1, 0, none⟩))]), (13, .int .i64 ((d0.length : Nat) : Int)), (14, .int .i64 s_1.2.1), (17, .int .i64 ((d0.length : Nat) : Int)), (18, .int .i64 s_2.1), (19, .bool (decide (s_2.1 < ((d0.length : Nat) : Int))))]) (w' := w_7) f_17 1 [1, 2, 4, 5, 13, 14, 17, 18, 19] (by kernel_rfl) (fun a_18 f_18 => ?_)
          refine W_end rfl ?_
          refine T_n ?_
          refine R_seq ?_
          refine R_cond f_18 (b := decide (s_2.1 < ((d0.length : Nat) : Int))) (by kernel_rfl) (by kernel_rfl) (fun h_3 => ?_) (fun h_3 => ?_)
          · have k_4 : s_2.1 < ((d0.length : Nat) : Int) := decide_eq_true_iff.1 h_3
            have hF_7 := cnd_t h_3 hs_2
            refine wp_skip ?_
            refine T_n ?_
            refine R_seq ?_
            refine wp_block ?_
            refine R_seq ?_
            refine R_reg ?_
            refine W_run (L' := [(1, .pointer (some (⟨b_1, 0, none⟩))), (2, .slice A_1 s_1.1.length cap_1), (4, .pointer (some (⟨b_2, 0, none⟩))), (5, .func (.func 40) #[] #[.pointer (some (⟨b_2, 0, none⟩)), .pointer (some (⟨b_1, 0, none⟩))]), (6, .int .i64 s_2.1), (13, .int .i64 ((d0.length : Nat) : Int)), (14, .int .i64 s_1.2.1), (17, .int .i64 ((d0.length : Nat) : Int)), (18, .int .i64 s_2.1)]) (w' := w_7) f_18 2 [1, 2, 4, 5, 6, 13, 14, 17, 18] (by kernel_rfl) (fun a_19 f_19 => ?_)
            refine W_end rfl ?_
            refine T_n ?_
            refine R_seq ?_
            refine R_reg ?_
            refine W_run (L' := [(1, .pointer (some (⟨b_1, 0, none⟩))), (2, .slice A_1 s_1.1.length cap_1), (4, .pointer (some (⟨b_2, 0, none⟩))), (5, .func (.func 40) #[] #[.pointer (some (⟨b_2, 0, none⟩)), .pointer (some (⟨b_1, 0, none⟩))]), (6, .int .i64 s_2.1), (13, .int .i64 ((d0.length : Nat) : Int)), (14, .int .i64 s_1.2.1), (17, .int .i64 ((d0.length : Nat) : Int)), (18, .int .i64 s_2.1), (21, .func (.func 40) #[] #[.pointer (some (⟨b_2, 0, none⟩)), .pointer (some (⟨b_1, 0, none⟩))]), (22, .int .i64 s_2.1)]) (w' := w_7) f_19 2 [1, 2, 4, 5, 6, 13, 14, 17, 18, 21, 22] (by kernel_rfl) (fun a_20 f_20 => ?_)
            obtain ⟨x_2, hx_2, hF_8⟩ := bind_some' hF_7
            have p_17 : Hp w0 M_3 ((Ent.obj b_2 (.cells #[.map (some bm_1)] 49 (0, 0))) :: (Ent.obj bm_1 (mapO (Value.int .i64) Value.bool s_2.2)) :: (Ent.row 3 1 (.slice A_1 s_1.1.length cap_1) s_1.1.length cs_1) :: H) w_7 := p_15.pull 2 rfl rfl
            refine W_okH (E := [Ent.obj b_2 (.cells #[.map (some bm_1)] 49 (0, 0)), Ent.obj bm_1 (mapO (Value.int .i64) Value.bool s_2.2)]) (H := ((Ent.row 3 1 (.slice A_1 s_1.1.length cap_1) s_1.1.length cs_1) :: H)) f_20 p_17 (by kernel_rfl) (by kernel_rfl) rfl rfl (fun _ => by kernel_rfl) (graph_Order_1_ok n _ s_2.1 b_2 bm_1 s_2.2 (⟨b_1, 0, none⟩) [.slice A0 d0.length cap0] d0 (Sli.rep (h0.mono ((hM_1.trans hM_2).trans hM_3))) (fz_at ((fun j v h => (hM_2.trans hM_3).cell (hc_2 j v h))) 0 rfl) x_2 hx_2) (fun u_1 M_4 E_1 w_8 hM_4 p_16 q_1 a_21 f_21 => ?_)
            obtain ⟨rfl, rfl⟩ := q_1
            replace p_16 : Hp w0 M_4 ((Ent.obj b_2 (.cells #[.map (some bm_1)] 49 (0, 0))) :: (Ent.obj bm_1 (mapO (Value.int .i64) Value.bool x_2.2)) :: (Ent.row 3 1 (.slice A_1 s_1.1.length cap_1) s_1.1.length cs_1) :: H) w_8 := p_16
            refine W_end rfl ?_
            refine T_n ?_
            refine R_cond f_21 (b := x_2.1) (by kernel_rfl) (by kernel_rfl) (fun h_4 => ?_) (fun h_4 => ?_)
            · have hF_9 := cnd_t h_4 hF_8
              refine R_seq ?_
              refine R_reg ?_
              refine W_eq (v := .map (some bm_1)) f_21 (by kernel_rfl) (by kernel_rfl) rfl rfl (X_load1 (v := .map (some bm_1)) rfl (ad := ⟨b_2, 0, none⟩) (by kernel_rfl) (by kernel_rfl) (p_16.ownCell 0 rfl 0)) (fun a_22 f_22 => ?_)
              refine W_run (L' := [(1, .pointer (some (⟨b_1, 0, none⟩))), (2, .slice A_1 s_1.1.length cap_1), (4, .pointer (some (⟨b_2, 0, none⟩))), (5, .func (.func 40) #[] #[.pointer (some (⟨b_2, 0, none⟩)), .pointer (some (⟨b_1, 0, none⟩))]), (6, .int .i64 s_2.1), (13, .int .i64 ((d0.length : Nat) : Int)), (14, .int .i64 s_1.2.1), (24, .map (some bm_1)), (25, .int .i64 s_2.1)]) (w' := w_8) f_22 1 [1, 2, 4, 5, 6, 13, 14, 24, 25] (by kernel_rfl) (fun a_23 f_23 => ?_)
              have p_18 : Hp w0 M_4 ((Ent.obj bm_1 (mapO (Value.int .i64) Value.bool x_2.2)) :: (Ent.obj b_2 (.cells #[.map (some bm_1)] 49 (0, 0))) :: (Ent.row 3 1 (.slice A_1 s_1.1.length cap_1) s_1.1.length cs_1) :: H) w_8 := p_16.pull 1 rfl rfl
              refine W_mapput (ek := (Value.int .i64)) (ev := Value.bool) (m := x_2.2) (k := s_2.1) (v := (true)) (kt := 3) (et := 4) f_23 p_18 (by kernel_rfl) (by kernel_rfl) rfl (.inl rfl) (by kernel_rfl) (by kernel_rfl) (by kernel_rfl) (by kernel_rfl) (intKey (by kernel_rfl)) (fun w_9 p_19 a_24 f_24 => ?_)
              refine W_end rfl ?_
              refine T_n ?_
              refine R_seq ?_
              refine R_reg ?_
              refine W_run (L' := [(1, .pointer (some (⟨b_1, 0, none⟩))), (4, .pointer (some (⟨b_2, 0, none⟩))), (5, .func (.func 40) #[] #[.pointer (some (⟨b_2, 0, none⟩)), .pointer (some (⟨b_1, 0, none⟩))]), (13, .int .i64 ((d0.length : Nat) : Int)), (14, .int .i64 s_1.2.1), (26, .slice A_1 s_1.1.length cap_1), (27, .int .i64 s_2.1)]) (w' := w_9) f_24 2 [1, 4, 5, 13, 14, 26, 27] (by kernel_rfl) (fun a_25 f_25 => ?_)
              refine W_alloc f_25 p_19 1 [1, 4, 5, 13, 14, 26, 27, 28] (.cells #[.int .i64 s_2.1] 3 (0, 0)) (fun b_5 => [(1, .pointer (some (⟨b_1, 0, none⟩))), (4, .pointer (some (⟨b_2, 0, none⟩))), (5, .func (.func 40) #[] #[.pointer (some (⟨b_2, 0, none⟩)), .pointer (some (⟨b_1, 0, none⟩))]), (13, .int .i64 ((d0.length : Nat) : Int)), (14, .int .i64 s_1.2.1), (26, .slice A_1 s_1.1.length cap_1), (27, .int .i64 s_2.1), (28, .slice (some ⟨b_5, 0, none⟩) 1 1)]) (fun _ => by kernel_rfl) (fun b_5 w_10 p_20 a_26 f_26 => ?_)
              replace f_26 : Frm 33 [(1, .pointer (some (⟨b_1, 0, none⟩))), (4, .pointer (some (⟨b_2, 0, none⟩))), (5, .func (.func 40) #[] #[.pointer (some (⟨b_2, 0, none⟩)), .pointer (some (⟨b_1, 0, none⟩))]), (13, .int .i64 ((d0.length : Nat) : Int)), (14, .int .i64 s_1.2.1), (26, .slice A_1 s_1.1.length cap_1), (27, .int .i64 s_2.1), (28, .slice (some ⟨b_5, 0, none⟩) 1 1)] a_26 := f_26
              have p_21 : Hp w0 M_4 ((Ent.row 3 1 (.slice A_1 s_1.1.length cap_1) s_1.1.length cs_1) :: (Ent.obj b_5 (.cells #[.int .i64 s_2.1] 3 (0, 0))) :: (Ent.obj bm_1 (mapO (Value.int .i64) Value.bool (mput x_2.2 s_2.1 (true)))) :: (Ent.obj b_2 (.cells #[.map (some bm_1)] 49 (0, 0))) :: H) w_10 := p_20.pull 3 rfl rfl
              obtain ⟨g_1, hF_10⟩ := need_some hF_9
              refine W_appendL (z := .int .i64 0) (f := (Dat.int .i64)) (xs := s_1.1) (ys := [s_2.1]) (news := [.int .i64 s_2.1]) (ad := ⟨b_5, 0, none⟩) (m := 1) (c := 1) f_26 p_21 (RepSeq.mono (hM_3.trans hM_4) _ _ hr_3) (by exact ⟨_, _, rfl, rfl, rfl⟩) (by kernel_rfl) (by kernel_rfl) rfl rfl rfl (by kernel_rfl) (by kernel_rfl) (by kernel_rfl) (by kernel_rfl) rfl (own_cells (p_21.ownCell 1 rfl) 0 rfl) (by exact g_1) (by have := g_1; simp only [List.length_cons, List.length_nil] at *; omega) (fun A_2 cap_2 cs_2 w_11 p_22 hr_4 a_27 f_27 => ?_)
              have p_23 : Hp w0 M_4 ((Ent.obj b_5 (.cells #[.int .i64 s_2.1] 3 (0, 0))) :: (Ent.row 3 1 (.slice A_2 (s_1.1 ++ [s_2.1]).length cap_2) (s_1.1 ++ [s_2.1]).length cs_2) :: (Ent.obj bm_1 (mapO (Value.int .i64) Value.bool (mput x_2.2 s_2.1 (true)))) :: (Ent.obj b_2 (.cells #[.map (some bm_1)] 49 (0, 0))) :: H) w_11 := p_22.pull 1 rfl rfl
              have p_24 := p_23.drop
              refine W_run (L' := [(1, .pointer (some (⟨b_1, 0, none⟩))), (2, .slice A_2 (s_1.1 ++ [s_2.1]).length cap_2), (4, .pointer (some (⟨b_2, 0, none⟩))), (5, .func (.func 40) #[] #[.pointer (some (⟨b_2, 0, none⟩)), .pointer (some (⟨b_1, 0, none⟩))]), (13, .int .i64 ((d0.length : Nat) : Int)), (14, .int .i64 s_1.2.1)]) (w' := w_11) f_27 1 [1, 2, 4, 5, 13, 14] (by kernel_rfl) (fun a_28 f_28 => ?_)
              refine W_end rfl ?_
              refine T_n ?_
              refine wp_exit ?_
              refine B_o rfl ?_
              refine T_x ?_
              refine T_x ?_
              obtain rfl := Option.some.inj hF_10
              exact .inl ⟨rfl, (s_1.1 ++ [s_2.1], mput x_2.2 s_2.1 (true)), (Option.some.inj hn_2).symm, M_4, (hM_3.trans hM_4), A_2, cap_2, cs_2, hr_4, f_28.keep (ks := [1, 2, 4, 5, 13, 14]) (by kernel_rfl), p_24⟩
            · have hF_11 := cnd_f h_4 hF_8
              refine wp_skip ?_
              refine B_n ?_
              refine T_n ?_
              refine R_reg ?_
              obtain ⟨g_2, hF_12⟩ := need_some hF_11
              refine W_run (L' := [(1, .pointer (some (⟨b_1, 0, none⟩))), (2, .slice A_1 s_1.1.length cap_1), (4, .pointer (some (⟨b_2, 0, none⟩))), (5, .func (.func 40) #[] #[.pointer (some (⟨b_2, 0, none⟩)), .pointer (some (⟨b_1, 0, none⟩))]), (6, .int .i64 s_2.1), (13, .int .i64 ((d0.length : Nat) : Int)), (14, .int .i64 s_1.2.1), (17, .int .i64 ((d0.length : Nat) : Int)), (18, .int .i64 s_2.1), (21, .func (.func 40) #[] #[.pointer (some (⟨b_2, 0, none⟩)), .pointer (some (⟨b_1, 0, none⟩))]), (22, .int .i64 s_2.1), (23, .bool x_2.1), (30, .int .i64 (IntKind.wrap .i64 (s_2.1 + 1)))]) (w' := w_8) f_21 1 [1, 2, 4, 5, 6, 13, 14, 17, 18, 21, 22, 23, 30] (by kernel_rfl) (fun a_29 f_29 => ?_)
              have f_30 := Frm.set f_29 30 (v := .int .i64 (IntKind.wrap .i64 (s_2.1 + 1))) (v' := .int .i64 (s_2.1 + 1)) (by kernel_rfl) (congrArg (Value.int .i64) (inR_wrap g_2))
              have f_31 : Frm 33 [(1, .pointer (some (⟨b_1, 0, none⟩))), (2, .slice A_1 s_1.1.length cap_1), (4, .pointer (some (⟨b_2, 0, none⟩))), (5, .func (.func 40) #[] #[.pointer (some (⟨b_2, 0, none⟩)), .pointer (some (⟨b_1, 0, none⟩))]), (6, .int .i64 s_2.1), (13, .int .i64 ((d0.length : Nat) : Int)), (14, .int .i64 s_1.2.1), (17, .int .i64 ((d0.length : Nat) : Int)), (18, .int .i64 s_2.1), (21, .func (.func 40) #[] #[.pointer (some (⟨b_2, 0, none⟩)), .pointer (some (⟨b_1, 0, none⟩))]), (22, .int .i64 s_2.1), (23, .bool x_2.1), (30, .int .i64 (s_2.1 + 1))] a_29 := f_30.keep (ks := [1, 2, 4, 5, 6, 13, 14, 17, 18, 21, 22, 23, 30]) (by kernel_rfl)
              refine W_run (L' := [(1, .pointer (some (⟨b_1, 0, none⟩))), (2, .slice A_1 s_1.1.length cap_1), (4, .pointer (some (⟨b_2, 0, none⟩))), (5, .func (.func 40) #[] #[.pointer (some (⟨b_2, 0, none⟩)), .pointer (some (⟨b_1, 0, none⟩))]), (13, .int .i64 ((d0.length : Nat) : Int)), (14, .int .i64 s_1.2.1), (17, .int .i64 ((d0.length : Nat) : Int)), (18, .int .i64 (s_2.1 + 1))]) (w' := w_8) f_31 1 [1, 2, 4, 5, 13, 14, 17, 18] (by kernel_rfl) (fun a_30 f_32 => ?_)
              refine W_end rfl ?_
              have p_27 : Hp w0 M_4 ((Ent.row 3 1 (.slice A_1 s_1.1.length cap_1) s_1.1.length cs_1) :: (Ent.obj b_2 (.cells #[.map (some bm_1)] 49 (0, 0))) :: (Ent.obj bm_1 (mapO (Value.int .i64) Value.bool x_2.2)) :: H) w_8 := p_16.pull 2 rfl rfl
              have p_28 : Hp w0 M_4 ((Ent.obj bm_1 (mapO (Value.int .i64) Value.bool x_2.2)) :: (Ent.row 3 1 (.slice A_1 s_1.1.length cap_1) s_1.1.length cs_1) :: (Ent.obj b_2 (.cells #[.map (some bm_1)] 49 (0, 0))) :: H) w_8 := p_27.pull 2 rfl rfl
              refine T_n ?_
              obtain rfl := Option.some.inj hF_12
              exact ⟨⟨m_4, (s_2.1 + 1, x_2.2)⟩, Nat.lt_succ_self _, M_4, (hM_3.trans hM_4), hn_2, f_32.keep (ks := [1, 2, 4, 5, 13, 14, 17, 18]) (by kernel_rfl), p_28⟩
          · have k_7 : ¬ (s_2.1 < ((d0.length : Nat) : Int)) := iff_f decide_eq_true_iff h_3
            have hF_13 := cnd_f h_3 hs_2
            refine wp_exit ?_
            refine T_x ?_
            refine T_x ?_
            obtain rfl := Option.some.inj hF_13
            exact .inr ⟨rfl, s_2.2, (Option.some.inj hn_2).symm, M_3, hM_3, f_18.keep (ks := []) (by kernel_rfl), p_15⟩
        · rintro _ a_33 w_14 (⟨rfl, y_1, rfl, M_5, hM_5, A_3, cap_3, cs_3, hr_5, f_33, p_25⟩ | ⟨rfl, y_2, rfl, M_6, hM_6, f_34, p_26⟩)
          · refine B_o rfl ?_
            refine T_x ?_
            refine B_x ?_
            refine T_n ?_
            refine R_reg ?_
            obtain ⟨g_3, hF_14⟩ := need_some hF_6
            refine W_run (L' := [(1, .pointer (some (⟨b_1, 0, none⟩))), (2, .slice A_3 y_1.1.length cap_3), (4, .pointer (some (⟨b_2, 0, none⟩))), (5, .func (.func 40) #[] #[.pointer (some (⟨b_2, 0, none⟩)), .pointer (some (⟨b_1, 0, none⟩))]), (13, .int .i64 ((d0.length : Nat) : Int)), (14, .int .i64 s_1.2.1), (31, .int .i64 (IntKind.wrap .i64 (s_1.2.1 + 1)))]) (w' := w_14) f_33 1 [1, 2, 4, 5, 13, 14, 31] (by kernel_rfl) (fun a_34 f_35 => ?_)
            have f_36 := Frm.set f_35 31 (v := .int .i64 (IntKind.wrap .i64 (s_1.2.1 + 1))) (v' := .int .i64 (s_1.2.1 + 1)) (by kernel_rfl) (congrArg (Value.int .i64) (inR_wrap g_3))
            have f_37 : Frm 33 [(1, .pointer (some (⟨b_1, 0, none⟩))), (2, .slice A_3 y_1.1.length cap_3), (4, .pointer (some (⟨b_2, 0, none⟩))), (5, .func (.func 40) #[] #[.pointer (some (⟨b_2, 0, none⟩)), .pointer (some (⟨b_1, 0, none⟩))]), (13, .int .i64 ((d0.length : Nat) : Int)), (14, .int .i64 s_1.2.1), (31, .int .i64 (s_1.2.1 + 1))] a_34 := f_36.keep (ks := [1, 2, 4, 5, 13, 14, 31]) (by kernel_rfl)
            refine W_run (L' := [(1, .pointer (some (⟨b_1, 0, none⟩))), (2, .slice A_3 y_1.1.length cap_3), (4, .pointer (some (⟨b_2, 0, none⟩))), (5, .func (.func 40) #[] #[.pointer (some (⟨b_2, 0, none⟩)), .pointer (some (⟨b_1, 0, none⟩))]), (13, .int .i64 ((d0.length : Nat) : Int)), (14, .int .i64 (s_1.2.1 + 1))]) (w' := w_14) f_37 1 [1, 2, 4, 5, 13, 14] (by kernel_rfl) (fun a_35 f_38 => ?_)
            refine W_end rfl ?_
            refine T_n ?_
            obtain rfl := Option.some.inj hF_14
            exact ⟨⟨m_2, (y_1.1, s_1.2.1 + 1, y_1.2), A_3, cap_3, cs_3⟩, Nat.lt_succ_self _, M_5, (hM_2.trans hM_5), ⟨hn_1, hr_5⟩, f_38.keep (ks := [1, 2, 4, 5, 13, 14]) (by kernel_rfl), p_25⟩
          · refine B_x ?_
            refine T_n ?_
            refine R_seq ?_
            refine R_reg ?_
            refine W_run (L' := [(2, .slice none 0 0), (3, .int .i64 200)]) (w' := w_14) f_34 2 [2, 3] (by kernel_rfl) (fun a_36 f_39 => ?_)
            refine W_end rfl ?_
            refine T_n ?_
            refine wp_ret ?_
            refine B_r ?_
            refine T_r ?_
            have p_31 : Hp w0 M_6 ((Ent.obj b_2 (.cells #[.map (some bm_1)] 49 (0, 0))) :: (Ent.obj bm_1 (mapO (Value.int .i64) Value.bool y_2)) :: (Ent.row 3 1 (.slice A_1 s_1.1.length cap_1) s_1.1.length cs_1) :: H) w_14 := p_26.pull 2 rfl rfl
            have p_32 : Hp w0 M_6 ((Ent.obj bm_1 (mapO (Value.int .i64) Value.bool y_2)) :: (Ent.obj b_2 (.cells #[.map (some bm_1)] 49 (0, 0))) :: (Ent.row 3 1 (.slice A_1 s_1.1.length cap_1) s_1.1.length cs_1) :: H) w_14 := p_31.pull 1 rfl rfl
            have p_33 : Hp w0 M_6 ((Ent.row 3 1 (.slice A_1 s_1.1.length cap_1) s_1.1.length cs_1) :: (Ent.obj bm_1 (mapO (Value.int .i64) Value.bool y_2)) :: (Ent.obj b_2 (.cells #[.map (some bm_1)] 49 (0, 0))) :: H) w_14 := p_32.pull 2 rfl rfl
            refine T_r ?_
            obtain rfl := Option.some.inj hF_6
            exact .inl ⟨rfl, y_2, (Option.some.inj hn_1).symm, M_6, (hM_2.trans hM_6), f_39.keep (ks := [2, 3]) (by kernel_rfl), (p_33.dropN 1)⟩
      · have k_8 : ¬ (s_1.2.1 < ((d0.length : Nat) : Int)) := iff_f decide_eq_true_iff h_2
        have hF_15 := cnd_f h_2 hs_1
        refine wp_exit ?_
        refine T_x ?_
        refine T_x ?_
        obtain rfl := Option.some.inj hF_15
        exact .inr ⟨rfl, (s_1.1, s_1.2.2), (Option.some.inj hn_1).symm, M_2, hM_2, A_1, cap_1, cs_1, hr_3, f_14.keep (ks := [2]) (by kernel_rfl), p_11⟩
    · rintro _ a_39 w_17 (⟨rfl, y_3, rfl, M_7, hM_7, f_40, p_29⟩ | ⟨rfl, y_4, rfl, M_8, hM_8, A_4, cap_4, cs_4, hr_6, f_41, p_30⟩)
      · refine B_r ?_
        refine T_r ?_
        refine S_r ?_
        have p_34 : Hp w0 M_7 ((Ent.row 3 1 (.slice none 0 0) ([] : List Int).length []) :: (Ent.obj bm_1 (mapO (Value.int .i64) Value.bool y_3)) :: (Ent.obj b_2 (.cells #[.map (some bm_1)] 49 (0, 0))) :: H) w_17 := p_29.nilRow 3 1
        have hr_7 : RepSeq M_7 (([] : List Int).map (Dat.int .i64)) [] := rfl
        refine E_ret2 f_40 rfl (by kernel_rfl : Vc.look _ 2 = some (.slice none 0 0)) (by kernel_rfl : Vc.look _ 3 = some (.int .i64 200)) ?_
        obtain rfl := Option.some.inj hF_4
        have p_35 : Hp w0 M_7 ((Ent.obj b_2 (.cells #[.map (some bm_1)] 49 (0, 0))) :: (Ent.row 3 1 (.slice none 0 0) ([] : List Int).length []) :: (Ent.obj bm_1 (mapO (Value.int .i64) Value.bool y_3)) :: H) w_17 := p_34.pull 2 rfl rfl
        have p_36 : Hp w0 M_7 ((Ent.obj bm_1 (mapO (Value.int .i64) Value.bool y_3)) :: (Ent.obj b_2 (.cells #[.map (some bm_1)] 49 (0, 0))) :: (Ent.row 3 1 (.slice none 0 0) ([] : List Int).length []) :: H) w_17 := p_35.pull 2 rfl rfl
        exact ⟨_, rfl, M_7, _, (hM_1.trans hM_7), (p_36.dropN 2), ⟨none, 0, [], rfl, rfl, hr_7⟩⟩
      · refine B_x ?_
        refine T_n ?_
        refine R_seq ?_
        refine R_reg ?_
        refine W_run (L' := [(2, .slice A_4 y_4.1.length cap_4), (3, .int .i64 0)]) (w' := w_17) f_41 3 [2, 3] (by kernel_rfl) (fun a_40 f_42 => ?_)
        refine W_end rfl ?_
        refine T_n ?_
        refine wp_ret ?_
        refine S_r ?_
        refine E_ret2 f_42 rfl (by kernel_rfl : Vc.look _ 2 = some (.slice A_4 y_4.1.length cap_4)) (by kernel_rfl : Vc.look _ 3 = some (.int .i64 0)) ?_
        obtain rfl := Option.some.inj hF_4
        have p_37 : Hp w0 M_8 ((Ent.obj b_2 (.cells #[.map (some bm_1)] 49 (0, 0))) :: (Ent.row 3 1 (.slice A_4 y_4.1.length cap_4) y_4.1.length cs_4) :: (Ent.obj bm_1 (mapO (Value.int .i64) Value.bool y_4.2)) :: H) w_17 := p_30.pull 2 rfl rfl
        have p_38 : Hp w0 M_8 ((Ent.obj bm_1 (mapO (Value.int .i64) Value.bool y_4.2)) :: (Ent.obj b_2 (.cells #[.map (some bm_1)] 49 (0, 0))) :: (Ent.row 3 1 (.slice A_4 y_4.1.length cap_4) y_4.1.length cs_4) :: H) w_17 := p_37.pull 2 rfl rfl
        exact ⟨_, rfl, M_8, _, (hM_1.trans hM_8), (p_38.dropN 2), ⟨A_4, cap_4, cs_4, rfl, rfl, hr_6⟩⟩
end Go.Proofs.Ytoonlehffohpaaa
