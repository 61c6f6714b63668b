/-
  Printed by a program: of each function its shallow reading, and the proof that the function gives what the reading gives. No condition.
-/
import Derived.Test.YtfdmlionhbeebaaQ5
set_option linter.unusedVariables false
set_option linter.unusedSimpArgs false
namespace Go.Proofs.Ytfdmlionhbeebaa
open Go Go.Vc Go.RowKit
def ref21_way (n : Nat) (d0 : List (List Int)) (d1 : Bool) : Option (List (List Int)) :=
  bif d1 then
    ((ref21_turned n d0).bind fun x_1 =>
    some (x_1))
  else
    some (d0)
theorem ref21_way_ok (n : Nat) (M : Mem) (A0 : Option Addr) (cap0 : Nat) (d0 : List (List Int)) (h0 : Sli M 1 (eL 1 (Dat.int .i64)) A0 cap0 d0) (d1 : Bool) (r : List (List Int)) (hF : ref21_way n d0 d1 = some r) : Ok Try.prog M 32 [.slice A0 d0.length cap0, .bool d1] (fun M' v => ∃ (A0 : Option Addr) (k0 : Nat), v = .slice A0 r.length k0 ∧ Sli M' 1 (eL 1 (Dat.int .i64)) A0 k0 r) := by
  unfold ref21_way at hF
  intro M1 hM0 w0 H w p0
  replace h0 := h0.mono hM0
  refine R_enter 9 Try.func32 rfl rfl (by simp) (fun a0 f0 => ?_)
  replace f0 : Frm 9 [(0, .slice A0 d0.length cap0), (1, .bool d1)] a0 := f0
  refine R_seq ?_
  refine R_reg ?_
  refine W_run (L' := [(0, .slice A0 d0.length cap0), (1, .bool d1)]) (w' := w) f0 1 [0, 1] (by kernel_rfl) (fun a_1 f_1 => ?_)
  refine W_end rfl ?_
  refine T_n ?_
  refine R_seq ?_
  refine R_seq ?_
  refine R_reg ?_
  refine W_run (L' := [(0, .slice A0 d0.length cap0), (5, .bool d1)]) (w' := w) f_1 1 [0, 5] (by kernel_rfl) (fun a_2 f_2 => ?_)
  refine W_end rfl ?_
  refine T_n ?_
  refine R_cond f_2 (b := d1) (by kernel_rfl) (by kernel_rfl) (fun h_1 => ?_) (fun h_1 => ?_)
  · have hF_1 := cnd_t h_1 hF
    refine R_seq ?_
    refine R_reg ?_
    refine W_run (L' := [(6, .slice A0 d0.length cap0)]) (w' := w) f_2 1 [6] (by kernel_rfl) (fun a_3 f_3 => ?_)
    obtain ⟨x_1, hx_1, hF_2⟩ := bind_some' hF_1
    refine W_ok f_3 p0 (by kernel_rfl) (by kernel_rfl) rfl rfl (fun _ => by kernel_rfl) (ref21_turned_ok n _ A0 cap0 d0 h0 x_1 hx_1) (fun u_1 M_1 w_1 hM_1 p_1 q_1 a_4 f_4 => ?_)
    obtain ⟨A_1, cap_1, rfl, h_2⟩ := q_1
    refine W_run (L' := [(4, .slice A_1 x_1.length cap_1)]) (w' := w_1) f_4 1 [4] (by kernel_rfl) (fun a_5 f_5 => ?_)
    refine W_end rfl ?_
    refine T_n ?_
    refine wp_ret ?_
    refine T_r ?_
    refine E_ret1 f_5 rfl (by kernel_rfl : Vc.look _ 4 = some (.slice A_1 x_1.length cap_1)) ?_
    obtain rfl := Option.some.inj hF_2
    exact ⟨_, rfl, M_1, hM_1, p_1, ⟨A_1, cap_1, rfl, h_2⟩⟩
  · have hF_3 := cnd_f h_1 hF
    refine wp_skip ?_
    refine T_n ?_
    refine R_seq ?_
    refine R_reg ?_
    refine W_run (L' := [(4, .slice A0 d0.length cap0)]) (w' := w) f_2 2 [4] (by kernel_rfl) (fun a_6 f_6 => ?_)
    refine W_end rfl ?_
    refine T_n ?_
    refine wp_ret ?_
    refine E_ret1 f_6 rfl (by kernel_rfl : Vc.look _ 4 = some (.slice A0 d0.length cap0)) ?_
    obtain rfl := Option.some.inj hF_3
    exact ⟨_, rfl, M1, (Mem.le_refl _), p0, ⟨A0, cap0, rfl, h0⟩⟩

def ref21_Ready_s2 (n : Nat) (d1 : List Int) (x_2 : List (List Int)) (s_1 : List Int × Int) (s_2 : Bool × Int) : Option (Lp (Bool × Int) Bool) :=
    (getI x_2 s_1.2).bind fun x_4 =>
    bif (decide (s_2.2 < ((x_4.length : Nat) : Int))) then
      ((getI x_2 s_1.2).bind fun x_5 =>
      (getI x_5 s_2.2).bind fun x_6 =>
      (getI d1 x_6).bind fun x_7 =>
      bif s_2.1 then
        (bif (decide (x_7 = 0)) then
          (need (inR .i64 (s_2.2 + 1)) <|
          some (.nx ((true), s_2.2 + 1)))
        else
          need (inR .i64 (s_2.2 + 1)) <|
          some (.nx ((decide (x_7 = 3)), s_2.2 + 1)))
      else
        need (inR .i64 (s_2.2 + 1)) <|
        some (.nx ((false), s_2.2 + 1)))
    else
      some (.br (s_2.1))
def ref21_Ready_s1 (n : Nat) (d1 : List Int) (x_2 : List (List Int)) (s_1 : List Int × Int) : Option (Lp (List Int × Int) (List Int)) :=
    bif (decide (s_1.2 < ((x_2.length : Nat) : Int))) then
      ((getI d1 s_1.2).bind fun x_3 =>
      (loopF (ref21_Ready_s2 n d1 x_2 s_1) n ((decide (x_3 = 1)), (0 : Int))).bind fun y_1 =>
      bif y_1 then
        (need ((s_1.1.length + 1) * 8 ≤ 140737488355328) <|
        need (inR .i64 (s_1.2 + 1)) <|
        some (.nx (s_1.1 ++ [s_1.2], s_1.2 + 1)))
      else
        need (inR .i64 (s_1.2 + 1)) <|
        some (.nx (s_1.1, s_1.2 + 1)))
    else
      some (.br s_1.1)
def ref21_Ready (n : Nat) (d0 : List (List Int)) (d1 : List Int) (d2 : Bool) : Option (List Int × Int) :=
  (ref21_May n d0 d1).bind fun x_1 =>
  bif !x_1 then
    (some ((([] : List Int), (2 : Int))))
  else
    (ref21_way n d0 (d2)).bind fun x_2 =>
    (loopF (ref21_Ready_s1 n d1 x_2) n (([] : List Int), (0 : Int))).bind fun y_2 =>
    some ((y_2, (0 : Int)))
set_option maxRecDepth 20000 in
theorem ref21_Ready_ok (n : Nat) (M : Mem) (A0 : Option Addr) (cap0 : Nat) (d0 : List (List Int)) (h0 : Sli M 1 (eL 1 (Dat.int .i64)) A0 cap0 d0) (A1 : Option Addr) (cap1 : Nat) (d1 : List Int) (h1 : Sli M 1 (Dat.int .i8) A1 cap1 d1) (d2 : Bool) (r : List Int × Int) (hF : ref21_Ready n d0 d1 d2 = some r) : OkH Try.prog M [] 8 [.slice A0 d0.length cap0, .slice A1 d1.length cap1, .bool d2] (fun M' E' v => ∃ (A0 : Option Addr) (k0 : Nat) (s0 : List Value), v = .tuple #[.slice A0 r.1.length k0, .int .i64 r.2] ∧ E' = [.row 3 1 (.slice A0 r.1.length k0) r.1.length s0] ∧ RepSeq M' (r.1.map (Dat.int .i64)) s0) := by
  unfold ref21_Ready at hF
  intro M1 hM0 w0 H w p0
  replace h0 := h0.mono hM0
  replace h1 := h1.mono hM0
  refine R_enter 66 Try.func8 rfl rfl (by simp) (fun a0 f0 => ?_)
  replace f0 : Frm 66 [(0, .slice A0 d0.length cap0), (1, .slice A1 d1.length cap1), (2, .bool d2)] a0 := f0
  refine R_seq ?_
  refine R_reg ?_
  refine W_run (L' := [(0, .slice A0 d0.length cap0), (1, .slice A1 d1.length cap1), (2, .bool d2)]) (w' := w) f0 2 [0, 1, 2] (by kernel_rfl) (fun a_1 f_1 => ?_)
  refine W_end rfl ?_
  refine T_n ?_
  refine R_seq ?_
  refine R_seq ?_
  refine R_reg ?_
  refine W_run (L' := [(0, .slice A0 d0.length cap0), (1, .slice A1 d1.length cap1), (2, .bool d2), (14, .slice A0 d0.length cap0), (15, .slice A1 d1.length cap1)]) (w' := w) f_1 2 [0, 1, 2, 14, 15] (by kernel_rfl) (fun a_2 f_2 => ?_)
  obtain ⟨x_1, hx_1, hF_1⟩ := bind_some' hF
  refine W_okv (v := .bool x_1) f_2 p0 (by kernel_rfl) (by kernel_rfl) rfl rfl (fun _ => by kernel_rfl) (ref21_May_ok n _ A0 cap0 d0 h0 A1 cap1 d1 h1 x_1 hx_1) (fun w_1 p_1 a_3 f_3 => ?_)
  refine W_run (L' := [(0, .slice A0 d0.length cap0), (1, .slice A1 d1.length cap1), (2, .bool d2), (17, .bool !x_1)]) (w' := w_1) f_3 1 [0, 1, 2, 17] (by kernel_rfl) (fun a_4 f_4 => ?_)
  refine W_end rfl ?_
  refine T_n ?_
  refine R_cond f_4 (b := !x_1) (by kernel_rfl) (by kernel_rfl) (fun h_1 => ?_) (fun h_1 => ?_)
  · have k_1 : (x_1) = false := by simpa using h_1
    have hF_2 := cnd_t h_1 hF_1
    refine R_seq ?_
    refine R_reg ?_
    refine W_run (L' := [(6, .slice none 0 0), (7, .int .i64 2)]) (w' := w_1) f_4 2 [6, 7] (by kernel_rfl) (fun a_5 f_5 => ?_)
    refine W_end rfl ?_
    refine T_n ?_
    refine wp_ret ?_
    refine T_r ?_
    obtain ⟨A_1, cap_1, hv_1⟩ : ∃ A cap, Value.slice none 0 0 = .slice A ([] : List Int).length cap := ⟨none, 0, rfl⟩
    have p_2 : Hp w0 M1 ((Ent.row 3 1 (.slice A_1 ([] : List Int).length cap_1) ([] : List Int).length []) :: H) w_1 := by rw [← hv_1]; exact p_1.nilRow 3 1
    have f_6 := Frm.set f_5 6 (v := .slice none 0 0) (v' := .slice A_1 ([] : List Int).length cap_1) (by kernel_rfl) (hv_1)
    have f_7 : Frm 66 [(6, .slice A_1 ([] : List Int).length cap_1), (7, .int .i64 2)] a_5 := f_6.keep (ks := [6, 7]) (by kernel_rfl)
    have hr_1 : RepSeq M1 (([] : List Int).map (Dat.int .i64)) [] := rfl
    refine E_ret2 f_7 rfl (by kernel_rfl : Vc.look _ 6 = some (.slice A_1 ([] : List Int).length cap_1)) (by kernel_rfl : Vc.look _ 7 = some (.int .i64 2)) ?_
    obtain rfl := Option.some.inj hF_2
    exact ⟨_, rfl, M1, _, (Mem.le_refl _), p_2, ⟨A_1, cap_1, [], rfl, rfl, hr_1⟩⟩
  · have k_2 : (x_1) = true := by simpa using h_1
    have hF_3 := cnd_f h_1 hF_1
    refine wp_skip ?_
    refine T_n ?_
    refine R_seq ?_
    refine R_reg ?_
    refine W_run (L' := [(1, .slice A1 d1.length cap1), (18, .slice A0 d0.length cap0), (19, .bool d2)]) (w' := w_1) f_4 2 [1, 18, 19] (by kernel_rfl) (fun a_6 f_8 => ?_)
    obtain ⟨x_2, hx_2, hF_4⟩ := bind_some' hF_3
    refine W_ok f_8 p_1 (by kernel_rfl) (by kernel_rfl) rfl rfl (fun _ => by kernel_rfl) (ref21_way_ok n _ A0 cap0 d0 h0 (d2) x_2 hx_2) (fun u_1 M_1 w_2 hM_1 p_3 q_1 a_7 f_9 => ?_)
    obtain ⟨A_2, cap_2, rfl, h_2⟩ := q_1
    refine W_run (L' := [(1, .slice A1 d1.length cap1), (8, .slice A_2 x_2.length cap_2)]) (w' := w_2) f_9 1 [1, 8] (by kernel_rfl) (fun a_8 f_10 => ?_)
    refine W_end rfl ?_
    refine T_n ?_
    refine R_seq ?_
    refine R_reg ?_
    refine W_run (L' := [(1, .slice A1 d1.length cap1), (8, .slice A_2 x_2.length cap_2), (9, .slice none 0 0)]) (w' := w_2) f_10 1 [1, 8, 9] (by kernel_rfl) (fun a_9 f_11 => ?_)
    refine W_end rfl ?_
    refine T_n ?_
    refine R_seq ?_
    refine R_seq ?_
    refine R_reg ?_
    refine W_run (L' := [(1, .slice A1 d1.length cap1), (8, .slice A_2 x_2.length cap_2), (9, .slice none 0 0), (10, .int .i64 0)]) (w' := w_2) f_11 1 [1, 8, 9, 10] (by kernel_rfl) (fun a_10 f_12 => ?_)
    refine W_end rfl ?_
    refine T_n ?_
    refine wp_block ?_
    obtain ⟨A_3, cap_3, hv_2⟩ : ∃ A cap, Value.slice none 0 0 = .slice A ([] : List Int).length cap := ⟨none, 0, rfl⟩
    have p_4 : Hp w0 M_1 ((Ent.row 3 1 (.slice A_3 ([] : List Int).length cap_3) ([] : List Int).length []) :: H) w_2 := by rw [← hv_2]; exact p_3.nilRow 3 1
    have f_13 := Frm.set f_12 9 (v := .slice none 0 0) (v' := .slice A_3 ([] : List Int).length cap_3) (by kernel_rfl) (hv_2)
    have f_14 : Frm 66 [(1, .slice A1 d1.length cap1), (8, .slice A_2 x_2.length cap_2), (9, .slice A_3 ([] : List Int).length cap_3), (10, .int .i64 0)] a_10 := f_13.keep (ks := [1, 8, 9, 10]) (by kernel_rfl)
    have hr_2 : RepSeq M_1 (([] : List Int).map (Dat.int .i64)) [] := rfl
    obtain ⟨b_1, hL_1, hF_5⟩ := bind_some' hF_4
    refine wp_mono (Q := fun e a w => (e = .exit 0 ∧ (∃ y_2 : List Int, b_1 = y_2 ∧ ∃ M_5 : Mem, M_1.le M_5 ∧ ∃ (A_8 : Option Addr), ∃ (cap_8 : Nat), ∃ (cs_3 : List Value), RepSeq M_5 (y_2.map (Dat.int .i64)) cs_3 ∧ Frm 66 [(9, .slice A_8 y_2.length cap_8)] a ∧ Hp w0 M_5 ((Ent.row 3 1 (.slice A_8 y_2.length cap_8) y_2.length cs_3) :: H) w))) (R_loop (n := 66) (w0 := w0) (M := M_1) (fun (x : Nat × (List Int × Int) × (Option Addr) × Nat × (List Value)) => match x with | (m_1, s_1, A_4, cap_4, cs_1) => [(1, .slice A1 d1.length cap1), (8, .slice A_2 x_2.length cap_2), (9, .slice A_4 s_1.1.length cap_4), (10, .int .i64 s_1.2)]) (fun (x : Nat × (List Int × Int) × (Option Addr) × Nat × (List Value)) => match x with | (m_1, s_1, A_4, cap_4, cs_1) => ((Ent.row 3 1 (.slice A_4 s_1.1.length cap_4) s_1.1.length cs_1) :: H)) (fun (x : Nat × (List Int × Int) × (Option Addr) × Nat × (List Value)) (MM : Mem) => match x with | (m_1, s_1, A_4, cap_4, cs_1) => loopF (ref21_Ready_s1 n d1 x_2) m_1 s_1 = some b_1 ∧ RepSeq MM (s_1.1.map (Dat.int .i64)) cs_1) (fun (x : Nat × (List Int × Int) × (Option Addr) × Nat × (List Value)) => match x with | (m_1, s_1, A_4, cap_4, cs_1) => m_1) (n, (([] : List Int), (0 : Int)), A_3, cap_3, []) (f_14.keep (ks := [1, 8, 9, 10]) (by kernel_rfl)) p_4 ⟨hL_1, hr_2⟩ ?_) ?_
    · rintro ⟨m_1, s_1, A_4, cap_4, cs_1⟩ M_2 a_11 w_3 hM_2 I_1 f_15 p_5
      replace f_15 : Frm 66 [(1, .slice A1 d1.length cap1), (8, .slice A_2 x_2.length cap_2), (9, .slice A_4 s_1.1.length cap_4), (10, .int .i64 s_1.2)] a_11 := f_15
      replace p_5 : Hp w0 M_2 ((Ent.row 3 1 (.slice A_4 s_1.1.length cap_4) s_1.1.length cs_1) :: H) w_3 := p_5
      obtain ⟨I_1L, hr_3⟩ := I_1
      obtain ⟨m_2, r_1, rfl, hs_1, hn_1⟩ := loop_step I_1L
      unfold ref21_Ready_s1 at hs_1
      refine R_seq ?_
      refine R_seq ?_
      refine R_reg ?_
      refine W_run (L' := [(1, .slice A1 d1.length cap1), (8, .slice A_2 x_2.length cap_2), (9, .slice A_4 s_1.1.length cap_4), (10, .int .i64 s_1.2), (24, .bool (decide (s_1.2 < ((x_2.length : Nat) : Int))))]) (w' := w_3) f_15 4 [1, 8, 9, 10, 24] (by kernel_rfl) (fun a_12 f_16 => ?_)
      refine W_end rfl ?_
      refine T_n ?_
      refine R_cond f_16 (b := decide (s_1.2 < ((x_2.length : Nat) : Int))) (by kernel_rfl) (by kernel_rfl) (fun h_3 => ?_) (fun h_3 => ?_)
      · have k_3 : s_1.2 < ((x_2.length : Nat) : Int) := decide_eq_true_iff.1 h_3
        have hF_6 := cnd_t h_3 hs_1
        refine wp_skip ?_
        refine T_n ?_
        refine R_seq ?_
        refine wp_block ?_
        refine R_seq ?_
        refine R_reg ?_
        refine W_run (L' := [(1, .slice A1 d1.length cap1), (8, .slice A_2 x_2.length cap_2), (9, .slice A_4 s_1.1.length cap_4), (10, .int .i64 s_1.2), (27, .slice A1 d1.length cap1), (28, .int .i64 s_1.2)]) (w' := w_3) f_16 2 [1, 8, 9, 10, 27, 28] (by kernel_rfl) (fun a_13 f_17 => ?_)
        obtain ⟨x_3, hx_3, hF_7⟩ := bind_some' hF_6
        obtain ⟨ad_1, c_1, e_1, hl_1, hr_4, hc_1⟩ := Sli.at_ (h1.mono (hM_1.trans hM_2)) hx_3
        clear hl_1
        obtain rfl : c_1 = [.int .i8 x_3] := hr_4
        refine W_eq (v := .pointer (some (ad_1.add (s_1.2.toNat * 1)))) f_17 (by kernel_rfl) (by kernel_rfl) rfl rfl (X_indexAddrA e_1 rfl (len := d1.length) (cap := cap1) (k := .i64) (i := s_1.2) (by kernel_rfl) (by kernel_rfl) (e := 24) (by kernel_rfl) (sz := 1) (by kernel_rfl) (getI_nn hx_3) (getI_lt hx_3)) (fun a_14 f_18 => ?_)
        refine W_eq (v := .int .i8 x_3) f_18 (by kernel_rfl) (by kernel_rfl) rfl rfl (X_load1 (v := .int .i8 x_3) rfl (ad := ad_1.add (s_1.2.toNat * 1)) (by kernel_rfl) (by kernel_rfl) (p_5.cell (hc_1 0 _ rfl))) (fun a_15 f_19 => ?_)
        refine W_run (L' := [(1, .slice A1 d1.length cap1), (8, .slice A_2 x_2.length cap_2), (9, .slice A_4 s_1.1.length cap_4), (10, .int .i64 s_1.2), (11, .bool (decide (x_3 = 1)))]) (w' := w_3) f_19 2 [1, 8, 9, 10, 11] (by kernel_rfl) (fun a_16 f_20 => ?_)
        refine W_end rfl ?_
        refine T_n ?_
        refine R_seq ?_
        refine R_seq ?_
        refine R_reg ?_
        refine W_run (L' := [(1, .slice A1 d1.length cap1), (8, .slice A_2 x_2.length cap_2), (9, .slice A_4 s_1.1.length cap_4), (10, .int .i64 s_1.2), (11, .bool (decide (x_3 = 1))), (12, .int .i64 0)]) (w' := w_3) f_20 1 [1, 8, 9, 10, 11, 12] (by kernel_rfl) (fun a_17 f_21 => ?_)
        refine W_end rfl ?_
        refine T_n ?_
        refine wp_block ?_
        obtain ⟨b_2, hL_2, hF_8⟩ := bind_some' hF_7
        refine wp_mono (Q := fun e a w => (e = .exit 2 ∧ (∃ y_1 : Bool, b_2 = y_1 ∧ ∃ M_4 : Mem, M_2.le M_4 ∧ Frm 66 [(1, .slice A1 d1.length cap1), (8, .slice A_2 x_2.length cap_2), (9, .slice A_4 s_1.1.length cap_4), (10, .int .i64 s_1.2), (11, .bool y_1)] a ∧ Hp w0 M_4 ((Ent.row 3 1 (.slice A_4 s_1.1.length cap_4) s_1.1.length cs_1) :: H) w))) (R_loop (n := 66) (w0 := w0) (M := M_2) (fun (x : Nat × (Bool × Int)) => match x with | (m_3, s_2) => [(1, .slice A1 d1.length cap1), (8, .slice A_2 x_2.length cap_2), (9, .slice A_4 s_1.1.length cap_4), (10, .int .i64 s_1.2), (11, .bool s_2.1), (12, .int .i64 s_2.2)]) (fun (x : Nat × (Bool × Int)) => match x with | (m_3, s_2) => ((Ent.row 3 1 (.slice A_4 s_1.1.length cap_4) s_1.1.length cs_1) :: H)) (fun (x : Nat × (Bool × Int)) (MM : Mem) => match x with | (m_3, s_2) => loopF (ref21_Ready_s2 n d1 x_2 s_1) m_3 s_2 = some b_2) (fun (x : Nat × (Bool × Int)) => match x with | (m_3, s_2) => m_3) (n, ((decide (x_3 = 1)), (0 : Int))) (f_21.keep (ks := [1, 8, 9, 10, 11, 12]) (by kernel_rfl)) p_5 hL_2 ?_) ?_
        · rintro ⟨m_3, s_2⟩ M_3 a_18 w_4 hM_3 I_2 f_22 p_6
          replace f_22 : Frm 66 [(1, .slice A1 d1.length cap1), (8, .slice A_2 x_2.length cap_2), (9, .slice A_4 s_1.1.length cap_4), (10, .int .i64 s_1.2), (11, .bool s_2.1), (12, .int .i64 s_2.2)] a_18 := f_22
          replace p_6 : Hp w0 M_3 ((Ent.row 3 1 (.slice A_4 s_1.1.length cap_4) s_1.1.length cs_1) :: H) w_4 := p_6
          have I_2L := I_2
          obtain ⟨m_4, r_2, rfl, hs_2, hn_2⟩ := loop_step I_2L
          unfold ref21_Ready_s2 at hs_2
          refine R_seq ?_
          refine R_seq ?_
          refine R_reg ?_
          refine W_run (L' := [(1, .slice A1 d1.length cap1), (8, .slice A_2 x_2.length cap_2), (9, .slice A_4 s_1.1.length cap_4), (10, .int .i64 s_1.2), (11, .bool s_2.1), (12, .int .i64 s_2.2), (32, .int .i64 s_2.2), (33, .slice A_2 x_2.length cap_2), (34, .int .i64 s_1.2)]) (w' := w_4) f_22 3 [1, 8, 9, 10, 11, 12, 32, 33, 34] (by kernel_rfl) (fun a_19 f_23 => ?_)
          obtain ⟨x_4, hx_4, hF_9⟩ := bind_some' hs_2
          obtain ⟨ad_2, c_2, e_2, hl_2, hr_5, hc_2⟩ := Sli.at_ (h_2.mono (hM_2.trans hM_3)) hx_4
          clear hl_2
          obtain ⟨A_5, cap_5, rfl, h_4⟩ := Rep.sli hr_5
          refine W_eq (v := .pointer (some (ad_2.add (s_1.2.toNat * 1)))) f_23 (by kernel_rfl) (by kernel_rfl) rfl rfl (X_indexAddrA e_2 rfl (len := x_2.length) (cap := cap_2) (k := .i64) (i := s_1.2) (by kernel_rfl) (by kernel_rfl) (e := 27) (by kernel_rfl) (sz := 1) (by kernel_rfl) (getI_nn hx_4) (getI_lt hx_4)) (fun a_20 f_24 => ?_)
          refine W_eq (v := .slice A_5 x_4.length cap_5) f_24 (by kernel_rfl) (by kernel_rfl) rfl rfl (X_load1 (v := .slice A_5 x_4.length cap_5) rfl (ad := ad_2.add (s_1.2.toNat * 1)) (by kernel_rfl) (by kernel_rfl) (p_6.cell (hc_2 0 _ rfl))) (fun a_21 f_25 => ?_)
          refine W_run (L' := [(1, .slice A1 d1.length cap1), (8, .slice A_2 x_2.length cap_2), (9, .slice A_4 s_1.1.length cap_4), (10, .int .i64 s_1.2), (11, .bool s_2.1), (12, .int .i64 s_2.2), (38, .bool (decide (s_2.2 < ((x_4.length : Nat) : Int))))]) (w' := w_4) f_25 2 [1, 8, 9, 10, 11, 12, 38] (by kernel_rfl) (fun a_22 f_26 => ?_)
          refine W_end rfl ?_
          refine T_n ?_
          refine R_cond f_26 (b := decide (s_2.2 < ((x_4.length : Nat) : Int))) (by kernel_rfl) (by kernel_rfl) (fun h_5 => ?_) (fun h_5 => ?_)
          · have k_4 : s_2.2 < ((x_4.length : Nat) : Int) := decide_eq_true_iff.1 h_5
            have hF_10 := cnd_t h_5 hF_9
            refine wp_skip ?_
            refine T_n ?_
            refine R_seq ?_
            refine wp_block ?_
            refine R_seq ?_
            refine R_reg ?_
            refine W_run (L' := [(1, .slice A1 d1.length cap1), (8, .slice A_2 x_2.length cap_2), (9, .slice A_4 s_1.1.length cap_4), (10, .int .i64 s_1.2), (11, .bool s_2.1), (12, .int .i64 s_2.2), (41, .slice A1 d1.length cap1), (42, .slice A_2 x_2.length cap_2), (43, .int .i64 s_1.2)]) (w' := w_4) f_26 3 [1, 8, 9, 10, 11, 12, 41, 42, 43] (by kernel_rfl) (fun a_23 f_27 => ?_)
            obtain ⟨x_5, hx_5, hF_11⟩ := bind_some' hF_10
            obtain ⟨ad_3, c_3, e_3, hl_3, hr_6, hc_3⟩ := Sli.at_ (h_2.mono (hM_2.trans hM_3)) hx_5
            clear hl_3
            obtain ⟨A_6, cap_6, rfl, h_6⟩ := Rep.sli hr_6
            refine W_eq (v := .pointer (some (ad_3.add (s_1.2.toNat * 1)))) f_27 (by kernel_rfl) (by kernel_rfl) rfl rfl (X_indexAddrA e_3 rfl (len := x_2.length) (cap := cap_2) (k := .i64) (i := s_1.2) (by kernel_rfl) (by kernel_rfl) (e := 27) (by kernel_rfl) (sz := 1) (by kernel_rfl) (getI_nn hx_5) (getI_lt hx_5)) (fun a_24 f_28 => ?_)
            refine W_eq (v := .slice A_6 x_5.length cap_6) f_28 (by kernel_rfl) (by kernel_rfl) rfl rfl (X_load1 (v := .slice A_6 x_5.length cap_6) rfl (ad := ad_3.add (s_1.2.toNat * 1)) (by kernel_rfl) (by kernel_rfl) (p_6.cell (hc_3 0 _ rfl))) (fun a_25 f_29 => ?_)
            refine W_run (L' := [(1, .slice A1 d1.length cap1), (8, .slice A_2 x_2.length cap_2), (9, .slice A_4 s_1.1.length cap_4), (10, .int .i64 s_1.2), (11, .bool s_2.1), (12, .int .i64 s_2.2), (41, .slice A1 d1.length cap1), (45, .slice A_6 x_5.length cap_6), (46, .int .i64 s_2.2)]) (w' := w_4) f_29 1 [1, 8, 9, 10, 11, 12, 41, 45, 46] (by kernel_rfl) (fun a_26 f_30 => ?_)
            obtain ⟨x_6, hx_6, hF_12⟩ := bind_some' hF_11
            obtain ⟨ad_4, c_4, e_4, hl_4, hr_7, hc_4⟩ := Sli.at_ h_6 hx_6
            clear hl_4
            obtain rfl : c_4 = [.int .i64 x_6] := hr_7
            refine W_eq (v := .pointer (some (ad_4.add (s_2.2.toNat * 1)))) f_30 (by kernel_rfl) (by kernel_rfl) rfl rfl (X_indexAddrA e_4 rfl (len := x_5.length) (cap := cap_6) (k := .i64) (i := s_2.2) (by kernel_rfl) (by kernel_rfl) (e := 3) (by kernel_rfl) (sz := 1) (by kernel_rfl) (getI_nn hx_6) (getI_lt hx_6)) (fun a_27 f_31 => ?_)
            refine W_eq (v := .int .i64 x_6) f_31 (by kernel_rfl) (by kernel_rfl) rfl rfl (X_load1 (v := .int .i64 x_6) rfl (ad := ad_4.add (s_2.2.toNat * 1)) (by kernel_rfl) (by kernel_rfl) (p_6.cell (hc_4 0 _ rfl))) (fun a_28 f_32 => ?_)
            obtain ⟨x_7, hx_7, hF_13⟩ := bind_some' hF_12
            obtain ⟨ad_5, c_5, e_5, hl_5, hr_8, hc_5⟩ := Sli.at_ (h1.mono ((hM_1.trans hM_2).trans hM_3)) hx_7
            clear hl_5
            obtain rfl : c_5 = [.int .i8 x_7] := hr_8
            refine W_eq (v := .pointer (some (ad_5.add (x_6.toNat * 1)))) f_32 (by kernel_rfl) (by kernel_rfl) rfl rfl (X_indexAddrA e_5 rfl (len := d1.length) (cap := cap1) (k := .i64) (i := x_6) (by kernel_rfl) (by kernel_rfl) (e := 24) (by kernel_rfl) (sz := 1) (by kernel_rfl) (getI_nn hx_7) (getI_lt hx_7)) (fun a_29 f_33 => ?_)
            refine W_eq (v := .int .i8 x_7) f_33 (by kernel_rfl) (by kernel_rfl) rfl rfl (X_load1 (v := .int .i8 x_7) rfl (ad := ad_5.add (x_6.toNat * 1)) (by kernel_rfl) (by kernel_rfl) (p_6.cell (hc_5 0 _ rfl))) (fun a_30 f_34 => ?_)
            refine W_run (L' := [(1, .slice A1 d1.length cap1), (8, .slice A_2 x_2.length cap_2), (9, .slice A_4 s_1.1.length cap_4), (10, .int .i64 s_1.2), (11, .bool s_2.1), (12, .int .i64 s_2.2), (13, .int .i8 x_7)]) (w' := w_4) f_34 1 [1, 8, 9, 10, 11, 12, 13] (by kernel_rfl) (fun a_31 f_35 => ?_)
            refine W_end rfl ?_
            refine T_n ?_
            refine R_reg ?_
            refine W_run (L' := [(1, .slice A1 d1.length cap1), (8, .slice A_2 x_2.length cap_2), (9, .slice A_4 s_1.1.length cap_4), (10, .int .i64 s_1.2), (12, .int .i64 s_2.2), (13, .int .i8 x_7), (52, .bool s_2.1)]) (w' := w_4) f_35 2 [1, 8, 9, 10, 12, 13, 52] (by kernel_rfl) (fun a_32 f_36 => ?_)
            rcases Bool.eq_false_or_eq_true (s_2.1) with h_7 | h_7
            · have hF_14 := cnd_t h_7 hF_13
              have f_37 := Frm.set f_36 52 (v := .bool s_2.1) (v' := .bool true) (by kernel_rfl) (congrArg Value.bool h_7)
              have f_38 : Frm 66 [(1, .slice A1 d1.length cap1), (8, .slice A_2 x_2.length cap_2), (9, .slice A_4 s_1.1.length cap_4), (10, .int .i64 s_1.2), (12, .int .i64 s_2.2), (13, .int .i8 x_7), (52, .bool true)] a_32 := f_37.keep (ks := [1, 8, 9, 10, 12, 13, 52]) (by kernel_rfl)
              refine W_run (L' := [(1, .slice A1 d1.length cap1), (8, .slice A_2 x_2.length cap_2), (9, .slice A_4 s_1.1.length cap_4), (10, .int .i64 s_1.2), (12, .int .i64 s_2.2), (13, .int .i8 x_7), (52, .bool true), (55, .bool (decide (x_7 = 0)))]) (w' := w_4) f_38 3 [1, 8, 9, 10, 12, 13, 52, 55] (by kernel_rfl) (fun a_33 f_39 => ?_)
              rcases Bool.eq_false_or_eq_true (decide (x_7 = 0)) with h_8 | h_8
              · have k_6 : x_7 = 0 := decide_eq_true_iff.1 h_8
                have hF_15 := cnd_t h_8 hF_14
                have f_40 := Frm.set f_39 55 (v := .bool (decide (x_7 = 0))) (v' := .bool true) (by kernel_rfl) (congrArg Value.bool h_8)
                have f_41 : Frm 66 [(1, .slice A1 d1.length cap1), (8, .slice A_2 x_2.length cap_2), (9, .slice A_4 s_1.1.length cap_4), (10, .int .i64 s_1.2), (12, .int .i64 s_2.2), (13, .int .i8 x_7), (52, .bool true), (55, .bool true)] a_33 := f_40.keep (ks := [1, 8, 9, 10, 12, 13, 52, 55]) (by kernel_rfl)
                refine W_run (L' := [(1, .slice A1 d1.length cap1), (8, .slice A_2 x_2.length cap_2), (9, .slice A_4 s_1.1.length cap_4), (10, .int .i64 s_1.2), (11, .bool true), (12, .int .i64 s_2.2)]) (w' := w_4) f_41 5 [1, 8, 9, 10, 11, 12] (by kernel_rfl) (fun a_34 f_42 => ?_)
                refine W_end rfl ?_
                refine B_n ?_
                refine T_n ?_
                refine R_reg ?_
                refine W_run (L' := [(1, .slice A1 d1.length cap1), (8, .slice A_2 x_2.length cap_2), (9, .slice A_4 s_1.1.length cap_4), (10, .int .i64 s_1.2), (11, .bool true), (39, .int .i64 s_2.2)]) (w' := w_4) f_42 1 [1, 8, 9, 10, 11, 39] (by kernel_rfl) (fun a_35 f_43 => ?_)
                obtain ⟨g_1, hF_16⟩ := need_some hF_15
                refine W_run (L' := [(1, .slice A1 d1.length cap1), (8, .slice A_2 x_2.length cap_2), (9, .slice A_4 s_1.1.length cap_4), (10, .int .i64 s_1.2), (11, .bool true), (39, .int .i64 s_2.2), (40, .int .i64 (IntKind.wrap .i64 (s_2.2 + 1)))]) (w' := w_4) f_43 1 [1, 8, 9, 10, 11, 39, 40] (by kernel_rfl) (fun a_36 f_44 => ?_)
                have f_45 := Frm.set f_44 40 (v := .int .i64 (IntKind.wrap .i64 (s_2.2 + 1))) (v' := .int .i64 (s_2.2 + 1)) (by kernel_rfl) (congrArg (Value.int .i64) (inR_wrap g_1))
                have f_46 : Frm 66 [(1, .slice A1 d1.length cap1), (8, .slice A_2 x_2.length cap_2), (9, .slice A_4 s_1.1.length cap_4), (10, .int .i64 s_1.2), (11, .bool true), (39, .int .i64 s_2.2), (40, .int .i64 (s_2.2 + 1))] a_36 := f_45.keep (ks := [1, 8, 9, 10, 11, 39, 40]) (by kernel_rfl)
                refine W_run (L' := [(1, .slice A1 d1.length cap1), (8, .slice A_2 x_2.length cap_2), (9, .slice A_4 s_1.1.length cap_4), (10, .int .i64 s_1.2), (11, .bool true), (12, .int .i64 (s_2.2 + 1))]) (w' := w_4) f_46 1 [1, 8, 9, 10, 11, 12] (by kernel_rfl) (fun a_37 f_47 => ?_)
                refine W_end rfl ?_
                refine T_n ?_
                obtain rfl := Option.some.inj hF_16
                exact ⟨⟨m_4, ((true), s_2.2 + 1)⟩, Nat.lt_succ_self _, M_3, hM_3, hn_2, f_47.keep (ks := [1, 8, 9, 10, 11, 12]) (by kernel_rfl), p_6⟩
              · have k_7 : ¬ (x_7 = 0) := iff_f decide_eq_true_iff h_8
                have hF_17 := cnd_f h_8 hF_14
                have f_48 := Frm.set f_39 55 (v := .bool (decide (x_7 = 0))) (v' := .bool false) (by kernel_rfl) (congrArg Value.bool h_8)
                have f_49 : Frm 66 [(1, .slice A1 d1.length cap1), (8, .slice A_2 x_2.length cap_2), (9, .slice A_4 s_1.1.length cap_4), (10, .int .i64 s_1.2), (12, .int .i64 s_2.2), (13, .int .i8 x_7), (52, .bool true), (55, .bool false)] a_33 := f_48.keep (ks := [1, 8, 9, 10, 12, 13, 52, 55]) (by kernel_rfl)
                refine W_run (L' := [(1, .slice A1 d1.length cap1), (8, .slice A_2 x_2.length cap_2), (9, .slice A_4 s_1.1.length cap_4), (10, .int .i64 s_1.2), (11, .bool (decide (x_7 = 3))), (12, .int .i64 s_2.2)]) (w' := w_4) f_49 5 [1, 8, 9, 10, 11, 12] (by kernel_rfl) (fun a_38 f_50 => ?_)
                refine W_end rfl ?_
                refine B_n ?_
                refine T_n ?_
                refine R_reg ?_
                refine W_run (L' := [(1, .slice A1 d1.length cap1), (8, .slice A_2 x_2.length cap_2), (9, .slice A_4 s_1.1.length cap_4), (10, .int .i64 s_1.2), (11, .bool (decide (x_7 = 3))), (39, .int .i64 s_2.2)]) (w' := w_4) f_50 1 [1, 8, 9, 10, 11, 39] (by kernel_rfl) (fun a_39 f_51 => ?_)
                obtain ⟨g_2, hF_18⟩ := need_some hF_17
                refine W_run (L' := [(1, .slice A1 d1.length cap1), (8, .slice A_2 x_2.length cap_2), (9, .slice A_4 s_1.1.length cap_4), (10, .int .i64 s_1.2), (11, .bool (decide (x_7 = 3))), (39, .int .i64 s_2.2), (40, .int .i64 (IntKind.wrap .i64 (s_2.2 + 1)))]) (w' := w_4) f_51 1 [1, 8, 9, 10, 11, 39, 40] (by kernel_rfl) (fun a_40 f_52 => ?_)
                have f_53 := Frm.set f_52 40 (v := .int .i64 (IntKind.wrap .i64 (s_2.2 + 1))) (v' := .int .i64 (s_2.2 + 1)) (by kernel_rfl) (congrArg (Value.int .i64) (inR_wrap g_2))
                have f_54 : Frm 66 [(1, .slice A1 d1.length cap1), (8, .slice A_2 x_2.length cap_2), (9, .slice A_4 s_1.1.length cap_4), (10, .int .i64 s_1.2), (11, .bool (decide (x_7 = 3))), (39, .int .i64 s_2.2), (40, .int .i64 (s_2.2 + 1))] a_40 := f_53.keep (ks := [1, 8, 9, 10, 11, 39, 40]) (by kernel_rfl)
                refine W_run (L' := [(1, .slice A1 d1.length cap1), (8, .slice A_2 x_2.length cap_2), (9, .slice A_4 s_1.1.length cap_4), (10, .int .i64 s_1.2), (11, .bool (decide (x_7 = 3))), (12, .int .i64 (s_2.2 + 1))]) (w' := w_4) f_54 1 [1, 8, 9, 10, 11, 12] (by kernel_rfl) (fun a_41 f_55 => ?_)
                refine W_end rfl ?_
                refine T_n ?_
                obtain rfl := Option.some.inj hF_18
                exact ⟨⟨m_4, ((decide (x_7 = 3)), s_2.2 + 1)⟩, Nat.lt_succ_self _, M_3, hM_3, hn_2, f_55.keep (ks := [1, 8, 9, 10, 11, 12]) (by kernel_rfl), p_6⟩
            · have hF_19 := cnd_f h_7 hF_13
              have f_56 := Frm.set f_36 52 (v := .bool s_2.1) (v' := .bool false) (by kernel_rfl) (congrArg Value.bool h_7)
              have f_57 : Frm 66 [(1, .slice A1 d1.length cap1), (8, .slice A_2 x_2.length cap_2), (9, .slice A_4 s_1.1.length cap_4), (10, .int .i64 s_1.2), (12, .int .i64 s_2.2), (13, .int .i8 x_7), (52, .bool false)] a_32 := f_56.keep (ks := [1, 8, 9, 10, 12, 13, 52]) (by kernel_rfl)
              refine W_run (L' := [(1, .slice A1 d1.length cap1), (8, .slice A_2 x_2.length cap_2), (9, .slice A_4 s_1.1.length cap_4), (10, .int .i64 s_1.2), (11, .bool false), (12, .int .i64 s_2.2)]) (w' := w_4) f_57 8 [1, 8, 9, 10, 11, 12] (by kernel_rfl) (fun a_42 f_58 => ?_)
              refine W_end rfl ?_
              refine B_n ?_
              refine T_n ?_
              refine R_reg ?_
              refine W_run (L' := [(1, .slice A1 d1.length cap1), (8, .slice A_2 x_2.length cap_2), (9, .slice A_4 s_1.1.length cap_4), (10, .int .i64 s_1.2), (11, .bool false), (39, .int .i64 s_2.2)]) (w' := w_4) f_58 1 [1, 8, 9, 10, 11, 39] (by kernel_rfl) (fun a_43 f_59 => ?_)
              obtain ⟨g_3, hF_20⟩ := need_some hF_19
              refine W_run (L' := [(1, .slice A1 d1.length cap1), (8, .slice A_2 x_2.length cap_2), (9, .slice A_4 s_1.1.length cap_4), (10, .int .i64 s_1.2), (11, .bool false), (39, .int .i64 s_2.2), (40, .int .i64 (IntKind.wrap .i64 (s_2.2 + 1)))]) (w' := w_4) f_59 1 [1, 8, 9, 10, 11, 39, 40] (by kernel_rfl) (fun a_44 f_60 => ?_)
              have f_61 := Frm.set f_60 40 (v := .int .i64 (IntKind.wrap .i64 (s_2.2 + 1))) (v' := .int .i64 (s_2.2 + 1)) (by kernel_rfl) (congrArg (Value.int .i64) (inR_wrap g_3))
              have f_62 : Frm 66 [(1, .slice A1 d1.length cap1), (8, .slice A_2 x_2.length cap_2), (9, .slice A_4 s_1.1.length cap_4), (10, .int .i64 s_1.2), (11, .bool false), (39, .int .i64 s_2.2), (40, .int .i64 (s_2.2 + 1))] a_44 := f_61.keep (ks := [1, 8, 9, 10, 11, 39, 40]) (by kernel_rfl)
              refine W_run (L' := [(1, .slice A1 d1.length cap1), (8, .slice A_2 x_2.length cap_2), (9, .slice A_4 s_1.1.length cap_4), (10, .int .i64 s_1.2), (11, .bool false), (12, .int .i64 (s_2.2 + 1))]) (w' := w_4) f_62 1 [1, 8, 9, 10, 11, 12] (by kernel_rfl) (fun a_45 f_63 => ?_)
              refine W_end rfl ?_
              refine T_n ?_
              obtain rfl := Option.some.inj hF_20
              exact ⟨⟨m_4, ((false), s_2.2 + 1)⟩, Nat.lt_succ_self _, M_3, hM_3, hn_2, f_63.keep (ks := [1, 8, 9, 10, 11, 12]) (by kernel_rfl), p_6⟩
          · have k_9 : ¬ (s_2.2 < ((x_4.length : Nat) : Int)) := iff_f decide_eq_true_iff h_5
            have hF_21 := cnd_f h_5 hF_9
            refine wp_exit ?_
            refine T_x ?_
            refine T_x ?_
            obtain rfl := Option.some.inj hF_21
            exact ⟨rfl, (s_2.1), (Option.some.inj hn_2).symm, M_3, hM_3, f_26.keep (ks := [1, 8, 9, 10, 11]) (by kernel_rfl), p_6⟩
        · rintro _ a_47 w_6 ⟨rfl, y_1, hq_, M_4, hM_4, f_64, p_7⟩
          subst b_2
          refine B_x ?_
          refine T_n ?_
          refine R_seq ?_
          refine R_reg ?_
          refine W_run (L' := [(1, .slice A1 d1.length cap1), (8, .slice A_2 x_2.length cap_2), (9, .slice A_4 s_1.1.length cap_4), (10, .int .i64 s_1.2), (60, .bool y_1)]) (w' := w_6) f_64 1 [1, 8, 9, 10, 60] (by kernel_rfl) (fun a_48 f_65 => ?_)
          refine W_end rfl ?_
          refine T_n ?_
          refine R_cond f_65 (b := y_1) (by kernel_rfl) (by kernel_rfl) (fun h_9 => ?_) (fun h_9 => ?_)
          · have hF_22 := cnd_t h_9 hF_8
            refine R_reg ?_
            refine W_run (L' := [(1, .slice A1 d1.length cap1), (8, .slice A_2 x_2.length cap_2), (10, .int .i64 s_1.2), (61, .slice A_4 s_1.1.length cap_4), (62, .int .i64 s_1.2)]) (w' := w_6) f_65 2 [1, 8, 10, 61, 62] (by kernel_rfl) (fun a_49 f_66 => ?_)
            refine W_alloc f_66 p_7 1 [1, 8, 10, 61, 62, 63] (.cells #[.int .i64 s_1.2] 3 (0, 0)) (fun b_3 => [(1, .slice A1 d1.length cap1), (8, .slice A_2 x_2.length cap_2), (10, .int .i64 s_1.2), (61, .slice A_4 s_1.1.length cap_4), (62, .int .i64 s_1.2), (63, .slice (some ⟨b_3, 0, none⟩) 1 1)]) (fun _ => by kernel_rfl) (fun b_3 w_7 p_8 a_50 f_67 => ?_)
            replace f_67 : Frm 66 [(1, .slice A1 d1.length cap1), (8, .slice A_2 x_2.length cap_2), (10, .int .i64 s_1.2), (61, .slice A_4 s_1.1.length cap_4), (62, .int .i64 s_1.2), (63, .slice (some ⟨b_3, 0, none⟩) 1 1)] a_50 := f_67
            have p_9 : Hp w0 M_4 ((Ent.row 3 1 (.slice A_4 s_1.1.length cap_4) s_1.1.length cs_1) :: (Ent.obj b_3 (.cells #[.int .i64 s_1.2] 3 (0, 0))) :: H) w_7 := p_8.pull 1 rfl rfl
            obtain ⟨g_4, hF_23⟩ := need_some hF_22
            refine W_appendL (z := .int .i64 0) (f := (Dat.int .i64)) (xs := s_1.1) (ys := [s_1.2]) (news := [.int .i64 s_1.2]) (ad := ⟨b_3, 0, none⟩) (m := 1) (c := 1) f_67 p_9 (RepSeq.mono hM_4 _ _ hr_3) (by exact ⟨_, _, rfl, rfl, rfl⟩) (by kernel_rfl) (by kernel_rfl) rfl rfl rfl (by kernel_rfl) (by kernel_rfl) (by kernel_rfl) (by kernel_rfl) rfl (own_cells (p_9.ownCell 1 rfl) 0 rfl) (by exact g_4) (by have hg_ := g_4; first | omega | (simp only [List.length_cons, List.length_nil] at *; omega)) (fun A_7 cap_7 cs_2 w_8 p_10 hr_9 a_51 f_68 => ?_)
            have p_11 : Hp w0 M_4 ((Ent.obj b_3 (.cells #[.int .i64 s_1.2] 3 (0, 0))) :: (Ent.row 3 1 (.slice A_7 (s_1.1 ++ [s_1.2]).length cap_7) (s_1.1 ++ [s_1.2]).length cs_2) :: H) w_8 := p_10.pull 1 rfl rfl
            have p_12 := p_11.drop
            refine W_run (L' := [(1, .slice A1 d1.length cap1), (8, .slice A_2 x_2.length cap_2), (9, .slice A_7 (s_1.1 ++ [s_1.2]).length cap_7), (10, .int .i64 s_1.2)]) (w' := w_8) f_68 1 [1, 8, 9, 10] (by kernel_rfl) (fun a_52 f_69 => ?_)
            refine W_end rfl ?_
            refine B_n ?_
            refine T_n ?_
            refine R_reg ?_
            refine W_run (L' := [(1, .slice A1 d1.length cap1), (8, .slice A_2 x_2.length cap_2), (9, .slice A_7 (s_1.1 ++ [s_1.2]).length cap_7), (25, .int .i64 s_1.2)]) (w' := w_8) f_69 1 [1, 8, 9, 25] (by kernel_rfl) (fun a_53 f_70 => ?_)
            obtain ⟨g_5, hF_24⟩ := need_some hF_23
            refine W_run (L' := [(1, .slice A1 d1.length cap1), (8, .slice A_2 x_2.length cap_2), (9, .slice A_7 (s_1.1 ++ [s_1.2]).length cap_7), (25, .int .i64 s_1.2), (26, .int .i64 (IntKind.wrap .i64 (s_1.2 + 1)))]) (w' := w_8) f_70 1 [1, 8, 9, 25, 26] (by kernel_rfl) (fun a_54 f_71 => ?_)
            have f_72 := Frm.set f_71 26 (v := .int .i64 (IntKind.wrap .i64 (s_1.2 + 1))) (v' := .int .i64 (s_1.2 + 1)) (by kernel_rfl) (congrArg (Value.int .i64) (inR_wrap g_5))
            have f_73 : Frm 66 [(1, .slice A1 d1.length cap1), (8, .slice A_2 x_2.length cap_2), (9, .slice A_7 (s_1.1 ++ [s_1.2]).length cap_7), (25, .int .i64 s_1.2), (26, .int .i64 (s_1.2 + 1))] a_54 := f_72.keep (ks := [1, 8, 9, 25, 26]) (by kernel_rfl)
            refine W_run (L' := [(1, .slice A1 d1.length cap1), (8, .slice A_2 x_2.length cap_2), (9, .slice A_7 (s_1.1 ++ [s_1.2]).length cap_7), (10, .int .i64 (s_1.2 + 1))]) (w' := w_8) f_73 1 [1, 8, 9, 10] (by kernel_rfl) (fun a_55 f_74 => ?_)
            refine W_end rfl ?_
            refine T_n ?_
            obtain rfl := Option.some.inj hF_24
            exact ⟨⟨m_2, (s_1.1 ++ [s_1.2], s_1.2 + 1), A_7, cap_7, cs_2⟩, Nat.lt_succ_self _, M_4, (hM_2.trans hM_4), ⟨hn_1, hr_9⟩, f_74.keep (ks := [1, 8, 9, 10]) (by kernel_rfl), p_12⟩
          · have hF_25 := cnd_f h_9 hF_8
            refine wp_skip ?_
            refine B_n ?_
            refine T_n ?_
            refine R_reg ?_
            refine W_run (L' := [(1, .slice A1 d1.length cap1), (8, .slice A_2 x_2.length cap_2), (9, .slice A_4 s_1.1.length cap_4), (25, .int .i64 s_1.2)]) (w' := w_6) f_65 1 [1, 8, 9, 25] (by kernel_rfl) (fun a_56 f_75 => ?_)
            obtain ⟨g_6, hF_26⟩ := need_some hF_25
            refine W_run (L' := [(1, .slice A1 d1.length cap1), (8, .slice A_2 x_2.length cap_2), (9, .slice A_4 s_1.1.length cap_4), (25, .int .i64 s_1.2), (26, .int .i64 (IntKind.wrap .i64 (s_1.2 + 1)))]) (w' := w_6) f_75 1 [1, 8, 9, 25, 26] (by kernel_rfl) (fun a_57 f_76 => ?_)
            have f_77 := Frm.set f_76 26 (v := .int .i64 (IntKind.wrap .i64 (s_1.2 + 1))) (v' := .int .i64 (s_1.2 + 1)) (by kernel_rfl) (congrArg (Value.int .i64) (inR_wrap g_6))
            have f_78 : Frm 66 [(1, .slice A1 d1.length cap1), (8, .slice A_2 x_2.length cap_2), (9, .slice A_4 s_1.1.length cap_4), (25, .int .i64 s_1.2), (26, .int .i64 (s_1.2 + 1))] a_57 := f_77.keep (ks := [1, 8, 9, 25, 26]) (by kernel_rfl)
            refine W_run (L' := [(1, .slice A1 d1.length cap1), (8, .slice A_2 x_2.length cap_2), (9, .slice A_4 s_1.1.length cap_4), (10, .int .i64 (s_1.2 + 1))]) (w' := w_6) f_78 1 [1, 8, 9, 10] (by kernel_rfl) (fun a_58 f_79 => ?_)
            refine W_end rfl ?_
            refine T_n ?_
            obtain rfl := Option.some.inj hF_26
            exact ⟨⟨m_2, (s_1.1, s_1.2 + 1), A_4, cap_4, cs_1⟩, Nat.lt_succ_self _, M_4, (hM_2.trans hM_4), ⟨hn_1, (RepSeq.mono hM_4 _ _ hr_3)⟩, f_79.keep (ks := [1, 8, 9, 10]) (by kernel_rfl), p_7⟩
      · have k_12 : ¬ (s_1.2 < ((x_2.length : Nat) : Int)) := iff_f decide_eq_true_iff h_3
        have hF_27 := cnd_f h_3 hs_1
        refine wp_exit ?_
        refine T_x ?_
        refine T_x ?_
        obtain rfl := Option.some.inj hF_27
        exact ⟨rfl, s_1.1, (Option.some.inj hn_1).symm, M_2, hM_2, A_4, cap_4, cs_1, hr_3, f_16.keep (ks := [9]) (by kernel_rfl), p_5⟩
    · rintro _ a_60 w_10 ⟨rfl, y_2, hq_, M_5, hM_5, A_8, cap_8, cs_3, hr_10, f_80, p_13⟩
      subst b_1
      refine B_x ?_
      refine T_n ?_
      refine R_seq ?_
      refine R_reg ?_
      refine W_run (L' := [(6, .slice A_8 y_2.length cap_8), (7, .int .i64 0)]) (w' := w_10) f_80 3 [6, 7] (by kernel_rfl) (fun a_61 f_81 => ?_)
      refine W_end rfl ?_
      refine T_n ?_
      refine wp_ret ?_
      refine E_ret2 f_81 rfl (by kernel_rfl : Vc.look _ 6 = some (.slice A_8 y_2.length cap_8)) (by kernel_rfl : Vc.look _ 7 = some (.int .i64 0)) ?_
      obtain rfl := Option.some.inj hF_5
      exact ⟨_, rfl, M_5, _, (hM_1.trans hM_5), p_13, ⟨A_8, cap_8, cs_3, rfl, rfl, hr_10⟩⟩

def ref21_Settle_s3 (n : Nat) (x_2 : List (List Int)) (s_2 : List Int × Bool × Int) (s_3 : List Int × Bool × Int) : Option (Lp (List Int × Bool × Int) (List Int × Bool)) :=
    (getI x_2 s_2.2.2).bind fun x_3 =>
    bif (decide (s_3.2.2 < ((x_3.length : Nat) : Int))) then
      ((getI x_2 s_2.2.2).bind fun x_4 =>
      (getI x_4 s_3.2.2).bind fun x_5 =>
      (getI s_3.1 x_5).bind fun x_6 =>
      (((getI s_3.1 s_2.2.2).bind fun x_7 =>
        bif (decide (x_7 = 1)) then
          (bif (decide (x_6 = 4)) then
            (some ((true)))
          else
            some ((decide (x_6 = 5))))
        else
          some ((false)) : Option Bool)).bind fun y_1 =>
      bif y_1 then
        ((getI s_3.1 s_2.2.2).bind fun x_8 =>
        need (inR .i64 (s_3.2.2 + 1)) <|
        some (.nx (s_3.1.set s_2.2.2.toNat (5 : Int), (true), s_3.2.2 + 1)))
      else
        need (inR .i64 (s_3.2.2 + 1)) <|
        some (.nx (s_3.1, (s_3.2.1), s_3.2.2 + 1)))
    else
      some (.br (s_3.1, (s_3.2.1)))
def ref21_Settle_s2 (n : Nat) (x_2 : List (List Int)) (s_2 : List Int × Bool × Int) : Option (Lp (List Int × Bool × Int) (List Int × Bool)) :=
    bif (decide (s_2.2.2 < ((x_2.length : Nat) : Int))) then
      ((loopF (ref21_Settle_s3 n x_2 s_2) n (s_2.1, (s_2.2.1), (0 : Int))).bind fun y_2 =>
      need (inR .i64 (s_2.2.2 + 1)) <|
      some (.nx (y_2.1, (y_2.2), s_2.2.2 + 1)))
    else
      some (.br (s_2.1, (s_2.2.1)))
def ref21_Settle_s1 (n : Nat) (x_2 : List (List Int)) (s_1 : List Int × Bool) : Option (Lp (List Int × Bool) (List Int)) :=
    bif s_1.2 then
      ((loopF (ref21_Settle_s2 n x_2) n (s_1.1, (false), (0 : Int))).bind fun y_3 =>
      some (.nx (y_3.1, (y_3.2))))
    else
      some (.br s_1.1)
def ref21_Settle (n : Nat) (d0 : List (List Int)) (d1 : List Int) (d2 : Bool) : Option (List Int × Int) :=
  (ref21_May n d0 d1).bind fun x_1 =>
  bif !x_1 then
    (some ((([] : List Int), (2 : Int))))
  else
    (ref21_way n d0 (d2)).bind fun x_2 =>
    need ((([] : List Int).length + d1.length) * 1 ≤ 140737488355328) <|
    (loopF (ref21_Settle_s1 n x_2) n (([] : List Int) ++ d1, (true))).bind fun y_4 =>
    some ((y_4, (0 : Int)))
set_option maxRecDepth 20000 in
theorem ref21_Settle_ok (n : Nat) (M : Mem) (A0 : Option Addr) (cap0 : Nat) (d0 : List (List Int)) (h0 : Sli M 1 (eL 1 (Dat.int .i64)) A0 cap0 d0) (A1 : Option Addr) (cap1 : Nat) (d1 : List Int) (h1 : Sli M 1 (Dat.int .i8) A1 cap1 d1) (d2 : Bool) (r : List Int × Int) (hF : ref21_Settle n d0 d1 d2 = some r) : OkH Try.prog M [] 10 [.slice A0 d0.length cap0, .slice A1 d1.length cap1, .bool d2] (fun M' E' v => ∃ (A0 : Option Addr) (k0 : Nat) (s0 : List Value), v = .tuple #[.slice A0 r.1.length k0, .int .i64 r.2] ∧ E' = [.row 24 1 (.slice A0 r.1.length k0) r.1.length s0] ∧ RepSeq M' (r.1.map (Dat.int .i8)) s0) := by
  unfold ref21_Settle at hF
  intro M1 hM0 w0 H w p0
  replace h0 := h0.mono hM0
  replace h1 := h1.mono hM0
  refine R_enter 67 Try.func10 rfl rfl (by simp) (fun a0 f0 => ?_)
  replace f0 : Frm 67 [(0, .slice A0 d0.length cap0), (1, .slice A1 d1.length cap1), (2, .bool d2)] a0 := f0
  refine R_seq ?_
  refine R_reg ?_
  refine W_run (L' := [(0, .slice A0 d0.length cap0), (1, .slice A1 d1.length cap1), (2, .bool d2)]) (w' := w) f0 2 [0, 1, 2] (by kernel_rfl) (fun a_1 f_1 => ?_)
  refine W_end rfl ?_
  refine T_n ?_
  refine R_seq ?_
  refine R_seq ?_
  refine R_reg ?_
  refine W_run (L' := [(0, .slice A0 d0.length cap0), (1, .slice A1 d1.length cap1), (2, .bool d2), (14, .slice A0 d0.length cap0), (15, .slice A1 d1.length cap1)]) (w' := w) f_1 2 [0, 1, 2, 14, 15] (by kernel_rfl) (fun a_2 f_2 => ?_)
  obtain ⟨x_1, hx_1, hF_1⟩ := bind_some' hF
  refine W_okv (v := .bool x_1) f_2 p0 (by kernel_rfl) (by kernel_rfl) rfl rfl (fun _ => by kernel_rfl) (ref21_May_ok n _ A0 cap0 d0 h0 A1 cap1 d1 h1 x_1 hx_1) (fun w_1 p_1 a_3 f_3 => ?_)
  refine W_run (L' := [(0, .slice A0 d0.length cap0), (1, .slice A1 d1.length cap1), (2, .bool d2), (17, .bool !x_1)]) (w' := w_1) f_3 1 [0, 1, 2, 17] (by kernel_rfl) (fun a_4 f_4 => ?_)
  refine W_end rfl ?_
  refine T_n ?_
  refine R_cond f_4 (b := !x_1) (by kernel_rfl) (by kernel_rfl) (fun h_1 => ?_) (fun h_1 => ?_)
  · have k_1 : (x_1) = false := by simpa using h_1
    have hF_2 := cnd_t h_1 hF_1
    refine R_seq ?_
    refine R_reg ?_
    refine W_run (L' := [(6, .slice none 0 0), (7, .int .i64 2)]) (w' := w_1) f_4 2 [6, 7] (by kernel_rfl) (fun a_5 f_5 => ?_)
    refine W_end rfl ?_
    refine T_n ?_
    refine wp_ret ?_
    refine T_r ?_
    obtain ⟨A_1, cap_1, hv_1⟩ : ∃ A cap, Value.slice none 0 0 = .slice A ([] : List Int).length cap := ⟨none, 0, rfl⟩
    have p_2 : Hp w0 M1 ((Ent.row 24 1 (.slice A_1 ([] : List Int).length cap_1) ([] : List Int).length []) :: H) w_1 := by rw [← hv_1]; exact p_1.nilRow 24 1
    have f_6 := Frm.set f_5 6 (v := .slice none 0 0) (v' := .slice A_1 ([] : List Int).length cap_1) (by kernel_rfl) (hv_1)
    have f_7 : Frm 67 [(6, .slice A_1 ([] : List Int).length cap_1), (7, .int .i64 2)] a_5 := f_6.keep (ks := [6, 7]) (by kernel_rfl)
    have hr_1 : RepSeq M1 (([] : List Int).map (Dat.int .i8)) [] := rfl
    refine E_ret2 f_7 rfl (by kernel_rfl : Vc.look _ 6 = some (.slice A_1 ([] : List Int).length cap_1)) (by kernel_rfl : Vc.look _ 7 = some (.int .i64 2)) ?_
    obtain rfl := Option.some.inj hF_2
    exact ⟨_, rfl, M1, _, (Mem.le_refl _), p_2, ⟨A_1, cap_1, [], rfl, rfl, hr_1⟩⟩
  · have k_2 : (x_1) = true := by simpa using h_1
    have hF_3 := cnd_f h_1 hF_1
    refine wp_skip ?_
    refine T_n ?_
    refine R_seq ?_
    refine R_reg ?_
    refine W_run (L' := [(1, .slice A1 d1.length cap1), (18, .slice A0 d0.length cap0), (19, .bool d2)]) (w' := w_1) f_4 2 [1, 18, 19] (by kernel_rfl) (fun a_6 f_8 => ?_)
    obtain ⟨x_2, hx_2, hF_4⟩ := bind_some' hF_3
    refine W_ok f_8 p_1 (by kernel_rfl) (by kernel_rfl) rfl rfl (fun _ => by kernel_rfl) (ref21_way_ok n _ A0 cap0 d0 h0 (d2) x_2 hx_2) (fun u_1 M_1 w_2 hM_1 p_3 q_1 a_7 f_9 => ?_)
    obtain ⟨A_2, cap_2, rfl, h_2⟩ := q_1
    refine W_run (L' := [(1, .slice A1 d1.length cap1), (8, .slice A_2 x_2.length cap_2)]) (w' := w_2) f_9 1 [1, 8] (by kernel_rfl) (fun a_8 f_10 => ?_)
    refine W_end rfl ?_
    refine T_n ?_
    refine R_seq ?_
    refine R_reg ?_
    refine W_run (L' := [(1, .slice A1 d1.length cap1), (8, .slice A_2 x_2.length cap_2), (9, .slice none 0 0)]) (w' := w_2) f_10 1 [1, 8, 9] (by kernel_rfl) (fun a_9 f_11 => ?_)
    refine W_end rfl ?_
    refine T_n ?_
    refine R_seq ?_
    refine R_reg ?_
    refine W_run (L' := [(8, .slice A_2 x_2.length cap_2), (21, .slice none 0 0), (22, .slice A1 d1.length cap1)]) (w' := w_2) f_11 2 [8, 21, 22] (by kernel_rfl) (fun a_10 f_12 => ?_)
    obtain ⟨A_3, cap_3, hv_2⟩ : ∃ A cap, Value.slice none 0 0 = .slice A ([] : List Int).length cap := ⟨none, 0, rfl⟩
    have p_4 : Hp w0 M_1 ((Ent.row 24 1 (.slice A_3 ([] : List Int).length cap_3) ([] : List Int).length []) :: H) w_2 := by rw [← hv_2]; exact p_3.nilRow 24 1
    have f_13 := Frm.set f_12 21 (v := .slice none 0 0) (v' := .slice A_3 ([] : List Int).length cap_3) (by kernel_rfl) (hv_2)
    have f_14 : Frm 67 [(8, .slice A_2 x_2.length cap_2), (21, .slice A_3 ([] : List Int).length cap_3), (22, .slice A1 d1.length cap1)] a_10 := f_13.keep (ks := [8, 21, 22]) (by kernel_rfl)
    have hr_2 : RepSeq M_1 (([] : List Int).map (Dat.int .i8)) [] := rfl
    obtain ⟨g_1, hF_5⟩ := need_some hF_4
    refine W_appendS (z := .int .i8 0) (f := (Dat.int .i8)) (xs := ([] : List Int)) (ys := d1) (c := cap1) f_14 p_4 hr_2 (h1.mono hM_1) (by kernel_rfl) (by kernel_rfl) rfl rfl rfl (by kernel_rfl) (by kernel_rfl) (by kernel_rfl) (by kernel_rfl) g_1 (by omega) (fun A_4 cap_4 cs_1 w_3 p_5 hr_3 a_11 f_15 => ?_)
    refine W_run (L' := [(8, .slice A_2 x_2.length cap_2), (9, .slice A_4 (([] : List Int) ++ d1).length cap_4)]) (w' := w_3) f_15 1 [8, 9] (by kernel_rfl) (fun a_12 f_16 => ?_)
    refine W_end rfl ?_
    refine T_n ?_
    refine R_seq ?_
    refine R_seq ?_
    refine R_reg ?_
    refine W_run (L' := [(8, .slice A_2 x_2.length cap_2), (9, .slice A_4 (([] : List Int) ++ d1).length cap_4), (10, .bool true)]) (w' := w_3) f_16 1 [8, 9, 10] (by kernel_rfl) (fun a_13 f_17 => ?_)
    refine W_end rfl ?_
    refine T_n ?_
    refine wp_block ?_
    obtain ⟨b_1, hL_1, hF_6⟩ := bind_some' hF_5
    refine wp_mono (Q := fun e a w => (e = .exit 0 ∧ (∃ y_4 : List Int, b_1 = y_4 ∧ ∃ M_8 : Mem, M_1.le M_8 ∧ ∃ (A_12 : Option Addr), ∃ (cap_15 : Nat), ∃ (cs_7 : List Value), RepSeq M_8 (y_4.map (Dat.int .i8)) cs_7 ∧ Frm 67 [(9, .slice A_12 y_4.length cap_15)] a ∧ Hp w0 M_8 ((Ent.row 24 1 (.slice A_12 y_4.length cap_15) y_4.length cs_7) :: H) w))) (R_loop (n := 67) (w0 := w0) (M := M_1) (fun (x : Nat × (List Int × Bool) × (Option Addr) × Nat × (List Value)) => match x with | (m_1, s_1, A_5, cap_5, cs_2) => [(8, .slice A_2 x_2.length cap_2), (9, .slice A_5 s_1.1.length cap_5), (10, .bool s_1.2)]) (fun (x : Nat × (List Int × Bool) × (Option Addr) × Nat × (List Value)) => match x with | (m_1, s_1, A_5, cap_5, cs_2) => ((Ent.row 24 1 (.slice A_5 s_1.1.length cap_5) s_1.1.length cs_2) :: H)) (fun (x : Nat × (List Int × Bool) × (Option Addr) × Nat × (List Value)) (MM : Mem) => match x with | (m_1, s_1, A_5, cap_5, cs_2) => loopF (ref21_Settle_s1 n x_2) m_1 s_1 = some b_1 ∧ RepSeq MM (s_1.1.map (Dat.int .i8)) cs_2) (fun (x : Nat × (List Int × Bool) × (Option Addr) × Nat × (List Value)) => match x with | (m_1, s_1, A_5, cap_5, cs_2) => m_1) (n, (([] : List Int) ++ d1, (true)), A_4, cap_4, cs_1) (f_17.keep (ks := [8, 9, 10]) (by kernel_rfl)) p_5 ⟨hL_1, hr_3⟩ ?_) ?_
    · rintro ⟨m_1, s_1, A_5, cap_5, cs_2⟩ M_2 a_14 w_4 hM_2 I_1 f_18 p_6
      replace f_18 : Frm 67 [(8, .slice A_2 x_2.length cap_2), (9, .slice A_5 s_1.1.length cap_5), (10, .bool s_1.2)] a_14 := f_18
      replace p_6 : Hp w0 M_2 ((Ent.row 24 1 (.slice A_5 s_1.1.length cap_5) s_1.1.length cs_2) :: H) w_4 := p_6
      obtain ⟨I_1L, hr_4⟩ := I_1
      obtain ⟨m_2, r_1, rfl, hs_1, hn_1⟩ := loop_step I_1L
      unfold ref21_Settle_s1 at hs_1
      refine R_seq ?_
      refine R_seq ?_
      refine R_reg ?_
      refine W_run (L' := [(8, .slice A_2 x_2.length cap_2), (9, .slice A_5 s_1.1.length cap_5), (24, .bool s_1.2)]) (w' := w_4) f_18 1 [8, 9, 24] (by kernel_rfl) (fun a_15 f_19 => ?_)
      refine W_end rfl ?_
      refine T_n ?_
      refine R_cond f_19 (b := s_1.2) (by kernel_rfl) (by kernel_rfl) (fun h_3 => ?_) (fun h_3 => ?_)
      · have hF_7 := cnd_t h_3 hs_1
        refine wp_skip ?_
        refine T_n ?_
        refine wp_block ?_
        refine R_seq ?_
        refine R_reg ?_
        refine W_run (L' := [(8, .slice A_2 x_2.length cap_2), (9, .slice A_5 s_1.1.length cap_5), (10, .bool false)]) (w' := w_4) f_19 1 [8, 9, 10] (by kernel_rfl) (fun a_16 f_20 => ?_)
        refine W_end rfl ?_
        refine T_n ?_
        refine R_seq ?_
        refine R_reg ?_
        refine W_run (L' := [(8, .slice A_2 x_2.length cap_2), (9, .slice A_5 s_1.1.length cap_5), (10, .bool false), (11, .int .i64 0)]) (w' := w_4) f_20 1 [8, 9, 10, 11] (by kernel_rfl) (fun a_17 f_21 => ?_)
        refine W_end rfl ?_
        refine T_n ?_
        refine wp_block ?_
        obtain ⟨b_2, hL_2, hF_8⟩ := bind_some' hF_7
        refine wp_mono (Q := fun e a w => (e = .exit 2 ∧ (∃ y_3 : List Int × Bool, b_2 = y_3 ∧ ∃ M_7 : Mem, M_2.le M_7 ∧ ∃ (A_11 : Option Addr), ∃ (cap_14 : Nat), ∃ (cs_6 : List Value), RepSeq M_7 (y_3.1.map (Dat.int .i8)) cs_6 ∧ Frm 67 [(8, .slice A_2 x_2.length cap_2), (9, .slice A_11 y_3.1.length cap_14), (10, .bool y_3.2)] a ∧ Hp w0 M_7 ((Ent.row 24 1 (.slice A_11 y_3.1.length cap_14) y_3.1.length cs_6) :: H) w))) (R_loop (n := 67) (w0 := w0) (M := M_2) (fun (x : Nat × (List Int × Bool × Int) × (Option Addr) × Nat × (List Value)) => match x with | (m_3, s_2, A_6, cap_6, cs_3) => [(8, .slice A_2 x_2.length cap_2), (9, .slice A_6 s_2.1.length cap_6), (10, .bool s_2.2.1), (11, .int .i64 s_2.2.2)]) (fun (x : Nat × (List Int × Bool × Int) × (Option Addr) × Nat × (List Value)) => match x with | (m_3, s_2, A_6, cap_6, cs_3) => ((Ent.row 24 1 (.slice A_6 s_2.1.length cap_6) s_2.1.length cs_3) :: H)) (fun (x : Nat × (List Int × Bool × Int) × (Option Addr) × Nat × (List Value)) (MM : Mem) => match x with | (m_3, s_2, A_6, cap_6, cs_3) => loopF (ref21_Settle_s2 n x_2) m_3 s_2 = some b_2 ∧ RepSeq MM (s_2.1.map (Dat.int .i8)) cs_3) (fun (x : Nat × (List Int × Bool × Int) × (Option Addr) × Nat × (List Value)) => match x with | (m_3, s_2, A_6, cap_6, cs_3) => m_3) (n, (s_1.1, (false), (0 : Int)), A_5, cap_5, cs_2) (f_21.keep (ks := [8, 9, 10, 11]) (by kernel_rfl)) p_6 ⟨hL_2, hr_4⟩ ?_) ?_
        · rintro ⟨m_3, s_2, A_6, cap_6, cs_3⟩ M_3 a_18 w_5 hM_3 I_2 f_22 p_7
          replace f_22 : Frm 67 [(8, .slice A_2 x_2.length cap_2), (9, .slice A_6 s_2.1.length cap_6), (10, .bool s_2.2.1), (11, .int .i64 s_2.2.2)] a_18 := f_22
          replace p_7 : Hp w0 M_3 ((Ent.row 24 1 (.slice A_6 s_2.1.length cap_6) s_2.1.length cs_3) :: H) w_5 := p_7
          obtain ⟨I_2L, hr_5⟩ := I_2
          obtain ⟨m_4, r_2, rfl, hs_2, hn_2⟩ := loop_step I_2L
          unfold ref21_Settle_s2 at hs_2
          refine R_seq ?_
          refine R_seq ?_
          refine R_reg ?_
          refine W_run (L' := [(8, .slice A_2 x_2.length cap_2), (9, .slice A_6 s_2.1.length cap_6), (10, .bool s_2.2.1), (11, .int .i64 s_2.2.2), (28, .bool (decide (s_2.2.2 < ((x_2.length : Nat) : Int))))]) (w' := w_5) f_22 4 [8, 9, 10, 11, 28] (by kernel_rfl) (fun a_19 f_23 => ?_)
          refine W_end rfl ?_
          refine T_n ?_
          refine R_cond f_23 (b := decide (s_2.2.2 < ((x_2.length : Nat) : Int))) (by kernel_rfl) (by kernel_rfl) (fun h_4 => ?_) (fun h_4 => ?_)
          · have k_4 : s_2.2.2 < ((x_2.length : Nat) : Int) := decide_eq_true_iff.1 h_4
            have hF_9 := cnd_t h_4 hs_2
            refine wp_skip ?_
            refine T_n ?_
            refine R_seq ?_
            refine wp_block ?_
            refine R_seq ?_
            refine R_reg ?_
            refine W_run (L' := [(8, .slice A_2 x_2.length cap_2), (9, .slice A_6 s_2.1.length cap_6), (10, .bool s_2.2.1), (11, .int .i64 s_2.2.2), (12, .int .i64 0)]) (w' := w_5) f_23 1 [8, 9, 10, 11, 12] (by kernel_rfl) (fun a_20 f_24 => ?_)
            refine W_end rfl ?_
            refine T_n ?_
            refine wp_block ?_
            obtain ⟨b_3, hL_3, hF_10⟩ := bind_some' hF_9
            refine wp_mono (Q := fun e a w => (e = .exit 4 ∧ (∃ y_2 : List Int × Bool, b_3 = y_2 ∧ ∃ M_6 : Mem, M_3.le M_6 ∧ ∃ (A_10 : Option Addr), ∃ (cap_13 : Nat), ∃ (cs_5 : List Value), RepSeq M_6 (y_2.1.map (Dat.int .i8)) cs_5 ∧ Frm 67 [(8, .slice A_2 x_2.length cap_2), (9, .slice A_10 y_2.1.length cap_13), (10, .bool y_2.2), (11, .int .i64 s_2.2.2)] a ∧ Hp w0 M_6 ((Ent.row 24 1 (.slice A_10 y_2.1.length cap_13) y_2.1.length cs_5) :: H) w))) (R_loop (n := 67) (w0 := w0) (M := M_3) (fun (x : Nat × (List Int × Bool × Int) × (Option Addr) × Nat × (List Value)) => match x with | (m_5, s_3, A_7, cap_7, cs_4) => [(8, .slice A_2 x_2.length cap_2), (9, .slice A_7 s_3.1.length cap_7), (10, .bool s_3.2.1), (11, .int .i64 s_2.2.2), (12, .int .i64 s_3.2.2)]) (fun (x : Nat × (List Int × Bool × Int) × (Option Addr) × Nat × (List Value)) => match x with | (m_5, s_3, A_7, cap_7, cs_4) => ((Ent.row 24 1 (.slice A_7 s_3.1.length cap_7) s_3.1.length cs_4) :: H)) (fun (x : Nat × (List Int × Bool × Int) × (Option Addr) × Nat × (List Value)) (MM : Mem) => match x with | (m_5, s_3, A_7, cap_7, cs_4) => loopF (ref21_Settle_s3 n x_2 s_2) m_5 s_3 = some b_3 ∧ RepSeq MM (s_3.1.map (Dat.int .i8)) cs_4) (fun (x : Nat × (List Int × Bool × Int) × (Option Addr) × Nat × (List Value)) => match x with | (m_5, s_3, A_7, cap_7, cs_4) => m_5) (n, (s_2.1, (s_2.2.1), (0 : Int)), A_6, cap_6, cs_3) (f_24.keep (ks := [8, 9, 10, 11, 12]) (by kernel_rfl)) p_7 ⟨hL_3, hr_5⟩ ?_) ?_
            · rintro ⟨m_5, s_3, A_7, cap_7, cs_4⟩ M_4 a_21 w_6 hM_4 I_3 f_25 p_8
              replace f_25 : Frm 67 [(8, .slice A_2 x_2.length cap_2), (9, .slice A_7 s_3.1.length cap_7), (10, .bool s_3.2.1), (11, .int .i64 s_2.2.2), (12, .int .i64 s_3.2.2)] a_21 := f_25
              replace p_8 : Hp w0 M_4 ((Ent.row 24 1 (.slice A_7 s_3.1.length cap_7) s_3.1.length cs_4) :: H) w_6 := p_8
              obtain ⟨I_3L, hr_6⟩ := I_3
              obtain ⟨m_6, r_3, rfl, hs_3, hn_3⟩ := loop_step I_3L
              unfold ref21_Settle_s3 at hs_3
              refine R_seq ?_
              refine R_seq ?_
              refine R_reg ?_
              refine W_run (L' := [(8, .slice A_2 x_2.length cap_2), (9, .slice A_7 s_3.1.length cap_7), (10, .bool s_3.2.1), (11, .int .i64 s_2.2.2), (12, .int .i64 s_3.2.2), (31, .int .i64 s_3.2.2), (32, .slice A_2 x_2.length cap_2), (33, .int .i64 s_2.2.2)]) (w' := w_6) f_25 3 [8, 9, 10, 11, 12, 31, 32, 33] (by kernel_rfl) (fun a_22 f_26 => ?_)
              obtain ⟨x_3, hx_3, hF_11⟩ := bind_some' hs_3
              obtain ⟨ad_1, c_1, e_1, hl_1, hr_7, hc_1⟩ := Sli.at_ (h_2.mono ((hM_2.trans hM_3).trans hM_4)) hx_3
              clear hl_1
              obtain ⟨A_8, cap_8, rfl, h_5⟩ := Rep.sli hr_7
              refine W_eq (v := .pointer (some (ad_1.add (s_2.2.2.toNat * 1)))) f_26 (by kernel_rfl) (by kernel_rfl) rfl rfl (X_indexAddrA e_1 rfl (len := x_2.length) (cap := cap_2) (k := .i64) (i := s_2.2.2) (by kernel_rfl) (by kernel_rfl) (e := 27) (by kernel_rfl) (sz := 1) (by kernel_rfl) (getI_nn hx_3) (getI_lt hx_3)) (fun a_23 f_27 => ?_)
              refine W_eq (v := .slice A_8 x_3.length cap_8) f_27 (by kernel_rfl) (by kernel_rfl) rfl rfl (X_load1 (v := .slice A_8 x_3.length cap_8) rfl (ad := ad_1.add (s_2.2.2.toNat * 1)) (by kernel_rfl) (by kernel_rfl) (p_8.cell (hc_1 0 _ rfl))) (fun a_24 f_28 => ?_)
              refine W_run (L' := [(8, .slice A_2 x_2.length cap_2), (9, .slice A_7 s_3.1.length cap_7), (10, .bool s_3.2.1), (11, .int .i64 s_2.2.2), (12, .int .i64 s_3.2.2), (37, .bool (decide (s_3.2.2 < ((x_3.length : Nat) : Int))))]) (w' := w_6) f_28 2 [8, 9, 10, 11, 12, 37] (by kernel_rfl) (fun a_25 f_29 => ?_)
              refine W_end rfl ?_
              refine T_n ?_
              refine R_cond f_29 (b := decide (s_3.2.2 < ((x_3.length : Nat) : Int))) (by kernel_rfl) (by kernel_rfl) (fun h_6 => ?_) (fun h_6 => ?_)
              · have k_5 : s_3.2.2 < ((x_3.length : Nat) : Int) := decide_eq_true_iff.1 h_6
                have hF_12 := cnd_t h_6 hF_11
                refine wp_skip ?_
                refine T_n ?_
                refine R_seq ?_
                refine wp_block ?_
                refine R_seq ?_
                refine R_reg ?_
                refine W_run (L' := [(8, .slice A_2 x_2.length cap_2), (9, .slice A_7 s_3.1.length cap_7), (10, .bool s_3.2.1), (11, .int .i64 s_2.2.2), (12, .int .i64 s_3.2.2), (40, .slice A_7 s_3.1.length cap_7), (41, .slice A_2 x_2.length cap_2), (42, .int .i64 s_2.2.2)]) (w' := w_6) f_29 3 [8, 9, 10, 11, 12, 40, 41, 42] (by kernel_rfl) (fun a_26 f_30 => ?_)
                obtain ⟨x_4, hx_4, hF_13⟩ := bind_some' hF_12
                obtain ⟨ad_2, c_2, e_2, hl_2, hr_8, hc_2⟩ := Sli.at_ (h_2.mono ((hM_2.trans hM_3).trans hM_4)) hx_4
                clear hl_2
                obtain ⟨A_9, cap_9, rfl, h_7⟩ := Rep.sli hr_8
                refine W_eq (v := .pointer (some (ad_2.add (s_2.2.2.toNat * 1)))) f_30 (by kernel_rfl) (by kernel_rfl) rfl rfl (X_indexAddrA e_2 rfl (len := x_2.length) (cap := cap_2) (k := .i64) (i := s_2.2.2) (by kernel_rfl) (by kernel_rfl) (e := 27) (by kernel_rfl) (sz := 1) (by kernel_rfl) (getI_nn hx_4) (getI_lt hx_4)) (fun a_27 f_31 => ?_)
                refine W_eq (v := .slice A_9 x_4.length cap_9) f_31 (by kernel_rfl) (by kernel_rfl) rfl rfl (X_load1 (v := .slice A_9 x_4.length cap_9) rfl (ad := ad_2.add (s_2.2.2.toNat * 1)) (by kernel_rfl) (by kernel_rfl) (p_8.cell (hc_2 0 _ rfl))) (fun a_28 f_32 => ?_)
                refine W_run (L' := [(8, .slice A_2 x_2.length cap_2), (9, .slice A_7 s_3.1.length cap_7), (10, .bool s_3.2.1), (11, .int .i64 s_2.2.2), (12, .int .i64 s_3.2.2), (40, .slice A_7 s_3.1.length cap_7), (44, .slice A_9 x_4.length cap_9), (45, .int .i64 s_3.2.2)]) (w' := w_6) f_32 1 [8, 9, 10, 11, 12, 40, 44, 45] (by kernel_rfl) (fun a_29 f_33 => ?_)
                obtain ⟨x_5, hx_5, hF_14⟩ := bind_some' hF_13
                obtain ⟨ad_3, c_3, e_3, hl_3, hr_9, hc_3⟩ := Sli.at_ h_7 hx_5
                clear hl_3
                obtain rfl : c_3 = [.int .i64 x_5] := hr_9
                refine W_eq (v := .pointer (some (ad_3.add (s_3.2.2.toNat * 1)))) f_33 (by kernel_rfl) (by kernel_rfl) rfl rfl (X_indexAddrA e_3 rfl (len := x_4.length) (cap := cap_9) (k := .i64) (i := s_3.2.2) (by kernel_rfl) (by kernel_rfl) (e := 3) (by kernel_rfl) (sz := 1) (by kernel_rfl) (getI_nn hx_5) (getI_lt hx_5)) (fun a_30 f_34 => ?_)
                refine W_eq (v := .int .i64 x_5) f_34 (by kernel_rfl) (by kernel_rfl) rfl rfl (X_load1 (v := .int .i64 x_5) rfl (ad := ad_3.add (s_3.2.2.toNat * 1)) (by kernel_rfl) (by kernel_rfl) (p_8.cell (hc_3 0 _ rfl))) (fun a_31 f_35 => ?_)
                obtain ⟨x_6, hx_6, hF_15⟩ := bind_some' hF_14
                obtain ⟨b_4, cap_10, hv_3, hcap_1⟩ := p_8.rowAddr 0 rfl (getI_pos hx_6)
                have f_36 := Frm.set f_35 40 (v := .slice A_7 s_3.1.length cap_7) (v' := .slice (some ⟨b_4, 0, none⟩) s_3.1.length cap_10) (by kernel_rfl) (hv_3)
                have f_37 : Frm 67 [(8, .slice A_2 x_2.length cap_2), (9, .slice A_7 s_3.1.length cap_7), (10, .bool s_3.2.1), (11, .int .i64 s_2.2.2), (12, .int .i64 s_3.2.2), (40, .slice (some ⟨b_4, 0, none⟩) s_3.1.length cap_10), (44, .slice A_9 x_4.length cap_9), (45, .int .i64 s_3.2.2), (46, .pointer (some (ad_3.add (s_3.2.2.toNat * 1)))), (47, .int .i64 x_5)] a_31 := f_36.keep (ks := [8, 9, 10, 11, 12, 40, 44, 45, 46, 47]) (by kernel_rfl)
                refine W_eq (v := .pointer (some ((⟨b_4, 0, none⟩ : Addr).add (x_5.toNat * 1)))) f_37 (by kernel_rfl) (by kernel_rfl) rfl rfl (X_indexAddr rfl (ad := ⟨b_4, 0, none⟩) (len := s_3.1.length) (cap := cap_10) (k := .i64) (i := x_5) (by kernel_rfl) (by kernel_rfl) (e := 24) (by kernel_rfl) (sz := 1) (by kernel_rfl) (getI_nn hx_6) (getI_lt hx_6)) (fun a_32 f_38 => ?_)
                have f_39 := Frm.set f_38 40 (v := .slice (some ⟨b_4, 0, none⟩) s_3.1.length cap_10) (v' := .slice A_7 s_3.1.length cap_7) (by kernel_rfl) (hv_3.symm)
                have f_40 : Frm 67 [(8, .slice A_2 x_2.length cap_2), (9, .slice A_7 s_3.1.length cap_7), (10, .bool s_3.2.1), (11, .int .i64 s_2.2.2), (12, .int .i64 s_3.2.2), (40, .slice A_7 s_3.1.length cap_7), (44, .slice A_9 x_4.length cap_9), (45, .int .i64 s_3.2.2), (46, .pointer (some (ad_3.add (s_3.2.2.toNat * 1)))), (47, .int .i64 x_5), (48, .pointer (some ((⟨b_4, 0, none⟩ : Addr).add (x_5.toNat * 1))))] a_32 := f_39.keep (ks := [8, 9, 10, 11, 12, 40, 44, 45, 46, 47, 48]) (by kernel_rfl)
                obtain ⟨c_4, hl_4, hr_10, hc_4⟩ := RepSeq.get x_5.toNat (szd_all (szd_int .i8)) hr_6 (getI_map hx_6)
                clear hl_4
                obtain rfl : c_4 = [.int .i8 x_6] := hr_10
                refine W_eq (v := .int .i8 x_6) f_40 (by kernel_rfl) (by kernel_rfl) rfl rfl (X_load1 (v := .int .i8 x_6) rfl (ad := (⟨b_4, 0, none⟩ : Addr).add (x_5.toNat * 1)) (by kernel_rfl) (by kernel_rfl) (by simpa [Addr.add] using (fun j v h => row_at (p_8.rowCell 0 rfl hv_3) hc_4 j v h) 0 _ rfl)) (fun a_33 f_41 => ?_)
                refine W_run (L' := [(8, .slice A_2 x_2.length cap_2), (9, .slice A_7 s_3.1.length cap_7), (10, .bool s_3.2.1), (11, .int .i64 s_2.2.2), (12, .int .i64 s_3.2.2), (13, .int .i8 x_6)]) (w' := w_6) f_41 1 [8, 9, 10, 11, 12, 13] (by kernel_rfl) (fun a_34 f_42 => ?_)
                refine W_end rfl ?_
                refine T_n ?_
                refine R_seq ?_
                obtain ⟨j_1, hj_1, hF_16⟩ := bind_some' hF_15
                refine R_mid (fun a_43 w_7 => ∃ y_1 : Bool, j_1 = y_1 ∧ ∃ M_5 : Mem, M_4.le M_5 ∧ Frm 67 [(8, .slice A_2 x_2.length cap_2), (9, .slice A_7 s_3.1.length cap_7), (10, .bool s_3.2.1), (11, .int .i64 s_2.2.2), (12, .int .i64 s_3.2.2), (62, .bool y_1)] a_43 ∧ Hp w0 M_5 ((Ent.row 24 1 (.slice A_7 s_3.1.length cap_7) s_3.1.length cs_4) :: H) w_7) ?_ ?_
                · refine R_reg ?_
                  refine W_run (L' := [(8, .slice A_2 x_2.length cap_2), (9, .slice A_7 s_3.1.length cap_7), (10, .bool s_3.2.1), (11, .int .i64 s_2.2.2), (12, .int .i64 s_3.2.2), (13, .int .i8 x_6), (50, .slice A_7 s_3.1.length cap_7), (51, .int .i64 s_2.2.2)]) (w' := w_6) f_42 2 [8, 9, 10, 11, 12, 13, 50, 51] (by kernel_rfl) (fun a_35 f_43 => ?_)
                  obtain ⟨x_7, hx_7, hF_17⟩ := bind_some' hj_1
                  obtain ⟨b_5, cap_11, hv_4, hcap_2⟩ := p_8.rowAddr 0 rfl (getI_pos hx_7)
                  have f_44 := Frm.set f_43 50 (v := .slice A_7 s_3.1.length cap_7) (v' := .slice (some ⟨b_5, 0, none⟩) s_3.1.length cap_11) (by kernel_rfl) (hv_4)
                  have f_45 : Frm 67 [(8, .slice A_2 x_2.length cap_2), (9, .slice A_7 s_3.1.length cap_7), (10, .bool s_3.2.1), (11, .int .i64 s_2.2.2), (12, .int .i64 s_3.2.2), (13, .int .i8 x_6), (50, .slice (some ⟨b_5, 0, none⟩) s_3.1.length cap_11), (51, .int .i64 s_2.2.2)] a_35 := f_44.keep (ks := [8, 9, 10, 11, 12, 13, 50, 51]) (by kernel_rfl)
                  refine W_eq (v := .pointer (some ((⟨b_5, 0, none⟩ : Addr).add (s_2.2.2.toNat * 1)))) f_45 (by kernel_rfl) (by kernel_rfl) rfl rfl (X_indexAddr rfl (ad := ⟨b_5, 0, none⟩) (len := s_3.1.length) (cap := cap_11) (k := .i64) (i := s_2.2.2) (by kernel_rfl) (by kernel_rfl) (e := 24) (by kernel_rfl) (sz := 1) (by kernel_rfl) (getI_nn hx_7) (getI_lt hx_7)) (fun a_36 f_46 => ?_)
                  have f_47 := Frm.set f_46 50 (v := .slice (some ⟨b_5, 0, none⟩) s_3.1.length cap_11) (v' := .slice A_7 s_3.1.length cap_7) (by kernel_rfl) (hv_4.symm)
                  have f_48 : Frm 67 [(8, .slice A_2 x_2.length cap_2), (9, .slice A_7 s_3.1.length cap_7), (10, .bool s_3.2.1), (11, .int .i64 s_2.2.2), (12, .int .i64 s_3.2.2), (13, .int .i8 x_6), (50, .slice A_7 s_3.1.length cap_7), (51, .int .i64 s_2.2.2), (52, .pointer (some ((⟨b_5, 0, none⟩ : Addr).add (s_2.2.2.toNat * 1))))] a_36 := f_47.keep (ks := [8, 9, 10, 11, 12, 13, 50, 51, 52]) (by kernel_rfl)
                  obtain ⟨c_5, hl_5, hr_11, hc_5⟩ := RepSeq.get s_2.2.2.toNat (szd_all (szd_int .i8)) hr_6 (getI_map hx_7)
                  clear hl_5
                  obtain rfl : c_5 = [.int .i8 x_7] := hr_11
                  refine W_eq (v := .int .i8 x_7) f_48 (by kernel_rfl) (by kernel_rfl) rfl rfl (X_load1 (v := .int .i8 x_7) rfl (ad := (⟨b_5, 0, none⟩ : Addr).add (s_2.2.2.toNat * 1)) (by kernel_rfl) (by kernel_rfl) (by simpa [Addr.add] using (fun j v h => row_at (p_8.rowCell 0 rfl hv_4) hc_5 j v h) 0 _ rfl)) (fun a_37 f_49 => ?_)
                  refine W_run (L' := [(8, .slice A_2 x_2.length cap_2), (9, .slice A_7 s_3.1.length cap_7), (10, .bool s_3.2.1), (11, .int .i64 s_2.2.2), (12, .int .i64 s_3.2.2), (13, .int .i8 x_6), (55, .bool (decide (x_7 = 1)))]) (w' := w_6) f_49 2 [8, 9, 10, 11, 12, 13, 55] (by kernel_rfl) (fun a_38 f_50 => ?_)
                  rcases Bool.eq_false_or_eq_true (decide (x_7 = 1)) with h_8 | h_8
                  · have k_6 : x_7 = 1 := decide_eq_true_iff.1 h_8
                    have hF_18 := cnd_t h_8 hF_17
                    have f_51 := Frm.set f_50 55 (v := .bool (decide (x_7 = 1))) (v' := .bool true) (by kernel_rfl) (congrArg Value.bool h_8)
                    have f_52 : Frm 67 [(8, .slice A_2 x_2.length cap_2), (9, .slice A_7 s_3.1.length cap_7), (10, .bool s_3.2.1), (11, .int .i64 s_2.2.2), (12, .int .i64 s_3.2.2), (13, .int .i8 x_6), (55, .bool true)] a_38 := f_51.keep (ks := [8, 9, 10, 11, 12, 13, 55]) (by kernel_rfl)
                    refine W_run (L' := [(8, .slice A_2 x_2.length cap_2), (9, .slice A_7 s_3.1.length cap_7), (10, .bool s_3.2.1), (11, .int .i64 s_2.2.2), (12, .int .i64 s_3.2.2), (13, .int .i8 x_6), (55, .bool true), (58, .bool (decide (x_6 = 4)))]) (w' := w_6) f_52 3 [8, 9, 10, 11, 12, 13, 55, 58] (by kernel_rfl) (fun a_39 f_53 => ?_)
                    rcases Bool.eq_false_or_eq_true (decide (x_6 = 4)) with h_9 | h_9
                    · have k_7 : x_6 = 4 := decide_eq_true_iff.1 h_9
                      have hF_19 := cnd_t h_9 hF_18
                      have f_54 := Frm.set f_53 58 (v := .bool (decide (x_6 = 4))) (v' := .bool true) (by kernel_rfl) (congrArg Value.bool h_9)
                      have f_55 : Frm 67 [(8, .slice A_2 x_2.length cap_2), (9, .slice A_7 s_3.1.length cap_7), (10, .bool s_3.2.1), (11, .int .i64 s_2.2.2), (12, .int .i64 s_3.2.2), (13, .int .i8 x_6), (55, .bool true), (58, .bool true)] a_39 := f_54.keep (ks := [8, 9, 10, 11, 12, 13, 55, 58]) (by kernel_rfl)
                      refine W_run (L' := [(8, .slice A_2 x_2.length cap_2), (9, .slice A_7 s_3.1.length cap_7), (10, .bool s_3.2.1), (11, .int .i64 s_2.2.2), (12, .int .i64 s_3.2.2), (62, .bool true)]) (w' := w_6) f_55 4 [8, 9, 10, 11, 12, 62] (by kernel_rfl) (fun a_40 f_56 => ?_)
                      refine W_end rfl ?_
                      refine T_n ?_
                      exact ⟨(true), (Option.some.inj hF_19).symm, M_4, (Mem.le_refl _), f_56.keep (ks := [8, 9, 10, 11, 12, 62]) (by kernel_rfl), p_8⟩
                    · have k_8 : ¬ (x_6 = 4) := iff_f decide_eq_true_iff h_9
                      have hF_20 := cnd_f h_9 hF_18
                      have f_57 := Frm.set f_53 58 (v := .bool (decide (x_6 = 4))) (v' := .bool false) (by kernel_rfl) (congrArg Value.bool h_9)
                      have f_58 : Frm 67 [(8, .slice A_2 x_2.length cap_2), (9, .slice A_7 s_3.1.length cap_7), (10, .bool s_3.2.1), (11, .int .i64 s_2.2.2), (12, .int .i64 s_3.2.2), (13, .int .i8 x_6), (55, .bool true), (58, .bool false)] a_39 := f_57.keep (ks := [8, 9, 10, 11, 12, 13, 55, 58]) (by kernel_rfl)
                      refine W_run (L' := [(8, .slice A_2 x_2.length cap_2), (9, .slice A_7 s_3.1.length cap_7), (10, .bool s_3.2.1), (11, .int .i64 s_2.2.2), (12, .int .i64 s_3.2.2), (62, .bool (decide (x_6 = 5)))]) (w' := w_6) f_58 4 [8, 9, 10, 11, 12, 62] (by kernel_rfl) (fun a_41 f_59 => ?_)
                      refine W_end rfl ?_
                      refine T_n ?_
                      exact ⟨(decide (x_6 = 5)), (Option.some.inj hF_20).symm, M_4, (Mem.le_refl _), f_59.keep (ks := [8, 9, 10, 11, 12, 62]) (by kernel_rfl), p_8⟩
                  · have k_9 : ¬ (x_7 = 1) := iff_f decide_eq_true_iff h_8
                    have hF_21 := cnd_f h_8 hF_17
                    have f_60 := Frm.set f_50 55 (v := .bool (decide (x_7 = 1))) (v' := .bool false) (by kernel_rfl) (congrArg Value.bool h_8)
                    have f_61 : Frm 67 [(8, .slice A_2 x_2.length cap_2), (9, .slice A_7 s_3.1.length cap_7), (10, .bool s_3.2.1), (11, .int .i64 s_2.2.2), (12, .int .i64 s_3.2.2), (13, .int .i8 x_6), (55, .bool false)] a_38 := f_60.keep (ks := [8, 9, 10, 11, 12, 13, 55]) (by kernel_rfl)
                    refine W_run (L' := [(8, .slice A_2 x_2.length cap_2), (9, .slice A_7 s_3.1.length cap_7), (10, .bool s_3.2.1), (11, .int .i64 s_2.2.2), (12, .int .i64 s_3.2.2), (62, .bool false)]) (w' := w_6) f_61 7 [8, 9, 10, 11, 12, 62] (by kernel_rfl) (fun a_42 f_62 => ?_)
                    refine W_end rfl ?_
                    refine T_n ?_
                    exact ⟨(false), (Option.some.inj hF_21).symm, M_4, (Mem.le_refl _), f_62.keep (ks := [8, 9, 10, 11, 12, 62]) (by kernel_rfl), p_8⟩
                · rintro a_43 w_7 ⟨y_1, hq_1, M_5, hM_5, f_63, p_9⟩
                  subst j_1
                  refine T_n ?_
                  refine R_cond f_63 (b := y_1) (by kernel_rfl) (by kernel_rfl) (fun h_10 => ?_) (fun h_10 => ?_)
                  · have hF_22 := cnd_t h_10 hF_16
                    refine R_seq ?_
                    refine R_reg ?_
                    refine W_run (L' := [(8, .slice A_2 x_2.length cap_2), (9, .slice A_7 s_3.1.length cap_7), (11, .int .i64 s_2.2.2), (12, .int .i64 s_3.2.2), (63, .slice A_7 s_3.1.length cap_7), (64, .int .i64 s_2.2.2)]) (w' := w_7) f_63 2 [8, 9, 11, 12, 63, 64] (by kernel_rfl) (fun a_44 f_64 => ?_)
                    obtain ⟨x_8, hx_8, hF_23⟩ := bind_some' hF_22
                    obtain ⟨b_6, cap_12, hv_5, hcap_3⟩ := p_9.rowAddr 0 rfl (getI_pos hx_8)
                    have f_65 := Frm.set f_64 63 (v := .slice A_7 s_3.1.length cap_7) (v' := .slice (some ⟨b_6, 0, none⟩) s_3.1.length cap_12) (by kernel_rfl) (hv_5)
                    have f_66 : Frm 67 [(8, .slice A_2 x_2.length cap_2), (9, .slice A_7 s_3.1.length cap_7), (11, .int .i64 s_2.2.2), (12, .int .i64 s_3.2.2), (63, .slice (some ⟨b_6, 0, none⟩) s_3.1.length cap_12), (64, .int .i64 s_2.2.2)] a_44 := f_65.keep (ks := [8, 9, 11, 12, 63, 64]) (by kernel_rfl)
                    refine W_eq (v := .pointer (some ((⟨b_6, 0, none⟩ : Addr).add (s_2.2.2.toNat * 1)))) f_66 (by kernel_rfl) (by kernel_rfl) rfl rfl (X_indexAddr rfl (ad := ⟨b_6, 0, none⟩) (len := s_3.1.length) (cap := cap_12) (k := .i64) (i := s_2.2.2) (by kernel_rfl) (by kernel_rfl) (e := 24) (by kernel_rfl) (sz := 1) (by kernel_rfl) (getI_nn hx_8) (getI_lt hx_8)) (fun a_45 f_67 => ?_)
                    have f_68 := Frm.set f_67 63 (v := .slice (some ⟨b_6, 0, none⟩) s_3.1.length cap_12) (v' := .slice A_7 s_3.1.length cap_7) (by kernel_rfl) (hv_5.symm)
                    have f_69 : Frm 67 [(8, .slice A_2 x_2.length cap_2), (9, .slice A_7 s_3.1.length cap_7), (11, .int .i64 s_2.2.2), (12, .int .i64 s_3.2.2), (63, .slice A_7 s_3.1.length cap_7), (64, .int .i64 s_2.2.2), (65, .pointer (some ((⟨b_6, 0, none⟩ : Addr).add (s_2.2.2.toNat * 1))))] a_45 := f_68.keep (ks := [8, 9, 11, 12, 63, 64, 65]) (by kernel_rfl)
                    refine W_rowstore (it := s_2.2.2) (d := s_3.1) (f := (Dat.int .i8)) (xv := (5 : Int)) (v := .int .i8 5) f_69 p_9 hv_5 (by kernel_rfl) (by kernel_rfl) rfl rfl (by kernel_rfl) (by kernel_rfl) (by exact rfl) (by kernel_rfl) (szd_int .i8) hx_8 (RepSeq.mono hM_5 _ _ hr_6) (fun w_8 p_10 hr_12 a_46 f_70 => ?_)
                    have p_11 : Hp w0 M_5 ((Ent.row 24 1 (.slice A_7 (s_3.1.set s_2.2.2.toNat (5 : Int)).length cap_7) (s_3.1.set s_2.2.2.toNat (5 : Int)).length (cs_4.set s_2.2.2.toNat (.int .i8 5))) :: H) w_8 := p_10.rowVal (by rw [List.length_set])
                    have f_71 := Frm.set f_70 9 (v := .slice A_7 s_3.1.length cap_7) (v' := .slice A_7 (s_3.1.set s_2.2.2.toNat (5 : Int)).length cap_7) (by kernel_rfl) (by rw [List.length_set])
                    have f_72 := Frm.set f_71 63 (v := .slice A_7 s_3.1.length cap_7) (v' := .slice A_7 (s_3.1.set s_2.2.2.toNat (5 : Int)).length cap_7) (by kernel_rfl) (by rw [List.length_set])
                    have f_73 : Frm 67 [(8, .slice A_2 x_2.length cap_2), (9, .slice A_7 (s_3.1.set s_2.2.2.toNat (5 : Int)).length cap_7), (11, .int .i64 s_2.2.2), (12, .int .i64 s_3.2.2), (63, .slice A_7 (s_3.1.set s_2.2.2.toNat (5 : Int)).length cap_7), (64, .int .i64 s_2.2.2), (65, .pointer (some ((⟨b_6, 0, none⟩ : Addr).add (s_2.2.2.toNat * 1))))] a_46 := f_72.keep (ks := [8, 9, 11, 12, 63, 64, 65]) (by kernel_rfl)
                    refine W_end rfl ?_
                    refine T_n ?_
                    refine R_reg ?_
                    refine W_run (L' := [(8, .slice A_2 x_2.length cap_2), (9, .slice A_7 (s_3.1.set s_2.2.2.toNat (5 : Int)).length cap_7), (10, .bool true), (11, .int .i64 s_2.2.2), (12, .int .i64 s_3.2.2)]) (w' := w_8) f_73 1 [8, 9, 10, 11, 12] (by kernel_rfl) (fun a_47 f_74 => ?_)
                    refine W_end rfl ?_
                    refine B_n ?_
                    refine T_n ?_
                    refine R_reg ?_
                    refine W_run (L' := [(8, .slice A_2 x_2.length cap_2), (9, .slice A_7 (s_3.1.set s_2.2.2.toNat (5 : Int)).length cap_7), (10, .bool true), (11, .int .i64 s_2.2.2), (38, .int .i64 s_3.2.2)]) (w' := w_8) f_74 1 [8, 9, 10, 11, 38] (by kernel_rfl) (fun a_48 f_75 => ?_)
                    obtain ⟨g_2, hF_24⟩ := need_some hF_23
                    refine W_run (L' := [(8, .slice A_2 x_2.length cap_2), (9, .slice A_7 (s_3.1.set s_2.2.2.toNat (5 : Int)).length cap_7), (10, .bool true), (11, .int .i64 s_2.2.2), (38, .int .i64 s_3.2.2), (39, .int .i64 (IntKind.wrap .i64 (s_3.2.2 + 1)))]) (w' := w_8) f_75 1 [8, 9, 10, 11, 38, 39] (by kernel_rfl) (fun a_49 f_76 => ?_)
                    have f_77 := Frm.set f_76 39 (v := .int .i64 (IntKind.wrap .i64 (s_3.2.2 + 1))) (v' := .int .i64 (s_3.2.2 + 1)) (by kernel_rfl) (congrArg (Value.int .i64) (inR_wrap g_2))
                    have f_78 : Frm 67 [(8, .slice A_2 x_2.length cap_2), (9, .slice A_7 (s_3.1.set s_2.2.2.toNat (5 : Int)).length cap_7), (10, .bool true), (11, .int .i64 s_2.2.2), (38, .int .i64 s_3.2.2), (39, .int .i64 (s_3.2.2 + 1))] a_49 := f_77.keep (ks := [8, 9, 10, 11, 38, 39]) (by kernel_rfl)
                    refine W_run (L' := [(8, .slice A_2 x_2.length cap_2), (9, .slice A_7 (s_3.1.set s_2.2.2.toNat (5 : Int)).length cap_7), (10, .bool true), (11, .int .i64 s_2.2.2), (12, .int .i64 (s_3.2.2 + 1))]) (w' := w_8) f_78 1 [8, 9, 10, 11, 12] (by kernel_rfl) (fun a_50 f_79 => ?_)
                    refine W_end rfl ?_
                    refine T_n ?_
                    obtain rfl := Option.some.inj hF_24
                    exact ⟨⟨m_6, (s_3.1.set s_2.2.2.toNat (5 : Int), (true), s_3.2.2 + 1), A_7, cap_7, cs_4.set s_2.2.2.toNat (.int .i8 5)⟩, Nat.lt_succ_self _, M_5, (hM_4.trans hM_5), ⟨hn_3, hr_12⟩, f_79.keep (ks := [8, 9, 10, 11, 12]) (by kernel_rfl), p_11⟩
                  · have hF_25 := cnd_f h_10 hF_16
                    refine wp_skip ?_
                    refine B_n ?_
                    refine T_n ?_
                    refine R_reg ?_
                    refine W_run (L' := [(8, .slice A_2 x_2.length cap_2), (9, .slice A_7 s_3.1.length cap_7), (10, .bool s_3.2.1), (11, .int .i64 s_2.2.2), (38, .int .i64 s_3.2.2)]) (w' := w_7) f_63 1 [8, 9, 10, 11, 38] (by kernel_rfl) (fun a_51 f_80 => ?_)
                    obtain ⟨g_3, hF_26⟩ := need_some hF_25
                    refine W_run (L' := [(8, .slice A_2 x_2.length cap_2), (9, .slice A_7 s_3.1.length cap_7), (10, .bool s_3.2.1), (11, .int .i64 s_2.2.2), (38, .int .i64 s_3.2.2), (39, .int .i64 (IntKind.wrap .i64 (s_3.2.2 + 1)))]) (w' := w_7) f_80 1 [8, 9, 10, 11, 38, 39] (by kernel_rfl) (fun a_52 f_81 => ?_)
                    have f_82 := Frm.set f_81 39 (v := .int .i64 (IntKind.wrap .i64 (s_3.2.2 + 1))) (v' := .int .i64 (s_3.2.2 + 1)) (by kernel_rfl) (congrArg (Value.int .i64) (inR_wrap g_3))
                    have f_83 : Frm 67 [(8, .slice A_2 x_2.length cap_2), (9, .slice A_7 s_3.1.length cap_7), (10, .bool s_3.2.1), (11, .int .i64 s_2.2.2), (38, .int .i64 s_3.2.2), (39, .int .i64 (s_3.2.2 + 1))] a_52 := f_82.keep (ks := [8, 9, 10, 11, 38, 39]) (by kernel_rfl)
                    refine W_run (L' := [(8, .slice A_2 x_2.length cap_2), (9, .slice A_7 s_3.1.length cap_7), (10, .bool s_3.2.1), (11, .int .i64 s_2.2.2), (12, .int .i64 (s_3.2.2 + 1))]) (w' := w_7) f_83 1 [8, 9, 10, 11, 12] (by kernel_rfl) (fun a_53 f_84 => ?_)
                    refine W_end rfl ?_
                    refine T_n ?_
                    obtain rfl := Option.some.inj hF_26
                    exact ⟨⟨m_6, (s_3.1, (s_3.2.1), s_3.2.2 + 1), A_7, cap_7, cs_4⟩, Nat.lt_succ_self _, M_5, (hM_4.trans hM_5), ⟨hn_3, (RepSeq.mono hM_5 _ _ hr_6)⟩, f_84.keep (ks := [8, 9, 10, 11, 12]) (by kernel_rfl), p_9⟩
              · have k_12 : ¬ (s_3.2.2 < ((x_3.length : Nat) : Int)) := iff_f decide_eq_true_iff h_6
                have hF_27 := cnd_f h_6 hF_11
                refine wp_exit ?_
                refine T_x ?_
                refine T_x ?_
                obtain rfl := Option.some.inj hF_27
                exact ⟨rfl, (s_3.1, (s_3.2.1)), (Option.some.inj hn_3).symm, M_4, hM_4, A_7, cap_7, cs_4, hr_6, f_29.keep (ks := [8, 9, 10, 11]) (by kernel_rfl), p_8⟩
            · rintro _ a_55 w_10 ⟨rfl, y_2, hq_, M_6, hM_6, A_10, cap_13, cs_5, hr_13, f_85, p_12⟩
              subst b_3
              refine B_x ?_
              refine B_n ?_
              refine T_n ?_
              refine R_reg ?_
              refine W_run (L' := [(8, .slice A_2 x_2.length cap_2), (9, .slice A_10 y_2.1.length cap_13), (10, .bool y_2.2), (29, .int .i64 s_2.2.2)]) (w' := w_10) f_85 1 [8, 9, 10, 29] (by kernel_rfl) (fun a_56 f_86 => ?_)
              obtain ⟨g_4, hF_28⟩ := need_some hF_10
              refine W_run (L' := [(8, .slice A_2 x_2.length cap_2), (9, .slice A_10 y_2.1.length cap_13), (10, .bool y_2.2), (29, .int .i64 s_2.2.2), (30, .int .i64 (IntKind.wrap .i64 (s_2.2.2 + 1)))]) (w' := w_10) f_86 1 [8, 9, 10, 29, 30] (by kernel_rfl) (fun a_57 f_87 => ?_)
              have f_88 := Frm.set f_87 30 (v := .int .i64 (IntKind.wrap .i64 (s_2.2.2 + 1))) (v' := .int .i64 (s_2.2.2 + 1)) (by kernel_rfl) (congrArg (Value.int .i64) (inR_wrap g_4))
              have f_89 : Frm 67 [(8, .slice A_2 x_2.length cap_2), (9, .slice A_10 y_2.1.length cap_13), (10, .bool y_2.2), (29, .int .i64 s_2.2.2), (30, .int .i64 (s_2.2.2 + 1))] a_57 := f_88.keep (ks := [8, 9, 10, 29, 30]) (by kernel_rfl)
              refine W_run (L' := [(8, .slice A_2 x_2.length cap_2), (9, .slice A_10 y_2.1.length cap_13), (10, .bool y_2.2), (11, .int .i64 (s_2.2.2 + 1))]) (w' := w_10) f_89 1 [8, 9, 10, 11] (by kernel_rfl) (fun a_58 f_90 => ?_)
              refine W_end rfl ?_
              refine T_n ?_
              obtain rfl := Option.some.inj hF_28
              exact ⟨⟨m_4, (y_2.1, (y_2.2), s_2.2.2 + 1), A_10, cap_13, cs_5⟩, Nat.lt_succ_self _, M_6, (hM_3.trans hM_6), ⟨hn_2, hr_13⟩, f_90.keep (ks := [8, 9, 10, 11]) (by kernel_rfl), p_12⟩
          · have k_13 : ¬ (s_2.2.2 < ((x_2.length : Nat) : Int)) := iff_f decide_eq_true_iff h_4
            have hF_29 := cnd_f h_4 hs_2
            refine wp_exit ?_
            refine T_x ?_
            refine T_x ?_
            obtain rfl := Option.some.inj hF_29
            exact ⟨rfl, (s_2.1, (s_2.2.1)), (Option.some.inj hn_2).symm, M_3, hM_3, A_6, cap_6, cs_3, hr_5, f_23.keep (ks := [8, 9, 10]) (by kernel_rfl), p_7⟩
        · rintro _ a_60 w_12 ⟨rfl, y_3, hq_, M_7, hM_7, A_11, cap_14, cs_6, hr_14, f_91, p_13⟩
          subst b_2
          refine B_x ?_
          refine B_n ?_
          refine T_n ?_
          obtain rfl := Option.some.inj hF_8
          exact ⟨⟨m_2, (y_3.1, (y_3.2)), A_11, cap_14, cs_6⟩, Nat.lt_succ_self _, M_7, (hM_2.trans hM_7), ⟨hn_1, hr_14⟩, f_91.keep (ks := [8, 9, 10]) (by kernel_rfl), p_13⟩
      · have hF_30 := cnd_f h_3 hs_1
        refine wp_exit ?_
        refine T_x ?_
        refine T_x ?_
        obtain rfl := Option.some.inj hF_30
        exact ⟨rfl, s_1.1, (Option.some.inj hn_1).symm, M_2, hM_2, A_5, cap_5, cs_2, hr_4, f_19.keep (ks := [9]) (by kernel_rfl), p_6⟩
    · rintro _ a_62 w_14 ⟨rfl, y_4, hq_, M_8, hM_8, A_12, cap_15, cs_7, hr_15, f_92, p_14⟩
      subst b_1
      refine B_x ?_
      refine T_n ?_
      refine R_seq ?_
      refine R_reg ?_
      refine W_run (L' := [(6, .slice A_12 y_4.length cap_15), (7, .int .i64 0)]) (w' := w_14) f_92 3 [6, 7] (by kernel_rfl) (fun a_63 f_93 => ?_)
      refine W_end rfl ?_
      refine T_n ?_
      refine wp_ret ?_
      refine E_ret2 f_93 rfl (by kernel_rfl : Vc.look _ 6 = some (.slice A_12 y_4.length cap_15)) (by kernel_rfl : Vc.look _ 7 = some (.int .i64 0)) ?_
      obtain rfl := Option.some.inj hF_6
      exact ⟨_, rfl, M_8, _, (hM_1.trans hM_8), p_14, ⟨A_12, cap_15, cs_7, rfl, rfl, hr_15⟩⟩

def law21_ReadyTells (n : Nat) (d0 : List (List Int)) (d1 : List Int) (d2 : Bool) (d3 : Int) : Option Bool :=
  (((ref21_Great n d0).bind fun x_1 =>
    bif x_1 then
      (some ((true)))
    else
      some ((decide ((100 : Int) < ((d1.length : Nat) : Int)))) : Option Bool)).bind fun y_1 =>
  bif y_1 then
    ((law21_wakes n).bind fun x_2 =>
    some ((x_2)))
  else
    (ready_Ready n d0 d1 (d2)).bind fun x_3 =>
    (ref21_Ready n d0 d1 (d2)).bind fun x_4 =>
    (ready_Settle n d0 d1 (d2)).bind fun x_5 =>
    (ref21_Settle n d0 d1 (d2)).bind fun x_6 =>
    (ref21_Ints n x_3.1 x_4.1).bind fun x_7 =>
    bif x_7 then
      (bif (decide (x_3.2 = x_4.2)) then
        ((ref21_States n x_5.1 x_6.1).bind fun x_8 =>
        bif x_8 then
          (bif (decide (x_5.2 = x_6.2)) then
            ((ready_Over n d1).bind fun x_9 =>
            (ref21_Over n d1).bind fun x_10 =>
            bif (x_9 == x_10) then
              ((ready_Count n d1 d3).bind fun x_11 =>
              (ref21_Count n d1 d3).bind fun x_12 =>
              bif (decide (x_11 = x_12)) then
                ((ready_May n d0 d1).bind fun x_13 =>
                (ref21_May n d0 d1).bind fun x_14 =>
                bif (x_13 == x_14) then
                  ((law21_wakes n).bind fun x_15 =>
                  some ((x_15)))
                else
                  some ((false)))
              else
                some ((false)))
            else
              some ((false)))
          else
            some ((false)))
        else
          some ((false)))
      else
        some ((false)))
    else
      some ((false))
set_option maxRecDepth 20000 in
theorem law21_ReadyTells_ok (n : Nat) (M : Mem) (A0 : Option Addr) (cap0 : Nat) (d0 : List (List Int)) (h0 : Sli M 1 (eL 1 (Dat.int .i64)) A0 cap0 d0) (A1 : Option Addr) (cap1 : Nat) (d1 : List Int) (h1 : Sli M 1 (Dat.int .i8) A1 cap1 d1) (d2 : Bool) (d3 : Int) (r : Bool) (hF : law21_ReadyTells n d0 d1 d2 d3 = some r) : Ok Try.prog M 3 [.slice A0 d0.length cap0, .slice A1 d1.length cap1, .bool d2, .int .i8 d3] (fun _ v => v = .bool r) := by
  unfold law21_ReadyTells at hF
  intro M1 hM0 w0 H w p0
  replace h0 := h0.mono hM0
  replace h1 := h1.mono hM0
  refine R_enter 99 Try.func3 rfl rfl (by simp) (fun a0 f0 => ?_)
  replace f0 : Frm 99 [(0, .slice A0 d0.length cap0), (1, .slice A1 d1.length cap1), (2, .bool d2), (3, .int .i8 d3)] a0 := f0
  refine R_seq ?_
  refine R_reg ?_
  refine W_run (L' := [(0, .slice A0 d0.length cap0), (1, .slice A1 d1.length cap1), (2, .bool d2), (3, .int .i8 d3)]) (w' := w) f0 1 [0, 1, 2, 3] (by kernel_rfl) (fun a_1 f_1 => ?_)
  refine W_end rfl ?_
  refine T_n ?_
  refine R_seq ?_
  refine R_seq ?_
  obtain ⟨j_1, hj_1, hF_1⟩ := bind_some' hF
  refine R_mid (fun a_7 w_2 => ∃ y_1 : Bool, j_1 = y_1 ∧ ∃ M_1 : Mem, M1.le M_1 ∧ Frm 99 [(0, .slice A0 d0.length cap0), (1, .slice A1 d1.length cap1), (2, .bool d2), (3, .int .i8 d3), (23, .bool y_1)] a_7 ∧ Hp w0 M_1 (H) w_2) ?_ ?_
  · refine R_reg ?_
    refine W_run (L' := [(0, .slice A0 d0.length cap0), (1, .slice A1 d1.length cap1), (2, .bool d2), (3, .int .i8 d3), (17, .slice A0 d0.length cap0)]) (w' := w) f_1 1 [0, 1, 2, 3, 17] (by kernel_rfl) (fun a_2 f_2 => ?_)
    obtain ⟨x_1, hx_1, hF_2⟩ := bind_some' hj_1
    refine W_okv (v := .bool x_1) f_2 p0 (by kernel_rfl) (by kernel_rfl) rfl rfl (fun _ => by kernel_rfl) (ref21_Great_ok n _ A0 cap0 d0 h0 x_1 hx_1) (fun w_1 p_1 a_3 f_3 => ?_)
    refine W_run (L' := [(0, .slice A0 d0.length cap0), (1, .slice A1 d1.length cap1), (2, .bool d2), (3, .int .i8 d3), (19, .bool x_1)]) (w' := w_1) f_3 1 [0, 1, 2, 3, 19] (by kernel_rfl) (fun a_4 f_4 => ?_)
    rcases Bool.eq_false_or_eq_true (x_1) with h_1 | h_1
    · have hF_3 := cnd_t h_1 hF_2
      have f_5 := Frm.set f_4 19 (v := .bool x_1) (v' := .bool true) (by kernel_rfl) (congrArg Value.bool h_1)
      have f_6 : Frm 99 [(0, .slice A0 d0.length cap0), (1, .slice A1 d1.length cap1), (2, .bool d2), (3, .int .i8 d3), (19, .bool true)] a_4 := f_5.keep (ks := [0, 1, 2, 3, 19]) (by kernel_rfl)
      refine W_run (L' := [(0, .slice A0 d0.length cap0), (1, .slice A1 d1.length cap1), (2, .bool d2), (3, .int .i8 d3), (23, .bool true)]) (w' := w_1) f_6 4 [0, 1, 2, 3, 23] (by kernel_rfl) (fun a_5 f_7 => ?_)
      refine W_end rfl ?_
      refine T_n ?_
      exact ⟨(true), (Option.some.inj hF_3).symm, M1, (Mem.le_refl _), f_7.keep (ks := [0, 1, 2, 3, 23]) (by kernel_rfl), p_1⟩
    · have hF_4 := cnd_f h_1 hF_2
      have f_8 := Frm.set f_4 19 (v := .bool x_1) (v' := .bool false) (by kernel_rfl) (congrArg Value.bool h_1)
      have f_9 : Frm 99 [(0, .slice A0 d0.length cap0), (1, .slice A1 d1.length cap1), (2, .bool d2), (3, .int .i8 d3), (19, .bool false)] a_4 := f_8.keep (ks := [0, 1, 2, 3, 19]) (by kernel_rfl)
      refine W_run (L' := [(0, .slice A0 d0.length cap0), (1, .slice A1 d1.length cap1), (2, .bool d2), (3, .int .i8 d3), (23, .bool (decide ((100 : Int) < ((d1.length : Nat) : Int))))]) (w' := w_1) f_9 4 [0, 1, 2, 3, 23] (by kernel_rfl) (fun a_6 f_10 => ?_)
      refine W_end rfl ?_
      refine T_n ?_
      exact ⟨(decide ((100 : Int) < ((d1.length : Nat) : Int))), (Option.some.inj hF_4).symm, M1, (Mem.le_refl _), f_10.keep (ks := [0, 1, 2, 3, 23]) (by kernel_rfl), p_1⟩
  · rintro a_7 w_2 ⟨y_1, hq_1, M_1, hM_1, f_11, p_2⟩
    subst j_1
    refine T_n ?_
    refine R_cond f_11 (b := y_1) (by kernel_rfl) (by kernel_rfl) (fun h_2 => ?_) (fun h_2 => ?_)
    · have hF_5 := cnd_t h_2 hF_1
      refine R_seq ?_
      refine R_reg ?_
      obtain ⟨x_2, hx_2, hF_6⟩ := bind_some' hF_5
      refine W_okv (v := .bool x_2) f_11 p_2 (by kernel_rfl) (by kernel_rfl) rfl rfl (fun _ => by kernel_rfl) (law21_wakes_ok n _  x_2 hx_2) (fun w_3 p_3 a_8 f_12 => ?_)
      refine W_run (L' := [(8, .bool x_2)]) (w' := w_3) f_12 1 [8] (by kernel_rfl) (fun a_9 f_13 => ?_)
      refine W_end rfl ?_
      refine T_n ?_
      refine wp_ret ?_
      refine T_r ?_
      refine E_ret1 f_13 rfl (by kernel_rfl : Vc.look _ 8 = some (.bool x_2)) ?_
      obtain rfl := Option.some.inj hF_6
      exact ⟨_, rfl, M_1, hM_1, p_3, rfl⟩
    · have hF_7 := cnd_f h_2 hF_1
      refine wp_skip ?_
      refine T_n ?_
      refine R_seq ?_
      refine R_reg ?_
      refine W_run (L' := [(0, .slice A0 d0.length cap0), (1, .slice A1 d1.length cap1), (2, .bool d2), (3, .int .i8 d3), (26, .slice A0 d0.length cap0), (27, .slice A1 d1.length cap1), (28, .bool d2)]) (w' := w_2) f_11 3 [0, 1, 2, 3, 26, 27, 28] (by kernel_rfl) (fun a_10 f_14 => ?_)
      obtain ⟨x_3, hx_3, hF_8⟩ := bind_some' hF_7
      refine W_okH (E := []) (H := (H)) f_14 p_2 (by kernel_rfl) (by kernel_rfl) rfl rfl (fun _ => by kernel_rfl) (ready_Ready_ok n _ A0 cap0 d0 (h0.mono hM_1) A1 cap1 d1 (h1.mono hM_1) (d2) x_3 hx_3) (fun u_1 M_2 E_1 w_4 hM_2 p_4 q_1 a_11 f_15 => ?_)
      obtain ⟨A_1, cap_1, cs_1, rfl, rfl, hr_1⟩ := q_1
      replace p_4 : Hp w0 M_2 ((Ent.row 3 1 (.slice A_1 x_3.1.length cap_1) x_3.1.length cs_1) :: H) w_4 := p_4
      refine W_run (L' := [(0, .slice A0 d0.length cap0), (1, .slice A1 d1.length cap1), (2, .bool d2), (3, .int .i8 d3), (9, .slice A_1 x_3.1.length cap_1), (10, .int .i64 x_3.2)]) (w' := w_4) f_15 5 [0, 1, 2, 3, 9, 10] (by kernel_rfl) (fun a_12 f_16 => ?_)
      refine W_end rfl ?_
      refine T_n ?_
      refine R_seq ?_
      refine R_reg ?_
      refine W_run (L' := [(0, .slice A0 d0.length cap0), (1, .slice A1 d1.length cap1), (2, .bool d2), (3, .int .i8 d3), (9, .slice A_1 x_3.1.length cap_1), (10, .int .i64 x_3.2), (33, .slice A0 d0.length cap0), (34, .slice A1 d1.length cap1), (35, .bool d2)]) (w' := w_4) f_16 3 [0, 1, 2, 3, 9, 10, 33, 34, 35] (by kernel_rfl) (fun a_13 f_17 => ?_)
      obtain ⟨x_4, hx_4, hF_9⟩ := bind_some' hF_8
      refine W_okH (E := []) (H := ((Ent.row 3 1 (.slice A_1 x_3.1.length cap_1) x_3.1.length cs_1) :: H)) f_17 p_4 (by kernel_rfl) (by kernel_rfl) rfl rfl (fun _ => by kernel_rfl) (ref21_Ready_ok n _ A0 cap0 d0 (h0.mono (hM_1.trans hM_2)) A1 cap1 d1 (h1.mono (hM_1.trans hM_2)) (d2) x_4 hx_4) (fun u_2 M_3 E_2 w_5 hM_3 p_5 q_2 a_14 f_18 => ?_)
      obtain ⟨A_2, cap_2, cs_2, rfl, rfl, hr_2⟩ := q_2
      replace p_5 : Hp w0 M_3 ((Ent.row 3 1 (.slice A_2 x_4.1.length cap_2) x_4.1.length cs_2) :: (Ent.row 3 1 (.slice A_1 x_3.1.length cap_1) x_3.1.length cs_1) :: H) w_5 := p_5
      refine W_run (L' := [(0, .slice A0 d0.length cap0), (1, .slice A1 d1.length cap1), (2, .bool d2), (3, .int .i8 d3), (9, .slice A_1 x_3.1.length cap_1), (10, .int .i64 x_3.2), (11, .slice A_2 x_4.1.length cap_2), (12, .int .i64 x_4.2)]) (w' := w_5) f_18 5 [0, 1, 2, 3, 9, 10, 11, 12] (by kernel_rfl) (fun a_15 f_19 => ?_)
      refine W_end rfl ?_
      refine T_n ?_
      refine R_seq ?_
      refine R_reg ?_
      refine W_run (L' := [(0, .slice A0 d0.length cap0), (1, .slice A1 d1.length cap1), (2, .bool d2), (3, .int .i8 d3), (9, .slice A_1 x_3.1.length cap_1), (10, .int .i64 x_3.2), (11, .slice A_2 x_4.1.length cap_2), (12, .int .i64 x_4.2), (40, .slice A0 d0.length cap0), (41, .slice A1 d1.length cap1), (42, .bool d2)]) (w' := w_5) f_19 3 [0, 1, 2, 3, 9, 10, 11, 12, 40, 41, 42] (by kernel_rfl) (fun a_16 f_20 => ?_)
      obtain ⟨x_5, hx_5, hF_10⟩ := bind_some' hF_9
      refine W_okH (E := []) (H := ((Ent.row 3 1 (.slice A_2 x_4.1.length cap_2) x_4.1.length cs_2) :: (Ent.row 3 1 (.slice A_1 x_3.1.length cap_1) x_3.1.length cs_1) :: H)) f_20 p_5 (by kernel_rfl) (by kernel_rfl) rfl rfl (fun _ => by kernel_rfl) (ready_Settle_ok n _ A0 cap0 d0 (h0.mono ((hM_1.trans hM_2).trans hM_3)) A1 cap1 d1 (h1.mono ((hM_1.trans hM_2).trans hM_3)) (d2) x_5 hx_5) (fun u_3 M_4 E_3 w_6 hM_4 p_6 q_3 a_17 f_21 => ?_)
      obtain ⟨A_3, cap_3, cs_3, rfl, rfl, hr_3⟩ := q_3
      replace p_6 : Hp w0 M_4 ((Ent.row 24 1 (.slice A_3 x_5.1.length cap_3) x_5.1.length cs_3) :: (Ent.row 3 1 (.slice A_2 x_4.1.length cap_2) x_4.1.length cs_2) :: (Ent.row 3 1 (.slice A_1 x_3.1.length cap_1) x_3.1.length cs_1) :: H) w_6 := p_6
      refine W_run (L' := [(0, .slice A0 d0.length cap0), (1, .slice A1 d1.length cap1), (2, .bool d2), (3, .int .i8 d3), (9, .slice A_1 x_3.1.length cap_1), (10, .int .i64 x_3.2), (11, .slice A_2 x_4.1.length cap_2), (12, .int .i64 x_4.2), (13, .slice A_3 x_5.1.length cap_3), (14, .int .i64 x_5.2)]) (w' := w_6) f_21 5 [0, 1, 2, 3, 9, 10, 11, 12, 13, 14] (by kernel_rfl) (fun a_18 f_22 => ?_)
      refine W_end rfl ?_
      refine T_n ?_
      refine R_seq ?_
      refine R_reg ?_
      refine W_run (L' := [(0, .slice A0 d0.length cap0), (1, .slice A1 d1.length cap1), (3, .int .i8 d3), (9, .slice A_1 x_3.1.length cap_1), (10, .int .i64 x_3.2), (11, .slice A_2 x_4.1.length cap_2), (12, .int .i64 x_4.2), (13, .slice A_3 x_5.1.length cap_3), (14, .int .i64 x_5.2), (47, .slice A0 d0.length cap0), (48, .slice A1 d1.length cap1), (49, .bool d2)]) (w' := w_6) f_22 3 [0, 1, 3, 9, 10, 11, 12, 13, 14, 47, 48, 49] (by kernel_rfl) (fun a_19 f_23 => ?_)
      obtain ⟨x_6, hx_6, hF_11⟩ := bind_some' hF_10
      refine W_okH (E := []) (H := ((Ent.row 24 1 (.slice A_3 x_5.1.length cap_3) x_5.1.length cs_3) :: (Ent.row 3 1 (.slice A_2 x_4.1.length cap_2) x_4.1.length cs_2) :: (Ent.row 3 1 (.slice A_1 x_3.1.length cap_1) x_3.1.length cs_1) :: H)) f_23 p_6 (by kernel_rfl) (by kernel_rfl) rfl rfl (fun _ => by kernel_rfl) (ref21_Settle_ok n _ A0 cap0 d0 (h0.mono (((hM_1.trans hM_2).trans hM_3).trans hM_4)) A1 cap1 d1 (h1.mono (((hM_1.trans hM_2).trans hM_3).trans hM_4)) (d2) x_6 hx_6) (fun u_4 M_5 E_4 w_7 hM_5 p_7 q_4 a_20 f_24 => ?_)
      obtain ⟨A_4, cap_4, cs_4, rfl, rfl, hr_4⟩ := q_4
      replace p_7 : Hp w0 M_5 ((Ent.row 24 1 (.slice A_4 x_6.1.length cap_4) x_6.1.length cs_4) :: (Ent.row 24 1 (.slice A_3 x_5.1.length cap_3) x_5.1.length cs_3) :: (Ent.row 3 1 (.slice A_2 x_4.1.length cap_2) x_4.1.length cs_2) :: (Ent.row 3 1 (.slice A_1 x_3.1.length cap_1) x_3.1.length cs_1) :: H) w_7 := p_7
      refine W_run (L' := [(0, .slice A0 d0.length cap0), (1, .slice A1 d1.length cap1), (3, .int .i8 d3), (9, .slice A_1 x_3.1.length cap_1), (10, .int .i64 x_3.2), (11, .slice A_2 x_4.1.length cap_2), (12, .int .i64 x_4.2), (13, .slice A_3 x_5.1.length cap_3), (14, .int .i64 x_5.2), (15, .slice A_4 x_6.1.length cap_4), (16, .int .i64 x_6.2)]) (w' := w_7) f_24 5 [0, 1, 3, 9, 10, 11, 12, 13, 14, 15, 16] (by kernel_rfl) (fun a_21 f_25 => ?_)
      refine W_end rfl ?_
      refine T_n ?_
      refine R_seq ?_
      refine R_reg ?_
      refine W_run (L' := [(0, .slice A0 d0.length cap0), (1, .slice A1 d1.length cap1), (3, .int .i8 d3), (10, .int .i64 x_3.2), (12, .int .i64 x_4.2), (13, .slice A_3 x_5.1.length cap_3), (14, .int .i64 x_5.2), (15, .slice A_4 x_6.1.length cap_4), (16, .int .i64 x_6.2), (53, .slice A_1 x_3.1.length cap_1), (54, .slice A_2 x_4.1.length cap_2)]) (w' := w_7) f_25 2 [0, 1, 3, 10, 12, 13, 14, 15, 16, 53, 54] (by kernel_rfl) (fun a_22 f_26 => ?_)
      have p_8 : Hp w0 M_5 ((Ent.row 3 1 (.slice A_1 x_3.1.length cap_1) x_3.1.length cs_1) :: (Ent.row 24 1 (.slice A_4 x_6.1.length cap_4) x_6.1.length cs_4) :: (Ent.row 24 1 (.slice A_3 x_5.1.length cap_3) x_5.1.length cs_3) :: (Ent.row 3 1 (.slice A_2 x_4.1.length cap_2) x_4.1.length cs_2) :: H) w_7 := p_7.pull 3 rfl rfl
      obtain ⟨M_6, A_5, cap_5, hM_6, hv_1, p_9, h_3, hb_1⟩ := p_8.lend (f := (Dat.int .i64)) (xs := x_3.1) (szd_int .i64) (RepSeq.mono ((hM_3.trans hM_4).trans hM_5) _ _ hr_1)
      have f_27 := Frm.set f_26 53 (v := .slice A_1 x_3.1.length cap_1) (v' := .slice A_5 x_3.1.length cap_5) (by kernel_rfl) (hv_1)
      have f_28 : Frm 99 [(0, .slice A0 d0.length cap0), (1, .slice A1 d1.length cap1), (3, .int .i8 d3), (10, .int .i64 x_3.2), (12, .int .i64 x_4.2), (13, .slice A_3 x_5.1.length cap_3), (14, .int .i64 x_5.2), (15, .slice A_4 x_6.1.length cap_4), (16, .int .i64 x_6.2), (53, .slice A_5 x_3.1.length cap_5), (54, .slice A_2 x_4.1.length cap_2)] a_22 := f_27.keep (ks := [0, 1, 3, 10, 12, 13, 14, 15, 16, 53, 54]) (by kernel_rfl)
      have p_10 : Hp w0 M_6 ((Ent.row 3 1 (.slice A_2 x_4.1.length cap_2) x_4.1.length cs_2) :: (Ent.row 24 1 (.slice A_4 x_6.1.length cap_4) x_6.1.length cs_4) :: (Ent.row 24 1 (.slice A_3 x_5.1.length cap_3) x_5.1.length cs_3) :: H) w_7 := p_9.pull 2 rfl rfl
      obtain ⟨M_7, A_6, cap_6, hM_7, hv_2, p_11, h_4, hb_2⟩ := p_10.lend (f := (Dat.int .i64)) (xs := x_4.1) (szd_int .i64) (RepSeq.mono ((hM_4.trans hM_5).trans hM_6) _ _ hr_2)
      have f_29 := Frm.set f_28 54 (v := .slice A_2 x_4.1.length cap_2) (v' := .slice A_6 x_4.1.length cap_6) (by kernel_rfl) (hv_2)
      have f_30 : Frm 99 [(0, .slice A0 d0.length cap0), (1, .slice A1 d1.length cap1), (3, .int .i8 d3), (10, .int .i64 x_3.2), (12, .int .i64 x_4.2), (13, .slice A_3 x_5.1.length cap_3), (14, .int .i64 x_5.2), (15, .slice A_4 x_6.1.length cap_4), (16, .int .i64 x_6.2), (53, .slice A_5 x_3.1.length cap_5), (54, .slice A_6 x_4.1.length cap_6)] a_22 := f_29.keep (ks := [0, 1, 3, 10, 12, 13, 14, 15, 16, 53, 54]) (by kernel_rfl)
      obtain ⟨x_7, hx_7, hF_12⟩ := bind_some' hF_11
      refine W_okv (v := .bool x_7) f_30 p_11 (by kernel_rfl) (by kernel_rfl) rfl rfl (fun _ => by kernel_rfl) (ref21_Ints_ok n _ A_5 cap_5 x_3.1 (h_3.mono hM_7) A_6 cap_6 x_4.1 h_4 x_7 hx_7) (fun w_8 p_12 a_23 f_31 => ?_)
      obtain ⟨M_8, hM_8, p_13⟩ := hb_2 _ _ _ (Mem.le_refl _) p_12
      have f_32 := Frm.set f_31 54 (v := .slice A_6 x_4.1.length cap_6) (v' := .slice A_2 x_4.1.length cap_2) (by kernel_rfl) (hv_2.symm)
      have f_33 : Frm 99 [(0, .slice A0 d0.length cap0), (1, .slice A1 d1.length cap1), (3, .int .i8 d3), (10, .int .i64 x_3.2), (12, .int .i64 x_4.2), (13, .slice A_3 x_5.1.length cap_3), (14, .int .i64 x_5.2), (15, .slice A_4 x_6.1.length cap_4), (16, .int .i64 x_6.2), (53, .slice A_5 x_3.1.length cap_5), (54, .slice A_2 x_4.1.length cap_2), (55, .bool x_7)] a_23 := f_32.keep (ks := [0, 1, 3, 10, 12, 13, 14, 15, 16, 53, 54, 55]) (by kernel_rfl)
      obtain ⟨M_9, hM_9, p_14⟩ := hb_1 _ _ _ hM_8 p_13
      have f_34 := Frm.set f_33 53 (v := .slice A_5 x_3.1.length cap_5) (v' := .slice A_1 x_3.1.length cap_1) (by kernel_rfl) (hv_1.symm)
      have f_35 : Frm 99 [(0, .slice A0 d0.length cap0), (1, .slice A1 d1.length cap1), (3, .int .i8 d3), (10, .int .i64 x_3.2), (12, .int .i64 x_4.2), (13, .slice A_3 x_5.1.length cap_3), (14, .int .i64 x_5.2), (15, .slice A_4 x_6.1.length cap_4), (16, .int .i64 x_6.2), (53, .slice A_1 x_3.1.length cap_1), (54, .slice A_2 x_4.1.length cap_2), (55, .bool x_7)] a_23 := f_34.keep (ks := [0, 1, 3, 10, 12, 13, 14, 15, 16, 53, 54, 55]) (by kernel_rfl)
      refine W_run (L' := [(0, .slice A0 d0.length cap0), (1, .slice A1 d1.length cap1), (3, .int .i8 d3), (10, .int .i64 x_3.2), (12, .int .i64 x_4.2), (13, .slice A_3 x_5.1.length cap_3), (14, .int .i64 x_5.2), (15, .slice A_4 x_6.1.length cap_4), (16, .int .i64 x_6.2), (56, .bool x_7)]) (w' := w_8) f_35 1 [0, 1, 3, 10, 12, 13, 14, 15, 16, 56] (by kernel_rfl) (fun a_24 f_36 => ?_)
      rcases Bool.eq_false_or_eq_true (x_7) with h_5 | h_5
      · have hF_13 := cnd_t h_5 hF_12
        have f_37 := Frm.set f_36 56 (v := .bool x_7) (v' := .bool true) (by kernel_rfl) (congrArg Value.bool h_5)
        have f_38 : Frm 99 [(0, .slice A0 d0.length cap0), (1, .slice A1 d1.length cap1), (3, .int .i8 d3), (10, .int .i64 x_3.2), (12, .int .i64 x_4.2), (13, .slice A_3 x_5.1.length cap_3), (14, .int .i64 x_5.2), (15, .slice A_4 x_6.1.length cap_4), (16, .int .i64 x_6.2), (56, .bool true)] a_24 := f_37.keep (ks := [0, 1, 3, 10, 12, 13, 14, 15, 16, 56]) (by kernel_rfl)
        refine W_run (L' := [(0, .slice A0 d0.length cap0), (1, .slice A1 d1.length cap1), (3, .int .i8 d3), (13, .slice A_3 x_5.1.length cap_3), (14, .int .i64 x_5.2), (15, .slice A_4 x_6.1.length cap_4), (16, .int .i64 x_6.2), (61, .bool (decide (x_3.2 = x_4.2)))]) (w' := w_8) f_38 5 [0, 1, 3, 13, 14, 15, 16, 61] (by kernel_rfl) (fun a_25 f_39 => ?_)
        rcases Bool.eq_false_or_eq_true (decide (x_3.2 = x_4.2)) with h_6 | h_6
        · have k_6 : x_3.2 = x_4.2 := decide_eq_true_iff.1 h_6
          have hF_14 := cnd_t h_6 hF_13
          have f_40 := Frm.set f_39 61 (v := .bool (decide (x_3.2 = x_4.2))) (v' := .bool true) (by kernel_rfl) (congrArg Value.bool h_6)
          have f_41 : Frm 99 [(0, .slice A0 d0.length cap0), (1, .slice A1 d1.length cap1), (3, .int .i8 d3), (13, .slice A_3 x_5.1.length cap_3), (14, .int .i64 x_5.2), (15, .slice A_4 x_6.1.length cap_4), (16, .int .i64 x_6.2), (61, .bool true)] a_25 := f_40.keep (ks := [0, 1, 3, 13, 14, 15, 16, 61]) (by kernel_rfl)
          refine W_run (L' := [(0, .slice A0 d0.length cap0), (1, .slice A1 d1.length cap1), (3, .int .i8 d3), (14, .int .i64 x_5.2), (16, .int .i64 x_6.2), (61, .bool true), (62, .slice A_3 x_5.1.length cap_3), (63, .slice A_4 x_6.1.length cap_4)]) (w' := w_8) f_41 2 [0, 1, 3, 14, 16, 61, 62, 63] (by kernel_rfl) (fun a_26 f_42 => ?_)
          have p_15 : Hp w0 M_9 ((Ent.row 24 1 (.slice A_3 x_5.1.length cap_3) x_5.1.length cs_3) :: (Ent.row 3 1 (.slice A_1 x_3.1.length cap_1) x_3.1.length cs_1) :: (Ent.row 3 1 (.slice A_2 x_4.1.length cap_2) x_4.1.length cs_2) :: (Ent.row 24 1 (.slice A_4 x_6.1.length cap_4) x_6.1.length cs_4) :: H) w_8 := p_14.pull 3 rfl rfl
          obtain ⟨M_10, A_7, cap_7, hM_10, hv_3, p_16, h_7, hb_3⟩ := p_15.lend (f := (Dat.int .i8)) (xs := x_5.1) (szd_int .i8) (RepSeq.mono (hM_5.trans hM_9) _ _ hr_3)
          have f_43 := Frm.set f_42 62 (v := .slice A_3 x_5.1.length cap_3) (v' := .slice A_7 x_5.1.length cap_7) (by kernel_rfl) (hv_3)
          have f_44 : Frm 99 [(0, .slice A0 d0.length cap0), (1, .slice A1 d1.length cap1), (3, .int .i8 d3), (14, .int .i64 x_5.2), (16, .int .i64 x_6.2), (61, .bool true), (62, .slice A_7 x_5.1.length cap_7), (63, .slice A_4 x_6.1.length cap_4)] a_26 := f_43.keep (ks := [0, 1, 3, 14, 16, 61, 62, 63]) (by kernel_rfl)
          have p_17 : Hp w0 M_10 ((Ent.row 24 1 (.slice A_4 x_6.1.length cap_4) x_6.1.length cs_4) :: (Ent.row 3 1 (.slice A_1 x_3.1.length cap_1) x_3.1.length cs_1) :: (Ent.row 3 1 (.slice A_2 x_4.1.length cap_2) x_4.1.length cs_2) :: H) w_8 := p_16.pull 2 rfl rfl
          obtain ⟨M_11, A_8, cap_8, hM_11, hv_4, p_18, h_8, hb_4⟩ := p_17.lend (f := (Dat.int .i8)) (xs := x_6.1) (szd_int .i8) (RepSeq.mono (hM_9.trans hM_10) _ _ hr_4)
          have f_45 := Frm.set f_44 63 (v := .slice A_4 x_6.1.length cap_4) (v' := .slice A_8 x_6.1.length cap_8) (by kernel_rfl) (hv_4)
          have f_46 : Frm 99 [(0, .slice A0 d0.length cap0), (1, .slice A1 d1.length cap1), (3, .int .i8 d3), (14, .int .i64 x_5.2), (16, .int .i64 x_6.2), (61, .bool true), (62, .slice A_7 x_5.1.length cap_7), (63, .slice A_8 x_6.1.length cap_8)] a_26 := f_45.keep (ks := [0, 1, 3, 14, 16, 61, 62, 63]) (by kernel_rfl)
          obtain ⟨x_8, hx_8, hF_15⟩ := bind_some' hF_14
          refine W_okv (v := .bool x_8) f_46 p_18 (by kernel_rfl) (by kernel_rfl) rfl rfl (fun _ => by kernel_rfl) (ref21_States_ok n _ A_7 cap_7 x_5.1 (h_7.mono hM_11) A_8 cap_8 x_6.1 h_8 x_8 hx_8) (fun w_9 p_19 a_27 f_47 => ?_)
          obtain ⟨M_12, hM_12, p_20⟩ := hb_4 _ _ _ (Mem.le_refl _) p_19
          have f_48 := Frm.set f_47 63 (v := .slice A_8 x_6.1.length cap_8) (v' := .slice A_4 x_6.1.length cap_4) (by kernel_rfl) (hv_4.symm)
          have f_49 : Frm 99 [(0, .slice A0 d0.length cap0), (1, .slice A1 d1.length cap1), (3, .int .i8 d3), (14, .int .i64 x_5.2), (16, .int .i64 x_6.2), (61, .bool true), (62, .slice A_7 x_5.1.length cap_7), (63, .slice A_4 x_6.1.length cap_4), (64, .bool x_8)] a_27 := f_48.keep (ks := [0, 1, 3, 14, 16, 61, 62, 63, 64]) (by kernel_rfl)
          obtain ⟨M_13, hM_13, p_21⟩ := hb_3 _ _ _ hM_12 p_20
          have f_50 := Frm.set f_49 62 (v := .slice A_7 x_5.1.length cap_7) (v' := .slice A_3 x_5.1.length cap_3) (by kernel_rfl) (hv_3.symm)
          have f_51 : Frm 99 [(0, .slice A0 d0.length cap0), (1, .slice A1 d1.length cap1), (3, .int .i8 d3), (14, .int .i64 x_5.2), (16, .int .i64 x_6.2), (61, .bool true), (62, .slice A_3 x_5.1.length cap_3), (63, .slice A_4 x_6.1.length cap_4), (64, .bool x_8)] a_27 := f_50.keep (ks := [0, 1, 3, 14, 16, 61, 62, 63, 64]) (by kernel_rfl)
          refine W_run (L' := [(0, .slice A0 d0.length cap0), (1, .slice A1 d1.length cap1), (3, .int .i8 d3), (14, .int .i64 x_5.2), (16, .int .i64 x_6.2), (66, .bool x_8)]) (w' := w_9) f_51 2 [0, 1, 3, 14, 16, 66] (by kernel_rfl) (fun a_28 f_52 => ?_)
          rcases Bool.eq_false_or_eq_true (x_8) with h_9 | h_9
          · have hF_16 := cnd_t h_9 hF_15
            have f_53 := Frm.set f_52 66 (v := .bool x_8) (v' := .bool true) (by kernel_rfl) (congrArg Value.bool h_9)
            have f_54 : Frm 99 [(0, .slice A0 d0.length cap0), (1, .slice A1 d1.length cap1), (3, .int .i8 d3), (14, .int .i64 x_5.2), (16, .int .i64 x_6.2), (66, .bool true)] a_28 := f_53.keep (ks := [0, 1, 3, 14, 16, 66]) (by kernel_rfl)
            refine W_run (L' := [(0, .slice A0 d0.length cap0), (1, .slice A1 d1.length cap1), (3, .int .i8 d3), (71, .bool (decide (x_5.2 = x_6.2)))]) (w' := w_9) f_54 5 [0, 1, 3, 71] (by kernel_rfl) (fun a_29 f_55 => ?_)
            rcases Bool.eq_false_or_eq_true (decide (x_5.2 = x_6.2)) with h_10 | h_10
            · have k_8 : x_5.2 = x_6.2 := decide_eq_true_iff.1 h_10
              have hF_17 := cnd_t h_10 hF_16
              have f_56 := Frm.set f_55 71 (v := .bool (decide (x_5.2 = x_6.2))) (v' := .bool true) (by kernel_rfl) (congrArg Value.bool h_10)
              have f_57 : Frm 99 [(0, .slice A0 d0.length cap0), (1, .slice A1 d1.length cap1), (3, .int .i8 d3), (71, .bool true)] a_29 := f_56.keep (ks := [0, 1, 3, 71]) (by kernel_rfl)
              refine W_run (L' := [(0, .slice A0 d0.length cap0), (1, .slice A1 d1.length cap1), (3, .int .i8 d3), (71, .bool true), (72, .slice A1 d1.length cap1)]) (w' := w_9) f_57 1 [0, 1, 3, 71, 72] (by kernel_rfl) (fun a_30 f_58 => ?_)
              obtain ⟨x_9, hx_9, hF_18⟩ := bind_some' hF_17
              refine W_okv (v := .bool x_9) f_58 p_21 (by kernel_rfl) (by kernel_rfl) rfl rfl (fun _ => by kernel_rfl) (ready_Over_ok n _ A1 cap1 d1 (h1.mono ((((((hM_1.trans hM_2).trans hM_3).trans hM_4).trans hM_5).trans hM_9).trans hM_13)) x_9 hx_9) (fun w_10 p_22 a_31 f_59 => ?_)
              refine W_run (L' := [(0, .slice A0 d0.length cap0), (1, .slice A1 d1.length cap1), (3, .int .i8 d3), (71, .bool true), (73, .bool x_9), (74, .slice A1 d1.length cap1)]) (w' := w_10) f_59 1 [0, 1, 3, 71, 73, 74] (by kernel_rfl) (fun a_32 f_60 => ?_)
              obtain ⟨x_10, hx_10, hF_19⟩ := bind_some' hF_18
              refine W_okv (v := .bool x_10) f_60 p_22 (by kernel_rfl) (by kernel_rfl) rfl rfl (fun _ => by kernel_rfl) (ref21_Over_ok n _ A1 cap1 d1 (h1.mono ((((((hM_1.trans hM_2).trans hM_3).trans hM_4).trans hM_5).trans hM_9).trans hM_13)) x_10 hx_10) (fun w_11 p_23 a_33 f_61 => ?_)
              refine W_run (L' := [(0, .slice A0 d0.length cap0), (1, .slice A1 d1.length cap1), (3, .int .i8 d3), (78, .bool (x_9 == x_10))]) (w' := w_11) f_61 3 [0, 1, 3, 78] (by kernel_rfl) (fun a_34 f_62 => ?_)
              rcases Bool.eq_false_or_eq_true (x_9 == x_10) with h_11 | h_11
              · have hF_20 := cnd_t h_11 hF_19
                have f_63 := Frm.set f_62 78 (v := .bool (x_9 == x_10)) (v' := .bool true) (by kernel_rfl) (congrArg Value.bool h_11)
                have f_64 : Frm 99 [(0, .slice A0 d0.length cap0), (1, .slice A1 d1.length cap1), (3, .int .i8 d3), (78, .bool true)] a_34 := f_63.keep (ks := [0, 1, 3, 78]) (by kernel_rfl)
                refine W_run (L' := [(0, .slice A0 d0.length cap0), (1, .slice A1 d1.length cap1), (3, .int .i8 d3), (78, .bool true), (79, .slice A1 d1.length cap1), (80, .int .i8 d3)]) (w' := w_11) f_64 2 [0, 1, 3, 78, 79, 80] (by kernel_rfl) (fun a_35 f_65 => ?_)
                obtain ⟨x_11, hx_11, hF_21⟩ := bind_some' hF_20
                refine W_okv (v := .int .i64 x_11) f_65 p_23 (by kernel_rfl) (by kernel_rfl) rfl rfl (fun _ => by kernel_rfl) (ready_Count_ok n _ A1 cap1 d1 (h1.mono ((((((hM_1.trans hM_2).trans hM_3).trans hM_4).trans hM_5).trans hM_9).trans hM_13)) d3 x_11 hx_11) (fun w_12 p_24 a_36 f_66 => ?_)
                refine W_run (L' := [(0, .slice A0 d0.length cap0), (1, .slice A1 d1.length cap1), (78, .bool true), (81, .int .i64 x_11), (82, .slice A1 d1.length cap1), (83, .int .i8 d3)]) (w' := w_12) f_66 2 [0, 1, 78, 81, 82, 83] (by kernel_rfl) (fun a_37 f_67 => ?_)
                obtain ⟨x_12, hx_12, hF_22⟩ := bind_some' hF_21
                refine W_okv (v := .int .i64 x_12) f_67 p_24 (by kernel_rfl) (by kernel_rfl) rfl rfl (fun _ => by kernel_rfl) (ref21_Count_ok n _ A1 cap1 d1 (h1.mono ((((((hM_1.trans hM_2).trans hM_3).trans hM_4).trans hM_5).trans hM_9).trans hM_13)) d3 x_12 hx_12) (fun w_13 p_25 a_38 f_68 => ?_)
                refine W_run (L' := [(0, .slice A0 d0.length cap0), (1, .slice A1 d1.length cap1), (87, .bool (decide (x_11 = x_12)))]) (w' := w_13) f_68 3 [0, 1, 87] (by kernel_rfl) (fun a_39 f_69 => ?_)
                rcases Bool.eq_false_or_eq_true (decide (x_11 = x_12)) with h_12 | h_12
                · have k_10 : x_11 = x_12 := decide_eq_true_iff.1 h_12
                  have hF_23 := cnd_t h_12 hF_22
                  have f_70 := Frm.set f_69 87 (v := .bool (decide (x_11 = x_12))) (v' := .bool true) (by kernel_rfl) (congrArg Value.bool h_12)
                  have f_71 : Frm 99 [(0, .slice A0 d0.length cap0), (1, .slice A1 d1.length cap1), (87, .bool true)] a_39 := f_70.keep (ks := [0, 1, 87]) (by kernel_rfl)
                  refine W_run (L' := [(0, .slice A0 d0.length cap0), (1, .slice A1 d1.length cap1), (87, .bool true), (88, .slice A0 d0.length cap0), (89, .slice A1 d1.length cap1)]) (w' := w_13) f_71 2 [0, 1, 87, 88, 89] (by kernel_rfl) (fun a_40 f_72 => ?_)
                  obtain ⟨x_13, hx_13, hF_24⟩ := bind_some' hF_23
                  refine W_okv (v := .bool x_13) f_72 p_25 (by kernel_rfl) (by kernel_rfl) rfl rfl (fun _ => by kernel_rfl) (ready_May_ok n _ A0 cap0 d0 (h0.mono ((((((hM_1.trans hM_2).trans hM_3).trans hM_4).trans hM_5).trans hM_9).trans hM_13)) A1 cap1 d1 (h1.mono ((((((hM_1.trans hM_2).trans hM_3).trans hM_4).trans hM_5).trans hM_9).trans hM_13)) x_13 hx_13) (fun w_14 p_26 a_41 f_73 => ?_)
                  refine W_run (L' := [(87, .bool true), (90, .bool x_13), (91, .slice A0 d0.length cap0), (92, .slice A1 d1.length cap1)]) (w' := w_14) f_73 2 [87, 90, 91, 92] (by kernel_rfl) (fun a_42 f_74 => ?_)
                  obtain ⟨x_14, hx_14, hF_25⟩ := bind_some' hF_24
                  refine W_okv (v := .bool x_14) f_74 p_26 (by kernel_rfl) (by kernel_rfl) rfl rfl (fun _ => by kernel_rfl) (ref21_May_ok n _ A0 cap0 d0 (h0.mono ((((((hM_1.trans hM_2).trans hM_3).trans hM_4).trans hM_5).trans hM_9).trans hM_13)) A1 cap1 d1 (h1.mono ((((((hM_1.trans hM_2).trans hM_3).trans hM_4).trans hM_5).trans hM_9).trans hM_13)) x_14 hx_14) (fun w_15 p_27 a_43 f_75 => ?_)
                  refine W_run (L' := [(96, .bool (x_13 == x_14))]) (w' := w_15) f_75 3 [96] (by kernel_rfl) (fun a_44 f_76 => ?_)
                  rcases Bool.eq_false_or_eq_true (x_13 == x_14) with h_13 | h_13
                  · have hF_26 := cnd_t h_13 hF_25
                    have f_77 := Frm.set f_76 96 (v := .bool (x_13 == x_14)) (v' := .bool true) (by kernel_rfl) (congrArg Value.bool h_13)
                    have f_78 : Frm 99 [(96, .bool true)] a_44 := f_77.keep (ks := [96]) (by kernel_rfl)
                    obtain ⟨x_15, hx_15, hF_27⟩ := bind_some' hF_26
                    refine W_okv (v := .bool x_15) f_78 p_27 (by kernel_rfl) (by kernel_rfl) rfl rfl (fun _ => by kernel_rfl) (law21_wakes_ok n _  x_15 hx_15) (fun w_16 p_28 a_45 f_79 => ?_)
                    refine W_run (L' := [(8, .bool x_15)]) (w' := w_16) f_79 2 [8] (by kernel_rfl) (fun a_46 f_80 => ?_)
                    refine W_end rfl ?_
                    refine T_n ?_
                    refine wp_ret ?_
                    refine E_ret1 f_80 rfl (by kernel_rfl : Vc.look _ 8 = some (.bool x_15)) ?_
                    obtain rfl := Option.some.inj hF_27
                    exact ⟨_, rfl, M_13, ((((((hM_1.trans hM_2).trans hM_3).trans hM_4).trans hM_5).trans hM_9).trans hM_13), (p_28.dropN 4), rfl⟩
                  · have hF_28 := cnd_f h_13 hF_25
                    have f_81 := Frm.set f_76 96 (v := .bool (x_13 == x_14)) (v' := .bool false) (by kernel_rfl) (congrArg Value.bool h_13)
                    have f_82 : Frm 99 [(96, .bool false)] a_44 := f_81.keep (ks := [96]) (by kernel_rfl)
                    refine W_run (L' := [(8, .bool false)]) (w' := w_15) f_82 3 [8] (by kernel_rfl) (fun a_47 f_83 => ?_)
                    refine W_end rfl ?_
                    refine T_n ?_
                    refine wp_ret ?_
                    refine E_ret1 f_83 rfl (by kernel_rfl : Vc.look _ 8 = some (.bool false)) ?_
                    obtain rfl := Option.some.inj hF_28
                    exact ⟨_, rfl, M_13, ((((((hM_1.trans hM_2).trans hM_3).trans hM_4).trans hM_5).trans hM_9).trans hM_13), (p_27.dropN 4), rfl⟩
                · have k_13 : ¬ (x_11 = x_12) := iff_f decide_eq_true_iff h_12
                  have hF_29 := cnd_f h_12 hF_22
                  have f_84 := Frm.set f_69 87 (v := .bool (decide (x_11 = x_12))) (v' := .bool false) (by kernel_rfl) (congrArg Value.bool h_12)
                  have f_85 : Frm 99 [(0, .slice A0 d0.length cap0), (1, .slice A1 d1.length cap1), (87, .bool false)] a_39 := f_84.keep (ks := [0, 1, 87]) (by kernel_rfl)
                  refine W_run (L' := [(8, .bool false)]) (w' := w_13) f_85 12 [8] (by kernel_rfl) (fun a_48 f_86 => ?_)
                  refine W_end rfl ?_
                  refine T_n ?_
                  refine wp_ret ?_
                  refine E_ret1 f_86 rfl (by kernel_rfl : Vc.look _ 8 = some (.bool false)) ?_
                  obtain rfl := Option.some.inj hF_29
                  exact ⟨_, rfl, M_13, ((((((hM_1.trans hM_2).trans hM_3).trans hM_4).trans hM_5).trans hM_9).trans hM_13), (p_25.dropN 4), rfl⟩
              · have hF_30 := cnd_f h_11 hF_19
                have f_87 := Frm.set f_62 78 (v := .bool (x_9 == x_10)) (v' := .bool false) (by kernel_rfl) (congrArg Value.bool h_11)
                have f_88 : Frm 99 [(0, .slice A0 d0.length cap0), (1, .slice A1 d1.length cap1), (3, .int .i8 d3), (78, .bool false)] a_34 := f_87.keep (ks := [0, 1, 3, 78]) (by kernel_rfl)
                refine W_run (L' := [(8, .bool false)]) (w' := w_11) f_88 21 [8] (by kernel_rfl) (fun a_49 f_89 => ?_)
                refine W_end rfl ?_
                refine T_n ?_
                refine wp_ret ?_
                refine E_ret1 f_89 rfl (by kernel_rfl : Vc.look _ 8 = some (.bool false)) ?_
                obtain rfl := Option.some.inj hF_30
                exact ⟨_, rfl, M_13, ((((((hM_1.trans hM_2).trans hM_3).trans hM_4).trans hM_5).trans hM_9).trans hM_13), (p_23.dropN 4), rfl⟩
            · have k_15 : ¬ (x_5.2 = x_6.2) := iff_f decide_eq_true_iff h_10
              have hF_31 := cnd_f h_10 hF_16
              have f_90 := Frm.set f_55 71 (v := .bool (decide (x_5.2 = x_6.2))) (v' := .bool false) (by kernel_rfl) (congrArg Value.bool h_10)
              have f_91 : Frm 99 [(0, .slice A0 d0.length cap0), (1, .slice A1 d1.length cap1), (3, .int .i8 d3), (71, .bool false)] a_29 := f_90.keep (ks := [0, 1, 3, 71]) (by kernel_rfl)
              refine W_run (L' := [(8, .bool false)]) (w' := w_9) f_91 28 [8] (by kernel_rfl) (fun a_50 f_92 => ?_)
              refine W_end rfl ?_
              refine T_n ?_
              refine wp_ret ?_
              refine E_ret1 f_92 rfl (by kernel_rfl : Vc.look _ 8 = some (.bool false)) ?_
              obtain rfl := Option.some.inj hF_31
              exact ⟨_, rfl, M_13, ((((((hM_1.trans hM_2).trans hM_3).trans hM_4).trans hM_5).trans hM_9).trans hM_13), (p_21.dropN 4), rfl⟩
          · have hF_32 := cnd_f h_9 hF_15
            have f_93 := Frm.set f_52 66 (v := .bool x_8) (v' := .bool false) (by kernel_rfl) (congrArg Value.bool h_9)
            have f_94 : Frm 99 [(0, .slice A0 d0.length cap0), (1, .slice A1 d1.length cap1), (3, .int .i8 d3), (14, .int .i64 x_5.2), (16, .int .i64 x_6.2), (66, .bool false)] a_28 := f_93.keep (ks := [0, 1, 3, 14, 16, 66]) (by kernel_rfl)
            refine W_run (L' := [(8, .bool false)]) (w' := w_9) f_94 33 [8] (by kernel_rfl) (fun a_51 f_95 => ?_)
            refine W_end rfl ?_
            refine T_n ?_
            refine wp_ret ?_
            refine E_ret1 f_95 rfl (by kernel_rfl : Vc.look _ 8 = some (.bool false)) ?_
            obtain rfl := Option.some.inj hF_32
            exact ⟨_, rfl, M_13, ((((((hM_1.trans hM_2).trans hM_3).trans hM_4).trans hM_5).trans hM_9).trans hM_13), (p_21.dropN 4), rfl⟩
        · have k_17 : ¬ (x_3.2 = x_4.2) := iff_f decide_eq_true_iff h_6
          have hF_33 := cnd_f h_6 hF_13
          have f_96 := Frm.set f_39 61 (v := .bool (decide (x_3.2 = x_4.2))) (v' := .bool false) (by kernel_rfl) (congrArg Value.bool h_6)
          have f_97 : Frm 99 [(0, .slice A0 d0.length cap0), (1, .slice A1 d1.length cap1), (3, .int .i8 d3), (13, .slice A_3 x_5.1.length cap_3), (14, .int .i64 x_5.2), (15, .slice A_4 x_6.1.length cap_4), (16, .int .i64 x_6.2), (61, .bool false)] a_25 := f_96.keep (ks := [0, 1, 3, 13, 14, 15, 16, 61]) (by kernel_rfl)
          refine W_run (L' := [(8, .bool false)]) (w' := w_8) f_97 38 [8] (by kernel_rfl) (fun a_52 f_98 => ?_)
          refine W_end rfl ?_
          refine T_n ?_
          refine wp_ret ?_
          refine E_ret1 f_98 rfl (by kernel_rfl : Vc.look _ 8 = some (.bool false)) ?_
          obtain rfl := Option.some.inj hF_33
          exact ⟨_, rfl, M_9, (((((hM_1.trans hM_2).trans hM_3).trans hM_4).trans hM_5).trans hM_9), (p_14.dropN 4), rfl⟩
      · have hF_34 := cnd_f h_5 hF_12
        have f_99 := Frm.set f_36 56 (v := .bool x_7) (v' := .bool false) (by kernel_rfl) (congrArg Value.bool h_5)
        have f_100 : Frm 99 [(0, .slice A0 d0.length cap0), (1, .slice A1 d1.length cap1), (3, .int .i8 d3), (10, .int .i64 x_3.2), (12, .int .i64 x_4.2), (13, .slice A_3 x_5.1.length cap_3), (14, .int .i64 x_5.2), (15, .slice A_4 x_6.1.length cap_4), (16, .int .i64 x_6.2), (56, .bool false)] a_24 := f_99.keep (ks := [0, 1, 3, 10, 12, 13, 14, 15, 16, 56]) (by kernel_rfl)
        refine W_run (L' := [(8, .bool false)]) (w' := w_8) f_100 43 [8] (by kernel_rfl) (fun a_53 f_101 => ?_)
        refine W_end rfl ?_
        refine T_n ?_
        refine wp_ret ?_
        refine E_ret1 f_101 rfl (by kernel_rfl : Vc.look _ 8 = some (.bool false)) ?_
        obtain rfl := Option.some.inj hF_34
        exact ⟨_, rfl, M_9, (((((hM_1.trans hM_2).trans hM_3).trans hM_4).trans hM_5).trans hM_9), (p_14.dropN 4), rfl⟩
end Go.Proofs.Ytfdmlionhbeebaa
