/-
  Printed by a program: of each function its shallow reading, and the proof that the function gives what the reading gives. No condition.
-/
import Derived.Test.YtfdmlionhbeebaaQ4
import Derived.Test.YtfdmlionhbeebaaVkB
set_option linter.unusedVariables false
set_option linter.unusedSimpArgs false
namespace Go.Proofs.Ytfdmlionhbeebaa
open Go Go.Vc Go.RowKit
def ref21_turned_s2 (n : Nat) (d0 : List (List Int)) (s_1 : Int × List (List Int)) (s_2 : Int × List (List Int)) : Option (Lp (Int × List (List Int)) (List (List Int))) :=
    (getI d0 s_1.1).bind fun x_1 =>
    bif (decide (s_2.1 < ((x_1.length : Nat) : Int))) then
      ((((getI x_1 s_2.1).bind fun x_3 =>
        (getI s_2.2 x_3).bind fun x_6 =>
        need ((x_6.length + 1) * 8 ≤ 140737488355328) <|
        some (s_2.2.set x_3.toNat (x_6 ++ [s_1.1])) : Option (List (List Int)))).bind fun y_1 =>
      need (inR .i64 (s_2.1 + 1)) <|
      some (.nx (s_2.1 + 1, y_1)))
    else
      some (.br s_2.2)
def ref21_turned_s1 (n : Nat) (d0 : List (List Int)) (s_1 : Int × List (List Int)) : Option (Lp (Int × List (List Int)) (List (List Int))) :=
    bif (decide (s_1.1 < ((d0.length : Nat) : Int))) then
      ((loopF (ref21_turned_s2 n d0 s_1) n ((0 : Int), s_1.2)).bind fun y_2 =>
      need (inR .i64 (s_1.1 + 1)) <|
      some (.nx (s_1.1 + 1, y_2)))
    else
      some (.br s_1.2)
def ref21_turned (n : Nat) (d0 : List (List Int)) : Option (List (List Int)) :=
  need (0 ≤ ((d0.length : Nat) : Int) ∧ ((d0.length : Nat) : Int) * 24 ≤ 140737488355328 ∧ ((d0.length : Nat) : Int) ≤ 140737488355328) <|
  (loopF (ref21_turned_s1 n d0) n ((0 : Int), List.replicate ((d0.length : Nat) : Int).toNat ([] : List Int))).bind fun y_3 =>
  some (y_3)
set_option maxRecDepth 20000 in
theorem ref21_turned_ok (n : Nat) (M : Mem) (A0 : Option Addr) (cap0 : Nat) (d0 : List (List Int)) (h0 : Sli M 1 (eL 1 (Dat.int .i64)) A0 cap0 d0) (r : List (List Int)) (hF : ref21_turned n d0 = some r) : Ok Try.prog M 51 [.slice A0 d0.length cap0] (fun M' v => ∃ (A0 : Option Addr) (k0 : Nat), v = .slice A0 r.length k0 ∧ Sli M' 1 (eL 1 (Dat.int .i64)) A0 k0 r) := by
  unfold ref21_turned at hF
  intro M1 hM0 w0 H w p0
  replace h0 := h0.mono hM0
  refine R_enter 47 Try.func51 rfl rfl (by simp) (fun a0 f0 => ?_)
  replace f0 : Frm 47 [(0, .slice A0 d0.length cap0)] a0 := f0
  refine R_seq ?_
  refine R_reg ?_
  refine W_run (L' := [(0, .slice A0 d0.length cap0)]) (w' := w) f0 1 [0] (by kernel_rfl) (fun a_1 f_1 => ?_)
  refine W_end rfl ?_
  refine T_n ?_
  refine R_seq ?_
  refine R_reg ?_
  refine W_run (L' := [(0, .slice A0 d0.length cap0), (7, .int .i64 ((d0.length : Nat) : Int))]) (w' := w) f_1 2 [0, 7] (by kernel_rfl) (fun a_2 f_2 => ?_)
  obtain ⟨g_1, hF_1⟩ := need_some hF
  refine W_makeRR (e := 27) (e2 := 3) (k := .i64) (m := ((d0.length : Nat) : Int)) (bytes := 24) [] f_2 p0 (by kernel_rfl) (by kernel_rfl) rfl rfl rfl (by kernel_rfl) (by kernel_rfl) (by kernel_rfl) (by kernel_rfl) g_1 (fun b_1 w_1 p_1 a_3 f_3 => ?_)
  have hl_1 : (List.replicate ((d0.length : Nat) : Int).toNat (Value.slice none 0 0)).length = (List.replicate ((d0.length : Nat) : Int).toNat ([] : List Int)).length ∧ (List.replicate ((d0.length : Nat) : Int).toNat ([] : List Int)).length = ((d0.length : Nat) : Int).toNat := rr_new _
  replace p_1 : Hp w0 M1 ((Ent.obj b_1 (.cells (List.replicate ((d0.length : Nat) : Int).toNat (Value.slice none 0 0)).toArray 27 (0, 0))) :: (rbag 3 .i64 (List.replicate ((d0.length : Nat) : Int).toNat ([] : List Int)) (List.replicate ((d0.length : Nat) : Int).toNat (Value.slice none 0 0)) ++ H)) w_1 := p_1
  refine W_run (L' := [(0, .slice A0 d0.length cap0), (3, .slice (some ⟨b_1, 0, none⟩) ((d0.length : Nat) : Int).toNat ((d0.length : Nat) : Int).toNat)]) (w' := w_1) f_3 1 [0, 3] (by kernel_rfl) (fun a_4 f_4 => ?_)
  refine W_end rfl ?_
  refine T_n ?_
  refine R_seq ?_
  refine R_seq ?_
  refine R_reg ?_
  refine W_run (L' := [(0, .slice A0 d0.length cap0), (3, .slice (some ⟨b_1, 0, none⟩) ((d0.length : Nat) : Int).toNat ((d0.length : Nat) : Int).toNat), (4, .int .i64 0)]) (w' := w_1) f_4 1 [0, 3, 4] (by kernel_rfl) (fun a_5 f_5 => ?_)
  refine W_end rfl ?_
  refine T_n ?_
  refine wp_block ?_
  obtain ⟨b_2, hL_1, hF_2⟩ := bind_some' hF_1
  refine wp_mono (Q := fun e a w => (e = .exit 0 ∧ (∃ y_3 : List (List Int), b_2 = y_3 ∧ ∃ M_5 : Mem, M1.le M_5 ∧ ∃ (hs_7 : List Value), (hs_7.length = y_3.length ∧ y_3.length = ((d0.length : Nat) : Int).toNat) ∧ Frm 47 [(3, .slice (some ⟨b_1, 0, none⟩) ((d0.length : Nat) : Int).toNat ((d0.length : Nat) : Int).toNat)] a ∧ Hp w0 M_5 ((Ent.obj b_1 (.cells hs_7.toArray 27 (0, 0))) :: (rbag 3 .i64 y_3 hs_7 ++ H)) w))) (R_loop (n := 47) (w0 := w0) (M := M1) (fun (x : Nat × (Int × List (List Int)) × (List Value)) => match x with | (m_1, s_1, hs_1) => [(0, .slice A0 d0.length cap0), (3, .slice (some ⟨b_1, 0, none⟩) ((d0.length : Nat) : Int).toNat ((d0.length : Nat) : Int).toNat), (4, .int .i64 s_1.1)]) (fun (x : Nat × (Int × List (List Int)) × (List Value)) => match x with | (m_1, s_1, hs_1) => ((Ent.obj b_1 (.cells hs_1.toArray 27 (0, 0))) :: (rbag 3 .i64 s_1.2 hs_1 ++ H))) (fun (x : Nat × (Int × List (List Int)) × (List Value)) (MM : Mem) => match x with | (m_1, s_1, hs_1) => loopF (ref21_turned_s1 n d0) m_1 s_1 = some b_2 ∧ (hs_1.length = s_1.2.length ∧ s_1.2.length = ((d0.length : Nat) : Int).toNat)) (fun (x : Nat × (Int × List (List Int)) × (List Value)) => match x with | (m_1, s_1, hs_1) => m_1) (n, ((0 : Int), List.replicate ((d0.length : Nat) : Int).toNat ([] : List Int)), (List.replicate ((d0.length : Nat) : Int).toNat (Value.slice none 0 0))) (f_5.keep (ks := [0, 3, 4]) (by kernel_rfl)) p_1 ⟨hL_1, hl_1⟩ ?_) ?_
  · rintro ⟨m_1, s_1, hs_1⟩ M_1 a_6 w_2 hM_1 I_1 f_6 p_2
    replace f_6 : Frm 47 [(0, .slice A0 d0.length cap0), (3, .slice (some ⟨b_1, 0, none⟩) ((d0.length : Nat) : Int).toNat ((d0.length : Nat) : Int).toNat), (4, .int .i64 s_1.1)] a_6 := f_6
    replace p_2 : Hp w0 M_1 ((Ent.obj b_1 (.cells hs_1.toArray 27 (0, 0))) :: (rbag 3 .i64 s_1.2 hs_1 ++ H)) w_2 := p_2
    obtain ⟨I_1L, hl_2⟩ := I_1
    obtain ⟨m_2, r_1, rfl, hs_2, hn_1⟩ := loop_step I_1L
    unfold ref21_turned_s1 at hs_2
    refine R_seq ?_
    refine R_seq ?_
    refine R_reg ?_
    refine W_run (L' := [(0, .slice A0 d0.length cap0), (3, .slice (some ⟨b_1, 0, none⟩) ((d0.length : Nat) : Int).toNat ((d0.length : Nat) : Int).toNat), (4, .int .i64 s_1.1), (12, .bool (decide (s_1.1 < ((d0.length : Nat) : Int))))]) (w' := w_2) f_6 4 [0, 3, 4, 12] (by kernel_rfl) (fun a_7 f_7 => ?_)
    refine W_end rfl ?_
    refine T_n ?_
    refine R_cond f_7 (b := decide (s_1.1 < ((d0.length : Nat) : Int))) (by kernel_rfl) (by kernel_rfl) (fun h_1 => ?_) (fun h_1 => ?_)
    · have k_1 : s_1.1 < ((d0.length : Nat) : Int) := decide_eq_true_iff.1 h_1
      have hF_3 := cnd_t h_1 hs_2
      refine wp_skip ?_
      refine T_n ?_
      refine R_seq ?_
      refine wp_block ?_
      refine R_seq ?_
      refine R_reg ?_
      refine W_run (L' := [(0, .slice A0 d0.length cap0), (3, .slice (some ⟨b_1, 0, none⟩) ((d0.length : Nat) : Int).toNat ((d0.length : Nat) : Int).toNat), (4, .int .i64 s_1.1), (5, .int .i64 0)]) (w' := w_2) f_7 1 [0, 3, 4, 5] (by kernel_rfl) (fun a_8 f_8 => ?_)
      refine W_end rfl ?_
      refine T_n ?_
      refine wp_block ?_
      obtain ⟨b_3, hL_2, hF_4⟩ := bind_some' hF_3
      refine wp_mono (Q := fun e a w => (e = .exit 2 ∧ (∃ y_2 : List (List Int), b_3 = y_2 ∧ ∃ M_4 : Mem, M_1.le M_4 ∧ ∃ (hs_6 : List Value), (hs_6.length = y_2.length ∧ y_2.length = ((d0.length : Nat) : Int).toNat) ∧ Frm 47 [(0, .slice A0 d0.length cap0), (3, .slice (some ⟨b_1, 0, none⟩) ((d0.length : Nat) : Int).toNat ((d0.length : Nat) : Int).toNat), (4, .int .i64 s_1.1)] a ∧ Hp w0 M_4 ((Ent.obj b_1 (.cells hs_6.toArray 27 (0, 0))) :: (rbag 3 .i64 y_2 hs_6 ++ H)) w))) (R_loop (n := 47) (w0 := w0) (M := M_1) (fun (x : Nat × (Int × List (List Int)) × (List Value)) => match x with | (m_3, s_2, hs_3) => [(0, .slice A0 d0.length cap0), (3, .slice (some ⟨b_1, 0, none⟩) ((d0.length : Nat) : Int).toNat ((d0.length : Nat) : Int).toNat), (4, .int .i64 s_1.1), (5, .int .i64 s_2.1)]) (fun (x : Nat × (Int × List (List Int)) × (List Value)) => match x with | (m_3, s_2, hs_3) => ((Ent.obj b_1 (.cells hs_3.toArray 27 (0, 0))) :: (rbag 3 .i64 s_2.2 hs_3 ++ H))) (fun (x : Nat × (Int × List (List Int)) × (List Value)) (MM : Mem) => match x with | (m_3, s_2, hs_3) => loopF (ref21_turned_s2 n d0 s_1) m_3 s_2 = some b_3 ∧ (hs_3.length = s_2.2.length ∧ s_2.2.length = ((d0.length : Nat) : Int).toNat)) (fun (x : Nat × (Int × List (List Int)) × (List Value)) => match x with | (m_3, s_2, hs_3) => m_3) (n, ((0 : Int), s_1.2), hs_1) (f_8.keep (ks := [0, 3, 4, 5]) (by kernel_rfl)) p_2 ⟨hL_2, hl_2⟩ ?_) ?_
      · rintro ⟨m_3, s_2, hs_3⟩ M_2 a_9 w_3 hM_2 I_2 f_9 p_3
        replace f_9 : Frm 47 [(0, .slice A0 d0.length cap0), (3, .slice (some ⟨b_1, 0, none⟩) ((d0.length : Nat) : Int).toNat ((d0.length : Nat) : Int).toNat), (4, .int .i64 s_1.1), (5, .int .i64 s_2.1)] a_9 := f_9
        replace p_3 : Hp w0 M_2 ((Ent.obj b_1 (.cells hs_3.toArray 27 (0, 0))) :: (rbag 3 .i64 s_2.2 hs_3 ++ H)) w_3 := p_3
        obtain ⟨I_2L, hl_3⟩ := I_2
        obtain ⟨m_4, r_2, rfl, hs_4, hn_2⟩ := loop_step I_2L
        unfold ref21_turned_s2 at hs_4
        refine R_seq ?_
        refine R_seq ?_
        refine R_reg ?_
        refine W_run (L' := [(0, .slice A0 d0.length cap0), (3, .slice (some ⟨b_1, 0, none⟩) ((d0.length : Nat) : Int).toNat ((d0.length : Nat) : Int).toNat), (4, .int .i64 s_1.1), (5, .int .i64 s_2.1), (15, .int .i64 s_2.1), (16, .slice A0 d0.length cap0), (17, .int .i64 s_1.1)]) (w' := w_3) f_9 3 [0, 3, 4, 5, 15, 16, 17] (by kernel_rfl) (fun a_10 f_10 => ?_)
        obtain ⟨x_1, hx_1, hF_5⟩ := bind_some' hs_4
        obtain ⟨ad_1, c_1, e_1, hl_4, hr_1, hc_1⟩ := Sli.at_ (h0.mono (hM_1.trans hM_2)) hx_1
        clear hl_4
        obtain ⟨A_1, cap_1, rfl, h_2⟩ := Rep.sli hr_1
        refine W_eq (v := .pointer (some (ad_1.add (s_1.1.toNat * 1)))) f_10 (by kernel_rfl) (by kernel_rfl) rfl rfl (X_indexAddrA e_1 rfl (len := d0.length) (cap := cap0) (k := .i64) (i := s_1.1) (by kernel_rfl) (by kernel_rfl) (e := 27) (by kernel_rfl) (sz := 1) (by kernel_rfl) (getI_nn hx_1) (getI_lt hx_1)) (fun a_11 f_11 => ?_)
        refine W_eq (v := .slice A_1 x_1.length cap_1) f_11 (by kernel_rfl) (by kernel_rfl) rfl rfl (X_load1 (v := .slice A_1 x_1.length cap_1) rfl (ad := ad_1.add (s_1.1.toNat * 1)) (by kernel_rfl) (by kernel_rfl) (p_3.cell (hc_1 0 _ rfl))) (fun a_12 f_12 => ?_)
        refine W_run (L' := [(0, .slice A0 d0.length cap0), (3, .slice (some ⟨b_1, 0, none⟩) ((d0.length : Nat) : Int).toNat ((d0.length : Nat) : Int).toNat), (4, .int .i64 s_1.1), (5, .int .i64 s_2.1), (21, .bool (decide (s_2.1 < ((x_1.length : Nat) : Int))))]) (w' := w_3) f_12 2 [0, 3, 4, 5, 21] (by kernel_rfl) (fun a_13 f_13 => ?_)
        refine W_end rfl ?_
        refine T_n ?_
        refine R_cond f_13 (b := decide (s_2.1 < ((x_1.length : Nat) : Int))) (by kernel_rfl) (by kernel_rfl) (fun h_3 => ?_) (fun h_3 => ?_)
        · have k_2 : s_2.1 < ((x_1.length : Nat) : Int) := decide_eq_true_iff.1 h_3
          have hF_6 := cnd_t h_3 hF_5
          refine wp_skip ?_
          refine T_n ?_
          refine R_seq ?_
          refine wp_block ?_
          obtain ⟨j_1, hj_1, hF_7⟩ := bind_some' hF_6
          refine R_mid (fun a_61 w_25 => ∃ y_1 : List (List Int), j_1 = y_1 ∧ ∃ M_3 : Mem, M_2.le M_3 ∧ ∃ (hs_5 : List Value), (hs_5.length = y_1.length ∧ y_1.length = ((d0.length : Nat) : Int).toNat) ∧ Frm 47 [(0, .slice A0 d0.length cap0), (3, .slice (some ⟨b_1, 0, none⟩) ((d0.length : Nat) : Int).toNat ((d0.length : Nat) : Int).toNat), (4, .int .i64 s_1.1), (5, .int .i64 s_2.1)] a_61 ∧ Hp w0 M_3 ((Ent.obj b_1 (.cells hs_5.toArray 27 (0, 0))) :: (rbag 3 .i64 y_1 hs_5 ++ H)) w_25) ?_ ?_
          · obtain ⟨x_3, hx_2, hF_8⟩ := bind_some' hj_1
            obtain ⟨x_6, hx_3, hF_9⟩ := bind_some' hF_8
            obtain ⟨g_2, hF_10⟩ := need_some hF_9
            refine R_plan (ks := []) (E := ((Ent.obj b_1 (.cells hs_3.toArray 27 (0, 0))) :: rbag 3 .i64 s_2.2 hs_3)) (Hr := (H)) (.quiet 0 (.quiet 1 (.quiet 2 (.quiet 3 (.quiet 4 (.quiet 5 (.quiet 6 (.quiet 7 (.quiet 8 (.quiet 9 (.quiet 10 (.quiet 11 (.quiet 12 (.quiet 13 (.quiet 14 (.quiet 15 (.quiet 16 (.quiet 18 (.alt 17 (.alt 19 (.alt 20 (.alt 21 (.alt 22 .done .none) .none) .none) .none) (.alt 19 (.alt 17 (.alt 20 (.alt 21 (.alt 22 .done .none) .none) .none) .none) .none)))))))))))))))))))) p_3 (by kernel_rfl) (by kernel_rfl) (by kernel_rfl) ?_
            refine N_eq (v := .slice (some ⟨b_1, 0, none⟩) ((d0.length : Nat) : Int).toNat ((d0.length : Nat) : Int).toNat) rfl f_13 (by kernel_rfl) (by kernel_rfl) rfl rfl (fun _ _ => by kernel_rfl) (fun a_33 f_33 => ?_)
            have f_34 : Frm 47 [(0, .slice A0 d0.length cap0), (3, .slice (some ⟨b_1, 0, none⟩) ((d0.length : Nat) : Int).toNat ((d0.length : Nat) : Int).toNat), (4, .int .i64 s_1.1), (5, .int .i64 s_2.1), (24, .slice (some ⟨b_1, 0, none⟩) ((d0.length : Nat) : Int).toNat ((d0.length : Nat) : Int).toNat)] a_33 := f_33.keep (ks := [0, 3, 4, 5, 24]) (by kernel_rfl)
            refine N_eq (v := .slice A0 d0.length cap0) rfl f_34 (by kernel_rfl) (by kernel_rfl) rfl rfl (fun _ _ => by kernel_rfl) (fun a_34 f_35 => ?_)
            have f_36 : Frm 47 [(0, .slice A0 d0.length cap0), (3, .slice (some ⟨b_1, 0, none⟩) ((d0.length : Nat) : Int).toNat ((d0.length : Nat) : Int).toNat), (4, .int .i64 s_1.1), (5, .int .i64 s_2.1), (24, .slice (some ⟨b_1, 0, none⟩) ((d0.length : Nat) : Int).toNat ((d0.length : Nat) : Int).toNat), (25, .slice A0 d0.length cap0)] a_34 := f_35.keep (ks := [0, 3, 4, 5, 24, 25]) (by kernel_rfl)
            refine N_eq (v := .int .i64 s_1.1) rfl f_36 (by kernel_rfl) (by kernel_rfl) rfl rfl (fun _ _ => by kernel_rfl) (fun a_35 f_37 => ?_)
            have f_38 : Frm 47 [(0, .slice A0 d0.length cap0), (3, .slice (some ⟨b_1, 0, none⟩) ((d0.length : Nat) : Int).toNat ((d0.length : Nat) : Int).toNat), (4, .int .i64 s_1.1), (5, .int .i64 s_2.1), (24, .slice (some ⟨b_1, 0, none⟩) ((d0.length : Nat) : Int).toNat ((d0.length : Nat) : Int).toNat), (25, .slice A0 d0.length cap0), (26, .int .i64 s_1.1)] a_35 := f_37.keep (ks := [0, 3, 4, 5, 24, 25, 26]) (by kernel_rfl)
            obtain ⟨ad_6, c_6, e_6, hl_10, hr_8, hc_6⟩ := Sli.at_ (h0.mono (hM_1.trans hM_2)) hx_1
            clear hl_10
            obtain ⟨A_6, cap_6, rfl, h_6⟩ := Rep.sli hr_8
            refine N_eq (v := .pointer (some (ad_6.add (s_1.1.toNat * 1)))) rfl f_38 (by kernel_rfl) (by kernel_rfl) rfl rfl (fun _ pq => X_indexAddrA e_6 rfl (len := d0.length) (cap := cap0) (k := .i64) (i := s_1.1) (by kernel_rfl) (by kernel_rfl) (e := 27) (by kernel_rfl) (sz := 1) (by kernel_rfl) (getI_nn hx_1) (getI_lt hx_1)) (fun a_36 f_39 => ?_)
            refine N_eq (v := .slice A_6 x_1.length cap_6) rfl f_39 (by kernel_rfl) (by kernel_rfl) rfl rfl (fun _ pq => X_load1 (v := .slice A_6 x_1.length cap_6) rfl (ad := ad_6.add (s_1.1.toNat * 1)) (by kernel_rfl) (by kernel_rfl) (pq.cell (hc_6 0 _ rfl))) (fun a_37 f_40 => ?_)
            refine N_eq (v := .int .i64 s_2.1) rfl f_40 (by kernel_rfl) (by kernel_rfl) rfl rfl (fun _ _ => by kernel_rfl) (fun a_38 f_41 => ?_)
            have f_42 : Frm 47 [(0, .slice A0 d0.length cap0), (3, .slice (some ⟨b_1, 0, none⟩) ((d0.length : Nat) : Int).toNat ((d0.length : Nat) : Int).toNat), (4, .int .i64 s_1.1), (5, .int .i64 s_2.1), (24, .slice (some ⟨b_1, 0, none⟩) ((d0.length : Nat) : Int).toNat ((d0.length : Nat) : Int).toNat), (28, .slice A_6 x_1.length cap_6), (29, .int .i64 s_2.1)] a_38 := f_41.keep (ks := [0, 3, 4, 5, 24, 28, 29]) (by kernel_rfl)
            obtain ⟨ad_7, c_7, e_7, hl_11, hr_9, hc_7⟩ := Sli.at_ h_6 hx_2
            clear hl_11
            obtain rfl : c_7 = [.int .i64 x_3] := hr_9
            refine N_eq (v := .pointer (some (ad_7.add (s_2.1.toNat * 1)))) rfl f_42 (by kernel_rfl) (by kernel_rfl) rfl rfl (fun _ pq => X_indexAddrA e_7 rfl (len := x_1.length) (cap := cap_6) (k := .i64) (i := s_2.1) (by kernel_rfl) (by kernel_rfl) (e := 3) (by kernel_rfl) (sz := 1) (by kernel_rfl) (getI_nn hx_2) (getI_lt hx_2)) (fun a_39 f_43 => ?_)
            refine N_eq (v := .int .i64 x_3) rfl f_43 (by kernel_rfl) (by kernel_rfl) rfl rfl (fun _ pq => X_load1 (v := .int .i64 x_3) rfl (ad := ad_7.add (s_2.1.toNat * 1)) (by kernel_rfl) (by kernel_rfl) (pq.cell (hc_7 0 _ rfl))) (fun a_40 f_44 => ?_)
            refine N_eq (v := .slice (some ⟨b_1, 0, none⟩) ((d0.length : Nat) : Int).toNat ((d0.length : Nat) : Int).toNat) rfl f_44 (by kernel_rfl) (by kernel_rfl) rfl rfl (fun _ _ => by kernel_rfl) (fun a_41 f_45 => ?_)
            have f_46 : Frm 47 [(0, .slice A0 d0.length cap0), (3, .slice (some ⟨b_1, 0, none⟩) ((d0.length : Nat) : Int).toNat ((d0.length : Nat) : Int).toNat), (4, .int .i64 s_1.1), (5, .int .i64 s_2.1), (24, .slice (some ⟨b_1, 0, none⟩) ((d0.length : Nat) : Int).toNat ((d0.length : Nat) : Int).toNat), (31, .int .i64 x_3), (32, .slice (some ⟨b_1, 0, none⟩) ((d0.length : Nat) : Int).toNat ((d0.length : Nat) : Int).toNat)] a_41 := f_45.keep (ks := [0, 3, 4, 5, 24, 31, 32]) (by kernel_rfl)
            refine N_eq (v := .slice A0 d0.length cap0) rfl f_46 (by kernel_rfl) (by kernel_rfl) rfl rfl (fun _ _ => by kernel_rfl) (fun a_42 f_47 => ?_)
            have f_48 : Frm 47 [(0, .slice A0 d0.length cap0), (3, .slice (some ⟨b_1, 0, none⟩) ((d0.length : Nat) : Int).toNat ((d0.length : Nat) : Int).toNat), (4, .int .i64 s_1.1), (5, .int .i64 s_2.1), (24, .slice (some ⟨b_1, 0, none⟩) ((d0.length : Nat) : Int).toNat ((d0.length : Nat) : Int).toNat), (31, .int .i64 x_3), (32, .slice (some ⟨b_1, 0, none⟩) ((d0.length : Nat) : Int).toNat ((d0.length : Nat) : Int).toNat), (33, .slice A0 d0.length cap0)] a_42 := f_47.keep (ks := [0, 3, 4, 5, 24, 31, 32, 33]) (by kernel_rfl)
            refine N_eq (v := .int .i64 s_1.1) rfl f_48 (by kernel_rfl) (by kernel_rfl) rfl rfl (fun _ _ => by kernel_rfl) (fun a_43 f_49 => ?_)
            have f_50 : Frm 47 [(0, .slice A0 d0.length cap0), (3, .slice (some ⟨b_1, 0, none⟩) ((d0.length : Nat) : Int).toNat ((d0.length : Nat) : Int).toNat), (4, .int .i64 s_1.1), (5, .int .i64 s_2.1), (24, .slice (some ⟨b_1, 0, none⟩) ((d0.length : Nat) : Int).toNat ((d0.length : Nat) : Int).toNat), (31, .int .i64 x_3), (32, .slice (some ⟨b_1, 0, none⟩) ((d0.length : Nat) : Int).toNat ((d0.length : Nat) : Int).toNat), (33, .slice A0 d0.length cap0), (34, .int .i64 s_1.1)] a_43 := f_49.keep (ks := [0, 3, 4, 5, 24, 31, 32, 33, 34]) (by kernel_rfl)
            obtain ⟨ad_8, c_8, e_8, hl_12, hr_10, hc_8⟩ := Sli.at_ (h0.mono (hM_1.trans hM_2)) hx_1
            clear hl_12
            obtain ⟨A_7, cap_7, rfl, h_7⟩ := Rep.sli hr_10
            refine N_eq (v := .pointer (some (ad_8.add (s_1.1.toNat * 1)))) rfl f_50 (by kernel_rfl) (by kernel_rfl) rfl rfl (fun _ pq => X_indexAddrA e_8 rfl (len := d0.length) (cap := cap0) (k := .i64) (i := s_1.1) (by kernel_rfl) (by kernel_rfl) (e := 27) (by kernel_rfl) (sz := 1) (by kernel_rfl) (getI_nn hx_1) (getI_lt hx_1)) (fun a_44 f_51 => ?_)
            refine N_eq (v := .slice A_7 x_1.length cap_7) rfl f_51 (by kernel_rfl) (by kernel_rfl) rfl rfl (fun _ pq => X_load1 (v := .slice A_7 x_1.length cap_7) rfl (ad := ad_8.add (s_1.1.toNat * 1)) (by kernel_rfl) (by kernel_rfl) (pq.cell (hc_8 0 _ rfl))) (fun a_45 f_52 => ?_)
            refine N_eq (v := .int .i64 s_2.1) rfl f_52 (by kernel_rfl) (by kernel_rfl) rfl rfl (fun _ _ => by kernel_rfl) (fun a_46 f_53 => ?_)
            have f_54 : Frm 47 [(0, .slice A0 d0.length cap0), (3, .slice (some ⟨b_1, 0, none⟩) ((d0.length : Nat) : Int).toNat ((d0.length : Nat) : Int).toNat), (4, .int .i64 s_1.1), (5, .int .i64 s_2.1), (24, .slice (some ⟨b_1, 0, none⟩) ((d0.length : Nat) : Int).toNat ((d0.length : Nat) : Int).toNat), (31, .int .i64 x_3), (32, .slice (some ⟨b_1, 0, none⟩) ((d0.length : Nat) : Int).toNat ((d0.length : Nat) : Int).toNat), (36, .slice A_7 x_1.length cap_7), (37, .int .i64 s_2.1)] a_46 := f_53.keep (ks := [0, 3, 4, 5, 24, 31, 32, 36, 37]) (by kernel_rfl)
            obtain ⟨ad_9, c_9, e_9, hl_13, hr_11, hc_9⟩ := Sli.at_ h_7 hx_2
            clear hl_13
            obtain rfl : c_9 = [.int .i64 x_3] := hr_11
            refine N_eq (v := .pointer (some (ad_9.add (s_2.1.toNat * 1)))) rfl f_54 (by kernel_rfl) (by kernel_rfl) rfl rfl (fun _ pq => X_indexAddrA e_9 rfl (len := x_1.length) (cap := cap_7) (k := .i64) (i := s_2.1) (by kernel_rfl) (by kernel_rfl) (e := 3) (by kernel_rfl) (sz := 1) (by kernel_rfl) (getI_nn hx_2) (getI_lt hx_2)) (fun a_47 f_55 => ?_)
            refine N_eq (v := .int .i64 x_3) rfl f_55 (by kernel_rfl) (by kernel_rfl) rfl rfl (fun _ pq => X_load1 (v := .int .i64 x_3) rfl (ad := ad_9.add (s_2.1.toNat * 1)) (by kernel_rfl) (by kernel_rfl) (pq.cell (hc_9 0 _ rfl))) (fun a_48 f_56 => ?_)
            refine N_eq (v := .pointer (some ((⟨b_1, 0, none⟩ : Addr).add (x_3.toNat * 1)))) rfl f_56 (by kernel_rfl) (by kernel_rfl) rfl rfl (fun _ pq => X_indexAddr rfl (ad := ⟨b_1, 0, none⟩) (len := ((d0.length : Nat) : Int).toNat) (cap := ((d0.length : Nat) : Int).toNat) (k := .i64) (i := x_3) (by kernel_rfl) (by kernel_rfl) (e := 27) (by kernel_rfl) (sz := 1) (by kernel_rfl) (getI_nn hx_3) (rr_lt hl_3 hx_3)) (fun a_49 f_57 => ?_)
            refine N_eq (v := .int .i64 s_1.1) rfl f_57 (by kernel_rfl) (by kernel_rfl) rfl rfl (fun _ _ => by kernel_rfl) (fun a_50 f_58 => ?_)
            have f_59 : Frm 47 [(0, .slice A0 d0.length cap0), (3, .slice (some ⟨b_1, 0, none⟩) ((d0.length : Nat) : Int).toNat ((d0.length : Nat) : Int).toNat), (4, .int .i64 s_1.1), (5, .int .i64 s_2.1), (24, .slice (some ⟨b_1, 0, none⟩) ((d0.length : Nat) : Int).toNat ((d0.length : Nat) : Int).toNat), (31, .int .i64 x_3), (40, .pointer (some ((⟨b_1, 0, none⟩ : Addr).add (x_3.toNat * 1)))), (42, .int .i64 s_1.1)] a_50 := f_58.keep (ks := [0, 3, 4, 5, 24, 31, 40, 42]) (by kernel_rfl)
            refine N_alt rfl (E := ((Ent.obj b_1 (.cells hs_3.toArray 27 (0, 0))) :: rbag 3 .i64 s_2.2 hs_3)) (fun w_7 p_12 => ?_) ?_
            · replace p_12 : Hp w0 M_2 ((Ent.obj b_1 (.cells hs_3.toArray 27 (0, 0))) :: (rbag 3 .i64 s_2.2 hs_3 ++ H)) w_7 := p_12
              obtain ⟨A_8, cap_8, hv_2⟩ := Hp.rbagHead [Ent.obj b_1 (.cells hs_3.toArray 27 (0, 0))] p_12 hl_3.1 hx_3
              have p_13 := Hp.rbagTake [Ent.obj b_1 (.cells hs_3.toArray 27 (0, 0))] p_12 hx_3 hv_2
              have hr_12 : RepSeq M_2 (x_6.map (Dat.int .i64)) (x_6.map (Value.int .i64)) := ints_rep x_6
              replace p_13 : Hp w0 M_2 ((Ent.row 3 1 (.slice A_8 x_6.length cap_8) x_6.length (x_6.map (Value.int .i64))) :: ((Ent.obj b_1 (.cells hs_3.toArray 27 (0, 0))) :: (rbag 3 .i64 (s_2.2.eraseIdx x_3.toNat) (hs_3.eraseIdx x_3.toNat) ++ H))) w_7 := p_13
              refine W_eq (v := .slice A_8 x_6.length cap_8) f_59 (by kernel_rfl) (by kernel_rfl) rfl rfl (X_load1 (v := .slice A_8 x_6.length cap_8) rfl (ad := (⟨b_1, 0, none⟩ : Addr).add (x_3.toNat * 1)) (by kernel_rfl) (by kernel_rfl) (rr_cell p_13 (i := 1) rfl hv_2)) (fun a_51 f_60 => ?_)
              refine W_end rfl ?_
              refine N_go (M1 := M_2) (E := ((Ent.row 3 1 (.slice A_8 x_6.length cap_8) x_6.length (x_6.map (Value.int .i64))) :: (Ent.obj b_1 (.cells hs_3.toArray 27 (0, 0))) :: rbag 3 .i64 (s_2.2.eraseIdx x_3.toNat) (hs_3.eraseIdx x_3.toNat))) (Mem.le_refl _) p_13 ?_
              refine N_alt rfl (E := ((Ent.row 3 1 (.slice A_8 x_6.length cap_8) x_6.length (x_6.map (Value.int .i64))) :: (Ent.obj b_1 (.cells hs_3.toArray 27 (0, 0))) :: rbag 3 .i64 (s_2.2.eraseIdx x_3.toNat) (hs_3.eraseIdx x_3.toNat))) (fun w_8 p_14 => ?_) ?_
              · replace p_14 : Hp w0 M_2 ((Ent.row 3 1 (.slice A_8 x_6.length cap_8) x_6.length (x_6.map (Value.int .i64))) :: ((Ent.obj b_1 (.cells hs_3.toArray 27 (0, 0))) :: (rbag 3 .i64 (s_2.2.eraseIdx x_3.toNat) (hs_3.eraseIdx x_3.toNat) ++ H))) w_8 := p_14
                refine W_alloc f_60 p_14 1 [0, 3, 4, 5, 24, 31, 40, 41, 42, 43] (.cells #[.int .i64 s_1.1] 3 (0, 0)) (fun b_5 => [(0, .slice A0 d0.length cap0), (3, .slice (some ⟨b_1, 0, none⟩) ((d0.length : Nat) : Int).toNat ((d0.length : Nat) : Int).toNat), (4, .int .i64 s_1.1), (5, .int .i64 s_2.1), (24, .slice (some ⟨b_1, 0, none⟩) ((d0.length : Nat) : Int).toNat ((d0.length : Nat) : Int).toNat), (31, .int .i64 x_3), (40, .pointer (some ((⟨b_1, 0, none⟩ : Addr).add (x_3.toNat * 1)))), (41, .slice A_8 x_6.length cap_8), (42, .int .i64 s_1.1), (43, .slice (some ⟨b_5, 0, none⟩) 1 1)]) (fun _ => by kernel_rfl) (fun b_5 w_9 p_15 a_52 f_61 => ?_)
                replace f_61 : Frm 47 [(0, .slice A0 d0.length cap0), (3, .slice (some ⟨b_1, 0, none⟩) ((d0.length : Nat) : Int).toNat ((d0.length : Nat) : Int).toNat), (4, .int .i64 s_1.1), (5, .int .i64 s_2.1), (24, .slice (some ⟨b_1, 0, none⟩) ((d0.length : Nat) : Int).toNat ((d0.length : Nat) : Int).toNat), (31, .int .i64 x_3), (40, .pointer (some ((⟨b_1, 0, none⟩ : Addr).add (x_3.toNat * 1)))), (41, .slice A_8 x_6.length cap_8), (42, .int .i64 s_1.1), (43, .slice (some ⟨b_5, 0, none⟩) 1 1)] a_52 := f_61
                refine W_end rfl ?_
                refine N_go (M1 := M_2) (E := ((Ent.obj b_5 (.cells #[.int .i64 s_1.1] 3 (0, 0))) :: (Ent.row 3 1 (.slice A_8 x_6.length cap_8) x_6.length (x_6.map (Value.int .i64))) :: (Ent.obj b_1 (.cells hs_3.toArray 27 (0, 0))) :: rbag 3 .i64 (s_2.2.eraseIdx x_3.toNat) (hs_3.eraseIdx x_3.toNat))) (Mem.le_refl _) p_15 ?_
                refine N_alt rfl (E := ((Ent.obj b_5 (.cells #[.int .i64 s_1.1] 3 (0, 0))) :: (Ent.row 3 1 (.slice A_8 x_6.length cap_8) x_6.length (x_6.map (Value.int .i64))) :: (Ent.obj b_1 (.cells hs_3.toArray 27 (0, 0))) :: rbag 3 .i64 (s_2.2.eraseIdx x_3.toNat) (hs_3.eraseIdx x_3.toNat))) (fun w_10 p_16 => ?_) ?_
                · replace p_16 : Hp w0 M_2 ((Ent.obj b_5 (.cells #[.int .i64 s_1.1] 3 (0, 0))) :: ((Ent.row 3 1 (.slice A_8 x_6.length cap_8) x_6.length (x_6.map (Value.int .i64))) :: ((Ent.obj b_1 (.cells hs_3.toArray 27 (0, 0))) :: (rbag 3 .i64 (s_2.2.eraseIdx x_3.toNat) (hs_3.eraseIdx x_3.toNat) ++ H)))) w_10 := p_16
                  have p_17 : Hp w0 M_2 ((Ent.row 3 1 (.slice A_8 x_6.length cap_8) x_6.length (x_6.map (Value.int .i64))) :: ((Ent.obj b_5 (.cells #[.int .i64 s_1.1] 3 (0, 0))) :: ((Ent.obj b_1 (.cells hs_3.toArray 27 (0, 0))) :: (rbag 3 .i64 (s_2.2.eraseIdx x_3.toNat) (hs_3.eraseIdx x_3.toNat) ++ H)))) w_10 := p_16.pull 1 rfl rfl
                  refine W_appendL (z := .int .i64 0) (f := (Dat.int .i64)) (xs := x_6) (ys := [s_1.1]) (news := [.int .i64 s_1.1]) (ad := ⟨b_5, 0, none⟩) (m := 1) (c := 1) f_61 p_17 hr_12 (by exact ⟨_, _, rfl, rfl, rfl⟩) (by kernel_rfl) (by kernel_rfl) rfl rfl rfl (by kernel_rfl) (by kernel_rfl) (by kernel_rfl) (by kernel_rfl) rfl (own_cells (p_17.ownCell 1 rfl) 0 rfl) (by exact g_2) (by have hg_ := g_2; first | omega | (simp only [List.length_cons, List.length_nil] at *; omega)) (fun A_9 cap_9 cs_2 w_11 p_18 hr_13 a_53 f_62 => ?_)
                  have p_19 : Hp w0 M_2 ((Ent.obj b_5 (.cells #[.int .i64 s_1.1] 3 (0, 0))) :: ((Ent.row 3 1 (.slice A_9 (x_6 ++ [s_1.1]).length cap_9) (x_6 ++ [s_1.1]).length cs_2) :: ((Ent.obj b_1 (.cells hs_3.toArray 27 (0, 0))) :: (rbag 3 .i64 (s_2.2.eraseIdx x_3.toNat) (hs_3.eraseIdx x_3.toNat) ++ H)))) w_11 := p_18.pull 1 rfl rfl
                  have p_20 := p_19.drop
                  refine W_end rfl ?_
                  refine N_go (M1 := M_2) (E := ((Ent.row 3 1 (.slice A_9 (x_6 ++ [s_1.1]).length cap_9) (x_6 ++ [s_1.1]).length cs_2) :: (Ent.obj b_1 (.cells hs_3.toArray 27 (0, 0))) :: rbag 3 .i64 (s_2.2.eraseIdx x_3.toNat) (hs_3.eraseIdx x_3.toNat))) (Mem.le_refl _) p_20 ?_
                  refine N_alt rfl (E := ((Ent.row 3 1 (.slice A_9 (x_6 ++ [s_1.1]).length cap_9) (x_6 ++ [s_1.1]).length cs_2) :: (Ent.obj b_1 (.cells hs_3.toArray 27 (0, 0))) :: rbag 3 .i64 (s_2.2.eraseIdx x_3.toNat) (hs_3.eraseIdx x_3.toNat))) (fun w_12 p_21 => ?_) ?_
                  · replace p_21 : Hp w0 M_2 ((Ent.row 3 1 (.slice A_9 (x_6 ++ [s_1.1]).length cap_9) (x_6 ++ [s_1.1]).length cs_2) :: ((Ent.obj b_1 (.cells hs_3.toArray 27 (0, 0))) :: (rbag 3 .i64 (s_2.2.eraseIdx x_3.toNat) (hs_3.eraseIdx x_3.toNat) ++ H))) w_12 := p_21
                    refine W_eq (v := .pointer (some ((⟨b_1, 0, none⟩ : Addr).add (x_3.toNat * 1)))) f_62 (by kernel_rfl) (by kernel_rfl) rfl rfl (X_indexAddr rfl (ad := ⟨b_1, 0, none⟩) (len := ((d0.length : Nat) : Int).toNat) (cap := ((d0.length : Nat) : Int).toNat) (k := .i64) (i := x_3) (by kernel_rfl) (by kernel_rfl) (e := 27) (by kernel_rfl) (sz := 1) (by kernel_rfl) (getI_nn hx_3) (rr_lt hl_3 hx_3)) (fun a_54 f_63 => ?_)
                    refine W_end rfl ?_
                    refine N_go (M1 := M_2) (E := ((Ent.row 3 1 (.slice A_9 (x_6 ++ [s_1.1]).length cap_9) (x_6 ++ [s_1.1]).length cs_2) :: (Ent.obj b_1 (.cells hs_3.toArray 27 (0, 0))) :: rbag 3 .i64 (s_2.2.eraseIdx x_3.toNat) (hs_3.eraseIdx x_3.toNat))) (Mem.le_refl _) p_21 ?_
                    refine N_alt rfl (E := ((Ent.row 3 1 (.slice A_9 (x_6 ++ [s_1.1]).length cap_9) (x_6 ++ [s_1.1]).length cs_2) :: (Ent.obj b_1 (.cells hs_3.toArray 27 (0, 0))) :: rbag 3 .i64 (s_2.2.eraseIdx x_3.toNat) (hs_3.eraseIdx x_3.toNat))) (fun w_13 p_22 => ?_) ?_
                    · replace p_22 : Hp w0 M_2 ((Ent.row 3 1 (.slice A_9 (x_6 ++ [s_1.1]).length cap_9) (x_6 ++ [s_1.1]).length cs_2) :: ((Ent.obj b_1 (.cells hs_3.toArray 27 (0, 0))) :: (rbag 3 .i64 (s_2.2.eraseIdx x_3.toNat) (hs_3.eraseIdx x_3.toNat) ++ H))) w_13 := p_22
                      refine W_storeRR (b := b_1) (j := x_3.toNat) (v := .slice A_9 (x_6 ++ [s_1.1]).length cap_9) (hs := hs_3) f_63 p_22 1 (by kernel_rfl) (by kernel_rfl) rfl rfl (by kernel_rfl) (by kernel_rfl) rfl (by kernel_rfl) rfl (rr_ltN hl_3 hx_3) (fun w_14 p_23 a_55 f_64 => ?_)
                      replace p_23 : Hp w0 M_2 ((Ent.row 3 1 (.slice A_9 (x_6 ++ [s_1.1]).length cap_9) (x_6 ++ [s_1.1]).length cs_2) :: ((Ent.obj b_1 (.cells (hs_3.set x_3.toNat (.slice A_9 (x_6 ++ [s_1.1]).length cap_9)).toArray 27 (0, 0))) :: (rbag 3 .i64 (s_2.2.eraseIdx x_3.toNat) (hs_3.eraseIdx x_3.toNat) ++ H))) w_14 := p_23
                      have p_24 := Hp.rbagPut [Ent.obj b_1 (.cells (hs_3.set x_3.toNat (.slice A_9 (x_6 ++ [s_1.1]).length cap_9)).toArray 27 (0, 0))] p_23 hr_13 hl_3.1 (rr_ltD hx_3)
                      have hl_14 : (hs_3.set x_3.toNat (.slice A_9 (x_6 ++ [s_1.1]).length cap_9)).length = (s_2.2.set x_3.toNat (x_6 ++ [s_1.1])).length ∧ (s_2.2.set x_3.toNat (x_6 ++ [s_1.1])).length = ((d0.length : Nat) : Int).toNat := rr_set hl_3 _ _
                      replace p_24 : Hp w0 M_2 ((Ent.obj b_1 (.cells (hs_3.set x_3.toNat (.slice A_9 (x_6 ++ [s_1.1]).length cap_9)).toArray 27 (0, 0))) :: (rbag 3 .i64 (s_2.2.set x_3.toNat (x_6 ++ [s_1.1])) (hs_3.set x_3.toNat (.slice A_9 (x_6 ++ [s_1.1]).length cap_9)) ++ H)) w_14 := p_24
                      refine W_end rfl ?_
                      refine N_go (M1 := M_2) (E := ((Ent.obj b_1 (.cells (hs_3.set x_3.toNat (.slice A_9 (x_6 ++ [s_1.1]).length cap_9)).toArray 27 (0, 0))) :: rbag 3 .i64 (s_2.2.set x_3.toNat (x_6 ++ [s_1.1])) (hs_3.set x_3.toNat (.slice A_9 (x_6 ++ [s_1.1]).length cap_9)))) (Mem.le_refl _) p_24 ?_
                      refine N_end (fun w_15 p_25 => ?_)
                      replace p_25 : Hp w0 M_2 ((Ent.obj b_1 (.cells (hs_3.set x_3.toNat (.slice A_9 (x_6 ++ [s_1.1]).length cap_9)).toArray 27 (0, 0))) :: (rbag 3 .i64 (s_2.2.set x_3.toNat (x_6 ++ [s_1.1])) (hs_3.set x_3.toNat (.slice A_9 (x_6 ++ [s_1.1]).length cap_9)) ++ H)) w_15 := p_25
                      refine T_n ?_
                      exact ⟨s_2.2.set x_3.toNat (x_6 ++ [s_1.1]), (Option.some.inj hF_10).symm, M_2, (Mem.le_refl _), (hs_3.set x_3.toNat (.slice A_9 (x_6 ++ [s_1.1]).length cap_9)), hl_14, f_64.keep (ks := [0, 3, 4, 5]) (by kernel_rfl), p_25⟩
                    exact N_none
                  exact N_none
                exact N_none
              exact N_none
            refine N_alt rfl (E := ((Ent.obj b_1 (.cells hs_3.toArray 27 (0, 0))) :: rbag 3 .i64 s_2.2 hs_3)) (fun w_16 p_26 => ?_) ?_
            · replace p_26 : Hp w0 M_2 ((Ent.obj b_1 (.cells hs_3.toArray 27 (0, 0))) :: (rbag 3 .i64 s_2.2 hs_3 ++ H)) w_16 := p_26
              refine W_alloc f_59 p_26 1 [0, 3, 4, 5, 24, 31, 40, 42, 43] (.cells #[.int .i64 s_1.1] 3 (0, 0)) (fun b_6 => [(0, .slice A0 d0.length cap0), (3, .slice (some ⟨b_1, 0, none⟩) ((d0.length : Nat) : Int).toNat ((d0.length : Nat) : Int).toNat), (4, .int .i64 s_1.1), (5, .int .i64 s_2.1), (24, .slice (some ⟨b_1, 0, none⟩) ((d0.length : Nat) : Int).toNat ((d0.length : Nat) : Int).toNat), (31, .int .i64 x_3), (40, .pointer (some ((⟨b_1, 0, none⟩ : Addr).add (x_3.toNat * 1)))), (42, .int .i64 s_1.1), (43, .slice (some ⟨b_6, 0, none⟩) 1 1)]) (fun _ => by kernel_rfl) (fun b_6 w_17 p_27 a_56 f_65 => ?_)
              replace f_65 : Frm 47 [(0, .slice A0 d0.length cap0), (3, .slice (some ⟨b_1, 0, none⟩) ((d0.length : Nat) : Int).toNat ((d0.length : Nat) : Int).toNat), (4, .int .i64 s_1.1), (5, .int .i64 s_2.1), (24, .slice (some ⟨b_1, 0, none⟩) ((d0.length : Nat) : Int).toNat ((d0.length : Nat) : Int).toNat), (31, .int .i64 x_3), (40, .pointer (some ((⟨b_1, 0, none⟩ : Addr).add (x_3.toNat * 1)))), (42, .int .i64 s_1.1), (43, .slice (some ⟨b_6, 0, none⟩) 1 1)] a_56 := f_65
              refine W_end rfl ?_
              refine N_go (M1 := M_2) (E := ((Ent.obj b_6 (.cells #[.int .i64 s_1.1] 3 (0, 0))) :: (Ent.obj b_1 (.cells hs_3.toArray 27 (0, 0))) :: rbag 3 .i64 s_2.2 hs_3)) (Mem.le_refl _) p_27 ?_
              refine N_alt rfl (E := ((Ent.obj b_6 (.cells #[.int .i64 s_1.1] 3 (0, 0))) :: (Ent.obj b_1 (.cells hs_3.toArray 27 (0, 0))) :: rbag 3 .i64 s_2.2 hs_3)) (fun w_18 p_28 => ?_) ?_
              · replace p_28 : Hp w0 M_2 ((Ent.obj b_6 (.cells #[.int .i64 s_1.1] 3 (0, 0))) :: ((Ent.obj b_1 (.cells hs_3.toArray 27 (0, 0))) :: (rbag 3 .i64 s_2.2 hs_3 ++ H))) w_18 := p_28
                obtain ⟨A_10, cap_10, hv_3⟩ := Hp.rbagHead [Ent.obj b_6 (.cells #[.int .i64 s_1.1] 3 (0, 0)), Ent.obj b_1 (.cells hs_3.toArray 27 (0, 0))] p_28 hl_3.1 hx_3
                have p_29 := Hp.rbagTake [Ent.obj b_6 (.cells #[.int .i64 s_1.1] 3 (0, 0)), Ent.obj b_1 (.cells hs_3.toArray 27 (0, 0))] p_28 hx_3 hv_3
                have hr_14 : RepSeq M_2 (x_6.map (Dat.int .i64)) (x_6.map (Value.int .i64)) := ints_rep x_6
                replace p_29 : Hp w0 M_2 ((Ent.row 3 1 (.slice A_10 x_6.length cap_10) x_6.length (x_6.map (Value.int .i64))) :: ((Ent.obj b_6 (.cells #[.int .i64 s_1.1] 3 (0, 0))) :: ((Ent.obj b_1 (.cells hs_3.toArray 27 (0, 0))) :: (rbag 3 .i64 (s_2.2.eraseIdx x_3.toNat) (hs_3.eraseIdx x_3.toNat) ++ H)))) w_18 := p_29
                refine W_eq (v := .slice A_10 x_6.length cap_10) f_65 (by kernel_rfl) (by kernel_rfl) rfl rfl (X_load1 (v := .slice A_10 x_6.length cap_10) rfl (ad := (⟨b_1, 0, none⟩ : Addr).add (x_3.toNat * 1)) (by kernel_rfl) (by kernel_rfl) (rr_cell p_29 (i := 2) rfl hv_3)) (fun a_57 f_66 => ?_)
                refine W_end rfl ?_
                refine N_go (M1 := M_2) (E := ((Ent.row 3 1 (.slice A_10 x_6.length cap_10) x_6.length (x_6.map (Value.int .i64))) :: (Ent.obj b_6 (.cells #[.int .i64 s_1.1] 3 (0, 0))) :: (Ent.obj b_1 (.cells hs_3.toArray 27 (0, 0))) :: rbag 3 .i64 (s_2.2.eraseIdx x_3.toNat) (hs_3.eraseIdx x_3.toNat))) (Mem.le_refl _) p_29 ?_
                refine N_alt rfl (E := ((Ent.row 3 1 (.slice A_10 x_6.length cap_10) x_6.length (x_6.map (Value.int .i64))) :: (Ent.obj b_6 (.cells #[.int .i64 s_1.1] 3 (0, 0))) :: (Ent.obj b_1 (.cells hs_3.toArray 27 (0, 0))) :: rbag 3 .i64 (s_2.2.eraseIdx x_3.toNat) (hs_3.eraseIdx x_3.toNat))) (fun w_19 p_30 => ?_) ?_
                · replace p_30 : Hp w0 M_2 ((Ent.row 3 1 (.slice A_10 x_6.length cap_10) x_6.length (x_6.map (Value.int .i64))) :: ((Ent.obj b_6 (.cells #[.int .i64 s_1.1] 3 (0, 0))) :: ((Ent.obj b_1 (.cells hs_3.toArray 27 (0, 0))) :: (rbag 3 .i64 (s_2.2.eraseIdx x_3.toNat) (hs_3.eraseIdx x_3.toNat) ++ H)))) w_19 := p_30
                  refine W_appendL (z := .int .i64 0) (f := (Dat.int .i64)) (xs := x_6) (ys := [s_1.1]) (news := [.int .i64 s_1.1]) (ad := ⟨b_6, 0, none⟩) (m := 1) (c := 1) f_66 p_30 hr_14 (by exact ⟨_, _, rfl, rfl, rfl⟩) (by kernel_rfl) (by kernel_rfl) rfl rfl rfl (by kernel_rfl) (by kernel_rfl) (by kernel_rfl) (by kernel_rfl) rfl (own_cells (p_30.ownCell 1 rfl) 0 rfl) (by exact g_2) (by have hg_ := g_2; first | omega | (simp only [List.length_cons, List.length_nil] at *; omega)) (fun A_11 cap_11 cs_3 w_20 p_31 hr_15 a_58 f_67 => ?_)
                  have p_32 : Hp w0 M_2 ((Ent.obj b_6 (.cells #[.int .i64 s_1.1] 3 (0, 0))) :: ((Ent.row 3 1 (.slice A_11 (x_6 ++ [s_1.1]).length cap_11) (x_6 ++ [s_1.1]).length cs_3) :: ((Ent.obj b_1 (.cells hs_3.toArray 27 (0, 0))) :: (rbag 3 .i64 (s_2.2.eraseIdx x_3.toNat) (hs_3.eraseIdx x_3.toNat) ++ H)))) w_20 := p_31.pull 1 rfl rfl
                  have p_33 := p_32.drop
                  refine W_end rfl ?_
                  refine N_go (M1 := M_2) (E := ((Ent.row 3 1 (.slice A_11 (x_6 ++ [s_1.1]).length cap_11) (x_6 ++ [s_1.1]).length cs_3) :: (Ent.obj b_1 (.cells hs_3.toArray 27 (0, 0))) :: rbag 3 .i64 (s_2.2.eraseIdx x_3.toNat) (hs_3.eraseIdx x_3.toNat))) (Mem.le_refl _) p_33 ?_
                  refine N_alt rfl (E := ((Ent.row 3 1 (.slice A_11 (x_6 ++ [s_1.1]).length cap_11) (x_6 ++ [s_1.1]).length cs_3) :: (Ent.obj b_1 (.cells hs_3.toArray 27 (0, 0))) :: rbag 3 .i64 (s_2.2.eraseIdx x_3.toNat) (hs_3.eraseIdx x_3.toNat))) (fun w_21 p_34 => ?_) ?_
                  · replace p_34 : Hp w0 M_2 ((Ent.row 3 1 (.slice A_11 (x_6 ++ [s_1.1]).length cap_11) (x_6 ++ [s_1.1]).length cs_3) :: ((Ent.obj b_1 (.cells hs_3.toArray 27 (0, 0))) :: (rbag 3 .i64 (s_2.2.eraseIdx x_3.toNat) (hs_3.eraseIdx x_3.toNat) ++ H))) w_21 := p_34
                    refine W_eq (v := .pointer (some ((⟨b_1, 0, none⟩ : Addr).add (x_3.toNat * 1)))) f_67 (by kernel_rfl) (by kernel_rfl) rfl rfl (X_indexAddr rfl (ad := ⟨b_1, 0, none⟩) (len := ((d0.length : Nat) : Int).toNat) (cap := ((d0.length : Nat) : Int).toNat) (k := .i64) (i := x_3) (by kernel_rfl) (by kernel_rfl) (e := 27) (by kernel_rfl) (sz := 1) (by kernel_rfl) (getI_nn hx_3) (rr_lt hl_3 hx_3)) (fun a_59 f_68 => ?_)
                    refine W_end rfl ?_
                    refine N_go (M1 := M_2) (E := ((Ent.row 3 1 (.slice A_11 (x_6 ++ [s_1.1]).length cap_11) (x_6 ++ [s_1.1]).length cs_3) :: (Ent.obj b_1 (.cells hs_3.toArray 27 (0, 0))) :: rbag 3 .i64 (s_2.2.eraseIdx x_3.toNat) (hs_3.eraseIdx x_3.toNat))) (Mem.le_refl _) p_34 ?_
                    refine N_alt rfl (E := ((Ent.row 3 1 (.slice A_11 (x_6 ++ [s_1.1]).length cap_11) (x_6 ++ [s_1.1]).length cs_3) :: (Ent.obj b_1 (.cells hs_3.toArray 27 (0, 0))) :: rbag 3 .i64 (s_2.2.eraseIdx x_3.toNat) (hs_3.eraseIdx x_3.toNat))) (fun w_22 p_35 => ?_) ?_
                    · replace p_35 : Hp w0 M_2 ((Ent.row 3 1 (.slice A_11 (x_6 ++ [s_1.1]).length cap_11) (x_6 ++ [s_1.1]).length cs_3) :: ((Ent.obj b_1 (.cells hs_3.toArray 27 (0, 0))) :: (rbag 3 .i64 (s_2.2.eraseIdx x_3.toNat) (hs_3.eraseIdx x_3.toNat) ++ H))) w_22 := p_35
                      refine W_storeRR (b := b_1) (j := x_3.toNat) (v := .slice A_11 (x_6 ++ [s_1.1]).length cap_11) (hs := hs_3) f_68 p_35 1 (by kernel_rfl) (by kernel_rfl) rfl rfl (by kernel_rfl) (by kernel_rfl) rfl (by kernel_rfl) rfl (rr_ltN hl_3 hx_3) (fun w_23 p_36 a_60 f_69 => ?_)
                      replace p_36 : Hp w0 M_2 ((Ent.row 3 1 (.slice A_11 (x_6 ++ [s_1.1]).length cap_11) (x_6 ++ [s_1.1]).length cs_3) :: ((Ent.obj b_1 (.cells (hs_3.set x_3.toNat (.slice A_11 (x_6 ++ [s_1.1]).length cap_11)).toArray 27 (0, 0))) :: (rbag 3 .i64 (s_2.2.eraseIdx x_3.toNat) (hs_3.eraseIdx x_3.toNat) ++ H))) w_23 := p_36
                      have p_37 := Hp.rbagPut [Ent.obj b_1 (.cells (hs_3.set x_3.toNat (.slice A_11 (x_6 ++ [s_1.1]).length cap_11)).toArray 27 (0, 0))] p_36 hr_15 hl_3.1 (rr_ltD hx_3)
                      have hl_15 : (hs_3.set x_3.toNat (.slice A_11 (x_6 ++ [s_1.1]).length cap_11)).length = (s_2.2.set x_3.toNat (x_6 ++ [s_1.1])).length ∧ (s_2.2.set x_3.toNat (x_6 ++ [s_1.1])).length = ((d0.length : Nat) : Int).toNat := rr_set hl_3 _ _
                      replace p_37 : Hp w0 M_2 ((Ent.obj b_1 (.cells (hs_3.set x_3.toNat (.slice A_11 (x_6 ++ [s_1.1]).length cap_11)).toArray 27 (0, 0))) :: (rbag 3 .i64 (s_2.2.set x_3.toNat (x_6 ++ [s_1.1])) (hs_3.set x_3.toNat (.slice A_11 (x_6 ++ [s_1.1]).length cap_11)) ++ H)) w_23 := p_37
                      refine W_end rfl ?_
                      refine N_go (M1 := M_2) (E := ((Ent.obj b_1 (.cells (hs_3.set x_3.toNat (.slice A_11 (x_6 ++ [s_1.1]).length cap_11)).toArray 27 (0, 0))) :: rbag 3 .i64 (s_2.2.set x_3.toNat (x_6 ++ [s_1.1])) (hs_3.set x_3.toNat (.slice A_11 (x_6 ++ [s_1.1]).length cap_11)))) (Mem.le_refl _) p_37 ?_
                      refine N_end (fun w_24 p_38 => ?_)
                      replace p_38 : Hp w0 M_2 ((Ent.obj b_1 (.cells (hs_3.set x_3.toNat (.slice A_11 (x_6 ++ [s_1.1]).length cap_11)).toArray 27 (0, 0))) :: (rbag 3 .i64 (s_2.2.set x_3.toNat (x_6 ++ [s_1.1])) (hs_3.set x_3.toNat (.slice A_11 (x_6 ++ [s_1.1]).length cap_11)) ++ H)) w_24 := p_38
                      refine T_n ?_
                      exact ⟨s_2.2.set x_3.toNat (x_6 ++ [s_1.1]), (Option.some.inj hF_10).symm, M_2, (Mem.le_refl _), (hs_3.set x_3.toNat (.slice A_11 (x_6 ++ [s_1.1]).length cap_11)), hl_15, f_69.keep (ks := [0, 3, 4, 5]) (by kernel_rfl), p_38⟩
                    exact N_none
                  exact N_none
                exact N_none
              exact N_none
            exact N_none
          · rintro a_61 w_25 ⟨y_1, hq_1, M_3, hM_3, hs_5, hl_16, f_70, p_39⟩
            subst j_1
            refine B_n ?_
            refine T_n ?_
            refine R_reg ?_
            refine W_run (L' := [(0, .slice A0 d0.length cap0), (3, .slice (some ⟨b_1, 0, none⟩) ((d0.length : Nat) : Int).toNat ((d0.length : Nat) : Int).toNat), (4, .int .i64 s_1.1), (22, .int .i64 s_2.1)]) (w' := w_25) f_70 1 [0, 3, 4, 22] (by kernel_rfl) (fun a_62 f_71 => ?_)
            obtain ⟨g_3, hF_11⟩ := need_some hF_7
            refine W_run (L' := [(0, .slice A0 d0.length cap0), (3, .slice (some ⟨b_1, 0, none⟩) ((d0.length : Nat) : Int).toNat ((d0.length : Nat) : Int).toNat), (4, .int .i64 s_1.1), (22, .int .i64 s_2.1), (23, .int .i64 (IntKind.wrap .i64 (s_2.1 + 1)))]) (w' := w_25) f_71 1 [0, 3, 4, 22, 23] (by kernel_rfl) (fun a_63 f_72 => ?_)
            have f_73 := Frm.set f_72 23 (v := .int .i64 (IntKind.wrap .i64 (s_2.1 + 1))) (v' := .int .i64 (s_2.1 + 1)) (by kernel_rfl) (congrArg (Value.int .i64) (inR_wrap g_3))
            have f_74 : Frm 47 [(0, .slice A0 d0.length cap0), (3, .slice (some ⟨b_1, 0, none⟩) ((d0.length : Nat) : Int).toNat ((d0.length : Nat) : Int).toNat), (4, .int .i64 s_1.1), (22, .int .i64 s_2.1), (23, .int .i64 (s_2.1 + 1))] a_63 := f_73.keep (ks := [0, 3, 4, 22, 23]) (by kernel_rfl)
            refine W_run (L' := [(0, .slice A0 d0.length cap0), (3, .slice (some ⟨b_1, 0, none⟩) ((d0.length : Nat) : Int).toNat ((d0.length : Nat) : Int).toNat), (4, .int .i64 s_1.1), (5, .int .i64 (s_2.1 + 1))]) (w' := w_25) f_74 1 [0, 3, 4, 5] (by kernel_rfl) (fun a_64 f_75 => ?_)
            refine W_end rfl ?_
            refine T_n ?_
            obtain rfl := Option.some.inj hF_11
            exact ⟨⟨m_4, (s_2.1 + 1, y_1), hs_5⟩, Nat.lt_succ_self _, M_3, (hM_2.trans hM_3), ⟨hn_2, hl_16⟩, f_75.keep (ks := [0, 3, 4, 5]) (by kernel_rfl), p_39⟩
        · have k_3 : ¬ (s_2.1 < ((x_1.length : Nat) : Int)) := iff_f decide_eq_true_iff h_3
          have hF_12 := cnd_f h_3 hF_5
          refine wp_exit ?_
          refine T_x ?_
          refine T_x ?_
          obtain rfl := Option.some.inj hF_12
          exact ⟨rfl, s_2.2, (Option.some.inj hn_2).symm, M_2, hM_2, hs_3, hl_3, f_13.keep (ks := [0, 3, 4]) (by kernel_rfl), p_3⟩
      · rintro _ a_66 w_27 ⟨rfl, y_2, hq_, M_4, hM_4, hs_6, hl_17, f_76, p_40⟩
        subst b_3
        refine B_x ?_
        refine B_n ?_
        refine T_n ?_
        refine R_reg ?_
        refine W_run (L' := [(0, .slice A0 d0.length cap0), (3, .slice (some ⟨b_1, 0, none⟩) ((d0.length : Nat) : Int).toNat ((d0.length : Nat) : Int).toNat), (13, .int .i64 s_1.1)]) (w' := w_27) f_76 1 [0, 3, 13] (by kernel_rfl) (fun a_67 f_77 => ?_)
        obtain ⟨g_4, hF_13⟩ := need_some hF_4
        refine W_run (L' := [(0, .slice A0 d0.length cap0), (3, .slice (some ⟨b_1, 0, none⟩) ((d0.length : Nat) : Int).toNat ((d0.length : Nat) : Int).toNat), (13, .int .i64 s_1.1), (14, .int .i64 (IntKind.wrap .i64 (s_1.1 + 1)))]) (w' := w_27) f_77 1 [0, 3, 13, 14] (by kernel_rfl) (fun a_68 f_78 => ?_)
        have f_79 := Frm.set f_78 14 (v := .int .i64 (IntKind.wrap .i64 (s_1.1 + 1))) (v' := .int .i64 (s_1.1 + 1)) (by kernel_rfl) (congrArg (Value.int .i64) (inR_wrap g_4))
        have f_80 : Frm 47 [(0, .slice A0 d0.length cap0), (3, .slice (some ⟨b_1, 0, none⟩) ((d0.length : Nat) : Int).toNat ((d0.length : Nat) : Int).toNat), (13, .int .i64 s_1.1), (14, .int .i64 (s_1.1 + 1))] a_68 := f_79.keep (ks := [0, 3, 13, 14]) (by kernel_rfl)
        refine W_run (L' := [(0, .slice A0 d0.length cap0), (3, .slice (some ⟨b_1, 0, none⟩) ((d0.length : Nat) : Int).toNat ((d0.length : Nat) : Int).toNat), (4, .int .i64 (s_1.1 + 1))]) (w' := w_27) f_80 1 [0, 3, 4] (by kernel_rfl) (fun a_69 f_81 => ?_)
        refine W_end rfl ?_
        refine T_n ?_
        obtain rfl := Option.some.inj hF_13
        exact ⟨⟨m_2, (s_1.1 + 1, y_2), hs_6⟩, Nat.lt_succ_self _, M_4, (hM_1.trans hM_4), ⟨hn_1, hl_17⟩, f_81.keep (ks := [0, 3, 4]) (by kernel_rfl), p_40⟩
    · have k_4 : ¬ (s_1.1 < ((d0.length : Nat) : Int)) := iff_f decide_eq_true_iff h_1
      have hF_14 := cnd_f h_1 hs_2
      refine wp_exit ?_
      refine T_x ?_
      refine T_x ?_
      obtain rfl := Option.some.inj hF_14
      exact ⟨rfl, s_1.2, (Option.some.inj hn_1).symm, M_1, hM_1, hs_1, hl_2, f_7.keep (ks := [3]) (by kernel_rfl), p_2⟩
  · rintro _ a_71 w_29 ⟨rfl, y_3, hq_, M_5, hM_5, hs_7, hl_18, f_82, p_41⟩
    subst b_2
    refine B_x ?_
    refine T_n ?_
    refine R_seq ?_
    refine R_reg ?_
    refine W_run (L' := [(2, .slice (some ⟨b_1, 0, none⟩) ((d0.length : Nat) : Int).toNat ((d0.length : Nat) : Int).toNat)]) (w' := w_29) f_82 2 [2] (by kernel_rfl) (fun a_72 f_83 => ?_)
    refine W_end rfl ?_
    refine T_n ?_
    refine wp_ret ?_
    obtain ⟨M_6, hM_6, p_42, h_8⟩ := Hp.rrKnown [] p_41 hl_18
    replace p_42 : Hp w0 M_6 (H) w_29 := p_42
    have f_84 := Frm.set f_83 2 (v := .slice (some ⟨b_1, 0, none⟩) ((d0.length : Nat) : Int).toNat ((d0.length : Nat) : Int).toNat) (v' := .slice (some ⟨b_1, 0, none⟩) y_3.length ((d0.length : Nat) : Int).toNat) (by kernel_rfl) (congrArg (fun q => Value.slice _ q _) hl_18.2.symm)
    have f_85 : Frm 47 [(2, .slice (some ⟨b_1, 0, none⟩) y_3.length ((d0.length : Nat) : Int).toNat)] a_72 := f_84.keep (ks := [2]) (by kernel_rfl)
    refine E_ret1 f_85 rfl (by kernel_rfl : Vc.look _ 2 = some (.slice (some ⟨b_1, 0, none⟩) y_3.length ((d0.length : Nat) : Int).toNat)) ?_
    obtain rfl := Option.some.inj hF_2
    exact ⟨_, rfl, M_6, (hM_5.trans hM_6), p_42, ⟨(some ⟨b_1, 0, none⟩), ((d0.length : Nat) : Int).toNat, rfl, h_8⟩⟩
end Go.Proofs.Ytfdmlionhbeebaa
