/-
  Printed by a program: of each function its shallow reading, and the proof that the function gives what the reading gives. No condition.
-/
import Derived.Test.YtalifkcchfkgmaaDoorQ4b
import Derived.Test.YtalifkcchfkgmaaDoorSort2
set_option linter.unusedVariables false
set_option linter.unusedSimpArgs false
namespace Go.Proofs.YtalifkcchfkgmaaDoor
open Go Go.Vc Go.RowKit
def tree_order_s1 (n : Nat) (d0 : T_api_Value) (s_1 : List Int × Int) : Option (Lp (List Int × Int) (List Int)) :=
    bif (decide (s_1.2 < (((List.replicate ((d0.fKeys.length : Nat) : Int).toNat (0 : Int)).length : Nat) : Int))) then
      ((getI s_1.1 s_1.2).bind fun x_1 =>
      need (inR .i64 (s_1.2 + 1)) <|
      some (.nx (s_1.1.set s_1.2.toNat s_1.2, s_1.2 + 1)))
    else
      some (.br s_1.1)
def tree_order (n : Nat) (d0 : T_api_Value) : Option (List Int) :=
  need (0 ≤ ((d0.fKeys.length : Nat) : Int) ∧ ((d0.fKeys.length : Nat) : Int) * 8 ≤ 140737488355328 ∧ ((d0.fKeys.length : Nat) : Int) ≤ 140737488355328) <|
  (loopF (tree_order_s1 n d0) n (List.replicate ((d0.fKeys.length : Nat) : Int).toNat (0 : Int), (0 : Int))).bind fun y_1 =>
  (h_sortKeys n d0 y_1).bind fun x_2 =>
  some (x_2)
set_option maxHeartbeats 2000000 in
theorem tree_order_ok (n : Nat) (M : Mem) (hG : GL M) (ad0 : Addr) (c0 : List Value) (d0 : T_api_Value) (h0 : Rep M (emb_T_api_Value d0) c0) (q0 : ∀ j v, c0[j]? = some v → M.cell? (ad0.add j) = some v) (r : List Int) (hF : tree_order n d0 = some r) : OkH Tryd.prog M [] 102 [.pointer (some ad0)] (fun M' E' v => ∃ (A0 : Option Addr) (k0 : Nat) (s0 : List Value), v = .slice A0 r.length k0 ∧ E' = [.row 3 1 (.slice A0 r.length k0) r.length s0] ∧ RepSeq M' (r.map (Dat.int .i64)) s0) := by
  unfold tree_order at hF
  intro M1 hM0 w0 H w p0
  replace hG := GL.mono hM0 hG
  replace h0 := Rep.mono hM0 _ _ h0
  replace q0 := fun j v h => hM0.cell (q0 j v h)
  obtain ⟨A_1, cap_1, A_2, cap_2, rfl, h_1, h_2⟩ := T_api_Value.opn h0
  refine R_enter 25 Tryd.func102 rfl rfl (by simp) (fun a0 f0 => ?_)
  refine R_seq (R_reg ?_)
  refine V_box (cs := #[.pointer (some ad0)]) (T := 86) f0 p0 (by kernel_rfl) (fun _ => by kernel_rfl) (fun b_1 M_1 w_1 hM_1 hc_1 p_1 a_1 f_1 => ?_)
  have hc_2 := fz_box hc_1
  refine V_run f_1 1 (by kernel_rfl) (fun a_2 f_2 => ?_)
  refine W_end rfl (T_n (R_seq (R_reg ?_)))
  refine V_ld f_2 p_1 hc_2 0 rfl (by kernel_rfl) (by kernel_rfl) (fun a_3 f_3 => ?_)
  refine V_run f_3 2 (by kernel_rfl) (fun a_4 f_4 => ?_)
  refine V_ld f_4 p_1 (fzu hM_1 q0) 5 rfl (by kernel_rfl) (by kernel_rfl) (fun a_5 f_5 => ?_)
  refine V_run f_5 1 (by kernel_rfl) (fun a_6 f_6 => ?_)
  obtain ⟨g_1, hF_1⟩ := need_some hF
  refine W_makeD (f := (Dat.int .i64)) (x := (0 : Int)) (z := .int .i64 0) (m := ((d0.fKeys.length : Nat) : Int)) (bytes := 8) (e := 3) f_6 p_1 (by exact rfl) (by kernel_rfl) (by kernel_rfl) rfl rfl rfl (by kernel_rfl) (by kernel_rfl) (by kernel_rfl) (by kernel_rfl) rfl g_1 (fun A_3 cap_3 cs_1 w_2 p_2 hr_1 a_7 f_7 => ?_)
  refine V_run f_7 1 (by kernel_rfl) (fun a_8 f_8 => ?_)
  refine W_end rfl (T_n (R_seq (R_seq (R_reg ?_))))
  refine V_run f_8 3 (by kernel_rfl) (fun a_9 f_9 => ?_)
  refine W_end rfl (T_n (wp_block ?_))
  obtain ⟨b_2, hL_1, hF_2⟩ := bind_some' hF_1
  refine wp_mono (Q := fun e a w => (e = .exit 0 ∧ (∃ y_1 : List Int, b_2 = y_1 ∧ ∃ M_3 : Mem, M_1.le M_3 ∧ ∃ (A_5 : Option Addr), ∃ (cap_6 : Nat), ∃ (cs_3 : List Value), RepSeq M_3 (y_1.map (Dat.int .i64)) cs_3 ∧ Frm 25 [(1, .pointer (some (⟨b_1, 0, none⟩))), (3, .slice A_5 y_1.length cap_6)] a ∧ Hp w0 M_3 ((Ent.row 3 1 (.slice A_5 y_1.length cap_6) y_1.length cs_3) :: H) w))) (R_loop (n := 25) (w0 := w0) (M := M_1) (fun (x : Nat × (List Int × Int) × (Option Addr) × Nat × (List Value)) => match x with | (m_1, s_1, A_4, cap_4, cs_2) => [(1, .pointer (some (⟨b_1, 0, none⟩))), (3, .slice A_4 s_1.1.length cap_4), (12, .int .i64 (((List.replicate ((d0.fKeys.length : Nat) : Int).toNat (0 : Int)).length : Nat) : Int)), (13, .int .i64 s_1.2)]) (fun (x : Nat × (List Int × Int) × (Option Addr) × Nat × (List Value)) => match x with | (m_1, s_1, A_4, cap_4, cs_2) => ((Ent.row 3 1 (.slice A_4 s_1.1.length cap_4) s_1.1.length cs_2) :: H)) (fun (x : Nat × (List Int × Int) × (Option Addr) × Nat × (List Value)) (MM : Mem) => match x with | (m_1, s_1, A_4, cap_4, cs_2) => loopF (tree_order_s1 n d0) m_1 s_1 = some b_2 ∧ RepSeq MM (s_1.1.map (Dat.int .i64)) cs_2) (fun (x : Nat × (List Int × Int) × (Option Addr) × Nat × (List Value)) => match x with | (m_1, s_1, A_4, cap_4, cs_2) => m_1) (n, (List.replicate ((d0.fKeys.length : Nat) : Int).toNat (0 : Int), (0 : Int)), A_3, cap_3, cs_1) (f_9.keep (ks := [1, 3, 12, 13]) (by kernel_rfl)) p_2 ⟨hL_1, hr_1⟩ ?_) ?_
  · rintro ⟨m_1, s_1, A_4, cap_4, cs_2⟩ M_2 a_10 w_3 hM_2 I_1 f_10 p_3
    obtain ⟨I_1L, hr_2⟩ := I_1
    obtain ⟨m_2, r_1, rfl, hs_1, hn_1⟩ := loop_step I_1L
    unfold tree_order_s1 at hs_1
    refine R_seq (R_reg ?_)
    refine V_run f_10 1 (by kernel_rfl) (fun a_11 f_11 => ?_)
    refine W_end rfl (T_n (R_seq ?_))
    refine R_cond f_11 (b := decide (s_1.2 < (((List.replicate ((d0.fKeys.length : Nat) : Int).toNat (0 : Int)).length : Nat) : Int))) (by kernel_rfl) (by kernel_rfl) (fun h_3 => ?_) (fun h_3 => ?_)
    · have k_1 : s_1.2 < (((List.replicate ((d0.fKeys.length : Nat) : Int).toNat (0 : Int)).length : Nat) : Int) := decide_eq_true_iff.1 h_3
      have hF_3 := cnd_t h_3 hs_1
      refine wp_skip (T_n (R_seq (wp_block (R_seq (R_reg ?_)))))
      refine V_run f_11 2 (by kernel_rfl) (fun a_12 f_12 => ?_)
      refine W_end rfl (T_n (R_reg ?_))
      refine V_run f_12 3 (by kernel_rfl) (fun a_13 f_13 => ?_)
      obtain ⟨x_1, hx_1, hF_4⟩ := bind_some' hF_3
      obtain ⟨b_3, cap_5, hv_1, hcap_1⟩ := p_3.rowAddr 0 rfl (getI_pos hx_1)
      have f_14 := Frm.set f_13 16 (v := .slice A_4 s_1.1.length cap_4) (v' := .slice (some ⟨b_3, 0, none⟩) s_1.1.length cap_5) (by kernel_rfl) (hv_1)
      refine V_eq (v := .pointer (some ((⟨b_3, 0, none⟩ : Addr).add (s_1.2.toNat * 1)))) f_14 (by kernel_rfl) (X_indexAddr rfl (ad := ⟨b_3, 0, none⟩) (len := s_1.1.length) (cap := cap_5) (k := .i64) (i := s_1.2) (by kernel_rfl) (by kernel_rfl) (e := 3) (by kernel_rfl) (sz := 1) (by kernel_rfl) (getI_nn hx_1) (getI_lt hx_1)) (fun a_14 f_15 => ?_)
      have f_16 := Frm.set f_15 16 (v := .slice (some ⟨b_3, 0, none⟩) s_1.1.length cap_5) (v' := .slice A_4 s_1.1.length cap_4) (by kernel_rfl) (hv_1.symm)
      refine W_rowstore (it := s_1.2) (d := s_1.1) (f := (Dat.int .i64)) (xv := s_1.2) (v := .int .i64 s_1.2) f_16 p_3 hv_1 (by kernel_rfl) (by kernel_rfl) rfl rfl (by kernel_rfl) (by kernel_rfl) (by exact rfl) (by kernel_rfl) (szd_int .i64) hx_1 hr_2 (fun w_4 p_4 hr_3 a_15 f_17 => ?_)
      have p_5 : Hp w0 M_2 ((Ent.row 3 1 (.slice A_4 (s_1.1.set s_1.2.toNat s_1.2).length cap_4) (s_1.1.set s_1.2.toNat s_1.2).length (cs_2.set s_1.2.toNat (.int .i64 s_1.2))) :: H) w_4 := p_4.rowVal (by rw [List.length_set])
      have f_18 := Frm.set f_17 3 (v := .slice A_4 s_1.1.length cap_4) (v' := .slice A_4 (s_1.1.set s_1.2.toNat s_1.2).length cap_4) (by kernel_rfl) (by rw [List.length_set])
      have f_19 := Frm.set f_18 16 (v := .slice A_4 s_1.1.length cap_4) (v' := .slice A_4 (s_1.1.set s_1.2.toNat s_1.2).length cap_4) (by kernel_rfl) (by rw [List.length_set])
      refine W_end rfl (B_n (T_n (R_reg ?_)))
      obtain ⟨g_2, hF_5⟩ := need_some hF_4
      refine V_run f_19 1 (by kernel_rfl) (fun a_16 f_20 => ?_)
      have f_21 := Frm.set f_20 20 (v := .int .i64 (IntKind.wrap .i64 (s_1.2 + 1))) (v' := .int .i64 (s_1.2 + 1)) (by kernel_rfl) (congrArg (Value.int .i64) (inR_wrap g_2))
      refine V_run f_21 1 (by kernel_rfl) (fun a_17 f_22 => ?_)
      refine W_end rfl (T_n ?_)
      obtain rfl := Option.some.inj hF_5
      exact ⟨⟨m_2, (s_1.1.set s_1.2.toNat s_1.2, s_1.2 + 1), A_4, cap_4, cs_2.set s_1.2.toNat (.int .i64 s_1.2)⟩, Nat.lt_succ_self _, M_2, hM_2, ⟨hn_1, hr_3⟩, f_22.keep (ks := [1, 3, 12, 13]) (by kernel_rfl), p_5⟩
    · have k_2 : ¬ (s_1.2 < (((List.replicate ((d0.fKeys.length : Nat) : Int).toNat (0 : Int)).length : Nat) : Int)) := iff_f decide_eq_true_iff h_3
      have hF_6 := cnd_f h_3 hs_1
      refine wp_exit (T_x (T_x ?_))
      obtain rfl := Option.some.inj hF_6
      exact ⟨rfl, s_1.1, (Option.some.inj hn_1).symm, M_2, hM_2, A_4, cap_4, cs_2, hr_2, f_11.keep (ks := [1, 3]) (by kernel_rfl), p_3⟩
  · rintro _ a_19 w_6 ⟨rfl, y_1, hq_, M_3, hM_3, A_5, cap_6, cs_3, hr_4, f_23, p_6⟩
    subst b_2
    refine B_x (T_n (R_seq (R_reg ?_)))
    refine V_run f_23 2 (by kernel_rfl) (fun a_20 f_24 => ?_)
    obtain ⟨x_2, hx_2, hF_7⟩ := bind_some' hF_2
    refine V_okH (E := [Ent.row 3 1 (.slice A_5 y_1.length cap_6) y_1.length cs_3]) (H := (H)) f_24 p_6 (sortKeys_ok n (c0 := [.int .i8 d0.fKind, .bool d0.fBool, .int .i64 d0.fNum, S d0.fText, .slice A_1 d0.fList.length cap_1, .slice A_2 d0.fKeys.length cap_2]) (T_api_Value.shutx (x := d0) (h_1.mono (hM_1.trans hM_3)) (h_2.mono (hM_1.trans hM_3))) (fzu (hM_1.trans hM_3) q0) ((fzu hM_3 hc_2) 0 _ rfl) _ _ _ hr_4 _ hx_2) (by kernel_rfl) (fun _ => by kernel_rfl) (fun u_1 M_4 E_1 w_7 hM_4 p_7 q_1 a_21 f_25 => ?_)
    obtain ⟨cs_4, rfl, rfl, hr_5, hl_1⟩ := q_1
    have hv_2 : (.slice A_5 y_1.length cap_6 : Value) = .slice A_5 x_2.length cap_6 := by rw [hl_1]
    have p_8 : Hp w0 M_4 ((Ent.row 3 1 (.slice A_5 x_2.length cap_6) x_2.length cs_4) :: H) w_7 := by rw [← hv_2]; exact p_7
    have f_26 := Frm.set f_25 3 (v := .slice A_5 y_1.length cap_6) (v' := .slice A_5 x_2.length cap_6) (by kernel_rfl) (hv_2)
    have f_27 := Frm.set f_26 21 (v := .slice A_5 y_1.length cap_6) (v' := .slice A_5 x_2.length cap_6) (by kernel_rfl) (hv_2)
    refine W_end rfl (T_n (R_seq (R_reg ?_)))
    refine V_run f_27 2 (by kernel_rfl) (fun a_22 f_28 => ?_)
    refine W_end rfl (T_n (wp_ret ?_))
    refine E_ret1 f_28 rfl (by kernel_rfl : Vc.look _ 2 = some (.slice A_5 x_2.length cap_6)) ?_
    obtain rfl := Option.some.inj hF_7
    exact ⟨_, rfl, M_4, _, ((hM_1.trans hM_3).trans hM_4), p_8, ⟨A_5, cap_6, cs_4, rfl, rfl, hr_5⟩⟩

def tree_sorted_s1 (n : Nat) (rec_tree_sorted : T_api_Value → Option T_api_Value) (d0 : T_api_Value) (x_1 : List Int) (s_1 : Int × List T_api_Value × List (List UInt8)) : Option (Lp (Int × List T_api_Value × List (List UInt8)) (List T_api_Value × List (List UInt8))) :=
    bif (decide (s_1.1 < ((x_1.length : Nat) : Int))) then
      ((getI x_1 s_1.1).bind fun x_2 =>
      (((getI d0.fKeys x_2).bind fun x_3 =>
        need ((s_1.2.2.length + 1) * 16 ≤ 140737488355328) <|
        some (s_1.2.2 ++ [x_3]) : Option (List (List UInt8)))).bind fun y_1 =>
      (((getI d0.fList x_2).bind fun x_5 =>
        (rec_tree_sorted x_5).bind fun x_6 =>
        need ((s_1.2.1.length + 1) * 80 ≤ 140737488355328) <|
        some (s_1.2.1 ++ [(⟨x_6.fKind, (x_6.fBool), x_6.fNum, x_6.fText, x_6.fList, x_6.fKeys⟩ : T_api_Value)]) : Option (List T_api_Value))).bind fun y_2 =>
      need (inR .i64 (s_1.1 + 1)) <|
      some (.nx (s_1.1 + 1, y_2, y_1)))
    else
      some (.br (s_1.2.1, s_1.2.2))
def tree_sorted_s2 (n : Nat) (rec_tree_sorted : T_api_Value → Option T_api_Value) (d0 : T_api_Value) (s_2 : Int × List T_api_Value) : Option (Lp (Int × List T_api_Value) (List T_api_Value)) :=
    bif (decide (s_2.1 < ((d0.fList.length : Nat) : Int))) then
      ((((getI d0.fList s_2.1).bind fun x_10 =>
        (rec_tree_sorted x_10).bind fun x_11 =>
        need ((s_2.2.length + 1) * 80 ≤ 140737488355328) <|
        some (s_2.2 ++ [(⟨x_11.fKind, (x_11.fBool), x_11.fNum, x_11.fText, x_11.fList, x_11.fKeys⟩ : T_api_Value)]) : Option (List T_api_Value))).bind fun y_4 =>
      need (inR .i64 (s_2.1 + 1)) <|
      some (.nx (s_2.1 + 1, y_4)))
    else
      some (.br s_2.2)
def tree_sorted_b (n : Nat) (rec_tree_sorted : T_api_Value → Option T_api_Value) (d0 : T_api_Value) : Option T_api_Value :=
  bif (decide (d0.fKind = 5)) then
    ((tree_order n d0).bind fun x_1 =>
    (loopF (tree_sorted_s1 n rec_tree_sorted d0 x_1) n ((0 : Int), ([] : List T_api_Value), ([] : List (List UInt8)))).bind fun y_3 =>
    some ((⟨d0.fKind, (d0.fBool), d0.fNum, d0.fText, y_3.1, y_3.2⟩ : T_api_Value)))
  else
    (loopF (tree_sorted_s2 n rec_tree_sorted d0) n ((0 : Int), ([] : List T_api_Value))).bind fun y_5 =>
    some ((⟨d0.fKind, (d0.fBool), d0.fNum, d0.fText, y_5, ([] : List (List UInt8))⟩ : T_api_Value))
set_option maxHeartbeats 2000000 in
theorem tree_sorted_b_ok (n : Nat) (rec_tree_sorted : T_api_Value → Option T_api_Value) (hrec_tree_sorted : ∀ (M : Mem) (hG : GL M) (ad0 : Addr) (c0 : List Value) (d0 : T_api_Value) (h0 : Rep M (emb_T_api_Value d0) c0) (q0 : ∀ j v, c0[j]? = some v → M.cell? (ad0.add j) = some v) (r : T_api_Value) (hF : rec_tree_sorted d0 = some r), Ok Tryd.prog M 88 [.pointer (some ad0)] (fun M' v => ∃ (c0 : List Value), v = .agg c0.toArray ∧ Rep M' (emb_T_api_Value r) c0)) (M : Mem) (hG : GL M) (ad0 : Addr) (c0 : List Value) (d0 : T_api_Value) (h0 : Rep M (emb_T_api_Value d0) c0) (q0 : ∀ j v, c0[j]? = some v → M.cell? (ad0.add j) = some v) (r : T_api_Value) (hF : tree_sorted_b n rec_tree_sorted d0 = some r) : Ok Tryd.prog M 88 [.pointer (some ad0)] (fun M' v => ∃ (c0 : List Value), v = .agg c0.toArray ∧ Rep M' (emb_T_api_Value r) c0) := by
  unfold tree_sorted_b at hF
  intro M1 hM0 w0 H w p0
  replace hG := GL.mono hM0 hG
  replace h0 := Rep.mono hM0 _ _ h0
  replace q0 := fun j v h => hM0.cell (q0 j v h)
  obtain ⟨A_1, cap_1, A_2, cap_2, rfl, h_1, h_2⟩ := T_api_Value.opn h0
  refine R_enter 84 Tryd.func88 rfl rfl (by simp) (fun a0 f0 => ?_)
  refine R_seq (R_reg ?_)
  refine V_alloc f0 p0 (.cells #[.int .i8 0, .bool false, .int .i64 0, S [], .slice none 0 0, .slice none 0 0] 33 (0, 0)) (by kernel_rfl) (fun _ => by kernel_rfl) (fun b_1 w_1 p_1 a_1 f_1 => ?_)
  refine W_end rfl (T_n (R_seq ?_))
  refine R_mix (E := []) (Hr := ((Ent.obj b_1 (.cells #[.int .i8 0, .bool false, .int .i64 0, S [], .slice none 0 0, .slice none 0 0] 33 (0, 0))) :: H)) [(0, true), (1, true), (2, true), (3, true), (4, true), (5, true), (6, true), (7, true), (8, true), (9, true), (10, true), (11, true), (12, true), (13, true), (14, true), (15, true), (16, true), (17, false), (18, false)] p_1 (by kernel_rfl) (by kernel_rfl) rfl (by kernel_rfl) ?_
  refine M_run default f_1 3 (by kernel_rfl) (fun _ => by kernel_rfl) (fun a_2 f_2 => ?_)
  refine M_eq (v := .int .i8 d0.fKind) f_2 (by kernel_rfl) (by kernel_rfl) rfl rfl (fun _ pq => X_load1 (v := .int .i8 d0.fKind) rfl (ad := ad0.add 0) (by kernel_rfl) (by kernel_rfl) (pq.cell (q0 0 _ rfl))) (fun a_3 f_3 => ?_)
  refine M_run default f_3 3 (by kernel_rfl) (fun _ => by kernel_rfl) (fun a_4 f_4 => ?_)
  refine M_eq (v := .bool d0.fBool) f_4 (by kernel_rfl) (by kernel_rfl) rfl rfl (fun _ pq => X_load1 (v := .bool d0.fBool) rfl (ad := ad0.add 1) (by kernel_rfl) (by kernel_rfl) (pq.cell (q0 1 _ rfl))) (fun a_5 f_5 => ?_)
  refine M_run default f_5 3 (by kernel_rfl) (fun _ => by kernel_rfl) (fun a_6 f_6 => ?_)
  refine M_eq (v := .int .i64 d0.fNum) f_6 (by kernel_rfl) (by kernel_rfl) rfl rfl (fun _ pq => X_load1 (v := .int .i64 d0.fNum) rfl (ad := ad0.add 2) (by kernel_rfl) (by kernel_rfl) (pq.cell (q0 2 _ rfl))) (fun a_7 f_7 => ?_)
  refine M_run default f_7 3 (by kernel_rfl) (fun _ => by kernel_rfl) (fun a_8 f_8 => ?_)
  refine M_eq (v := S d0.fText) f_8 (by kernel_rfl) (by kernel_rfl) rfl rfl (fun _ pq => X_load1 (v := S d0.fText) rfl (ad := ad0.add 3) (by kernel_rfl) (by kernel_rfl) (pq.cell (q0 3 _ rfl))) (fun a_9 f_9 => ?_)
  refine M_run default f_9 1 (by kernel_rfl) (fun _ => by kernel_rfl) (fun a_10 f_10 => ?_)
  refine M_fix (E := []) (fun w_2 p_2 => ?_)
  refine V_alloc f_10 p_2 (.cells #[.int .i8 0, .bool false, .int .i64 0, S [], .slice none 0 0, .slice none 0 0] 33 (0, 0)) (by kernel_rfl) (fun _ => by kernel_rfl) (fun b_2 w_3 p_3 a_11 f_11 => ?_)
  refine W_end rfl ?_
  refine M_go (M1 := M1) (E := [Ent.obj b_2 (.cells #[.int .i8 0, .bool false, .int .i64 0, S [], .slice none 0 0, .slice none 0 0] 33 (0, 0))]) (Mem.le_refl _) p_3 ?_
  refine M_fix (E := [Ent.obj b_2 (.cells #[.int .i8 0, .bool false, .int .i64 0, S [], .slice none 0 0, .slice none 0 0] 33 (0, 0))]) (fun w_4 p_4 => ?_)
  refine W_storeN (vs := [.int .i8 d0.fKind, .bool d0.fBool, .int .i64 d0.fNum, S d0.fText, .slice none 0 0, .slice none 0 0]) (j := 0) f_11 p_4 (by kernel_rfl) (by kernel_rfl) rfl rfl (by kernel_rfl) (by kernel_rfl) (by simp [Value.oneCell', S]) (by kernel_rfl) (by simp) (by decide) (cs' := #[.int .i8 d0.fKind, .bool d0.fBool, .int .i64 d0.fNum, S d0.fText, .slice none 0 0, .slice none 0 0]) rfl (fun w_5 p_5 a_12 f_12 => ?_)
  refine W_end rfl ?_
  refine M_go (M1 := M1) (E := [Ent.obj b_2 (.cells #[.int .i8 d0.fKind, .bool d0.fBool, .int .i64 d0.fNum, S d0.fText, .slice none 0 0, .slice none 0 0] 33 (0, 0))]) (Mem.le_refl _) p_5 ?_
  refine M_end rfl (fun w_6 p_6 => ?_)
  refine T_n (R_seq (R_seq (R_reg ?_)))
  refine V_run f_12 3 (by kernel_rfl) (fun a_13 f_13 => ?_)
  refine V_ld f_13 p_6 q0 0 rfl (by kernel_rfl) (by kernel_rfl) (fun a_14 f_14 => ?_)
  refine V_run f_14 1 (by kernel_rfl) (fun a_15 f_15 => ?_)
  refine W_end rfl (T_n ?_)
  refine R_cond f_15 (b := decide (d0.fKind = 5)) (by kernel_rfl) (by kernel_rfl) (fun h_3 => ?_) (fun h_3 => ?_)
  · have k_1 : d0.fKind = 5 := decide_eq_true_iff.1 h_3
    have hF_1 := cnd_t h_3 hF
    refine R_seq (R_seq (R_reg ?_))
    refine V_run f_15 1 (by kernel_rfl) (fun a_16 f_16 => ?_)
    obtain ⟨x_1, hx_1, hF_2⟩ := bind_some' hF_1
    refine V_okH (E := []) (H := ((Ent.obj b_2 (.cells #[.int .i8 d0.fKind, .bool d0.fBool, .int .i64 d0.fNum, S d0.fText, .slice none 0 0, .slice none 0 0] 33 (0, 0))) :: (Ent.obj b_1 (.cells #[.int .i8 0, .bool false, .int .i64 0, S [], .slice none 0 0, .slice none 0 0] 33 (0, 0))) :: H)) f_16 p_6 (tree_order_ok n _ hG ad0 [.int .i8 d0.fKind, .bool d0.fBool, .int .i64 d0.fNum, S d0.fText, .slice A_1 d0.fList.length cap_1, .slice A_2 d0.fKeys.length cap_2] d0 (T_api_Value.shutx (x := d0) h_1 h_2) (fz_at (q0) 0 rfl) x_1 hx_1) (by kernel_rfl) (fun _ => by kernel_rfl) (fun u_1 M_1 E_1 w_7 hM_1 p_7 q_1 a_17 f_17 => ?_)
    obtain ⟨A_3, cap_3, cs_1, rfl, rfl, hr_1⟩ := q_1
    refine V_run f_17 2 (by kernel_rfl) (fun a_18 f_18 => ?_)
    refine W_end rfl (T_n (wp_block ?_))
    obtain ⟨A_4, cap_4, hv_1⟩ : ∃ A cap, Value.slice none 0 0 = .slice A ([] : List T_api_Value).length cap := ⟨none, 0, rfl⟩
    have p_8 : Hp w0 M_1 ((Ent.row 33 6 (.slice A_4 ([] : List T_api_Value).length cap_4) ([] : List T_api_Value).length []) :: (Ent.row 3 1 (.slice A_3 x_1.length cap_3) x_1.length cs_1) :: (Ent.obj b_2 (.cells #[.int .i8 d0.fKind, .bool d0.fBool, .int .i64 d0.fNum, S d0.fText, .slice A_4 ([] : List T_api_Value).length cap_4, .slice none 0 0] 33 (0, 0))) :: (Ent.obj b_1 (.cells #[.int .i8 0, .bool false, .int .i64 0, S [], .slice none 0 0, .slice none 0 0] 33 (0, 0))) :: H) w_7 := by rw [← hv_1]; exact p_7.nilRow 33 6
    have hr_2 : RepSeq M_1 (([] : List T_api_Value).map emb_T_api_Value) [] := rfl
    obtain ⟨A_5, cap_5, hv_2⟩ : ∃ A cap, Value.slice none 0 0 = .slice A ([] : List (List UInt8)).length cap := ⟨none, 0, rfl⟩
    have p_9 : Hp w0 M_1 ((Ent.row 9 1 (.slice A_5 ([] : List (List UInt8)).length cap_5) ([] : List (List UInt8)).length []) :: (Ent.row 33 6 (.slice A_4 ([] : List T_api_Value).length cap_4) ([] : List T_api_Value).length []) :: (Ent.row 3 1 (.slice A_3 x_1.length cap_3) x_1.length cs_1) :: (Ent.obj b_2 (.cells #[.int .i8 d0.fKind, .bool d0.fBool, .int .i64 d0.fNum, S d0.fText, .slice A_4 ([] : List T_api_Value).length cap_4, .slice A_5 ([] : List (List UInt8)).length cap_5] 33 (0, 0))) :: (Ent.obj b_1 (.cells #[.int .i8 0, .bool false, .int .i64 0, S [], .slice none 0 0, .slice none 0 0] 33 (0, 0))) :: H) w_7 := by rw [← hv_2]; exact p_8.nilRow 9 1
    have hr_3 : RepSeq M_1 (([] : List (List UInt8)).map Dat.str) [] := rfl
    have p_14 := p_9.pl [4, 4, 4, 3, 4]
    obtain ⟨b_3, hL_1, hF_3⟩ := bind_some' hF_2
    refine wp_mono (Q := fun e a w => (e = .exit 0 ∧ (∃ y_3 : List T_api_Value × List (List UInt8), b_3 = y_3 ∧ ∃ M_8 : Mem, M_1.le M_8 ∧ ∃ (A_27 : Option Addr), ∃ (cap_28 : Nat), ∃ (cs_13 : List Value), ∃ (A_28 : Option Addr), ∃ (cap_29 : Nat), ∃ (cs_14 : List Value), RepSeq M_8 (y_3.1.map emb_T_api_Value) cs_13 ∧ RepSeq M_8 (y_3.2.map Dat.str) cs_14 ∧ Frm 84 [(2, .pointer (some (⟨b_1, 0, none⟩))), (3, .pointer (some (⟨b_2, 0, none⟩)))] a ∧ Hp w0 M_8 ((Ent.row 33 6 (.slice A_27 y_3.1.length cap_28) y_3.1.length cs_13) :: (Ent.row 9 1 (.slice A_28 y_3.2.length cap_29) y_3.2.length cs_14) :: (Ent.row 3 1 (.slice A_3 x_1.length cap_3) x_1.length cs_1) :: (Ent.obj b_2 (.cells #[.int .i8 d0.fKind, .bool d0.fBool, .int .i64 d0.fNum, S d0.fText, .slice A_27 y_3.1.length cap_28, .slice A_28 y_3.2.length cap_29] 33 (0, 0))) :: (Ent.obj b_1 (.cells #[.int .i8 0, .bool false, .int .i64 0, S [], .slice none 0 0, .slice none 0 0] 33 (0, 0))) :: H) w))) (R_loop (n := 84) (w0 := w0) (M := M_1) (fun (x : Nat × (Int × List T_api_Value × List (List UInt8)) × (Option Addr) × Nat × (List Value) × (Option Addr) × Nat × (List Value)) => match x with | (m_1, s_1, A_6, cap_6, cs_2, A_7, cap_7, cs_3) => [(0, .pointer (some ad0)), (2, .pointer (some (⟨b_1, 0, none⟩))), (3, .pointer (some (⟨b_2, 0, none⟩))), (30, .slice A_3 x_1.length cap_3), (31, .int .i64 ((x_1.length : Nat) : Int)), (32, .int .i64 s_1.1)]) (fun (x : Nat × (Int × List T_api_Value × List (List UInt8)) × (Option Addr) × Nat × (List Value) × (Option Addr) × Nat × (List Value)) => match x with | (m_1, s_1, A_6, cap_6, cs_2, A_7, cap_7, cs_3) => ((Ent.row 33 6 (.slice A_6 s_1.2.1.length cap_6) s_1.2.1.length cs_2) :: (Ent.row 9 1 (.slice A_7 s_1.2.2.length cap_7) s_1.2.2.length cs_3) :: (Ent.row 3 1 (.slice A_3 x_1.length cap_3) x_1.length cs_1) :: (Ent.obj b_2 (.cells #[.int .i8 d0.fKind, .bool d0.fBool, .int .i64 d0.fNum, S d0.fText, .slice A_6 s_1.2.1.length cap_6, .slice A_7 s_1.2.2.length cap_7] 33 (0, 0))) :: (Ent.obj b_1 (.cells #[.int .i8 0, .bool false, .int .i64 0, S [], .slice none 0 0, .slice none 0 0] 33 (0, 0))) :: H)) (fun (x : Nat × (Int × List T_api_Value × List (List UInt8)) × (Option Addr) × Nat × (List Value) × (Option Addr) × Nat × (List Value)) (MM : Mem) => match x with | (m_1, s_1, A_6, cap_6, cs_2, A_7, cap_7, cs_3) => loopF (tree_sorted_s1 n rec_tree_sorted d0 x_1) m_1 s_1 = some b_3 ∧ RepSeq MM (s_1.2.1.map emb_T_api_Value) cs_2 ∧ RepSeq MM (s_1.2.2.map Dat.str) cs_3) (fun (x : Nat × (Int × List T_api_Value × List (List UInt8)) × (Option Addr) × Nat × (List Value) × (Option Addr) × Nat × (List Value)) => match x with | (m_1, s_1, A_6, cap_6, cs_2, A_7, cap_7, cs_3) => m_1) (n, ((0 : Int), ([] : List T_api_Value), ([] : List (List UInt8))), A_4, cap_4, [], A_5, cap_5, []) (f_18.keep (ks := [0, 2, 3, 30, 31, 32]) (by kernel_rfl)) p_14 ⟨hL_1, hr_2, hr_3⟩ ?_) ?_
    · rintro ⟨m_1, s_1, A_6, cap_6, cs_2, A_7, cap_7, cs_3⟩ M_2 a_19 w_8 hM_2 I_1 f_19 p_15
      obtain ⟨I_1L, hr_4, hr_5⟩ := I_1
      obtain ⟨m_2, r_1, rfl, hs_1, hn_1⟩ := loop_step I_1L
      unfold tree_sorted_s1 at hs_1
      refine R_seq (R_reg ?_)
      refine V_run f_19 1 (by kernel_rfl) (fun a_20 f_20 => ?_)
      refine W_end rfl (T_n (R_seq ?_))
      refine R_cond f_20 (b := decide (s_1.1 < ((x_1.length : Nat) : Int))) (by kernel_rfl) (by kernel_rfl) (fun h_4 => ?_) (fun h_4 => ?_)
      · have k_2 : s_1.1 < ((x_1.length : Nat) : Int) := decide_eq_true_iff.1 h_4
        have hF_4 := cnd_t h_4 hs_1
        refine wp_skip (T_n (R_seq (wp_block (R_seq (R_reg ?_)))))
        obtain ⟨x_2, hx_2, hF_5⟩ := bind_some' hF_4
        obtain ⟨b_4, cap_8, hv_3, hcap_1⟩ := p_15.rowAddr 2 rfl (getI_pos hx_2)
        have f_21 := Frm.set f_20 30 (v := .slice A_3 x_1.length cap_3) (v' := .slice (some ⟨b_4, 0, none⟩) x_1.length cap_8) (by kernel_rfl) (hv_3)
        refine V_eq (v := .pointer (some ((⟨b_4, 0, none⟩ : Addr).add (s_1.1.toNat * 1)))) f_21 (by kernel_rfl) (X_indexAddr rfl (ad := ⟨b_4, 0, none⟩) (len := x_1.length) (cap := cap_8) (k := .i64) (i := s_1.1) (by kernel_rfl) (by kernel_rfl) (e := 3) (by kernel_rfl) (sz := 1) (by kernel_rfl) (getI_nn hx_2) (getI_lt hx_2)) (fun a_21 f_22 => ?_)
        have f_23 := Frm.set f_22 30 (v := .slice (some ⟨b_4, 0, none⟩) x_1.length cap_8) (v' := .slice A_3 x_1.length cap_3) (by kernel_rfl) (hv_3.symm)
        obtain ⟨c_1, hl_1, hr_6, hc_1⟩ := RepSeq.get s_1.1.toNat (szd_all (szd_int .i64)) (RepSeq.mono hM_2 _ _ hr_1) (getI_map hx_2)
        clear hl_1
        obtain rfl : c_1 = [.int .i64 x_2] := hr_6
        refine V_eq (v := .int .i64 x_2) f_23 (by kernel_rfl) (X_load1 (v := .int .i64 x_2) rfl (ad := (⟨b_4, 0, none⟩ : Addr).add (s_1.1.toNat * 1)) (by kernel_rfl) (by kernel_rfl) (by simpa [Addr.add] using (fun j v h => row_at (p_15.rowCell 2 rfl hv_3) hc_1 j v h) 0 _ rfl)) (fun a_22 f_24 => ?_)
        refine V_run f_24 1 (by kernel_rfl) (fun a_23 f_25 => ?_)
        refine W_end rfl (T_n (R_seq ?_))
        obtain ⟨j_1, hj_1, hF_6⟩ := bind_some' hF_5
        refine R_mid (fun a_52 w_28 => ∃ y_1 : List (List UInt8), j_1 = y_1 ∧ ∃ M_3 : Mem, M_2.le M_3 ∧ ∃ (A_11 : Option Addr), ∃ (cap_12 : Nat), ∃ (cs_7 : List Value), RepSeq M_3 (y_1.map Dat.str) cs_7 ∧ Frm 84 [(0, .pointer (some ad0)), (2, .pointer (some (⟨b_1, 0, none⟩))), (3, .pointer (some (⟨b_2, 0, none⟩))), (5, .int .i64 x_2), (30, .slice A_3 x_1.length cap_3), (31, .int .i64 ((x_1.length : Nat) : Int)), (32, .int .i64 s_1.1)] a_52 ∧ Hp w0 M_3 ((Ent.row 9 1 (.slice A_11 y_1.length cap_12) y_1.length cs_7) :: (Ent.obj b_2 (.cells #[.int .i8 d0.fKind, .bool d0.fBool, .int .i64 d0.fNum, S d0.fText, .slice A_6 s_1.2.1.length cap_6, .slice A_11 y_1.length cap_12] 33 (0, 0))) :: (Ent.row 33 6 (.slice A_6 s_1.2.1.length cap_6) s_1.2.1.length cs_2) :: (Ent.row 3 1 (.slice A_3 x_1.length cap_3) x_1.length cs_1) :: (Ent.obj b_1 (.cells #[.int .i8 0, .bool false, .int .i64 0, S [], .slice none 0 0, .slice none 0 0] 33 (0, 0))) :: H) w_28) ?_ ?_
        · have p_26 := p_15.pl [4, 3, 2, 4, 4]
          obtain ⟨x_3, hx_3, hF_7⟩ := bind_some' hj_1
          obtain ⟨g_1, hF_8⟩ := need_some hF_7
          refine R_plan (E := [Ent.row 9 1 (.slice A_7 s_1.2.2.length cap_7) s_1.2.2.length cs_3, Ent.obj b_2 (.cells #[.int .i8 d0.fKind, .bool d0.fBool, .int .i64 d0.fNum, S d0.fText, .slice A_6 s_1.2.1.length cap_6, .slice A_7 s_1.2.2.length cap_7] 33 (0, 0))]) (Hr := ((Ent.row 33 6 (.slice A_6 s_1.2.1.length cap_6) s_1.2.1.length cs_2) :: (Ent.row 3 1 (.slice A_3 x_1.length cap_3) x_1.length cs_1) :: (Ent.obj b_1 (.cells #[.int .i8 0, .bool false, .int .i64 0, S [], .slice none 0 0, .slice none 0 0] 33 (0, 0))) :: H)) (.quiet 0 (.quiet 2 (.quiet 3 (.quiet 4 (.quiet 5 (.quiet 6 (.quiet 7 (.quiet 8 (.alt 1 (.alt 9 (.alt 10 (.quiet 11 (.alt 12 .done .none)) .none) .none) (.alt 9 (.alt 1 (.alt 10 (.quiet 11 (.alt 12 .done .none)) .none) .none) .none)))))))))) p_26 (by kernel_rfl) (by kernel_rfl) (by kernel_rfl) ?_
          refine N_eq (v := .pointer (some (⟨b_2, 5, none⟩))) rfl f_25 (by kernel_rfl) (by kernel_rfl) rfl rfl (fun _ _ => by kernel_rfl) (fun a_34 f_36 => ?_)
          have f_37 : Frm 84 [(0, .pointer (some ad0)), (2, .pointer (some (⟨b_1, 0, none⟩))), (3, .pointer (some (⟨b_2, 0, none⟩))), (5, .int .i64 x_2), (30, .slice A_3 x_1.length cap_3), (31, .int .i64 ((x_1.length : Nat) : Int)), (32, .int .i64 s_1.1), (36, .pointer (some (⟨b_2, 5, none⟩)))] a_34 := f_36.keep (ks := [0, 2, 3, 5, 30, 31, 32, 36]) (by kernel_rfl)
          refine N_eq (v := .pointer (some ad0)) rfl f_37 (by kernel_rfl) (by kernel_rfl) rfl rfl (fun _ _ => by kernel_rfl) (fun a_35 f_38 => ?_)
          have f_39 : Frm 84 [(0, .pointer (some ad0)), (2, .pointer (some (⟨b_1, 0, none⟩))), (3, .pointer (some (⟨b_2, 0, none⟩))), (5, .int .i64 x_2), (30, .slice A_3 x_1.length cap_3), (31, .int .i64 ((x_1.length : Nat) : Int)), (32, .int .i64 s_1.1), (36, .pointer (some (⟨b_2, 5, none⟩))), (38, .pointer (some ad0))] a_35 := f_38.keep (ks := [0, 2, 3, 5, 30, 31, 32, 36, 38]) (by kernel_rfl)
          refine N_eq (v := .pointer (some ad0)) rfl f_39 (by kernel_rfl) (by kernel_rfl) rfl rfl (fun _ _ => by kernel_rfl) (fun a_36 f_40 => ?_)
          have f_41 : Frm 84 [(0, .pointer (some ad0)), (2, .pointer (some (⟨b_1, 0, none⟩))), (3, .pointer (some (⟨b_2, 0, none⟩))), (5, .int .i64 x_2), (30, .slice A_3 x_1.length cap_3), (31, .int .i64 ((x_1.length : Nat) : Int)), (32, .int .i64 s_1.1), (36, .pointer (some (⟨b_2, 5, none⟩))), (39, .pointer (some ad0))] a_36 := f_40.keep (ks := [0, 2, 3, 5, 30, 31, 32, 36, 39]) (by kernel_rfl)
          refine N_eq (v := .pointer (some (ad0.add 5))) rfl f_41 (by kernel_rfl) (by kernel_rfl) rfl rfl (fun _ _ => by kernel_rfl) (fun a_37 f_42 => ?_)
          have f_43 : Frm 84 [(0, .pointer (some ad0)), (2, .pointer (some (⟨b_1, 0, none⟩))), (3, .pointer (some (⟨b_2, 0, none⟩))), (5, .int .i64 x_2), (30, .slice A_3 x_1.length cap_3), (31, .int .i64 ((x_1.length : Nat) : Int)), (32, .int .i64 s_1.1), (36, .pointer (some (⟨b_2, 5, none⟩))), (40, .pointer (some (ad0.add 5)))] a_37 := f_42.keep (ks := [0, 2, 3, 5, 30, 31, 32, 36, 40]) (by kernel_rfl)
          refine N_eq (v := .slice A_2 d0.fKeys.length cap_2) rfl f_43 (by kernel_rfl) (by kernel_rfl) rfl rfl (fun _ pq => X_load1 (v := .slice A_2 d0.fKeys.length cap_2) rfl (ad := ad0.add 5) (by kernel_rfl) (by kernel_rfl) (pq.cell ((fzu (hM_1.trans hM_2) q0) 5 _ rfl))) (fun a_38 f_44 => ?_)
          refine N_eq (v := .int .i64 x_2) rfl f_44 (by kernel_rfl) (by kernel_rfl) rfl rfl (fun _ _ => by kernel_rfl) (fun a_39 f_45 => ?_)
          have f_46 : Frm 84 [(0, .pointer (some ad0)), (2, .pointer (some (⟨b_1, 0, none⟩))), (3, .pointer (some (⟨b_2, 0, none⟩))), (5, .int .i64 x_2), (30, .slice A_3 x_1.length cap_3), (31, .int .i64 ((x_1.length : Nat) : Int)), (32, .int .i64 s_1.1), (36, .pointer (some (⟨b_2, 5, none⟩))), (41, .slice A_2 d0.fKeys.length cap_2), (42, .int .i64 x_2)] a_39 := f_45.keep (ks := [0, 2, 3, 5, 30, 31, 32, 36, 41, 42]) (by kernel_rfl)
          obtain ⟨ad_2, c_3, e_2, hl_3, hr_9, hc_3⟩ := Sli.at_ (h_2.mono (hM_1.trans hM_2)) hx_3
          clear hl_3
          obtain rfl : c_3 = [S x_3] := hr_9
          refine N_eq (v := .pointer (some (ad_2.add (x_2.toNat * 1)))) rfl f_46 (by kernel_rfl) (by kernel_rfl) rfl rfl (fun _ pq => X_indexAddrA e_2 rfl (len := d0.fKeys.length) (cap := cap_2) (k := .i64) (i := x_2) (by kernel_rfl) (by kernel_rfl) (e := 9) (by kernel_rfl) (sz := 1) (by kernel_rfl) (getI_nn hx_3) (getI_lt hx_3)) (fun a_40 f_47 => ?_)
          refine N_eq (v := S x_3) rfl f_47 (by kernel_rfl) (by kernel_rfl) rfl rfl (fun _ pq => X_load1 (v := S x_3) rfl (ad := ad_2.add (x_2.toNat * 1)) (by kernel_rfl) (by kernel_rfl) (pq.cell (hc_3 0 _ rfl))) (fun a_41 f_48 => ?_)
          refine N_alt rfl (E := [Ent.row 9 1 (.slice A_7 s_1.2.2.length cap_7) s_1.2.2.length cs_3, Ent.obj b_2 (.cells #[.int .i8 d0.fKind, .bool d0.fBool, .int .i64 d0.fNum, S d0.fText, .slice A_6 s_1.2.1.length cap_6, .slice A_7 s_1.2.2.length cap_7] 33 (0, 0))]) (fun w_12 p_27 => ?_) ?_
          · refine V_eq (v := .slice A_7 s_1.2.2.length cap_7) f_48 (by kernel_rfl) (X_load1 (v := .slice A_7 s_1.2.2.length cap_7) rfl (ad := ⟨b_2, 5, none⟩) (by kernel_rfl) (by kernel_rfl) (p_27.ownCell 1 rfl 5)) (fun a_42 f_49 => ?_)
            refine W_end rfl ?_
            refine N_go (M1 := M_2) (E := [Ent.row 9 1 (.slice A_7 s_1.2.2.length cap_7) s_1.2.2.length cs_3, Ent.obj b_2 (.cells #[.int .i8 d0.fKind, .bool d0.fBool, .int .i64 d0.fNum, S d0.fText, .slice A_6 s_1.2.1.length cap_6, .slice A_7 s_1.2.2.length cap_7] 33 (0, 0))]) (Mem.le_refl _) p_27 ?_
            refine N_alt rfl (E := [Ent.row 9 1 (.slice A_7 s_1.2.2.length cap_7) s_1.2.2.length cs_3, Ent.obj b_2 (.cells #[.int .i8 d0.fKind, .bool d0.fBool, .int .i64 d0.fNum, S d0.fText, .slice A_6 s_1.2.1.length cap_6, .slice A_7 s_1.2.2.length cap_7] 33 (0, 0))]) (fun w_13 p_28 => ?_) ?_
            · refine V_allocS (k := 1) (c := 1) f_49 p_28 (.cells #[S x_3] 9 (0, 0)) (by kernel_rfl) (fun _ => by kernel_rfl) (fun b_6 w_14 p_29 a_43 f_50 => ?_)
              refine W_end rfl ?_
              refine N_go (M1 := M_2) (E := [Ent.obj b_6 (.cells #[S x_3] 9 (0, 0)), Ent.row 9 1 (.slice A_7 s_1.2.2.length cap_7) s_1.2.2.length cs_3, Ent.obj b_2 (.cells #[.int .i8 d0.fKind, .bool d0.fBool, .int .i64 d0.fNum, S d0.fText, .slice A_6 s_1.2.1.length cap_6, .slice A_7 s_1.2.2.length cap_7] 33 (0, 0))]) (Mem.le_refl _) p_29 ?_
              refine N_alt rfl (E := [Ent.obj b_6 (.cells #[S x_3] 9 (0, 0)), Ent.row 9 1 (.slice A_7 s_1.2.2.length cap_7) s_1.2.2.length cs_3, Ent.obj b_2 (.cells #[.int .i8 d0.fKind, .bool d0.fBool, .int .i64 d0.fNum, S d0.fText, .slice A_6 s_1.2.1.length cap_6, .slice A_7 s_1.2.2.length cap_7] 33 (0, 0))]) (fun w_15 p_30 => ?_) ?_
              · have p_31 := p_30.pl [1]
                refine W_appendL (z := S []) (f := Dat.str) (xs := s_1.2.2) (ys := [x_3]) (news := [S x_3]) (ad := ⟨b_6, 0, none⟩) (m := 1) (c := 1) f_50 p_31 hr_5 (by exact ⟨_, _, rfl, rfl, rfl⟩) (by kernel_rfl) (by kernel_rfl) rfl rfl rfl (by kernel_rfl) (by kernel_rfl) (by kernel_rfl) (by kernel_rfl) rfl (own_cells (p_31.ownCell 1 rfl) 0 rfl) (by exact g_1) (by have hg_ := g_1; first | omega | (simp only [List.length_cons, List.length_nil] at *; omega)) (fun A_9 cap_10 cs_5 w_16 p_32 hr_10 a_44 f_51 => ?_)
                have p_33 := p_32.pl [1]
                have p_34 := p_33.drop
                refine W_end rfl ?_
                refine N_go (M1 := M_2) (E := [Ent.row 9 1 (.slice A_9 (s_1.2.2 ++ [x_3]).length cap_10) (s_1.2.2 ++ [x_3]).length cs_5, Ent.obj b_2 (.cells #[.int .i8 d0.fKind, .bool d0.fBool, .int .i64 d0.fNum, S d0.fText, .slice A_6 s_1.2.1.length cap_6, .slice A_7 s_1.2.2.length cap_7] 33 (0, 0))]) (Mem.le_refl _) p_34 ?_
                refine N_eq (v := .pointer (some (⟨b_2, 5, none⟩))) rfl f_51 (by kernel_rfl) (by kernel_rfl) rfl rfl (fun _ _ => by kernel_rfl) (fun a_45 f_52 => ?_)
                have f_53 : Frm 84 [(0, .pointer (some ad0)), (2, .pointer (some (⟨b_1, 0, none⟩))), (3, .pointer (some (⟨b_2, 0, none⟩))), (5, .int .i64 x_2), (30, .slice A_3 x_1.length cap_3), (31, .int .i64 ((x_1.length : Nat) : Int)), (32, .int .i64 s_1.1), (46, .slice A_9 (s_1.2.2 ++ [x_3]).length cap_10), (47, .pointer (some (⟨b_2, 5, none⟩)))] a_45 := f_52.keep (ks := [0, 2, 3, 5, 30, 31, 32, 46, 47]) (by kernel_rfl)
                refine N_alt rfl (E := [Ent.row 9 1 (.slice A_9 (s_1.2.2 ++ [x_3]).length cap_10) (s_1.2.2 ++ [x_3]).length cs_5, Ent.obj b_2 (.cells #[.int .i8 d0.fKind, .bool d0.fBool, .int .i64 d0.fNum, S d0.fText, .slice A_6 s_1.2.1.length cap_6, .slice A_7 s_1.2.2.length cap_7] 33 (0, 0))]) (fun w_17 p_35 => ?_) ?_
                · refine W_store1 f_53 p_35 1 (by kernel_rfl) (by kernel_rfl) rfl rfl (b := b_2) (j := 5) (v := .slice A_9 (s_1.2.2 ++ [x_3]).length cap_10) (by kernel_rfl) (by kernel_rfl) rfl (by kernel_rfl) (by exact rfl) (by simp) (by simp) ((Ent.row 9 1 (.slice A_9 (s_1.2.2 ++ [x_3]).length cap_10) (s_1.2.2 ++ [x_3]).length cs_5) :: (Ent.obj b_2 (.cells #[.int .i8 d0.fKind, .bool d0.fBool, .int .i64 d0.fNum, S d0.fText, .slice A_6 s_1.2.1.length cap_6, .slice A_9 (s_1.2.2 ++ [x_3]).length cap_10] 33 (0, 0))) :: (Ent.row 33 6 (.slice A_6 s_1.2.1.length cap_6) s_1.2.1.length cs_2) :: (Ent.row 3 1 (.slice A_3 x_1.length cap_3) x_1.length cs_1) :: (Ent.obj b_1 (.cells #[.int .i8 0, .bool false, .int .i64 0, S [], .slice none 0 0, .slice none 0 0] 33 (0, 0))) :: H) rfl (fun w_18 p_36 a_46 f_54 => ?_)
                  refine W_end rfl ?_
                  refine N_go (M1 := M_2) (E := [Ent.row 9 1 (.slice A_9 (s_1.2.2 ++ [x_3]).length cap_10) (s_1.2.2 ++ [x_3]).length cs_5, Ent.obj b_2 (.cells #[.int .i8 d0.fKind, .bool d0.fBool, .int .i64 d0.fNum, S d0.fText, .slice A_6 s_1.2.1.length cap_6, .slice A_9 (s_1.2.2 ++ [x_3]).length cap_10] 33 (0, 0))]) (Mem.le_refl _) p_36 ?_
                  refine N_end (fun w_19 p_37 => ?_)
                  refine T_n ?_
                  exact ⟨s_1.2.2 ++ [x_3], (Option.some.inj hF_8).symm, M_2, (Mem.le_refl _), A_9, cap_10, cs_5, hr_10, f_54.keep (ks := [0, 2, 3, 5, 30, 31, 32]) (by kernel_rfl), p_37⟩
                exact N_none
              exact N_none
            exact N_none
          refine N_alt rfl (E := [Ent.row 9 1 (.slice A_7 s_1.2.2.length cap_7) s_1.2.2.length cs_3, Ent.obj b_2 (.cells #[.int .i8 d0.fKind, .bool d0.fBool, .int .i64 d0.fNum, S d0.fText, .slice A_6 s_1.2.1.length cap_6, .slice A_7 s_1.2.2.length cap_7] 33 (0, 0))]) (fun w_20 p_38 => ?_) ?_
          · refine V_allocS (k := 1) (c := 1) f_48 p_38 (.cells #[S x_3] 9 (0, 0)) (by kernel_rfl) (fun _ => by kernel_rfl) (fun b_7 w_21 p_39 a_47 f_55 => ?_)
            refine W_end rfl ?_
            refine N_go (M1 := M_2) (E := [Ent.obj b_7 (.cells #[S x_3] 9 (0, 0)), Ent.row 9 1 (.slice A_7 s_1.2.2.length cap_7) s_1.2.2.length cs_3, Ent.obj b_2 (.cells #[.int .i8 d0.fKind, .bool d0.fBool, .int .i64 d0.fNum, S d0.fText, .slice A_6 s_1.2.1.length cap_6, .slice A_7 s_1.2.2.length cap_7] 33 (0, 0))]) (Mem.le_refl _) p_39 ?_
            refine N_alt rfl (E := [Ent.obj b_7 (.cells #[S x_3] 9 (0, 0)), Ent.row 9 1 (.slice A_7 s_1.2.2.length cap_7) s_1.2.2.length cs_3, Ent.obj b_2 (.cells #[.int .i8 d0.fKind, .bool d0.fBool, .int .i64 d0.fNum, S d0.fText, .slice A_6 s_1.2.1.length cap_6, .slice A_7 s_1.2.2.length cap_7] 33 (0, 0))]) (fun w_22 p_40 => ?_) ?_
            · refine V_eq (v := .slice A_7 s_1.2.2.length cap_7) f_55 (by kernel_rfl) (X_load1 (v := .slice A_7 s_1.2.2.length cap_7) rfl (ad := ⟨b_2, 5, none⟩) (by kernel_rfl) (by kernel_rfl) (p_40.ownCell 2 rfl 5)) (fun a_48 f_56 => ?_)
              refine W_end rfl ?_
              refine N_go (M1 := M_2) (E := [Ent.obj b_7 (.cells #[S x_3] 9 (0, 0)), Ent.row 9 1 (.slice A_7 s_1.2.2.length cap_7) s_1.2.2.length cs_3, Ent.obj b_2 (.cells #[.int .i8 d0.fKind, .bool d0.fBool, .int .i64 d0.fNum, S d0.fText, .slice A_6 s_1.2.1.length cap_6, .slice A_7 s_1.2.2.length cap_7] 33 (0, 0))]) (Mem.le_refl _) p_40 ?_
              refine N_alt rfl (E := [Ent.obj b_7 (.cells #[S x_3] 9 (0, 0)), Ent.row 9 1 (.slice A_7 s_1.2.2.length cap_7) s_1.2.2.length cs_3, Ent.obj b_2 (.cells #[.int .i8 d0.fKind, .bool d0.fBool, .int .i64 d0.fNum, S d0.fText, .slice A_6 s_1.2.1.length cap_6, .slice A_7 s_1.2.2.length cap_7] 33 (0, 0))]) (fun w_23 p_41 => ?_) ?_
              · have p_42 := p_41.pl [1]
                refine W_appendL (z := S []) (f := Dat.str) (xs := s_1.2.2) (ys := [x_3]) (news := [S x_3]) (ad := ⟨b_7, 0, none⟩) (m := 1) (c := 1) f_56 p_42 hr_5 (by exact ⟨_, _, rfl, rfl, rfl⟩) (by kernel_rfl) (by kernel_rfl) rfl rfl rfl (by kernel_rfl) (by kernel_rfl) (by kernel_rfl) (by kernel_rfl) rfl (own_cells (p_42.ownCell 1 rfl) 0 rfl) (by exact g_1) (by have hg_ := g_1; first | omega | (simp only [List.length_cons, List.length_nil] at *; omega)) (fun A_10 cap_11 cs_6 w_24 p_43 hr_11 a_49 f_57 => ?_)
                have p_44 := p_43.pl [1]
                have p_45 := p_44.drop
                refine W_end rfl ?_
                refine N_go (M1 := M_2) (E := [Ent.row 9 1 (.slice A_10 (s_1.2.2 ++ [x_3]).length cap_11) (s_1.2.2 ++ [x_3]).length cs_6, Ent.obj b_2 (.cells #[.int .i8 d0.fKind, .bool d0.fBool, .int .i64 d0.fNum, S d0.fText, .slice A_6 s_1.2.1.length cap_6, .slice A_7 s_1.2.2.length cap_7] 33 (0, 0))]) (Mem.le_refl _) p_45 ?_
                refine N_eq (v := .pointer (some (⟨b_2, 5, none⟩))) rfl f_57 (by kernel_rfl) (by kernel_rfl) rfl rfl (fun _ _ => by kernel_rfl) (fun a_50 f_58 => ?_)
                have f_59 : Frm 84 [(0, .pointer (some ad0)), (2, .pointer (some (⟨b_1, 0, none⟩))), (3, .pointer (some (⟨b_2, 0, none⟩))), (5, .int .i64 x_2), (30, .slice A_3 x_1.length cap_3), (31, .int .i64 ((x_1.length : Nat) : Int)), (32, .int .i64 s_1.1), (46, .slice A_10 (s_1.2.2 ++ [x_3]).length cap_11), (47, .pointer (some (⟨b_2, 5, none⟩)))] a_50 := f_58.keep (ks := [0, 2, 3, 5, 30, 31, 32, 46, 47]) (by kernel_rfl)
                refine N_alt rfl (E := [Ent.row 9 1 (.slice A_10 (s_1.2.2 ++ [x_3]).length cap_11) (s_1.2.2 ++ [x_3]).length cs_6, Ent.obj b_2 (.cells #[.int .i8 d0.fKind, .bool d0.fBool, .int .i64 d0.fNum, S d0.fText, .slice A_6 s_1.2.1.length cap_6, .slice A_7 s_1.2.2.length cap_7] 33 (0, 0))]) (fun w_25 p_46 => ?_) ?_
                · refine W_store1 f_59 p_46 1 (by kernel_rfl) (by kernel_rfl) rfl rfl (b := b_2) (j := 5) (v := .slice A_10 (s_1.2.2 ++ [x_3]).length cap_11) (by kernel_rfl) (by kernel_rfl) rfl (by kernel_rfl) (by exact rfl) (by simp) (by simp) ((Ent.row 9 1 (.slice A_10 (s_1.2.2 ++ [x_3]).length cap_11) (s_1.2.2 ++ [x_3]).length cs_6) :: (Ent.obj b_2 (.cells #[.int .i8 d0.fKind, .bool d0.fBool, .int .i64 d0.fNum, S d0.fText, .slice A_6 s_1.2.1.length cap_6, .slice A_10 (s_1.2.2 ++ [x_3]).length cap_11] 33 (0, 0))) :: (Ent.row 33 6 (.slice A_6 s_1.2.1.length cap_6) s_1.2.1.length cs_2) :: (Ent.row 3 1 (.slice A_3 x_1.length cap_3) x_1.length cs_1) :: (Ent.obj b_1 (.cells #[.int .i8 0, .bool false, .int .i64 0, S [], .slice none 0 0, .slice none 0 0] 33 (0, 0))) :: H) rfl (fun w_26 p_47 a_51 f_60 => ?_)
                  refine W_end rfl ?_
                  refine N_go (M1 := M_2) (E := [Ent.row 9 1 (.slice A_10 (s_1.2.2 ++ [x_3]).length cap_11) (s_1.2.2 ++ [x_3]).length cs_6, Ent.obj b_2 (.cells #[.int .i8 d0.fKind, .bool d0.fBool, .int .i64 d0.fNum, S d0.fText, .slice A_6 s_1.2.1.length cap_6, .slice A_10 (s_1.2.2 ++ [x_3]).length cap_11] 33 (0, 0))]) (Mem.le_refl _) p_47 ?_
                  refine N_end (fun w_27 p_48 => ?_)
                  refine T_n ?_
                  exact ⟨s_1.2.2 ++ [x_3], (Option.some.inj hF_8).symm, M_2, (Mem.le_refl _), A_10, cap_11, cs_6, hr_11, f_60.keep (ks := [0, 2, 3, 5, 30, 31, 32]) (by kernel_rfl), p_48⟩
                exact N_none
              exact N_none
            exact N_none
          exact N_none
        · rintro a_52 w_28 ⟨y_1, hq_1, M_3, hM_3, A_11, cap_12, cs_7, hr_12, f_61, p_49⟩
          subst j_1
          refine T_n ?_
          obtain ⟨j_2, hj_2, hF_9⟩ := bind_some' hF_6
          refine R_mid (fun a_87 w_61 => ∃ y_2 : List T_api_Value, j_2 = y_2 ∧ ∃ M_7 : Mem, M_3.le M_7 ∧ ∃ (A_26 : Option Addr), ∃ (cap_27 : Nat), ∃ (cs_12 : List Value), RepSeq M_7 (y_2.map emb_T_api_Value) cs_12 ∧ Frm 84 [(0, .pointer (some ad0)), (2, .pointer (some (⟨b_1, 0, none⟩))), (3, .pointer (some (⟨b_2, 0, none⟩))), (30, .slice A_3 x_1.length cap_3), (31, .int .i64 ((x_1.length : Nat) : Int)), (32, .int .i64 s_1.1)] a_87 ∧ Hp w0 M_7 ((Ent.row 33 6 (.slice A_26 y_2.length cap_27) y_2.length cs_12) :: (Ent.obj b_2 (.cells #[.int .i8 d0.fKind, .bool d0.fBool, .int .i64 d0.fNum, S d0.fText, .slice A_26 y_2.length cap_27, .slice A_11 y_1.length cap_12] 33 (0, 0))) :: (Ent.row 9 1 (.slice A_11 y_1.length cap_12) y_1.length cs_7) :: (Ent.row 3 1 (.slice A_3 x_1.length cap_3) x_1.length cs_1) :: (Ent.obj b_1 (.cells #[.int .i8 0, .bool false, .int .i64 0, S [], .slice none 0 0, .slice none 0 0] 33 (0, 0))) :: H) w_61) ?_ ?_
          · have p_61 := p_49.pl [4, 4, 2, 4, 4]
            obtain ⟨x_5, hx_4, hF_10⟩ := bind_some' hj_2
            obtain ⟨x_6, hx_5, hF_11⟩ := bind_some' hF_10
            obtain ⟨g_2, hF_12⟩ := need_some hF_11
            refine R_plan (E := [Ent.obj b_2 (.cells #[.int .i8 d0.fKind, .bool d0.fBool, .int .i64 d0.fNum, S d0.fText, .slice A_6 s_1.2.1.length cap_6, .slice A_11 y_1.length cap_12] 33 (0, 0)), Ent.row 33 6 (.slice A_6 s_1.2.1.length cap_6) s_1.2.1.length cs_2]) (Hr := ((Ent.row 9 1 (.slice A_11 y_1.length cap_12) y_1.length cs_7) :: (Ent.row 3 1 (.slice A_3 x_1.length cap_3) x_1.length cs_1) :: (Ent.obj b_1 (.cells #[.int .i8 0, .bool false, .int .i64 0, S [], .slice none 0 0, .slice none 0 0] 33 (0, 0))) :: H)) (.quiet 0 (.quiet 2 (.quiet 3 (.quiet 4 (.quiet 5 (.quiet 6 (.quiet 7 (.alt 1 (.alt 8 (.alt 9 (.alt 10 (.quiet 11 (.alt 12 .done .none)) .none) .none) .none) (.alt 8 (.alt 1 (.alt 9 (.alt 10 (.quiet 11 (.alt 12 .done .none)) .none) .none) (.alt 9 (.alt 1 (.alt 10 (.quiet 11 (.alt 12 .done .none)) .none) .none) .none)) .none))))))))) p_61 (by kernel_rfl) (by kernel_rfl) (by kernel_rfl) ?_
            refine N_eq (v := .pointer (some (⟨b_2, 4, none⟩))) rfl f_61 (by kernel_rfl) (by kernel_rfl) rfl rfl (fun _ _ => by kernel_rfl) (fun a_63 f_72 => ?_)
            have f_73 : Frm 84 [(0, .pointer (some ad0)), (2, .pointer (some (⟨b_1, 0, none⟩))), (3, .pointer (some (⟨b_2, 0, none⟩))), (5, .int .i64 x_2), (30, .slice A_3 x_1.length cap_3), (31, .int .i64 ((x_1.length : Nat) : Int)), (32, .int .i64 s_1.1), (48, .pointer (some (⟨b_2, 4, none⟩)))] a_63 := f_72.keep (ks := [0, 2, 3, 5, 30, 31, 32, 48]) (by kernel_rfl)
            refine N_eq (v := .pointer (some ad0)) rfl f_73 (by kernel_rfl) (by kernel_rfl) rfl rfl (fun _ _ => by kernel_rfl) (fun a_64 f_74 => ?_)
            have f_75 : Frm 84 [(0, .pointer (some ad0)), (2, .pointer (some (⟨b_1, 0, none⟩))), (3, .pointer (some (⟨b_2, 0, none⟩))), (5, .int .i64 x_2), (30, .slice A_3 x_1.length cap_3), (31, .int .i64 ((x_1.length : Nat) : Int)), (32, .int .i64 s_1.1), (48, .pointer (some (⟨b_2, 4, none⟩))), (50, .pointer (some ad0))] a_64 := f_74.keep (ks := [0, 2, 3, 5, 30, 31, 32, 48, 50]) (by kernel_rfl)
            refine N_eq (v := .pointer (some ad0)) rfl f_75 (by kernel_rfl) (by kernel_rfl) rfl rfl (fun _ _ => by kernel_rfl) (fun a_65 f_76 => ?_)
            have f_77 : Frm 84 [(0, .pointer (some ad0)), (2, .pointer (some (⟨b_1, 0, none⟩))), (3, .pointer (some (⟨b_2, 0, none⟩))), (5, .int .i64 x_2), (30, .slice A_3 x_1.length cap_3), (31, .int .i64 ((x_1.length : Nat) : Int)), (32, .int .i64 s_1.1), (48, .pointer (some (⟨b_2, 4, none⟩))), (51, .pointer (some ad0))] a_65 := f_76.keep (ks := [0, 2, 3, 5, 30, 31, 32, 48, 51]) (by kernel_rfl)
            refine N_eq (v := .pointer (some (ad0.add 4))) rfl f_77 (by kernel_rfl) (by kernel_rfl) rfl rfl (fun _ _ => by kernel_rfl) (fun a_66 f_78 => ?_)
            have f_79 : Frm 84 [(0, .pointer (some ad0)), (2, .pointer (some (⟨b_1, 0, none⟩))), (3, .pointer (some (⟨b_2, 0, none⟩))), (5, .int .i64 x_2), (30, .slice A_3 x_1.length cap_3), (31, .int .i64 ((x_1.length : Nat) : Int)), (32, .int .i64 s_1.1), (48, .pointer (some (⟨b_2, 4, none⟩))), (52, .pointer (some (ad0.add 4)))] a_66 := f_78.keep (ks := [0, 2, 3, 5, 30, 31, 32, 48, 52]) (by kernel_rfl)
            refine N_eq (v := .slice A_1 d0.fList.length cap_1) rfl f_79 (by kernel_rfl) (by kernel_rfl) rfl rfl (fun _ pq => X_load1 (v := .slice A_1 d0.fList.length cap_1) rfl (ad := ad0.add 4) (by kernel_rfl) (by kernel_rfl) (pq.cell ((fzu ((hM_1.trans hM_2).trans hM_3) q0) 4 _ rfl))) (fun a_67 f_80 => ?_)
            refine N_eq (v := .int .i64 x_2) rfl f_80 (by kernel_rfl) (by kernel_rfl) rfl rfl (fun _ _ => by kernel_rfl) (fun a_68 f_81 => ?_)
            have f_82 : Frm 84 [(0, .pointer (some ad0)), (2, .pointer (some (⟨b_1, 0, none⟩))), (3, .pointer (some (⟨b_2, 0, none⟩))), (30, .slice A_3 x_1.length cap_3), (31, .int .i64 ((x_1.length : Nat) : Int)), (32, .int .i64 s_1.1), (48, .pointer (some (⟨b_2, 4, none⟩))), (53, .slice A_1 d0.fList.length cap_1), (54, .int .i64 x_2)] a_68 := f_81.keep (ks := [0, 2, 3, 30, 31, 32, 48, 53, 54]) (by kernel_rfl)
            obtain ⟨ad_4, c_6, e_4, hl_5, hr_16, hc_5⟩ := Sli.at_ (h_1.mono ((hM_1.trans hM_2).trans hM_3)) hx_4
            clear hl_5
            obtain ⟨A_17, cap_18, A_18, cap_19, rfl, h_9, h_10⟩ := T_api_Value.opn hr_16
            refine N_eq (v := .pointer (some (ad_4.add (x_2.toNat * 6)))) rfl f_82 (by kernel_rfl) (by kernel_rfl) rfl rfl (fun _ pq => X_indexAddrA e_4 rfl (len := d0.fList.length) (cap := cap_1) (k := .i64) (i := x_2) (by kernel_rfl) (by kernel_rfl) (e := 33) (by kernel_rfl) (sz := 6) (by kernel_rfl) (getI_nn hx_4) (getI_lt hx_4)) (fun a_69 f_83 => ?_)
            refine N_alt rfl (E := [Ent.obj b_2 (.cells #[.int .i8 d0.fKind, .bool d0.fBool, .int .i64 d0.fNum, S d0.fText, .slice A_6 s_1.2.1.length cap_6, .slice A_11 y_1.length cap_12] 33 (0, 0)), Ent.row 33 6 (.slice A_6 s_1.2.1.length cap_6) s_1.2.1.length cs_2]) (fun w_33 p_62 => ?_) ?_
            · refine V_eq (v := .slice A_6 s_1.2.1.length cap_6) f_83 (by kernel_rfl) (X_load1 (v := .slice A_6 s_1.2.1.length cap_6) rfl (ad := ⟨b_2, 4, none⟩) (by kernel_rfl) (by kernel_rfl) (p_62.ownCell 0 rfl 4)) (fun a_70 f_84 => ?_)
              refine W_end rfl ?_
              refine N_go (M1 := M_3) (E := [Ent.obj b_2 (.cells #[.int .i8 d0.fKind, .bool d0.fBool, .int .i64 d0.fNum, S d0.fText, .slice A_6 s_1.2.1.length cap_6, .slice A_11 y_1.length cap_12] 33 (0, 0)), Ent.row 33 6 (.slice A_6 s_1.2.1.length cap_6) s_1.2.1.length cs_2]) (Mem.le_refl _) p_62 ?_
              refine N_alt rfl (E := [Ent.obj b_2 (.cells #[.int .i8 d0.fKind, .bool d0.fBool, .int .i64 d0.fNum, S d0.fText, .slice A_6 s_1.2.1.length cap_6, .slice A_11 y_1.length cap_12] 33 (0, 0)), Ent.row 33 6 (.slice A_6 s_1.2.1.length cap_6) s_1.2.1.length cs_2]) (fun w_34 p_63 => ?_) ?_
              · refine V_ok f_84 p_63 (hrec_tree_sorted _ (GL.mono ((hM_1.trans hM_2).trans hM_3) hG) (ad_4.add (x_2.toNat * 6)) [.int .i8 x_5.fKind, .bool x_5.fBool, .int .i64 x_5.fNum, S x_5.fText, .slice A_17 x_5.fList.length cap_18, .slice A_18 x_5.fKeys.length cap_19] x_5 (T_api_Value.shutx (x := x_5) h_9 h_10) (fz_at (hc_5) 0 rfl) x_6 hx_5) (by kernel_rfl) (fun _ => by kernel_rfl) (fun u_3 M_5 w_35 hM_5 p_64 q_3 a_71 f_85 => ?_)
                obtain ⟨c_7, rfl, hr_17⟩ := q_3
                obtain ⟨A_19, cap_20, A_20, cap_21, rfl, h_11, h_12⟩ := T_api_Value.opn hr_17
                refine W_end rfl ?_
                refine N_go (M1 := M_5) (E := [Ent.obj b_2 (.cells #[.int .i8 d0.fKind, .bool d0.fBool, .int .i64 d0.fNum, S d0.fText, .slice A_6 s_1.2.1.length cap_6, .slice A_11 y_1.length cap_12] 33 (0, 0)), Ent.row 33 6 (.slice A_6 s_1.2.1.length cap_6) s_1.2.1.length cs_2]) hM_5 p_64 ?_
                refine N_alt rfl (E := [Ent.obj b_2 (.cells #[.int .i8 d0.fKind, .bool d0.fBool, .int .i64 d0.fNum, S d0.fText, .slice A_6 s_1.2.1.length cap_6, .slice A_11 y_1.length cap_12] 33 (0, 0)), Ent.row 33 6 (.slice A_6 s_1.2.1.length cap_6) s_1.2.1.length cs_2]) (fun w_36 p_65 => ?_) ?_
                · refine V_allocS (k := 1) (c := 1) f_85 p_65 (.cells #[.int .i8 x_6.fKind, .bool x_6.fBool, .int .i64 x_6.fNum, S x_6.fText, .slice A_19 x_6.fList.length cap_20, .slice A_20 x_6.fKeys.length cap_21] 33 (0, 0)) (by kernel_rfl) (fun _ => by kernel_rfl) (fun b_9 w_37 p_66 a_72 f_86 => ?_)
                  refine W_end rfl ?_
                  refine N_go (M1 := M_5) (E := [Ent.obj b_9 (.cells #[.int .i8 x_6.fKind, .bool x_6.fBool, .int .i64 x_6.fNum, S x_6.fText, .slice A_19 x_6.fList.length cap_20, .slice A_20 x_6.fKeys.length cap_21] 33 (0, 0)), Ent.obj b_2 (.cells #[.int .i8 d0.fKind, .bool d0.fBool, .int .i64 d0.fNum, S d0.fText, .slice A_6 s_1.2.1.length cap_6, .slice A_11 y_1.length cap_12] 33 (0, 0)), Ent.row 33 6 (.slice A_6 s_1.2.1.length cap_6) s_1.2.1.length cs_2]) hM_5 p_66 ?_
                  refine N_alt rfl (E := [Ent.obj b_9 (.cells #[.int .i8 x_6.fKind, .bool x_6.fBool, .int .i64 x_6.fNum, S x_6.fText, .slice A_19 x_6.fList.length cap_20, .slice A_20 x_6.fKeys.length cap_21] 33 (0, 0)), Ent.obj b_2 (.cells #[.int .i8 d0.fKind, .bool d0.fBool, .int .i64 d0.fNum, S d0.fText, .slice A_6 s_1.2.1.length cap_6, .slice A_11 y_1.length cap_12] 33 (0, 0)), Ent.row 33 6 (.slice A_6 s_1.2.1.length cap_6) s_1.2.1.length cs_2]) (fun w_38 p_67 => ?_) ?_
                  · have p_68 := p_67.pl [2]
                    refine W_appendL (z := .agg #[.int .i8 0, .bool false, .int .i64 0, S [], .slice none 0 0, .slice none 0 0]) (f := emb_T_api_Value) (xs := s_1.2.1) (ys := [(⟨x_6.fKind, (x_6.fBool), x_6.fNum, x_6.fText, x_6.fList, x_6.fKeys⟩ : T_api_Value)]) (news := [.int .i8 x_6.fKind, .bool x_6.fBool, .int .i64 x_6.fNum, S x_6.fText, .slice A_19 x_6.fList.length cap_20, .slice A_20 x_6.fKeys.length cap_21]) (ad := ⟨b_9, 0, none⟩) (m := 1) (c := 1) f_86 p_68 (RepSeq.mono (hM_3.trans hM_5) _ _ hr_4) (by exact ⟨_, _, rfl, T_api_Value.shut h_11 h_12, rfl⟩) (by kernel_rfl) (by kernel_rfl) rfl rfl rfl (by kernel_rfl) (by kernel_rfl) (by kernel_rfl) (by kernel_rfl) rfl (own_cells (p_68.ownCell 1 rfl) 0 rfl) (by exact g_2) (by have hg_ := g_2; first | omega | (simp only [List.length_cons, List.length_nil] at *; omega)) (fun A_21 cap_22 cs_9 w_39 p_69 hr_18 a_73 f_87 => ?_)
                    have p_70 := p_69.pl [1]
                    have p_71 := p_70.drop
                    refine W_end rfl ?_
                    refine N_go (M1 := M_5) (E := [Ent.row 33 6 (.slice A_21 (s_1.2.1 ++ [(⟨x_6.fKind, (x_6.fBool), x_6.fNum, x_6.fText, x_6.fList, x_6.fKeys⟩ : T_api_Value)]).length cap_22) (s_1.2.1 ++ [(⟨x_6.fKind, (x_6.fBool), x_6.fNum, x_6.fText, x_6.fList, x_6.fKeys⟩ : T_api_Value)]).length cs_9, Ent.obj b_2 (.cells #[.int .i8 d0.fKind, .bool d0.fBool, .int .i64 d0.fNum, S d0.fText, .slice A_6 s_1.2.1.length cap_6, .slice A_11 y_1.length cap_12] 33 (0, 0))]) hM_5 p_71 ?_
                    refine N_eq (v := .pointer (some (⟨b_2, 4, none⟩))) rfl f_87 (by kernel_rfl) (by kernel_rfl) rfl rfl (fun _ _ => by kernel_rfl) (fun a_74 f_88 => ?_)
                    have f_89 : Frm 84 [(0, .pointer (some ad0)), (2, .pointer (some (⟨b_1, 0, none⟩))), (3, .pointer (some (⟨b_2, 0, none⟩))), (30, .slice A_3 x_1.length cap_3), (31, .int .i64 ((x_1.length : Nat) : Int)), (32, .int .i64 s_1.1), (58, .slice A_21 (s_1.2.1 ++ [(⟨x_6.fKind, (x_6.fBool), x_6.fNum, x_6.fText, x_6.fList, x_6.fKeys⟩ : T_api_Value)]).length cap_22), (59, .pointer (some (⟨b_2, 4, none⟩)))] a_74 := f_88.keep (ks := [0, 2, 3, 30, 31, 32, 58, 59]) (by kernel_rfl)
                    refine N_alt rfl (E := [Ent.row 33 6 (.slice A_21 (s_1.2.1 ++ [(⟨x_6.fKind, (x_6.fBool), x_6.fNum, x_6.fText, x_6.fList, x_6.fKeys⟩ : T_api_Value)]).length cap_22) (s_1.2.1 ++ [(⟨x_6.fKind, (x_6.fBool), x_6.fNum, x_6.fText, x_6.fList, x_6.fKeys⟩ : T_api_Value)]).length cs_9, Ent.obj b_2 (.cells #[.int .i8 d0.fKind, .bool d0.fBool, .int .i64 d0.fNum, S d0.fText, .slice A_6 s_1.2.1.length cap_6, .slice A_11 y_1.length cap_12] 33 (0, 0))]) (fun w_40 p_72 => ?_) ?_
                    · refine W_store1 f_89 p_72 1 (by kernel_rfl) (by kernel_rfl) rfl rfl (b := b_2) (j := 4) (v := .slice A_21 (s_1.2.1 ++ [(⟨x_6.fKind, (x_6.fBool), x_6.fNum, x_6.fText, x_6.fList, x_6.fKeys⟩ : T_api_Value)]).length cap_22) (by kernel_rfl) (by kernel_rfl) rfl (by kernel_rfl) (by exact rfl) (by simp) (by simp) ((Ent.row 33 6 (.slice A_21 (s_1.2.1 ++ [(⟨x_6.fKind, (x_6.fBool), x_6.fNum, x_6.fText, x_6.fList, x_6.fKeys⟩ : T_api_Value)]).length cap_22) (s_1.2.1 ++ [(⟨x_6.fKind, (x_6.fBool), x_6.fNum, x_6.fText, x_6.fList, x_6.fKeys⟩ : T_api_Value)]).length cs_9) :: (Ent.obj b_2 (.cells #[.int .i8 d0.fKind, .bool d0.fBool, .int .i64 d0.fNum, S d0.fText, .slice A_21 (s_1.2.1 ++ [(⟨x_6.fKind, (x_6.fBool), x_6.fNum, x_6.fText, x_6.fList, x_6.fKeys⟩ : T_api_Value)]).length cap_22, .slice A_11 y_1.length cap_12] 33 (0, 0))) :: (Ent.row 9 1 (.slice A_11 y_1.length cap_12) y_1.length cs_7) :: (Ent.row 3 1 (.slice A_3 x_1.length cap_3) x_1.length cs_1) :: (Ent.obj b_1 (.cells #[.int .i8 0, .bool false, .int .i64 0, S [], .slice none 0 0, .slice none 0 0] 33 (0, 0))) :: H) rfl (fun w_41 p_73 a_75 f_90 => ?_)
                      refine W_end rfl ?_
                      refine N_go (M1 := M_5) (E := [Ent.row 33 6 (.slice A_21 (s_1.2.1 ++ [(⟨x_6.fKind, (x_6.fBool), x_6.fNum, x_6.fText, x_6.fList, x_6.fKeys⟩ : T_api_Value)]).length cap_22) (s_1.2.1 ++ [(⟨x_6.fKind, (x_6.fBool), x_6.fNum, x_6.fText, x_6.fList, x_6.fKeys⟩ : T_api_Value)]).length cs_9, Ent.obj b_2 (.cells #[.int .i8 d0.fKind, .bool d0.fBool, .int .i64 d0.fNum, S d0.fText, .slice A_21 (s_1.2.1 ++ [(⟨x_6.fKind, (x_6.fBool), x_6.fNum, x_6.fText, x_6.fList, x_6.fKeys⟩ : T_api_Value)]).length cap_22, .slice A_11 y_1.length cap_12] 33 (0, 0))]) hM_5 p_73 ?_
                      refine N_end (fun w_42 p_74 => ?_)
                      refine T_n ?_
                      exact ⟨s_1.2.1 ++ [(⟨x_6.fKind, (x_6.fBool), x_6.fNum, x_6.fText, x_6.fList, x_6.fKeys⟩ : T_api_Value)], (Option.some.inj hF_12).symm, M_5, hM_5, A_21, cap_22, cs_9, hr_18, f_90.keep (ks := [0, 2, 3, 30, 31, 32]) (by kernel_rfl), p_74⟩
                    exact N_none
                  exact N_none
                exact N_none
              exact N_none
            refine N_alt rfl (E := [Ent.obj b_2 (.cells #[.int .i8 d0.fKind, .bool d0.fBool, .int .i64 d0.fNum, S d0.fText, .slice A_6 s_1.2.1.length cap_6, .slice A_11 y_1.length cap_12] 33 (0, 0)), Ent.row 33 6 (.slice A_6 s_1.2.1.length cap_6) s_1.2.1.length cs_2]) (fun w_43 p_75 => ?_) ?_
            · refine V_ok f_83 p_75 (hrec_tree_sorted _ (GL.mono ((hM_1.trans hM_2).trans hM_3) hG) (ad_4.add (x_2.toNat * 6)) [.int .i8 x_5.fKind, .bool x_5.fBool, .int .i64 x_5.fNum, S x_5.fText, .slice A_17 x_5.fList.length cap_18, .slice A_18 x_5.fKeys.length cap_19] x_5 (T_api_Value.shutx (x := x_5) h_9 h_10) (fz_at (hc_5) 0 rfl) x_6 hx_5) (by kernel_rfl) (fun _ => by kernel_rfl) (fun u_4 M_6 w_44 hM_6 p_76 q_4 a_76 f_91 => ?_)
              obtain ⟨c_8, rfl, hr_19⟩ := q_4
              obtain ⟨A_22, cap_23, A_23, cap_24, rfl, h_13, h_14⟩ := T_api_Value.opn hr_19
              refine W_end rfl ?_
              refine N_go (M1 := M_6) (E := [Ent.obj b_2 (.cells #[.int .i8 d0.fKind, .bool d0.fBool, .int .i64 d0.fNum, S d0.fText, .slice A_6 s_1.2.1.length cap_6, .slice A_11 y_1.length cap_12] 33 (0, 0)), Ent.row 33 6 (.slice A_6 s_1.2.1.length cap_6) s_1.2.1.length cs_2]) hM_6 p_76 ?_
              refine N_alt rfl (E := [Ent.obj b_2 (.cells #[.int .i8 d0.fKind, .bool d0.fBool, .int .i64 d0.fNum, S d0.fText, .slice A_6 s_1.2.1.length cap_6, .slice A_11 y_1.length cap_12] 33 (0, 0)), Ent.row 33 6 (.slice A_6 s_1.2.1.length cap_6) s_1.2.1.length cs_2]) (fun w_45 p_77 => ?_) ?_
              · refine V_eq (v := .slice A_6 s_1.2.1.length cap_6) f_91 (by kernel_rfl) (X_load1 (v := .slice A_6 s_1.2.1.length cap_6) rfl (ad := ⟨b_2, 4, none⟩) (by kernel_rfl) (by kernel_rfl) (p_77.ownCell 0 rfl 4)) (fun a_77 f_92 => ?_)
                refine W_end rfl ?_
                refine N_go (M1 := M_6) (E := [Ent.obj b_2 (.cells #[.int .i8 d0.fKind, .bool d0.fBool, .int .i64 d0.fNum, S d0.fText, .slice A_6 s_1.2.1.length cap_6, .slice A_11 y_1.length cap_12] 33 (0, 0)), Ent.row 33 6 (.slice A_6 s_1.2.1.length cap_6) s_1.2.1.length cs_2]) hM_6 p_77 ?_
                refine N_alt rfl (E := [Ent.obj b_2 (.cells #[.int .i8 d0.fKind, .bool d0.fBool, .int .i64 d0.fNum, S d0.fText, .slice A_6 s_1.2.1.length cap_6, .slice A_11 y_1.length cap_12] 33 (0, 0)), Ent.row 33 6 (.slice A_6 s_1.2.1.length cap_6) s_1.2.1.length cs_2]) (fun w_46 p_78 => ?_) ?_
                · refine V_allocS (k := 1) (c := 1) f_92 p_78 (.cells #[.int .i8 x_6.fKind, .bool x_6.fBool, .int .i64 x_6.fNum, S x_6.fText, .slice A_22 x_6.fList.length cap_23, .slice A_23 x_6.fKeys.length cap_24] 33 (0, 0)) (by kernel_rfl) (fun _ => by kernel_rfl) (fun b_10 w_47 p_79 a_78 f_93 => ?_)
                  refine W_end rfl ?_
                  refine N_go (M1 := M_6) (E := [Ent.obj b_10 (.cells #[.int .i8 x_6.fKind, .bool x_6.fBool, .int .i64 x_6.fNum, S x_6.fText, .slice A_22 x_6.fList.length cap_23, .slice A_23 x_6.fKeys.length cap_24] 33 (0, 0)), Ent.obj b_2 (.cells #[.int .i8 d0.fKind, .bool d0.fBool, .int .i64 d0.fNum, S d0.fText, .slice A_6 s_1.2.1.length cap_6, .slice A_11 y_1.length cap_12] 33 (0, 0)), Ent.row 33 6 (.slice A_6 s_1.2.1.length cap_6) s_1.2.1.length cs_2]) hM_6 p_79 ?_
                  refine N_alt rfl (E := [Ent.obj b_10 (.cells #[.int .i8 x_6.fKind, .bool x_6.fBool, .int .i64 x_6.fNum, S x_6.fText, .slice A_22 x_6.fList.length cap_23, .slice A_23 x_6.fKeys.length cap_24] 33 (0, 0)), Ent.obj b_2 (.cells #[.int .i8 d0.fKind, .bool d0.fBool, .int .i64 d0.fNum, S d0.fText, .slice A_6 s_1.2.1.length cap_6, .slice A_11 y_1.length cap_12] 33 (0, 0)), Ent.row 33 6 (.slice A_6 s_1.2.1.length cap_6) s_1.2.1.length cs_2]) (fun w_48 p_80 => ?_) ?_
                  · have p_81 := p_80.pl [2]
                    refine W_appendL (z := .agg #[.int .i8 0, .bool false, .int .i64 0, S [], .slice none 0 0, .slice none 0 0]) (f := emb_T_api_Value) (xs := s_1.2.1) (ys := [(⟨x_6.fKind, (x_6.fBool), x_6.fNum, x_6.fText, x_6.fList, x_6.fKeys⟩ : T_api_Value)]) (news := [.int .i8 x_6.fKind, .bool x_6.fBool, .int .i64 x_6.fNum, S x_6.fText, .slice A_22 x_6.fList.length cap_23, .slice A_23 x_6.fKeys.length cap_24]) (ad := ⟨b_10, 0, none⟩) (m := 1) (c := 1) f_93 p_81 (RepSeq.mono (hM_3.trans hM_6) _ _ hr_4) (by exact ⟨_, _, rfl, T_api_Value.shut h_13 h_14, rfl⟩) (by kernel_rfl) (by kernel_rfl) rfl rfl rfl (by kernel_rfl) (by kernel_rfl) (by kernel_rfl) (by kernel_rfl) rfl (own_cells (p_81.ownCell 1 rfl) 0 rfl) (by exact g_2) (by have hg_ := g_2; first | omega | (simp only [List.length_cons, List.length_nil] at *; omega)) (fun A_24 cap_25 cs_10 w_49 p_82 hr_20 a_79 f_94 => ?_)
                    have p_83 := p_82.pl [1]
                    have p_84 := p_83.drop
                    refine W_end rfl ?_
                    refine N_go (M1 := M_6) (E := [Ent.row 33 6 (.slice A_24 (s_1.2.1 ++ [(⟨x_6.fKind, (x_6.fBool), x_6.fNum, x_6.fText, x_6.fList, x_6.fKeys⟩ : T_api_Value)]).length cap_25) (s_1.2.1 ++ [(⟨x_6.fKind, (x_6.fBool), x_6.fNum, x_6.fText, x_6.fList, x_6.fKeys⟩ : T_api_Value)]).length cs_10, Ent.obj b_2 (.cells #[.int .i8 d0.fKind, .bool d0.fBool, .int .i64 d0.fNum, S d0.fText, .slice A_6 s_1.2.1.length cap_6, .slice A_11 y_1.length cap_12] 33 (0, 0))]) hM_6 p_84 ?_
                    refine N_eq (v := .pointer (some (⟨b_2, 4, none⟩))) rfl f_94 (by kernel_rfl) (by kernel_rfl) rfl rfl (fun _ _ => by kernel_rfl) (fun a_80 f_95 => ?_)
                    have f_96 : Frm 84 [(0, .pointer (some ad0)), (2, .pointer (some (⟨b_1, 0, none⟩))), (3, .pointer (some (⟨b_2, 0, none⟩))), (30, .slice A_3 x_1.length cap_3), (31, .int .i64 ((x_1.length : Nat) : Int)), (32, .int .i64 s_1.1), (58, .slice A_24 (s_1.2.1 ++ [(⟨x_6.fKind, (x_6.fBool), x_6.fNum, x_6.fText, x_6.fList, x_6.fKeys⟩ : T_api_Value)]).length cap_25), (59, .pointer (some (⟨b_2, 4, none⟩)))] a_80 := f_95.keep (ks := [0, 2, 3, 30, 31, 32, 58, 59]) (by kernel_rfl)
                    refine N_alt rfl (E := [Ent.row 33 6 (.slice A_24 (s_1.2.1 ++ [(⟨x_6.fKind, (x_6.fBool), x_6.fNum, x_6.fText, x_6.fList, x_6.fKeys⟩ : T_api_Value)]).length cap_25) (s_1.2.1 ++ [(⟨x_6.fKind, (x_6.fBool), x_6.fNum, x_6.fText, x_6.fList, x_6.fKeys⟩ : T_api_Value)]).length cs_10, Ent.obj b_2 (.cells #[.int .i8 d0.fKind, .bool d0.fBool, .int .i64 d0.fNum, S d0.fText, .slice A_6 s_1.2.1.length cap_6, .slice A_11 y_1.length cap_12] 33 (0, 0))]) (fun w_50 p_85 => ?_) ?_
                    · refine W_store1 f_96 p_85 1 (by kernel_rfl) (by kernel_rfl) rfl rfl (b := b_2) (j := 4) (v := .slice A_24 (s_1.2.1 ++ [(⟨x_6.fKind, (x_6.fBool), x_6.fNum, x_6.fText, x_6.fList, x_6.fKeys⟩ : T_api_Value)]).length cap_25) (by kernel_rfl) (by kernel_rfl) rfl (by kernel_rfl) (by exact rfl) (by simp) (by simp) ((Ent.row 33 6 (.slice A_24 (s_1.2.1 ++ [(⟨x_6.fKind, (x_6.fBool), x_6.fNum, x_6.fText, x_6.fList, x_6.fKeys⟩ : T_api_Value)]).length cap_25) (s_1.2.1 ++ [(⟨x_6.fKind, (x_6.fBool), x_6.fNum, x_6.fText, x_6.fList, x_6.fKeys⟩ : T_api_Value)]).length cs_10) :: (Ent.obj b_2 (.cells #[.int .i8 d0.fKind, .bool d0.fBool, .int .i64 d0.fNum, S d0.fText, .slice A_24 (s_1.2.1 ++ [(⟨x_6.fKind, (x_6.fBool), x_6.fNum, x_6.fText, x_6.fList, x_6.fKeys⟩ : T_api_Value)]).length cap_25, .slice A_11 y_1.length cap_12] 33 (0, 0))) :: (Ent.row 9 1 (.slice A_11 y_1.length cap_12) y_1.length cs_7) :: (Ent.row 3 1 (.slice A_3 x_1.length cap_3) x_1.length cs_1) :: (Ent.obj b_1 (.cells #[.int .i8 0, .bool false, .int .i64 0, S [], .slice none 0 0, .slice none 0 0] 33 (0, 0))) :: H) rfl (fun w_51 p_86 a_81 f_97 => ?_)
                      refine W_end rfl ?_
                      refine N_go (M1 := M_6) (E := [Ent.row 33 6 (.slice A_24 (s_1.2.1 ++ [(⟨x_6.fKind, (x_6.fBool), x_6.fNum, x_6.fText, x_6.fList, x_6.fKeys⟩ : T_api_Value)]).length cap_25) (s_1.2.1 ++ [(⟨x_6.fKind, (x_6.fBool), x_6.fNum, x_6.fText, x_6.fList, x_6.fKeys⟩ : T_api_Value)]).length cs_10, Ent.obj b_2 (.cells #[.int .i8 d0.fKind, .bool d0.fBool, .int .i64 d0.fNum, S d0.fText, .slice A_24 (s_1.2.1 ++ [(⟨x_6.fKind, (x_6.fBool), x_6.fNum, x_6.fText, x_6.fList, x_6.fKeys⟩ : T_api_Value)]).length cap_25, .slice A_11 y_1.length cap_12] 33 (0, 0))]) hM_6 p_86 ?_
                      refine N_end (fun w_52 p_87 => ?_)
                      refine T_n ?_
                      exact ⟨s_1.2.1 ++ [(⟨x_6.fKind, (x_6.fBool), x_6.fNum, x_6.fText, x_6.fList, x_6.fKeys⟩ : T_api_Value)], (Option.some.inj hF_12).symm, M_6, hM_6, A_24, cap_25, cs_10, hr_20, f_97.keep (ks := [0, 2, 3, 30, 31, 32]) (by kernel_rfl), p_87⟩
                    exact N_none
                  exact N_none
                exact N_none
              refine N_alt rfl (E := [Ent.obj b_2 (.cells #[.int .i8 d0.fKind, .bool d0.fBool, .int .i64 d0.fNum, S d0.fText, .slice A_6 s_1.2.1.length cap_6, .slice A_11 y_1.length cap_12] 33 (0, 0)), Ent.row 33 6 (.slice A_6 s_1.2.1.length cap_6) s_1.2.1.length cs_2]) (fun w_53 p_88 => ?_) ?_
              · refine V_allocS (k := 1) (c := 1) f_91 p_88 (.cells #[.int .i8 x_6.fKind, .bool x_6.fBool, .int .i64 x_6.fNum, S x_6.fText, .slice A_22 x_6.fList.length cap_23, .slice A_23 x_6.fKeys.length cap_24] 33 (0, 0)) (by kernel_rfl) (fun _ => by kernel_rfl) (fun b_11 w_54 p_89 a_82 f_98 => ?_)
                refine W_end rfl ?_
                refine N_go (M1 := M_6) (E := [Ent.obj b_11 (.cells #[.int .i8 x_6.fKind, .bool x_6.fBool, .int .i64 x_6.fNum, S x_6.fText, .slice A_22 x_6.fList.length cap_23, .slice A_23 x_6.fKeys.length cap_24] 33 (0, 0)), Ent.obj b_2 (.cells #[.int .i8 d0.fKind, .bool d0.fBool, .int .i64 d0.fNum, S d0.fText, .slice A_6 s_1.2.1.length cap_6, .slice A_11 y_1.length cap_12] 33 (0, 0)), Ent.row 33 6 (.slice A_6 s_1.2.1.length cap_6) s_1.2.1.length cs_2]) hM_6 p_89 ?_
                refine N_alt rfl (E := [Ent.obj b_11 (.cells #[.int .i8 x_6.fKind, .bool x_6.fBool, .int .i64 x_6.fNum, S x_6.fText, .slice A_22 x_6.fList.length cap_23, .slice A_23 x_6.fKeys.length cap_24] 33 (0, 0)), Ent.obj b_2 (.cells #[.int .i8 d0.fKind, .bool d0.fBool, .int .i64 d0.fNum, S d0.fText, .slice A_6 s_1.2.1.length cap_6, .slice A_11 y_1.length cap_12] 33 (0, 0)), Ent.row 33 6 (.slice A_6 s_1.2.1.length cap_6) s_1.2.1.length cs_2]) (fun w_55 p_90 => ?_) ?_
                · refine V_eq (v := .slice A_6 s_1.2.1.length cap_6) f_98 (by kernel_rfl) (X_load1 (v := .slice A_6 s_1.2.1.length cap_6) rfl (ad := ⟨b_2, 4, none⟩) (by kernel_rfl) (by kernel_rfl) (p_90.ownCell 1 rfl 4)) (fun a_83 f_99 => ?_)
                  refine W_end rfl ?_
                  refine N_go (M1 := M_6) (E := [Ent.obj b_11 (.cells #[.int .i8 x_6.fKind, .bool x_6.fBool, .int .i64 x_6.fNum, S x_6.fText, .slice A_22 x_6.fList.length cap_23, .slice A_23 x_6.fKeys.length cap_24] 33 (0, 0)), Ent.obj b_2 (.cells #[.int .i8 d0.fKind, .bool d0.fBool, .int .i64 d0.fNum, S d0.fText, .slice A_6 s_1.2.1.length cap_6, .slice A_11 y_1.length cap_12] 33 (0, 0)), Ent.row 33 6 (.slice A_6 s_1.2.1.length cap_6) s_1.2.1.length cs_2]) hM_6 p_90 ?_
                  refine N_alt rfl (E := [Ent.obj b_11 (.cells #[.int .i8 x_6.fKind, .bool x_6.fBool, .int .i64 x_6.fNum, S x_6.fText, .slice A_22 x_6.fList.length cap_23, .slice A_23 x_6.fKeys.length cap_24] 33 (0, 0)), Ent.obj b_2 (.cells #[.int .i8 d0.fKind, .bool d0.fBool, .int .i64 d0.fNum, S d0.fText, .slice A_6 s_1.2.1.length cap_6, .slice A_11 y_1.length cap_12] 33 (0, 0)), Ent.row 33 6 (.slice A_6 s_1.2.1.length cap_6) s_1.2.1.length cs_2]) (fun w_56 p_91 => ?_) ?_
                  · have p_92 := p_91.pl [2]
                    refine W_appendL (z := .agg #[.int .i8 0, .bool false, .int .i64 0, S [], .slice none 0 0, .slice none 0 0]) (f := emb_T_api_Value) (xs := s_1.2.1) (ys := [(⟨x_6.fKind, (x_6.fBool), x_6.fNum, x_6.fText, x_6.fList, x_6.fKeys⟩ : T_api_Value)]) (news := [.int .i8 x_6.fKind, .bool x_6.fBool, .int .i64 x_6.fNum, S x_6.fText, .slice A_22 x_6.fList.length cap_23, .slice A_23 x_6.fKeys.length cap_24]) (ad := ⟨b_11, 0, none⟩) (m := 1) (c := 1) f_99 p_92 (RepSeq.mono (hM_3.trans hM_6) _ _ hr_4) (by exact ⟨_, _, rfl, T_api_Value.shut h_13 h_14, rfl⟩) (by kernel_rfl) (by kernel_rfl) rfl rfl rfl (by kernel_rfl) (by kernel_rfl) (by kernel_rfl) (by kernel_rfl) rfl (own_cells (p_92.ownCell 1 rfl) 0 rfl) (by exact g_2) (by have hg_ := g_2; first | omega | (simp only [List.length_cons, List.length_nil] at *; omega)) (fun A_25 cap_26 cs_11 w_57 p_93 hr_21 a_84 f_100 => ?_)
                    have p_94 := p_93.pl [1]
                    have p_95 := p_94.drop
                    refine W_end rfl ?_
                    refine N_go (M1 := M_6) (E := [Ent.row 33 6 (.slice A_25 (s_1.2.1 ++ [(⟨x_6.fKind, (x_6.fBool), x_6.fNum, x_6.fText, x_6.fList, x_6.fKeys⟩ : T_api_Value)]).length cap_26) (s_1.2.1 ++ [(⟨x_6.fKind, (x_6.fBool), x_6.fNum, x_6.fText, x_6.fList, x_6.fKeys⟩ : T_api_Value)]).length cs_11, Ent.obj b_2 (.cells #[.int .i8 d0.fKind, .bool d0.fBool, .int .i64 d0.fNum, S d0.fText, .slice A_6 s_1.2.1.length cap_6, .slice A_11 y_1.length cap_12] 33 (0, 0))]) hM_6 p_95 ?_
                    refine N_eq (v := .pointer (some (⟨b_2, 4, none⟩))) rfl f_100 (by kernel_rfl) (by kernel_rfl) rfl rfl (fun _ _ => by kernel_rfl) (fun a_85 f_101 => ?_)
                    have f_102 : Frm 84 [(0, .pointer (some ad0)), (2, .pointer (some (⟨b_1, 0, none⟩))), (3, .pointer (some (⟨b_2, 0, none⟩))), (30, .slice A_3 x_1.length cap_3), (31, .int .i64 ((x_1.length : Nat) : Int)), (32, .int .i64 s_1.1), (58, .slice A_25 (s_1.2.1 ++ [(⟨x_6.fKind, (x_6.fBool), x_6.fNum, x_6.fText, x_6.fList, x_6.fKeys⟩ : T_api_Value)]).length cap_26), (59, .pointer (some (⟨b_2, 4, none⟩)))] a_85 := f_101.keep (ks := [0, 2, 3, 30, 31, 32, 58, 59]) (by kernel_rfl)
                    refine N_alt rfl (E := [Ent.row 33 6 (.slice A_25 (s_1.2.1 ++ [(⟨x_6.fKind, (x_6.fBool), x_6.fNum, x_6.fText, x_6.fList, x_6.fKeys⟩ : T_api_Value)]).length cap_26) (s_1.2.1 ++ [(⟨x_6.fKind, (x_6.fBool), x_6.fNum, x_6.fText, x_6.fList, x_6.fKeys⟩ : T_api_Value)]).length cs_11, Ent.obj b_2 (.cells #[.int .i8 d0.fKind, .bool d0.fBool, .int .i64 d0.fNum, S d0.fText, .slice A_6 s_1.2.1.length cap_6, .slice A_11 y_1.length cap_12] 33 (0, 0))]) (fun w_58 p_96 => ?_) ?_
                    · refine W_store1 f_102 p_96 1 (by kernel_rfl) (by kernel_rfl) rfl rfl (b := b_2) (j := 4) (v := .slice A_25 (s_1.2.1 ++ [(⟨x_6.fKind, (x_6.fBool), x_6.fNum, x_6.fText, x_6.fList, x_6.fKeys⟩ : T_api_Value)]).length cap_26) (by kernel_rfl) (by kernel_rfl) rfl (by kernel_rfl) (by exact rfl) (by simp) (by simp) ((Ent.row 33 6 (.slice A_25 (s_1.2.1 ++ [(⟨x_6.fKind, (x_6.fBool), x_6.fNum, x_6.fText, x_6.fList, x_6.fKeys⟩ : T_api_Value)]).length cap_26) (s_1.2.1 ++ [(⟨x_6.fKind, (x_6.fBool), x_6.fNum, x_6.fText, x_6.fList, x_6.fKeys⟩ : T_api_Value)]).length cs_11) :: (Ent.obj b_2 (.cells #[.int .i8 d0.fKind, .bool d0.fBool, .int .i64 d0.fNum, S d0.fText, .slice A_25 (s_1.2.1 ++ [(⟨x_6.fKind, (x_6.fBool), x_6.fNum, x_6.fText, x_6.fList, x_6.fKeys⟩ : T_api_Value)]).length cap_26, .slice A_11 y_1.length cap_12] 33 (0, 0))) :: (Ent.row 9 1 (.slice A_11 y_1.length cap_12) y_1.length cs_7) :: (Ent.row 3 1 (.slice A_3 x_1.length cap_3) x_1.length cs_1) :: (Ent.obj b_1 (.cells #[.int .i8 0, .bool false, .int .i64 0, S [], .slice none 0 0, .slice none 0 0] 33 (0, 0))) :: H) rfl (fun w_59 p_97 a_86 f_103 => ?_)
                      refine W_end rfl ?_
                      refine N_go (M1 := M_6) (E := [Ent.row 33 6 (.slice A_25 (s_1.2.1 ++ [(⟨x_6.fKind, (x_6.fBool), x_6.fNum, x_6.fText, x_6.fList, x_6.fKeys⟩ : T_api_Value)]).length cap_26) (s_1.2.1 ++ [(⟨x_6.fKind, (x_6.fBool), x_6.fNum, x_6.fText, x_6.fList, x_6.fKeys⟩ : T_api_Value)]).length cs_11, Ent.obj b_2 (.cells #[.int .i8 d0.fKind, .bool d0.fBool, .int .i64 d0.fNum, S d0.fText, .slice A_25 (s_1.2.1 ++ [(⟨x_6.fKind, (x_6.fBool), x_6.fNum, x_6.fText, x_6.fList, x_6.fKeys⟩ : T_api_Value)]).length cap_26, .slice A_11 y_1.length cap_12] 33 (0, 0))]) hM_6 p_97 ?_
                      refine N_end (fun w_60 p_98 => ?_)
                      refine T_n ?_
                      exact ⟨s_1.2.1 ++ [(⟨x_6.fKind, (x_6.fBool), x_6.fNum, x_6.fText, x_6.fList, x_6.fKeys⟩ : T_api_Value)], (Option.some.inj hF_12).symm, M_6, hM_6, A_25, cap_26, cs_11, hr_21, f_103.keep (ks := [0, 2, 3, 30, 31, 32]) (by kernel_rfl), p_98⟩
                    exact N_none
                  exact N_none
                exact N_none
              exact N_none
            exact N_none
          · rintro a_87 w_61 ⟨y_2, hq_2, M_7, hM_7, A_26, cap_27, cs_12, hr_22, f_104, p_99⟩
            subst j_2
            refine B_n (T_n (R_reg ?_))
            obtain ⟨g_3, hF_13⟩ := need_some hF_9
            refine V_run f_104 1 (by kernel_rfl) (fun a_88 f_105 => ?_)
            have f_106 := Frm.set f_105 60 (v := .int .i64 (IntKind.wrap .i64 (s_1.1 + 1))) (v' := .int .i64 (s_1.1 + 1)) (by kernel_rfl) (congrArg (Value.int .i64) (inR_wrap g_3))
            refine V_run f_106 1 (by kernel_rfl) (fun a_89 f_107 => ?_)
            refine W_end rfl ?_
            have p_105 := p_99.pl [4, 2, 4, 4, 4]
            refine T_n ?_
            obtain rfl := Option.some.inj hF_13
            exact ⟨⟨m_2, (s_1.1 + 1, y_2, y_1), A_26, cap_27, cs_12, A_11, cap_12, cs_7⟩, Nat.lt_succ_self _, M_7, ((hM_2.trans hM_3).trans hM_7), ⟨hn_1, hr_22, (RepSeq.mono hM_7 _ _ hr_12)⟩, f_107.keep (ks := [0, 2, 3, 30, 31, 32]) (by kernel_rfl), p_105⟩
      · have k_3 : ¬ (s_1.1 < ((x_1.length : Nat) : Int)) := iff_f decide_eq_true_iff h_4
        have hF_14 := cnd_f h_4 hs_1
        refine wp_exit (T_x (T_x ?_))
        obtain rfl := Option.some.inj hF_14
        exact ⟨rfl, (s_1.2.1, s_1.2.2), (Option.some.inj hn_1).symm, M_2, hM_2, A_6, cap_6, cs_2, A_7, cap_7, cs_3, hr_4, hr_5, f_20.keep (ks := [2, 3]) (by kernel_rfl), p_15⟩
    · rintro _ a_91 w_63 ⟨rfl, y_3, hq_, M_8, hM_8, A_27, cap_28, cs_13, A_28, cap_29, cs_14, hr_23, hr_24, f_108, p_100⟩
      subst b_3
      refine B_x (T_n (R_seq (R_reg ?_)))
      refine V_eq (v := .agg #[.int .i8 d0.fKind, .bool d0.fBool, .int .i64 d0.fNum, S d0.fText, .slice A_27 y_3.1.length cap_28, .slice A_28 y_3.2.length cap_29]) f_108 (by kernel_rfl) (X_loadN (cs := [.int .i8 d0.fKind, .bool d0.fBool, .int .i64 d0.fNum, S d0.fText, .slice A_27 y_3.1.length cap_28, .slice A_28 y_3.2.length cap_29]) rfl (ad := ⟨b_2, 0, none⟩) (by kernel_rfl) (by kernel_rfl) (own_cells (p_100.ownCell 3 rfl) 0 rfl)) (fun a_92 f_109 => ?_)
      obtain ⟨A_29, cap_30, M_9, hv_4, hM_9, p_106, h_15⟩ := p_100.rowSli (f := emb_T_api_Value) (xs := y_3.1) szd_T_api_Value hr_23
      have f_110 := Frm.set f_109 61 (v := .agg #[.int .i8 d0.fKind, .bool d0.fBool, .int .i64 d0.fNum, S d0.fText, .slice A_27 y_3.1.length cap_28, .slice A_28 y_3.2.length cap_29]) (v' := .agg #[.int .i8 d0.fKind, .bool d0.fBool, .int .i64 d0.fNum, S d0.fText, .slice A_29 y_3.1.length cap_30, .slice A_28 y_3.2.length cap_29]) (by kernel_rfl) (by rw [hv_4])
      have p_107 : Hp w0 M_9 ((Ent.row 9 1 (.slice A_28 y_3.2.length cap_29) y_3.2.length cs_14) :: (Ent.row 3 1 (.slice A_3 x_1.length cap_3) x_1.length cs_1) :: (Ent.obj b_2 (.cells #[.int .i8 d0.fKind, .bool d0.fBool, .int .i64 d0.fNum, S d0.fText, .slice A_29 y_3.1.length cap_30, .slice A_28 y_3.2.length cap_29] 33 (0, 0))) :: (Ent.obj b_1 (.cells #[.int .i8 0, .bool false, .int .i64 0, S [], .slice none 0 0, .slice none 0 0] 33 (0, 0))) :: H) w_63 := by rw [hv_4] at p_106; exact p_106
      obtain ⟨A_30, cap_31, M_10, hv_5, hM_10, p_108, h_16⟩ := p_107.rowSli (f := Dat.str) (xs := y_3.2) szd_str (RepSeq.mono hM_9 _ _ hr_24)
      have f_111 := Frm.set f_110 61 (v := .agg #[.int .i8 d0.fKind, .bool d0.fBool, .int .i64 d0.fNum, S d0.fText, .slice A_29 y_3.1.length cap_30, .slice A_28 y_3.2.length cap_29]) (v' := .agg #[.int .i8 d0.fKind, .bool d0.fBool, .int .i64 d0.fNum, S d0.fText, .slice A_29 y_3.1.length cap_30, .slice A_30 y_3.2.length cap_31]) (by kernel_rfl) (by rw [hv_5])
      have p_109 : Hp w0 M_10 ((Ent.row 3 1 (.slice A_3 x_1.length cap_3) x_1.length cs_1) :: (Ent.obj b_2 (.cells #[.int .i8 d0.fKind, .bool d0.fBool, .int .i64 d0.fNum, S d0.fText, .slice A_29 y_3.1.length cap_30, .slice A_30 y_3.2.length cap_31] 33 (0, 0))) :: (Ent.obj b_1 (.cells #[.int .i8 0, .bool false, .int .i64 0, S [], .slice none 0 0, .slice none 0 0] 33 (0, 0))) :: H) w_63 := by rw [hv_5] at p_108; exact p_108
      have p_110 := p_109.pl [2]
      refine W_storeN (vs := [.int .i8 d0.fKind, .bool d0.fBool, .int .i64 d0.fNum, S d0.fText, .slice A_29 y_3.1.length cap_30, .slice A_30 y_3.2.length cap_31]) (j := 0) f_111 p_110 (by kernel_rfl) (by kernel_rfl) rfl rfl (by kernel_rfl) (by kernel_rfl) (by simp [Value.oneCell', S]) (by kernel_rfl) (by simp) (by decide) (cs' := #[.int .i8 d0.fKind, .bool d0.fBool, .int .i64 d0.fNum, S d0.fText, .slice A_29 y_3.1.length cap_30, .slice A_30 y_3.2.length cap_31]) rfl (fun w_64 p_111 a_93 f_112 => ?_)
      refine W_end rfl (T_n (wp_ret (T_r ?_)))
      refine E_rv1 f_112 rfl (Rv.cellN (cs := [.int .i8 d0.fKind, .bool d0.fBool, .int .i64 d0.fNum, S d0.fText, .slice A_29 y_3.1.length cap_30, .slice A_30 y_3.2.length cap_31]) (ad := ⟨b_1, 0, none⟩) f_112 (by kernel_rfl) (by kernel_rfl) (own_cells (p_111.ownCell 0 rfl) 0 rfl)) ?_
      obtain rfl := Option.some.inj hF_3
      exact ⟨_, rfl, M_10, (((hM_1.trans hM_8).trans hM_9).trans hM_10), (p_111.dropN 3), ⟨[.int .i8 d0.fKind, .bool d0.fBool, .int .i64 d0.fNum, S d0.fText, .slice A_29 y_3.1.length cap_30, .slice A_30 y_3.2.length cap_31], rfl, (T_api_Value.shut (h_15.mono hM_10) h_16)⟩⟩
  · have k_4 : ¬ (d0.fKind = 5) := iff_f decide_eq_true_iff h_3
    have hF_15 := cnd_f h_3 hF
    refine wp_skip (T_n (R_seq (R_seq (R_reg ?_))))
    refine V_run f_15 3 (by kernel_rfl) (fun a_94 f_113 => ?_)
    refine V_ld f_113 p_6 q0 4 rfl (by kernel_rfl) (by kernel_rfl) (fun a_95 f_114 => ?_)
    refine V_run f_114 2 (by kernel_rfl) (fun a_96 f_115 => ?_)
    refine W_end rfl (T_n (wp_block ?_))
    obtain ⟨A_31, cap_32, hv_6⟩ : ∃ A cap, Value.slice none 0 0 = .slice A ([] : List T_api_Value).length cap := ⟨none, 0, rfl⟩
    have p_112 : Hp w0 M1 ((Ent.row 33 6 (.slice A_31 ([] : List T_api_Value).length cap_32) ([] : List T_api_Value).length []) :: (Ent.obj b_2 (.cells #[.int .i8 d0.fKind, .bool d0.fBool, .int .i64 d0.fNum, S d0.fText, .slice A_31 ([] : List T_api_Value).length cap_32, .slice none 0 0] 33 (0, 0))) :: (Ent.obj b_1 (.cells #[.int .i8 0, .bool false, .int .i64 0, S [], .slice none 0 0, .slice none 0 0] 33 (0, 0))) :: H) w_6 := by rw [← hv_6]; exact p_6.nilRow 33 6
    have hr_25 : RepSeq M1 (([] : List T_api_Value).map emb_T_api_Value) [] := rfl
    obtain ⟨b_12, hL_2, hF_16⟩ := bind_some' hF_15
    refine wp_mono (Q := fun e a w => (e = .exit 2 ∧ (∃ y_5 : List T_api_Value, b_12 = y_5 ∧ ∃ M_16 : Mem, M1.le M_16 ∧ ∃ (A_48 : Option Addr), ∃ (cap_49 : Nat), ∃ (cs_21 : List Value), RepSeq M_16 (y_5.map emb_T_api_Value) cs_21 ∧ Frm 84 [(2, .pointer (some (⟨b_1, 0, none⟩))), (3, .pointer (some (⟨b_2, 0, none⟩)))] a ∧ Hp w0 M_16 ((Ent.row 33 6 (.slice A_48 y_5.length cap_49) y_5.length cs_21) :: (Ent.obj b_2 (.cells #[.int .i8 d0.fKind, .bool d0.fBool, .int .i64 d0.fNum, S d0.fText, .slice A_48 y_5.length cap_49, .slice none 0 0] 33 (0, 0))) :: (Ent.obj b_1 (.cells #[.int .i8 0, .bool false, .int .i64 0, S [], .slice none 0 0, .slice none 0 0] 33 (0, 0))) :: H) w))) (R_loop (n := 84) (w0 := w0) (M := M1) (fun (x : Nat × (Int × List T_api_Value) × (Option Addr) × Nat × (List Value)) => match x with | (m_3, s_2, A_32, cap_33, cs_15) => [(0, .pointer (some ad0)), (2, .pointer (some (⟨b_1, 0, none⟩))), (3, .pointer (some (⟨b_2, 0, none⟩))), (66, .int .i64 ((d0.fList.length : Nat) : Int)), (67, .int .i64 s_2.1)]) (fun (x : Nat × (Int × List T_api_Value) × (Option Addr) × Nat × (List Value)) => match x with | (m_3, s_2, A_32, cap_33, cs_15) => ((Ent.row 33 6 (.slice A_32 s_2.2.length cap_33) s_2.2.length cs_15) :: (Ent.obj b_2 (.cells #[.int .i8 d0.fKind, .bool d0.fBool, .int .i64 d0.fNum, S d0.fText, .slice A_32 s_2.2.length cap_33, .slice none 0 0] 33 (0, 0))) :: (Ent.obj b_1 (.cells #[.int .i8 0, .bool false, .int .i64 0, S [], .slice none 0 0, .slice none 0 0] 33 (0, 0))) :: H)) (fun (x : Nat × (Int × List T_api_Value) × (Option Addr) × Nat × (List Value)) (MM : Mem) => match x with | (m_3, s_2, A_32, cap_33, cs_15) => loopF (tree_sorted_s2 n rec_tree_sorted d0) m_3 s_2 = some b_12 ∧ RepSeq MM (s_2.2.map emb_T_api_Value) cs_15) (fun (x : Nat × (Int × List T_api_Value) × (Option Addr) × Nat × (List Value)) => match x with | (m_3, s_2, A_32, cap_33, cs_15) => m_3) (n, ((0 : Int), ([] : List T_api_Value)), A_31, cap_32, []) (f_115.keep (ks := [0, 2, 3, 66, 67]) (by kernel_rfl)) p_112 ⟨hL_2, hr_25⟩ ?_) ?_
    · rintro ⟨m_3, s_2, A_32, cap_33, cs_15⟩ M_11 a_97 w_65 hM_11 I_2 f_116 p_113
      obtain ⟨I_2L, hr_26⟩ := I_2
      obtain ⟨m_4, r_2, rfl, hs_2, hn_2⟩ := loop_step I_2L
      unfold tree_sorted_s2 at hs_2
      refine R_seq (R_reg ?_)
      refine V_run f_116 1 (by kernel_rfl) (fun a_98 f_117 => ?_)
      refine W_end rfl (T_n (R_seq ?_))
      refine R_cond f_117 (b := decide (s_2.1 < ((d0.fList.length : Nat) : Int))) (by kernel_rfl) (by kernel_rfl) (fun h_17 => ?_) (fun h_17 => ?_)
      · have k_5 : s_2.1 < ((d0.fList.length : Nat) : Int) := decide_eq_true_iff.1 h_17
        have hF_17 := cnd_t h_17 hs_2
        refine wp_skip (T_n (R_seq (wp_block (R_seq (R_reg ?_)))))
        refine V_run f_117 2 (by kernel_rfl) (fun a_99 f_118 => ?_)
        refine W_end rfl (T_n ?_)
        obtain ⟨j_3, hj_3, hF_18⟩ := bind_some' hF_17
        refine R_mid (fun a_134 w_98 => ∃ y_4 : List T_api_Value, j_3 = y_4 ∧ ∃ M_15 : Mem, M_11.le M_15 ∧ ∃ (A_47 : Option Addr), ∃ (cap_48 : Nat), ∃ (cs_20 : List Value), RepSeq M_15 (y_4.map emb_T_api_Value) cs_20 ∧ Frm 84 [(0, .pointer (some ad0)), (2, .pointer (some (⟨b_1, 0, none⟩))), (3, .pointer (some (⟨b_2, 0, none⟩))), (66, .int .i64 ((d0.fList.length : Nat) : Int)), (67, .int .i64 s_2.1)] a_134 ∧ Hp w0 M_15 ((Ent.row 33 6 (.slice A_47 y_4.length cap_48) y_4.length cs_20) :: (Ent.obj b_2 (.cells #[.int .i8 d0.fKind, .bool d0.fBool, .int .i64 d0.fNum, S d0.fText, .slice A_47 y_4.length cap_48, .slice none 0 0] 33 (0, 0))) :: (Ent.obj b_1 (.cells #[.int .i8 0, .bool false, .int .i64 0, S [], .slice none 0 0, .slice none 0 0] 33 (0, 0))) :: H) w_98) ?_ ?_
        · obtain ⟨x_10, hx_6, hF_19⟩ := bind_some' hj_3
          obtain ⟨x_11, hx_7, hF_20⟩ := bind_some' hF_19
          obtain ⟨g_4, hF_21⟩ := need_some hF_20
          refine R_plan (E := [Ent.row 33 6 (.slice A_32 s_2.2.length cap_33) s_2.2.length cs_15, Ent.obj b_2 (.cells #[.int .i8 d0.fKind, .bool d0.fBool, .int .i64 d0.fNum, S d0.fText, .slice A_32 s_2.2.length cap_33, .slice none 0 0] 33 (0, 0))]) (Hr := ((Ent.obj b_1 (.cells #[.int .i8 0, .bool false, .int .i64 0, S [], .slice none 0 0, .slice none 0 0] 33 (0, 0))) :: H)) (.quiet 0 (.quiet 2 (.quiet 3 (.quiet 4 (.quiet 5 (.quiet 6 (.quiet 7 (.alt 1 (.alt 8 (.alt 9 (.alt 10 (.quiet 11 (.alt 12 .done .none)) .none) .none) .none) (.alt 8 (.alt 1 (.alt 9 (.alt 10 (.quiet 11 (.alt 12 .done .none)) .none) .none) (.alt 9 (.alt 1 (.alt 10 (.quiet 11 (.alt 12 .done .none)) .none) .none) .none)) .none))))))))) p_113 (by kernel_rfl) (by kernel_rfl) (by kernel_rfl) ?_
          refine N_eq (v := .pointer (some (⟨b_2, 4, none⟩))) rfl f_118 (by kernel_rfl) (by kernel_rfl) rfl rfl (fun _ _ => by kernel_rfl) (fun a_110 f_129 => ?_)
          have f_130 : Frm 84 [(0, .pointer (some ad0)), (2, .pointer (some (⟨b_1, 0, none⟩))), (3, .pointer (some (⟨b_2, 0, none⟩))), (6, .int .i64 s_2.1), (66, .int .i64 ((d0.fList.length : Nat) : Int)), (67, .int .i64 s_2.1), (70, .pointer (some (⟨b_2, 4, none⟩)))] a_110 := f_129.keep (ks := [0, 2, 3, 6, 66, 67, 70]) (by kernel_rfl)
          refine N_eq (v := .pointer (some ad0)) rfl f_130 (by kernel_rfl) (by kernel_rfl) rfl rfl (fun _ _ => by kernel_rfl) (fun a_111 f_131 => ?_)
          have f_132 : Frm 84 [(0, .pointer (some ad0)), (2, .pointer (some (⟨b_1, 0, none⟩))), (3, .pointer (some (⟨b_2, 0, none⟩))), (6, .int .i64 s_2.1), (66, .int .i64 ((d0.fList.length : Nat) : Int)), (67, .int .i64 s_2.1), (70, .pointer (some (⟨b_2, 4, none⟩))), (72, .pointer (some ad0))] a_111 := f_131.keep (ks := [0, 2, 3, 6, 66, 67, 70, 72]) (by kernel_rfl)
          refine N_eq (v := .pointer (some ad0)) rfl f_132 (by kernel_rfl) (by kernel_rfl) rfl rfl (fun _ _ => by kernel_rfl) (fun a_112 f_133 => ?_)
          have f_134 : Frm 84 [(0, .pointer (some ad0)), (2, .pointer (some (⟨b_1, 0, none⟩))), (3, .pointer (some (⟨b_2, 0, none⟩))), (6, .int .i64 s_2.1), (66, .int .i64 ((d0.fList.length : Nat) : Int)), (67, .int .i64 s_2.1), (70, .pointer (some (⟨b_2, 4, none⟩))), (73, .pointer (some ad0))] a_112 := f_133.keep (ks := [0, 2, 3, 6, 66, 67, 70, 73]) (by kernel_rfl)
          refine N_eq (v := .pointer (some (ad0.add 4))) rfl f_134 (by kernel_rfl) (by kernel_rfl) rfl rfl (fun _ _ => by kernel_rfl) (fun a_113 f_135 => ?_)
          have f_136 : Frm 84 [(0, .pointer (some ad0)), (2, .pointer (some (⟨b_1, 0, none⟩))), (3, .pointer (some (⟨b_2, 0, none⟩))), (6, .int .i64 s_2.1), (66, .int .i64 ((d0.fList.length : Nat) : Int)), (67, .int .i64 s_2.1), (70, .pointer (some (⟨b_2, 4, none⟩))), (74, .pointer (some (ad0.add 4)))] a_113 := f_135.keep (ks := [0, 2, 3, 6, 66, 67, 70, 74]) (by kernel_rfl)
          refine N_eq (v := .slice A_1 d0.fList.length cap_1) rfl f_136 (by kernel_rfl) (by kernel_rfl) rfl rfl (fun _ pq => X_load1 (v := .slice A_1 d0.fList.length cap_1) rfl (ad := ad0.add 4) (by kernel_rfl) (by kernel_rfl) (pq.cell ((fzu hM_11 q0) 4 _ rfl))) (fun a_114 f_137 => ?_)
          refine N_eq (v := .int .i64 s_2.1) rfl f_137 (by kernel_rfl) (by kernel_rfl) rfl rfl (fun _ _ => by kernel_rfl) (fun a_115 f_138 => ?_)
          have f_139 : Frm 84 [(0, .pointer (some ad0)), (2, .pointer (some (⟨b_1, 0, none⟩))), (3, .pointer (some (⟨b_2, 0, none⟩))), (66, .int .i64 ((d0.fList.length : Nat) : Int)), (67, .int .i64 s_2.1), (70, .pointer (some (⟨b_2, 4, none⟩))), (75, .slice A_1 d0.fList.length cap_1), (76, .int .i64 s_2.1)] a_115 := f_138.keep (ks := [0, 2, 3, 66, 67, 70, 75, 76]) (by kernel_rfl)
          obtain ⟨ad_6, c_11, e_6, hl_7, hr_30, hc_7⟩ := Sli.at_ (h_1.mono hM_11) hx_6
          clear hl_7
          obtain ⟨A_38, cap_39, A_39, cap_40, rfl, h_22, h_23⟩ := T_api_Value.opn hr_30
          refine N_eq (v := .pointer (some (ad_6.add (s_2.1.toNat * 6)))) rfl f_139 (by kernel_rfl) (by kernel_rfl) rfl rfl (fun _ pq => X_indexAddrA e_6 rfl (len := d0.fList.length) (cap := cap_1) (k := .i64) (i := s_2.1) (by kernel_rfl) (by kernel_rfl) (e := 33) (by kernel_rfl) (sz := 6) (by kernel_rfl) (getI_nn hx_6) (getI_lt hx_6)) (fun a_116 f_140 => ?_)
          refine N_alt rfl (E := [Ent.row 33 6 (.slice A_32 s_2.2.length cap_33) s_2.2.length cs_15, Ent.obj b_2 (.cells #[.int .i8 d0.fKind, .bool d0.fBool, .int .i64 d0.fNum, S d0.fText, .slice A_32 s_2.2.length cap_33, .slice none 0 0] 33 (0, 0))]) (fun w_70 p_121 => ?_) ?_
          · refine V_eq (v := .slice A_32 s_2.2.length cap_33) f_140 (by kernel_rfl) (X_load1 (v := .slice A_32 s_2.2.length cap_33) rfl (ad := ⟨b_2, 4, none⟩) (by kernel_rfl) (by kernel_rfl) (p_121.ownCell 1 rfl 4)) (fun a_117 f_141 => ?_)
            refine W_end rfl ?_
            refine N_go (M1 := M_11) (E := [Ent.row 33 6 (.slice A_32 s_2.2.length cap_33) s_2.2.length cs_15, Ent.obj b_2 (.cells #[.int .i8 d0.fKind, .bool d0.fBool, .int .i64 d0.fNum, S d0.fText, .slice A_32 s_2.2.length cap_33, .slice none 0 0] 33 (0, 0))]) (Mem.le_refl _) p_121 ?_
            refine N_alt rfl (E := [Ent.row 33 6 (.slice A_32 s_2.2.length cap_33) s_2.2.length cs_15, Ent.obj b_2 (.cells #[.int .i8 d0.fKind, .bool d0.fBool, .int .i64 d0.fNum, S d0.fText, .slice A_32 s_2.2.length cap_33, .slice none 0 0] 33 (0, 0))]) (fun w_71 p_122 => ?_) ?_
            · refine V_ok f_141 p_122 (hrec_tree_sorted _ (GL.mono hM_11 hG) (ad_6.add (s_2.1.toNat * 6)) [.int .i8 x_10.fKind, .bool x_10.fBool, .int .i64 x_10.fNum, S x_10.fText, .slice A_38 x_10.fList.length cap_39, .slice A_39 x_10.fKeys.length cap_40] x_10 (T_api_Value.shutx (x := x_10) h_22 h_23) (fz_at (hc_7) 0 rfl) x_11 hx_7) (by kernel_rfl) (fun _ => by kernel_rfl) (fun u_6 M_13 w_72 hM_13 p_123 q_6 a_118 f_142 => ?_)
              obtain ⟨c_12, rfl, hr_31⟩ := q_6
              obtain ⟨A_40, cap_41, A_41, cap_42, rfl, h_24, h_25⟩ := T_api_Value.opn hr_31
              refine W_end rfl ?_
              refine N_go (M1 := M_13) (E := [Ent.row 33 6 (.slice A_32 s_2.2.length cap_33) s_2.2.length cs_15, Ent.obj b_2 (.cells #[.int .i8 d0.fKind, .bool d0.fBool, .int .i64 d0.fNum, S d0.fText, .slice A_32 s_2.2.length cap_33, .slice none 0 0] 33 (0, 0))]) hM_13 p_123 ?_
              refine N_alt rfl (E := [Ent.row 33 6 (.slice A_32 s_2.2.length cap_33) s_2.2.length cs_15, Ent.obj b_2 (.cells #[.int .i8 d0.fKind, .bool d0.fBool, .int .i64 d0.fNum, S d0.fText, .slice A_32 s_2.2.length cap_33, .slice none 0 0] 33 (0, 0))]) (fun w_73 p_124 => ?_) ?_
              · refine V_allocS (k := 1) (c := 1) f_142 p_124 (.cells #[.int .i8 x_11.fKind, .bool x_11.fBool, .int .i64 x_11.fNum, S x_11.fText, .slice A_40 x_11.fList.length cap_41, .slice A_41 x_11.fKeys.length cap_42] 33 (0, 0)) (by kernel_rfl) (fun _ => by kernel_rfl) (fun b_14 w_74 p_125 a_119 f_143 => ?_)
                refine W_end rfl ?_
                refine N_go (M1 := M_13) (E := [Ent.obj b_14 (.cells #[.int .i8 x_11.fKind, .bool x_11.fBool, .int .i64 x_11.fNum, S x_11.fText, .slice A_40 x_11.fList.length cap_41, .slice A_41 x_11.fKeys.length cap_42] 33 (0, 0)), Ent.row 33 6 (.slice A_32 s_2.2.length cap_33) s_2.2.length cs_15, Ent.obj b_2 (.cells #[.int .i8 d0.fKind, .bool d0.fBool, .int .i64 d0.fNum, S d0.fText, .slice A_32 s_2.2.length cap_33, .slice none 0 0] 33 (0, 0))]) hM_13 p_125 ?_
                refine N_alt rfl (E := [Ent.obj b_14 (.cells #[.int .i8 x_11.fKind, .bool x_11.fBool, .int .i64 x_11.fNum, S x_11.fText, .slice A_40 x_11.fList.length cap_41, .slice A_41 x_11.fKeys.length cap_42] 33 (0, 0)), Ent.row 33 6 (.slice A_32 s_2.2.length cap_33) s_2.2.length cs_15, Ent.obj b_2 (.cells #[.int .i8 d0.fKind, .bool d0.fBool, .int .i64 d0.fNum, S d0.fText, .slice A_32 s_2.2.length cap_33, .slice none 0 0] 33 (0, 0))]) (fun w_75 p_126 => ?_) ?_
                · have p_127 := p_126.pl [1]
                  refine W_appendL (z := .agg #[.int .i8 0, .bool false, .int .i64 0, S [], .slice none 0 0, .slice none 0 0]) (f := emb_T_api_Value) (xs := s_2.2) (ys := [(⟨x_11.fKind, (x_11.fBool), x_11.fNum, x_11.fText, x_11.fList, x_11.fKeys⟩ : T_api_Value)]) (news := [.int .i8 x_11.fKind, .bool x_11.fBool, .int .i64 x_11.fNum, S x_11.fText, .slice A_40 x_11.fList.length cap_41, .slice A_41 x_11.fKeys.length cap_42]) (ad := ⟨b_14, 0, none⟩) (m := 1) (c := 1) f_143 p_127 (RepSeq.mono hM_13 _ _ hr_26) (by exact ⟨_, _, rfl, T_api_Value.shut h_24 h_25, rfl⟩) (by kernel_rfl) (by kernel_rfl) rfl rfl rfl (by kernel_rfl) (by kernel_rfl) (by kernel_rfl) (by kernel_rfl) rfl (own_cells (p_127.ownCell 1 rfl) 0 rfl) (by exact g_4) (by have hg_ := g_4; first | omega | (simp only [List.length_cons, List.length_nil] at *; omega)) (fun A_42 cap_43 cs_17 w_76 p_128 hr_32 a_120 f_144 => ?_)
                  have p_129 := p_128.pl [1]
                  have p_130 := p_129.drop
                  refine W_end rfl ?_
                  refine N_go (M1 := M_13) (E := [Ent.row 33 6 (.slice A_42 (s_2.2 ++ [(⟨x_11.fKind, (x_11.fBool), x_11.fNum, x_11.fText, x_11.fList, x_11.fKeys⟩ : T_api_Value)]).length cap_43) (s_2.2 ++ [(⟨x_11.fKind, (x_11.fBool), x_11.fNum, x_11.fText, x_11.fList, x_11.fKeys⟩ : T_api_Value)]).length cs_17, Ent.obj b_2 (.cells #[.int .i8 d0.fKind, .bool d0.fBool, .int .i64 d0.fNum, S d0.fText, .slice A_32 s_2.2.length cap_33, .slice none 0 0] 33 (0, 0))]) hM_13 p_130 ?_
                  refine N_eq (v := .pointer (some (⟨b_2, 4, none⟩))) rfl f_144 (by kernel_rfl) (by kernel_rfl) rfl rfl (fun _ _ => by kernel_rfl) (fun a_121 f_145 => ?_)
                  have f_146 : Frm 84 [(0, .pointer (some ad0)), (2, .pointer (some (⟨b_1, 0, none⟩))), (3, .pointer (some (⟨b_2, 0, none⟩))), (66, .int .i64 ((d0.fList.length : Nat) : Int)), (67, .int .i64 s_2.1), (80, .slice A_42 (s_2.2 ++ [(⟨x_11.fKind, (x_11.fBool), x_11.fNum, x_11.fText, x_11.fList, x_11.fKeys⟩ : T_api_Value)]).length cap_43), (81, .pointer (some (⟨b_2, 4, none⟩)))] a_121 := f_145.keep (ks := [0, 2, 3, 66, 67, 80, 81]) (by kernel_rfl)
                  refine N_alt rfl (E := [Ent.row 33 6 (.slice A_42 (s_2.2 ++ [(⟨x_11.fKind, (x_11.fBool), x_11.fNum, x_11.fText, x_11.fList, x_11.fKeys⟩ : T_api_Value)]).length cap_43) (s_2.2 ++ [(⟨x_11.fKind, (x_11.fBool), x_11.fNum, x_11.fText, x_11.fList, x_11.fKeys⟩ : T_api_Value)]).length cs_17, Ent.obj b_2 (.cells #[.int .i8 d0.fKind, .bool d0.fBool, .int .i64 d0.fNum, S d0.fText, .slice A_32 s_2.2.length cap_33, .slice none 0 0] 33 (0, 0))]) (fun w_77 p_131 => ?_) ?_
                  · refine W_store1 f_146 p_131 1 (by kernel_rfl) (by kernel_rfl) rfl rfl (b := b_2) (j := 4) (v := .slice A_42 (s_2.2 ++ [(⟨x_11.fKind, (x_11.fBool), x_11.fNum, x_11.fText, x_11.fList, x_11.fKeys⟩ : T_api_Value)]).length cap_43) (by kernel_rfl) (by kernel_rfl) rfl (by kernel_rfl) (by exact rfl) (by simp) (by simp) ((Ent.row 33 6 (.slice A_42 (s_2.2 ++ [(⟨x_11.fKind, (x_11.fBool), x_11.fNum, x_11.fText, x_11.fList, x_11.fKeys⟩ : T_api_Value)]).length cap_43) (s_2.2 ++ [(⟨x_11.fKind, (x_11.fBool), x_11.fNum, x_11.fText, x_11.fList, x_11.fKeys⟩ : T_api_Value)]).length cs_17) :: (Ent.obj b_2 (.cells #[.int .i8 d0.fKind, .bool d0.fBool, .int .i64 d0.fNum, S d0.fText, .slice A_42 (s_2.2 ++ [(⟨x_11.fKind, (x_11.fBool), x_11.fNum, x_11.fText, x_11.fList, x_11.fKeys⟩ : T_api_Value)]).length cap_43, .slice none 0 0] 33 (0, 0))) :: (Ent.obj b_1 (.cells #[.int .i8 0, .bool false, .int .i64 0, S [], .slice none 0 0, .slice none 0 0] 33 (0, 0))) :: H) rfl (fun w_78 p_132 a_122 f_147 => ?_)
                    refine W_end rfl ?_
                    refine N_go (M1 := M_13) (E := [Ent.row 33 6 (.slice A_42 (s_2.2 ++ [(⟨x_11.fKind, (x_11.fBool), x_11.fNum, x_11.fText, x_11.fList, x_11.fKeys⟩ : T_api_Value)]).length cap_43) (s_2.2 ++ [(⟨x_11.fKind, (x_11.fBool), x_11.fNum, x_11.fText, x_11.fList, x_11.fKeys⟩ : T_api_Value)]).length cs_17, Ent.obj b_2 (.cells #[.int .i8 d0.fKind, .bool d0.fBool, .int .i64 d0.fNum, S d0.fText, .slice A_42 (s_2.2 ++ [(⟨x_11.fKind, (x_11.fBool), x_11.fNum, x_11.fText, x_11.fList, x_11.fKeys⟩ : T_api_Value)]).length cap_43, .slice none 0 0] 33 (0, 0))]) hM_13 p_132 ?_
                    refine N_end (fun w_79 p_133 => ?_)
                    refine T_n ?_
                    exact ⟨s_2.2 ++ [(⟨x_11.fKind, (x_11.fBool), x_11.fNum, x_11.fText, x_11.fList, x_11.fKeys⟩ : T_api_Value)], (Option.some.inj hF_21).symm, M_13, hM_13, A_42, cap_43, cs_17, hr_32, f_147.keep (ks := [0, 2, 3, 66, 67]) (by kernel_rfl), p_133⟩
                  exact N_none
                exact N_none
              exact N_none
            exact N_none
          refine N_alt rfl (E := [Ent.row 33 6 (.slice A_32 s_2.2.length cap_33) s_2.2.length cs_15, Ent.obj b_2 (.cells #[.int .i8 d0.fKind, .bool d0.fBool, .int .i64 d0.fNum, S d0.fText, .slice A_32 s_2.2.length cap_33, .slice none 0 0] 33 (0, 0))]) (fun w_80 p_134 => ?_) ?_
          · refine V_ok f_140 p_134 (hrec_tree_sorted _ (GL.mono hM_11 hG) (ad_6.add (s_2.1.toNat * 6)) [.int .i8 x_10.fKind, .bool x_10.fBool, .int .i64 x_10.fNum, S x_10.fText, .slice A_38 x_10.fList.length cap_39, .slice A_39 x_10.fKeys.length cap_40] x_10 (T_api_Value.shutx (x := x_10) h_22 h_23) (fz_at (hc_7) 0 rfl) x_11 hx_7) (by kernel_rfl) (fun _ => by kernel_rfl) (fun u_7 M_14 w_81 hM_14 p_135 q_7 a_123 f_148 => ?_)
            obtain ⟨c_13, rfl, hr_33⟩ := q_7
            obtain ⟨A_43, cap_44, A_44, cap_45, rfl, h_26, h_27⟩ := T_api_Value.opn hr_33
            refine W_end rfl ?_
            refine N_go (M1 := M_14) (E := [Ent.row 33 6 (.slice A_32 s_2.2.length cap_33) s_2.2.length cs_15, Ent.obj b_2 (.cells #[.int .i8 d0.fKind, .bool d0.fBool, .int .i64 d0.fNum, S d0.fText, .slice A_32 s_2.2.length cap_33, .slice none 0 0] 33 (0, 0))]) hM_14 p_135 ?_
            refine N_alt rfl (E := [Ent.row 33 6 (.slice A_32 s_2.2.length cap_33) s_2.2.length cs_15, Ent.obj b_2 (.cells #[.int .i8 d0.fKind, .bool d0.fBool, .int .i64 d0.fNum, S d0.fText, .slice A_32 s_2.2.length cap_33, .slice none 0 0] 33 (0, 0))]) (fun w_82 p_136 => ?_) ?_
            · refine V_eq (v := .slice A_32 s_2.2.length cap_33) f_148 (by kernel_rfl) (X_load1 (v := .slice A_32 s_2.2.length cap_33) rfl (ad := ⟨b_2, 4, none⟩) (by kernel_rfl) (by kernel_rfl) (p_136.ownCell 1 rfl 4)) (fun a_124 f_149 => ?_)
              refine W_end rfl ?_
              refine N_go (M1 := M_14) (E := [Ent.row 33 6 (.slice A_32 s_2.2.length cap_33) s_2.2.length cs_15, Ent.obj b_2 (.cells #[.int .i8 d0.fKind, .bool d0.fBool, .int .i64 d0.fNum, S d0.fText, .slice A_32 s_2.2.length cap_33, .slice none 0 0] 33 (0, 0))]) hM_14 p_136 ?_
              refine N_alt rfl (E := [Ent.row 33 6 (.slice A_32 s_2.2.length cap_33) s_2.2.length cs_15, Ent.obj b_2 (.cells #[.int .i8 d0.fKind, .bool d0.fBool, .int .i64 d0.fNum, S d0.fText, .slice A_32 s_2.2.length cap_33, .slice none 0 0] 33 (0, 0))]) (fun w_83 p_137 => ?_) ?_
              · refine V_allocS (k := 1) (c := 1) f_149 p_137 (.cells #[.int .i8 x_11.fKind, .bool x_11.fBool, .int .i64 x_11.fNum, S x_11.fText, .slice A_43 x_11.fList.length cap_44, .slice A_44 x_11.fKeys.length cap_45] 33 (0, 0)) (by kernel_rfl) (fun _ => by kernel_rfl) (fun b_15 w_84 p_138 a_125 f_150 => ?_)
                refine W_end rfl ?_
                refine N_go (M1 := M_14) (E := [Ent.obj b_15 (.cells #[.int .i8 x_11.fKind, .bool x_11.fBool, .int .i64 x_11.fNum, S x_11.fText, .slice A_43 x_11.fList.length cap_44, .slice A_44 x_11.fKeys.length cap_45] 33 (0, 0)), Ent.row 33 6 (.slice A_32 s_2.2.length cap_33) s_2.2.length cs_15, Ent.obj b_2 (.cells #[.int .i8 d0.fKind, .bool d0.fBool, .int .i64 d0.fNum, S d0.fText, .slice A_32 s_2.2.length cap_33, .slice none 0 0] 33 (0, 0))]) hM_14 p_138 ?_
                refine N_alt rfl (E := [Ent.obj b_15 (.cells #[.int .i8 x_11.fKind, .bool x_11.fBool, .int .i64 x_11.fNum, S x_11.fText, .slice A_43 x_11.fList.length cap_44, .slice A_44 x_11.fKeys.length cap_45] 33 (0, 0)), Ent.row 33 6 (.slice A_32 s_2.2.length cap_33) s_2.2.length cs_15, Ent.obj b_2 (.cells #[.int .i8 d0.fKind, .bool d0.fBool, .int .i64 d0.fNum, S d0.fText, .slice A_32 s_2.2.length cap_33, .slice none 0 0] 33 (0, 0))]) (fun w_85 p_139 => ?_) ?_
                · have p_140 := p_139.pl [1]
                  refine W_appendL (z := .agg #[.int .i8 0, .bool false, .int .i64 0, S [], .slice none 0 0, .slice none 0 0]) (f := emb_T_api_Value) (xs := s_2.2) (ys := [(⟨x_11.fKind, (x_11.fBool), x_11.fNum, x_11.fText, x_11.fList, x_11.fKeys⟩ : T_api_Value)]) (news := [.int .i8 x_11.fKind, .bool x_11.fBool, .int .i64 x_11.fNum, S x_11.fText, .slice A_43 x_11.fList.length cap_44, .slice A_44 x_11.fKeys.length cap_45]) (ad := ⟨b_15, 0, none⟩) (m := 1) (c := 1) f_150 p_140 (RepSeq.mono hM_14 _ _ hr_26) (by exact ⟨_, _, rfl, T_api_Value.shut h_26 h_27, rfl⟩) (by kernel_rfl) (by kernel_rfl) rfl rfl rfl (by kernel_rfl) (by kernel_rfl) (by kernel_rfl) (by kernel_rfl) rfl (own_cells (p_140.ownCell 1 rfl) 0 rfl) (by exact g_4) (by have hg_ := g_4; first | omega | (simp only [List.length_cons, List.length_nil] at *; omega)) (fun A_45 cap_46 cs_18 w_86 p_141 hr_34 a_126 f_151 => ?_)
                  have p_142 := p_141.pl [1]
                  have p_143 := p_142.drop
                  refine W_end rfl ?_
                  refine N_go (M1 := M_14) (E := [Ent.row 33 6 (.slice A_45 (s_2.2 ++ [(⟨x_11.fKind, (x_11.fBool), x_11.fNum, x_11.fText, x_11.fList, x_11.fKeys⟩ : T_api_Value)]).length cap_46) (s_2.2 ++ [(⟨x_11.fKind, (x_11.fBool), x_11.fNum, x_11.fText, x_11.fList, x_11.fKeys⟩ : T_api_Value)]).length cs_18, Ent.obj b_2 (.cells #[.int .i8 d0.fKind, .bool d0.fBool, .int .i64 d0.fNum, S d0.fText, .slice A_32 s_2.2.length cap_33, .slice none 0 0] 33 (0, 0))]) hM_14 p_143 ?_
                  refine N_eq (v := .pointer (some (⟨b_2, 4, none⟩))) rfl f_151 (by kernel_rfl) (by kernel_rfl) rfl rfl (fun _ _ => by kernel_rfl) (fun a_127 f_152 => ?_)
                  have f_153 : Frm 84 [(0, .pointer (some ad0)), (2, .pointer (some (⟨b_1, 0, none⟩))), (3, .pointer (some (⟨b_2, 0, none⟩))), (66, .int .i64 ((d0.fList.length : Nat) : Int)), (67, .int .i64 s_2.1), (80, .slice A_45 (s_2.2 ++ [(⟨x_11.fKind, (x_11.fBool), x_11.fNum, x_11.fText, x_11.fList, x_11.fKeys⟩ : T_api_Value)]).length cap_46), (81, .pointer (some (⟨b_2, 4, none⟩)))] a_127 := f_152.keep (ks := [0, 2, 3, 66, 67, 80, 81]) (by kernel_rfl)
                  refine N_alt rfl (E := [Ent.row 33 6 (.slice A_45 (s_2.2 ++ [(⟨x_11.fKind, (x_11.fBool), x_11.fNum, x_11.fText, x_11.fList, x_11.fKeys⟩ : T_api_Value)]).length cap_46) (s_2.2 ++ [(⟨x_11.fKind, (x_11.fBool), x_11.fNum, x_11.fText, x_11.fList, x_11.fKeys⟩ : T_api_Value)]).length cs_18, Ent.obj b_2 (.cells #[.int .i8 d0.fKind, .bool d0.fBool, .int .i64 d0.fNum, S d0.fText, .slice A_32 s_2.2.length cap_33, .slice none 0 0] 33 (0, 0))]) (fun w_87 p_144 => ?_) ?_
                  · refine W_store1 f_153 p_144 1 (by kernel_rfl) (by kernel_rfl) rfl rfl (b := b_2) (j := 4) (v := .slice A_45 (s_2.2 ++ [(⟨x_11.fKind, (x_11.fBool), x_11.fNum, x_11.fText, x_11.fList, x_11.fKeys⟩ : T_api_Value)]).length cap_46) (by kernel_rfl) (by kernel_rfl) rfl (by kernel_rfl) (by exact rfl) (by simp) (by simp) ((Ent.row 33 6 (.slice A_45 (s_2.2 ++ [(⟨x_11.fKind, (x_11.fBool), x_11.fNum, x_11.fText, x_11.fList, x_11.fKeys⟩ : T_api_Value)]).length cap_46) (s_2.2 ++ [(⟨x_11.fKind, (x_11.fBool), x_11.fNum, x_11.fText, x_11.fList, x_11.fKeys⟩ : T_api_Value)]).length cs_18) :: (Ent.obj b_2 (.cells #[.int .i8 d0.fKind, .bool d0.fBool, .int .i64 d0.fNum, S d0.fText, .slice A_45 (s_2.2 ++ [(⟨x_11.fKind, (x_11.fBool), x_11.fNum, x_11.fText, x_11.fList, x_11.fKeys⟩ : T_api_Value)]).length cap_46, .slice none 0 0] 33 (0, 0))) :: (Ent.obj b_1 (.cells #[.int .i8 0, .bool false, .int .i64 0, S [], .slice none 0 0, .slice none 0 0] 33 (0, 0))) :: H) rfl (fun w_88 p_145 a_128 f_154 => ?_)
                    refine W_end rfl ?_
                    refine N_go (M1 := M_14) (E := [Ent.row 33 6 (.slice A_45 (s_2.2 ++ [(⟨x_11.fKind, (x_11.fBool), x_11.fNum, x_11.fText, x_11.fList, x_11.fKeys⟩ : T_api_Value)]).length cap_46) (s_2.2 ++ [(⟨x_11.fKind, (x_11.fBool), x_11.fNum, x_11.fText, x_11.fList, x_11.fKeys⟩ : T_api_Value)]).length cs_18, Ent.obj b_2 (.cells #[.int .i8 d0.fKind, .bool d0.fBool, .int .i64 d0.fNum, S d0.fText, .slice A_45 (s_2.2 ++ [(⟨x_11.fKind, (x_11.fBool), x_11.fNum, x_11.fText, x_11.fList, x_11.fKeys⟩ : T_api_Value)]).length cap_46, .slice none 0 0] 33 (0, 0))]) hM_14 p_145 ?_
                    refine N_end (fun w_89 p_146 => ?_)
                    refine T_n ?_
                    exact ⟨s_2.2 ++ [(⟨x_11.fKind, (x_11.fBool), x_11.fNum, x_11.fText, x_11.fList, x_11.fKeys⟩ : T_api_Value)], (Option.some.inj hF_21).symm, M_14, hM_14, A_45, cap_46, cs_18, hr_34, f_154.keep (ks := [0, 2, 3, 66, 67]) (by kernel_rfl), p_146⟩
                  exact N_none
                exact N_none
              exact N_none
            refine N_alt rfl (E := [Ent.row 33 6 (.slice A_32 s_2.2.length cap_33) s_2.2.length cs_15, Ent.obj b_2 (.cells #[.int .i8 d0.fKind, .bool d0.fBool, .int .i64 d0.fNum, S d0.fText, .slice A_32 s_2.2.length cap_33, .slice none 0 0] 33 (0, 0))]) (fun w_90 p_147 => ?_) ?_
            · refine V_allocS (k := 1) (c := 1) f_148 p_147 (.cells #[.int .i8 x_11.fKind, .bool x_11.fBool, .int .i64 x_11.fNum, S x_11.fText, .slice A_43 x_11.fList.length cap_44, .slice A_44 x_11.fKeys.length cap_45] 33 (0, 0)) (by kernel_rfl) (fun _ => by kernel_rfl) (fun b_16 w_91 p_148 a_129 f_155 => ?_)
              refine W_end rfl ?_
              refine N_go (M1 := M_14) (E := [Ent.obj b_16 (.cells #[.int .i8 x_11.fKind, .bool x_11.fBool, .int .i64 x_11.fNum, S x_11.fText, .slice A_43 x_11.fList.length cap_44, .slice A_44 x_11.fKeys.length cap_45] 33 (0, 0)), Ent.row 33 6 (.slice A_32 s_2.2.length cap_33) s_2.2.length cs_15, Ent.obj b_2 (.cells #[.int .i8 d0.fKind, .bool d0.fBool, .int .i64 d0.fNum, S d0.fText, .slice A_32 s_2.2.length cap_33, .slice none 0 0] 33 (0, 0))]) hM_14 p_148 ?_
              refine N_alt rfl (E := [Ent.obj b_16 (.cells #[.int .i8 x_11.fKind, .bool x_11.fBool, .int .i64 x_11.fNum, S x_11.fText, .slice A_43 x_11.fList.length cap_44, .slice A_44 x_11.fKeys.length cap_45] 33 (0, 0)), Ent.row 33 6 (.slice A_32 s_2.2.length cap_33) s_2.2.length cs_15, Ent.obj b_2 (.cells #[.int .i8 d0.fKind, .bool d0.fBool, .int .i64 d0.fNum, S d0.fText, .slice A_32 s_2.2.length cap_33, .slice none 0 0] 33 (0, 0))]) (fun w_92 p_149 => ?_) ?_
              · refine V_eq (v := .slice A_32 s_2.2.length cap_33) f_155 (by kernel_rfl) (X_load1 (v := .slice A_32 s_2.2.length cap_33) rfl (ad := ⟨b_2, 4, none⟩) (by kernel_rfl) (by kernel_rfl) (p_149.ownCell 2 rfl 4)) (fun a_130 f_156 => ?_)
                refine W_end rfl ?_
                refine N_go (M1 := M_14) (E := [Ent.obj b_16 (.cells #[.int .i8 x_11.fKind, .bool x_11.fBool, .int .i64 x_11.fNum, S x_11.fText, .slice A_43 x_11.fList.length cap_44, .slice A_44 x_11.fKeys.length cap_45] 33 (0, 0)), Ent.row 33 6 (.slice A_32 s_2.2.length cap_33) s_2.2.length cs_15, Ent.obj b_2 (.cells #[.int .i8 d0.fKind, .bool d0.fBool, .int .i64 d0.fNum, S d0.fText, .slice A_32 s_2.2.length cap_33, .slice none 0 0] 33 (0, 0))]) hM_14 p_149 ?_
                refine N_alt rfl (E := [Ent.obj b_16 (.cells #[.int .i8 x_11.fKind, .bool x_11.fBool, .int .i64 x_11.fNum, S x_11.fText, .slice A_43 x_11.fList.length cap_44, .slice A_44 x_11.fKeys.length cap_45] 33 (0, 0)), Ent.row 33 6 (.slice A_32 s_2.2.length cap_33) s_2.2.length cs_15, Ent.obj b_2 (.cells #[.int .i8 d0.fKind, .bool d0.fBool, .int .i64 d0.fNum, S d0.fText, .slice A_32 s_2.2.length cap_33, .slice none 0 0] 33 (0, 0))]) (fun w_93 p_150 => ?_) ?_
                · have p_151 := p_150.pl [1]
                  refine W_appendL (z := .agg #[.int .i8 0, .bool false, .int .i64 0, S [], .slice none 0 0, .slice none 0 0]) (f := emb_T_api_Value) (xs := s_2.2) (ys := [(⟨x_11.fKind, (x_11.fBool), x_11.fNum, x_11.fText, x_11.fList, x_11.fKeys⟩ : T_api_Value)]) (news := [.int .i8 x_11.fKind, .bool x_11.fBool, .int .i64 x_11.fNum, S x_11.fText, .slice A_43 x_11.fList.length cap_44, .slice A_44 x_11.fKeys.length cap_45]) (ad := ⟨b_16, 0, none⟩) (m := 1) (c := 1) f_156 p_151 (RepSeq.mono hM_14 _ _ hr_26) (by exact ⟨_, _, rfl, T_api_Value.shut h_26 h_27, rfl⟩) (by kernel_rfl) (by kernel_rfl) rfl rfl rfl (by kernel_rfl) (by kernel_rfl) (by kernel_rfl) (by kernel_rfl) rfl (own_cells (p_151.ownCell 1 rfl) 0 rfl) (by exact g_4) (by have hg_ := g_4; first | omega | (simp only [List.length_cons, List.length_nil] at *; omega)) (fun A_46 cap_47 cs_19 w_94 p_152 hr_35 a_131 f_157 => ?_)
                  have p_153 := p_152.pl [1]
                  have p_154 := p_153.drop
                  refine W_end rfl ?_
                  refine N_go (M1 := M_14) (E := [Ent.row 33 6 (.slice A_46 (s_2.2 ++ [(⟨x_11.fKind, (x_11.fBool), x_11.fNum, x_11.fText, x_11.fList, x_11.fKeys⟩ : T_api_Value)]).length cap_47) (s_2.2 ++ [(⟨x_11.fKind, (x_11.fBool), x_11.fNum, x_11.fText, x_11.fList, x_11.fKeys⟩ : T_api_Value)]).length cs_19, Ent.obj b_2 (.cells #[.int .i8 d0.fKind, .bool d0.fBool, .int .i64 d0.fNum, S d0.fText, .slice A_32 s_2.2.length cap_33, .slice none 0 0] 33 (0, 0))]) hM_14 p_154 ?_
                  refine N_eq (v := .pointer (some (⟨b_2, 4, none⟩))) rfl f_157 (by kernel_rfl) (by kernel_rfl) rfl rfl (fun _ _ => by kernel_rfl) (fun a_132 f_158 => ?_)
                  have f_159 : Frm 84 [(0, .pointer (some ad0)), (2, .pointer (some (⟨b_1, 0, none⟩))), (3, .pointer (some (⟨b_2, 0, none⟩))), (66, .int .i64 ((d0.fList.length : Nat) : Int)), (67, .int .i64 s_2.1), (80, .slice A_46 (s_2.2 ++ [(⟨x_11.fKind, (x_11.fBool), x_11.fNum, x_11.fText, x_11.fList, x_11.fKeys⟩ : T_api_Value)]).length cap_47), (81, .pointer (some (⟨b_2, 4, none⟩)))] a_132 := f_158.keep (ks := [0, 2, 3, 66, 67, 80, 81]) (by kernel_rfl)
                  refine N_alt rfl (E := [Ent.row 33 6 (.slice A_46 (s_2.2 ++ [(⟨x_11.fKind, (x_11.fBool), x_11.fNum, x_11.fText, x_11.fList, x_11.fKeys⟩ : T_api_Value)]).length cap_47) (s_2.2 ++ [(⟨x_11.fKind, (x_11.fBool), x_11.fNum, x_11.fText, x_11.fList, x_11.fKeys⟩ : T_api_Value)]).length cs_19, Ent.obj b_2 (.cells #[.int .i8 d0.fKind, .bool d0.fBool, .int .i64 d0.fNum, S d0.fText, .slice A_32 s_2.2.length cap_33, .slice none 0 0] 33 (0, 0))]) (fun w_95 p_155 => ?_) ?_
                  · refine W_store1 f_159 p_155 1 (by kernel_rfl) (by kernel_rfl) rfl rfl (b := b_2) (j := 4) (v := .slice A_46 (s_2.2 ++ [(⟨x_11.fKind, (x_11.fBool), x_11.fNum, x_11.fText, x_11.fList, x_11.fKeys⟩ : T_api_Value)]).length cap_47) (by kernel_rfl) (by kernel_rfl) rfl (by kernel_rfl) (by exact rfl) (by simp) (by simp) ((Ent.row 33 6 (.slice A_46 (s_2.2 ++ [(⟨x_11.fKind, (x_11.fBool), x_11.fNum, x_11.fText, x_11.fList, x_11.fKeys⟩ : T_api_Value)]).length cap_47) (s_2.2 ++ [(⟨x_11.fKind, (x_11.fBool), x_11.fNum, x_11.fText, x_11.fList, x_11.fKeys⟩ : T_api_Value)]).length cs_19) :: (Ent.obj b_2 (.cells #[.int .i8 d0.fKind, .bool d0.fBool, .int .i64 d0.fNum, S d0.fText, .slice A_46 (s_2.2 ++ [(⟨x_11.fKind, (x_11.fBool), x_11.fNum, x_11.fText, x_11.fList, x_11.fKeys⟩ : T_api_Value)]).length cap_47, .slice none 0 0] 33 (0, 0))) :: (Ent.obj b_1 (.cells #[.int .i8 0, .bool false, .int .i64 0, S [], .slice none 0 0, .slice none 0 0] 33 (0, 0))) :: H) rfl (fun w_96 p_156 a_133 f_160 => ?_)
                    refine W_end rfl ?_
                    refine N_go (M1 := M_14) (E := [Ent.row 33 6 (.slice A_46 (s_2.2 ++ [(⟨x_11.fKind, (x_11.fBool), x_11.fNum, x_11.fText, x_11.fList, x_11.fKeys⟩ : T_api_Value)]).length cap_47) (s_2.2 ++ [(⟨x_11.fKind, (x_11.fBool), x_11.fNum, x_11.fText, x_11.fList, x_11.fKeys⟩ : T_api_Value)]).length cs_19, Ent.obj b_2 (.cells #[.int .i8 d0.fKind, .bool d0.fBool, .int .i64 d0.fNum, S d0.fText, .slice A_46 (s_2.2 ++ [(⟨x_11.fKind, (x_11.fBool), x_11.fNum, x_11.fText, x_11.fList, x_11.fKeys⟩ : T_api_Value)]).length cap_47, .slice none 0 0] 33 (0, 0))]) hM_14 p_156 ?_
                    refine N_end (fun w_97 p_157 => ?_)
                    refine T_n ?_
                    exact ⟨s_2.2 ++ [(⟨x_11.fKind, (x_11.fBool), x_11.fNum, x_11.fText, x_11.fList, x_11.fKeys⟩ : T_api_Value)], (Option.some.inj hF_21).symm, M_14, hM_14, A_46, cap_47, cs_19, hr_35, f_160.keep (ks := [0, 2, 3, 66, 67]) (by kernel_rfl), p_157⟩
                  exact N_none
                exact N_none
              exact N_none
            exact N_none
          exact N_none
        · rintro a_134 w_98 ⟨y_4, hq_3, M_15, hM_15, A_47, cap_48, cs_20, hr_36, f_161, p_158⟩
          subst j_3
          refine B_n (T_n (R_reg ?_))
          obtain ⟨g_5, hF_22⟩ := need_some hF_18
          refine V_run f_161 1 (by kernel_rfl) (fun a_135 f_162 => ?_)
          have f_163 := Frm.set f_162 82 (v := .int .i64 (IntKind.wrap .i64 (s_2.1 + 1))) (v' := .int .i64 (s_2.1 + 1)) (by kernel_rfl) (congrArg (Value.int .i64) (inR_wrap g_5))
          refine V_run f_163 1 (by kernel_rfl) (fun a_136 f_164 => ?_)
          refine W_end rfl (T_n ?_)
          obtain rfl := Option.some.inj hF_22
          exact ⟨⟨m_4, (s_2.1 + 1, y_4), A_47, cap_48, cs_20⟩, Nat.lt_succ_self _, M_15, (hM_11.trans hM_15), ⟨hn_2, hr_36⟩, f_164.keep (ks := [0, 2, 3, 66, 67]) (by kernel_rfl), p_158⟩
      · have k_6 : ¬ (s_2.1 < ((d0.fList.length : Nat) : Int)) := iff_f decide_eq_true_iff h_17
        have hF_23 := cnd_f h_17 hs_2
        refine wp_exit (T_x (T_x ?_))
        obtain rfl := Option.some.inj hF_23
        exact ⟨rfl, s_2.2, (Option.some.inj hn_2).symm, M_11, hM_11, A_32, cap_33, cs_15, hr_26, f_117.keep (ks := [2, 3]) (by kernel_rfl), p_113⟩
    · rintro _ a_138 w_100 ⟨rfl, y_5, hq_, M_16, hM_16, A_48, cap_49, cs_21, hr_37, f_165, p_159⟩
      subst b_12
      refine B_x (T_n (R_seq (R_reg ?_)))
      refine V_eq (v := .agg #[.int .i8 d0.fKind, .bool d0.fBool, .int .i64 d0.fNum, S d0.fText, .slice A_48 y_5.length cap_49, .slice none 0 0]) f_165 (by kernel_rfl) (X_loadN (cs := [.int .i8 d0.fKind, .bool d0.fBool, .int .i64 d0.fNum, S d0.fText, .slice A_48 y_5.length cap_49, .slice none 0 0]) rfl (ad := ⟨b_2, 0, none⟩) (by kernel_rfl) (by kernel_rfl) (own_cells (p_159.ownCell 1 rfl) 0 rfl)) (fun a_139 f_166 => ?_)
      obtain ⟨A_49, cap_50, M_17, hv_7, hM_17, p_160, h_28⟩ := p_159.rowSli (f := emb_T_api_Value) (xs := y_5) szd_T_api_Value hr_37
      have f_167 := Frm.set f_166 83 (v := .agg #[.int .i8 d0.fKind, .bool d0.fBool, .int .i64 d0.fNum, S d0.fText, .slice A_48 y_5.length cap_49, .slice none 0 0]) (v' := .agg #[.int .i8 d0.fKind, .bool d0.fBool, .int .i64 d0.fNum, S d0.fText, .slice A_49 y_5.length cap_50, .slice none 0 0]) (by kernel_rfl) (by rw [hv_7])
      have p_161 : Hp w0 M_17 ((Ent.obj b_2 (.cells #[.int .i8 d0.fKind, .bool d0.fBool, .int .i64 d0.fNum, S d0.fText, .slice A_49 y_5.length cap_50, .slice none 0 0] 33 (0, 0))) :: (Ent.obj b_1 (.cells #[.int .i8 0, .bool false, .int .i64 0, S [], .slice none 0 0, .slice none 0 0] 33 (0, 0))) :: H) w_100 := by rw [hv_7] at p_160; exact p_160
      have p_162 := p_161.pl [1]
      refine W_storeN (vs := [.int .i8 d0.fKind, .bool d0.fBool, .int .i64 d0.fNum, S d0.fText, .slice A_49 y_5.length cap_50, .slice none 0 0]) (j := 0) f_167 p_162 (by kernel_rfl) (by kernel_rfl) rfl rfl (by kernel_rfl) (by kernel_rfl) (by simp [Value.oneCell', S]) (by kernel_rfl) (by simp) (by decide) (cs' := #[.int .i8 d0.fKind, .bool d0.fBool, .int .i64 d0.fNum, S d0.fText, .slice A_49 y_5.length cap_50, .slice none 0 0]) rfl (fun w_101 p_163 a_140 f_168 => ?_)
      refine W_end rfl (T_n (wp_ret ?_))
      refine E_rv1 f_168 rfl (Rv.cellN (cs := [.int .i8 d0.fKind, .bool d0.fBool, .int .i64 d0.fNum, S d0.fText, .slice A_49 y_5.length cap_50, .slice none 0 0]) (ad := ⟨b_1, 0, none⟩) f_168 (by kernel_rfl) (by kernel_rfl) (own_cells (p_163.ownCell 0 rfl) 0 rfl)) ?_
      obtain rfl := Option.some.inj hF_16
      exact ⟨_, rfl, M_17, (hM_16.trans hM_17), (p_163.dropN 2), ⟨[.int .i8 d0.fKind, .bool d0.fBool, .int .i64 d0.fNum, S d0.fText, .slice A_49 y_5.length cap_50, .slice none 0 0], rfl, (T_api_Value.shut h_28 Sli.nil)⟩⟩
def tree_sorted_k (n : Nat) : Nat → T_api_Value → Option T_api_Value
  | 0 => fun _ => none
  | k + 1 => tree_sorted_b n (tree_sorted_k n k)
def tree_sorted (n : Nat) (d0 : T_api_Value) : Option T_api_Value := tree_sorted_k n n d0
theorem tree_sorted_ok (n : Nat) (M : Mem) (hG : GL M) (ad0 : Addr) (c0 : List Value) (d0 : T_api_Value) (h0 : Rep M (emb_T_api_Value d0) c0) (q0 : ∀ j v, c0[j]? = some v → M.cell? (ad0.add j) = some v) (r : T_api_Value) (hF : tree_sorted n d0 = some r) : Ok Tryd.prog M 88 [.pointer (some ad0)] (fun M' v => ∃ (c0 : List Value), v = .agg c0.toArray ∧ Rep M' (emb_T_api_Value r) c0) := by
  have key : ∀ (k : Nat) (M : Mem) (hG : GL M) (ad0 : Addr) (c0 : List Value) (d0 : T_api_Value) (h0 : Rep M (emb_T_api_Value d0) c0) (q0 : ∀ j v, c0[j]? = some v → M.cell? (ad0.add j) = some v) (r : T_api_Value) (hF : tree_sorted_k n k d0 = some r), Ok Tryd.prog M 88 [.pointer (some ad0)] (fun M' v => ∃ (c0 : List Value), v = .agg c0.toArray ∧ Rep M' (emb_T_api_Value r) c0) := by
    intro k
    induction k with
    | zero => intro M hG ad0 c0 d0 h0 q0 r hF; simp [tree_sorted_k] at hF
    | succ k ih => intro M hG ad0 c0 d0 h0 q0 r hF; exact tree_sorted_b_ok n (tree_sorted_k n k) ih M hG ad0 c0 d0 h0 q0 r hF
  exact key n M hG ad0 c0 d0 h0 q0 r hF
end Go.Proofs.YtalifkcchfkgmaaDoor
