/-
  Printed by a program: of each function its shallow reading, and the proof that the function gives what the reading gives. No condition.
-/
import Derived.Test.YtalifkcchfkgmaaDoorS1
import Derived.Test.YtalifkcchfkgmaaDoorS2
set_option linter.unusedVariables false
set_option linter.unusedSimpArgs false
namespace Go.Proofs.YtalifkcchfkgmaaDoor
open Go Go.Vc Go.RowKit
def schema_value_1_2 (n : Nat) (rec_schema_value : T_api_Value → Int → Option Bool) (d0 : T_api_Value) : Option Bool :=
  (rec_schema_value d0 (3 : Int)).bind fun x_1 =>
  some ((!x_1))
theorem schema_value_1_2_ok (n : Nat) (rec_schema_value : T_api_Value → Int → Option Bool) (hrec_schema_value : ∀ (M : Mem) (hG : GL M) (ad0 : Addr) (c0 : List Value) (d0 : T_api_Value) (h0 : Rep M (emb_T_api_Value d0) c0) (q0 : ∀ j v, c0[j]? = some v → M.cell? (ad0.add j) = some v) (d1 : Int) (r : Bool) (hF : rec_schema_value d0 d1 = some r), Ok Tryd.prog M 51 [.pointer (some ad0), .int .i8 d1] (fun _ v => v = .bool r)) (M : Mem) (hG : GL M) (c0 : List Value) (d0 : T_api_Value) (h0 : Rep M (emb_T_api_Value d0) c0) (r : Bool) (hF : schema_value_1_2 n rec_schema_value d0 = some r) : Ok Tryd.prog M 80 [.agg c0.toArray] (fun _ v => v = .bool r) := by
  unfold schema_value_1_2 at hF
  intro M1 hM0 w0 H w p0
  replace hG := GL.mono hM0 hG
  replace h0 := Rep.mono hM0 _ _ h0
  obtain ⟨A_1, cap_1, A_2, cap_2, rfl, h_1, h_2⟩ := T_api_Value.opn h0
  refine R_enter 5 Tryd.func80 rfl rfl (by simp) (fun a0 f0 => ?_)
  refine R_seq (R_reg ?_)
  refine V_box (cs := #[.int .i8 d0.fKind, .bool d0.fBool, .int .i64 d0.fNum, S d0.fText, .slice A_1 d0.fList.length cap_1, .slice A_2 d0.fKeys.length cap_2]) (T := 33) f0 p0 (by kernel_rfl) (fun _ => by kernel_rfl) (fun b_1 M_1 w_1 hM_1 hc_1 p_1 a_1 f_1 => ?_)
  have hc_2 := fz_box hc_1
  refine V_run f_1 1 (by kernel_rfl) (fun a_2 f_2 => ?_)
  refine W_end rfl (T_n (R_seq (R_reg ?_)))
  obtain ⟨x_1, hx_1, hF_1⟩ := bind_some' hF
  refine V_okv f_2 p_1 (hrec_schema_value _ (GL.mono hM_1 hG) (⟨b_1, 0, none⟩) [.int .i8 d0.fKind, .bool d0.fBool, .int .i64 d0.fNum, S d0.fText, .slice A_1 d0.fList.length cap_1, .slice A_2 d0.fKeys.length cap_2] d0 (T_api_Value.shutx (x := d0) (h_1.mono hM_1) (h_2.mono hM_1)) (fz_at (hc_2) 0 rfl) (3 : Int) x_1 hx_1) (by kernel_rfl) (fun _ => by kernel_rfl) (fun w_2 p_2 a_3 f_3 => ?_)
  refine V_run f_3 2 (by kernel_rfl) (fun a_4 f_4 => ?_)
  refine W_end rfl (T_n (wp_ret ?_))
  refine E_ret1 f_4 rfl (by kernel_rfl : Vc.look _ 2 = some (.bool !x_1)) ?_
  obtain rfl := Option.some.inj hF_1
  exact ⟨_, rfl, M_1, hM_1, p_2, rfl⟩

def slices_IndexFuncapi_Value_api_Value_2_s1 (n : Nat) (rec_schema_value : T_api_Value → Int → Option Bool) (d0 : List T_api_Value) (s_1 : Int) : Option (Lp Int (Sum Int Unit)) :=
    bif (decide (s_1 < ((d0.length : Nat) : Int))) then
      ((getI d0 s_1).bind fun x_1 =>
      (schema_value_1_2 n rec_schema_value x_1).bind fun x_2 =>
      bif x_2 then
        (some (.br (.inl s_1)))
      else
        need (inR .i64 (s_1 + 1)) <|
        some (.nx (s_1 + 1)))
    else
      some (.br (.inr ()))
def slices_IndexFuncapi_Value_api_Value_2 (n : Nat) (rec_schema_value : T_api_Value → Int → Option Bool) (d0 : List T_api_Value) : Option Int :=
  (loopF (slices_IndexFuncapi_Value_api_Value_2_s1 n rec_schema_value d0) n (0 : Int)).bind fun b_1 =>
  (match b_1 with 
  | .inl y_1 => some (y_1) 
  | .inr y_2 => some ((-1 : Int)))
set_option maxHeartbeats 2000000 in
theorem slices_IndexFuncapi_Value_api_Value_2_ok (n : Nat) (rec_schema_value : T_api_Value → Int → Option Bool) (hrec_schema_value : ∀ (M : Mem) (hG : GL M) (ad0 : Addr) (c0 : List Value) (d0 : T_api_Value) (h0 : Rep M (emb_T_api_Value d0) c0) (q0 : ∀ j v, c0[j]? = some v → M.cell? (ad0.add j) = some v) (d1 : Int) (r : Bool) (hF : rec_schema_value d0 d1 = some r), Ok Tryd.prog M 51 [.pointer (some ad0), .int .i8 d1] (fun _ v => v = .bool r)) (M : Mem) (hG : GL M) (A0 : Option Addr) (cap0 : Nat) (d0 : List T_api_Value) (h0 : Sli M 6 emb_T_api_Value A0 cap0 d0) (r : Int) (hF : slices_IndexFuncapi_Value_api_Value_2 n rec_schema_value d0 = some r) : Ok Tryd.prog M 96 [.slice A0 d0.length cap0, .func (.func 80) #[] #[]] (fun _ v => v = .int .i64 r) := by
  unfold slices_IndexFuncapi_Value_api_Value_2 at hF
  intro M1 hM0 w0 H w p0
  replace hG := GL.mono hM0 hG
  replace h0 := h0.mono hM0
  refine R_enter 19 Tryd.func96 rfl rfl (by simp) (fun a0 f0 => ?_)
  refine R_seq (R_reg ?_)
  refine V_run f0 1 (by kernel_rfl) (fun a_1 f_1 => ?_)
  refine W_end rfl (T_n (R_seq (R_seq (R_reg ?_))))
  refine V_run f_1 3 (by kernel_rfl) (fun a_2 f_2 => ?_)
  refine W_end rfl (T_n (wp_block ?_))
  obtain ⟨b_1, hL_1, hF_1⟩ := bind_some' hF
  refine wp_mono (Q := fun e a w => (e = .ret ∧ (∃ y_1 : Int, b_1 = .inl y_1 ∧ ∃ M_2 : Mem, M1.le M_2 ∧ Frm 19 [(4, .int .i64 y_1)] a ∧ Hp w0 M_2 (H) w)) ∨ (e = .exit 0 ∧ (∃ y_2 : Unit, b_1 = .inr y_2 ∧ ∃ M_3 : Mem, M1.le M_3 ∧ Frm 19 [] a ∧ Hp w0 M_3 (H) w))) (R_loop (n := 19) (w0 := w0) (M := M1) (fun (x : Nat × Int) => match x with | (m_1, s_1) => [(0, .slice A0 d0.length cap0), (1, .func (.func 80) #[] #[]), (7, .int .i64 ((d0.length : Nat) : Int)), (8, .int .i64 s_1)]) (fun (x : Nat × Int) => match x with | (m_1, s_1) => (H)) (fun (x : Nat × Int) (MM : Mem) => match x with | (m_1, s_1) => loopF (slices_IndexFuncapi_Value_api_Value_2_s1 n rec_schema_value d0) m_1 s_1 = some b_1) (fun (x : Nat × Int) => match x with | (m_1, s_1) => m_1) (n, (0 : Int)) (f_2.keep (ks := [0, 1, 7, 8]) (by kernel_rfl)) p0 hL_1 ?_) ?_
  · rintro ⟨m_1, s_1⟩ M_1 a_3 w_1 hM_1 I_1 f_3 p_1
    have I_1L := I_1
    obtain ⟨m_2, r_1, rfl, hs_1, hn_1⟩ := loop_step I_1L
    unfold slices_IndexFuncapi_Value_api_Value_2_s1 at hs_1
    refine R_seq (R_reg ?_)
    refine V_run f_3 1 (by kernel_rfl) (fun a_4 f_4 => ?_)
    refine W_end rfl (T_n (R_seq ?_))
    refine R_cond f_4 (b := decide (s_1 < ((d0.length : Nat) : Int))) (by kernel_rfl) (by kernel_rfl) (fun h_1 => ?_) (fun h_1 => ?_)
    · have k_1 : s_1 < ((d0.length : Nat) : Int) := decide_eq_true_iff.1 h_1
      have hF_2 := cnd_t h_1 hs_1
      refine wp_skip (T_n (R_seq (wp_block (R_seq (R_reg ?_)))))
      refine V_run f_4 2 (by kernel_rfl) (fun a_5 f_5 => ?_)
      refine W_end rfl (T_n (R_seq (R_reg ?_)))
      refine V_run f_5 3 (by kernel_rfl) (fun a_6 f_6 => ?_)
      obtain ⟨x_1, hx_1, hF_3⟩ := bind_some' hF_2
      obtain ⟨ad_1, c_1, e_1, hl_1, hr_1, hc_1⟩ := Sli.at_ (h0.mono hM_1) hx_1
      clear hl_1
      obtain ⟨A_1, cap_1, A_2, cap_2, rfl, h_2, h_3⟩ := T_api_Value.opn hr_1
      refine V_eq (v := .pointer (some (ad_1.add (s_1.toNat * 6)))) f_6 (by kernel_rfl) (X_indexAddrA e_1 rfl (len := d0.length) (cap := cap0) (k := .i64) (i := s_1) (by kernel_rfl) (by kernel_rfl) (e := 33) (by kernel_rfl) (sz := 6) (by kernel_rfl) (getI_nn hx_1) (getI_lt hx_1)) (fun a_7 f_7 => ?_)
      refine V_eq (v := .agg #[.int .i8 x_1.fKind, .bool x_1.fBool, .int .i64 x_1.fNum, S x_1.fText, .slice A_1 x_1.fList.length cap_1, .slice A_2 x_1.fKeys.length cap_2]) f_7 (by kernel_rfl) (X_loadN (cs := [.int .i8 x_1.fKind, .bool x_1.fBool, .int .i64 x_1.fNum, S x_1.fText, .slice A_1 x_1.fList.length cap_1, .slice A_2 x_1.fKeys.length cap_2]) rfl (ad := ad_1.add (s_1.toNat * 6)) (by kernel_rfl) (by kernel_rfl) (fun j v h => p_1.cell (hc_1 j v h))) (fun a_8 f_8 => ?_)
      obtain ⟨x_2, hx_2, hF_4⟩ := bind_some' hF_3
      refine V_okv f_8 p_1 (schema_value_1_2_ok n rec_schema_value hrec_schema_value _ (GL.mono hM_1 hG) _ x_1 (T_api_Value.shutx (x := x_1) h_2 h_3) x_2 hx_2) (by kernel_rfl) (fun _ => by kernel_rfl) (fun w_2 p_2 a_9 f_9 => ?_)
      refine W_end rfl (T_n ?_)
      refine R_cond f_9 (b := x_2) (by kernel_rfl) (by kernel_rfl) (fun h_4 => ?_) (fun h_4 => ?_)
      · have hF_5 := cnd_t h_4 hF_4
        refine R_seq (R_reg ?_)
        refine V_run f_9 2 (by kernel_rfl) (fun a_10 f_10 => ?_)
        refine W_end rfl (T_n (wp_ret (B_r (T_r (T_r ?_)))))
        obtain rfl := Option.some.inj hF_5
        exact .inl ⟨rfl, s_1, (Option.some.inj hn_1).symm, M_1, hM_1, f_10.keep (ks := [4]) (by kernel_rfl), p_2⟩
      · have hF_6 := cnd_f h_4 hF_4
        refine wp_skip (B_n (T_n (R_reg ?_)))
        obtain ⟨g_1, hF_7⟩ := need_some hF_6
        refine V_run f_9 1 (by kernel_rfl) (fun a_11 f_11 => ?_)
        have f_12 := Frm.set f_11 18 (v := .int .i64 (IntKind.wrap .i64 (s_1 + 1))) (v' := .int .i64 (s_1 + 1)) (by kernel_rfl) (congrArg (Value.int .i64) (inR_wrap g_1))
        refine V_run f_12 1 (by kernel_rfl) (fun a_12 f_13 => ?_)
        refine W_end rfl (T_n ?_)
        obtain rfl := Option.some.inj hF_7
        exact ⟨⟨m_2, s_1 + 1⟩, Nat.lt_succ_self _, M_1, hM_1, hn_1, f_13.keep (ks := [0, 1, 7, 8]) (by kernel_rfl), p_2⟩
    · have k_4 : ¬ (s_1 < ((d0.length : Nat) : Int)) := iff_f decide_eq_true_iff h_1
      have hF_8 := cnd_f h_1 hs_1
      refine wp_exit (T_x (T_x ?_))
      obtain rfl := Option.some.inj hF_8
      exact .inr ⟨rfl, (), (Option.some.inj hn_1).symm, M_1, hM_1, f_4.keep (ks := []) (by kernel_rfl), p_1⟩
  · rintro _ a_15 w_5 (⟨rfl, y_1, rfl, M_2, hM_2, f_14, p_3⟩ | ⟨rfl, y_2, rfl, M_3, hM_3, f_15, p_4⟩)
    · refine B_r (T_r ?_)
      refine E_ret1 f_14 rfl (by kernel_rfl : Vc.look _ 4 = some (.int .i64 y_1)) ?_
      obtain rfl := Option.some.inj hF_1
      exact ⟨_, rfl, M_2, hM_2, p_3, rfl⟩
    · refine B_x (T_n (R_seq (R_reg ?_)))
      refine V_run f_15 1 (by kernel_rfl) (fun a_16 f_16 => ?_)
      refine W_end rfl (T_n (wp_ret ?_))
      refine E_ret1 f_16 rfl (by kernel_rfl : Vc.look _ 4 = some (.int .i64 (-1))) ?_
      obtain rfl := Option.some.inj hF_1
      exact ⟨_, rfl, M_3, hM_3, p_4, rfl⟩

def slices_ContainsFuncapi_Value_api_Value_2 (n : Nat) (rec_schema_value : T_api_Value → Int → Option Bool) (d0 : List T_api_Value) : Option Bool :=
  (slices_IndexFuncapi_Value_api_Value_2 n rec_schema_value d0).bind fun x_1 =>
  some ((decide ((0 : Int) ≤ x_1)))
theorem slices_ContainsFuncapi_Value_api_Value_2_ok (n : Nat) (rec_schema_value : T_api_Value → Int → Option Bool) (hrec_schema_value : ∀ (M : Mem) (hG : GL M) (ad0 : Addr) (c0 : List Value) (d0 : T_api_Value) (h0 : Rep M (emb_T_api_Value d0) c0) (q0 : ∀ j v, c0[j]? = some v → M.cell? (ad0.add j) = some v) (d1 : Int) (r : Bool) (hF : rec_schema_value d0 d1 = some r), Ok Tryd.prog M 51 [.pointer (some ad0), .int .i8 d1] (fun _ v => v = .bool r)) (M : Mem) (hG : GL M) (A0 : Option Addr) (cap0 : Nat) (d0 : List T_api_Value) (h0 : Sli M 6 emb_T_api_Value A0 cap0 d0) (r : Bool) (hF : slices_ContainsFuncapi_Value_api_Value_2 n rec_schema_value d0 = some r) : Ok Tryd.prog M 79 [.slice A0 d0.length cap0, .func (.func 80) #[] #[]] (fun _ v => v = .bool r) := by
  unfold slices_ContainsFuncapi_Value_api_Value_2 at hF
  intro M1 hM0 w0 H w p0
  replace hG := GL.mono hM0 hG
  replace h0 := h0.mono hM0
  refine R_enter 9 Tryd.func79 rfl rfl (by simp) (fun a0 f0 => ?_)
  refine R_seq (R_reg ?_)
  refine V_run f0 1 (by kernel_rfl) (fun a_1 f_1 => ?_)
  refine W_end rfl (T_n (R_seq (R_reg ?_)))
  refine V_run f_1 2 (by kernel_rfl) (fun a_2 f_2 => ?_)
  obtain ⟨x_1, hx_1, hF_1⟩ := bind_some' hF
  refine V_okv f_2 p0 (slices_IndexFuncapi_Value_api_Value_2_ok n rec_schema_value hrec_schema_value _ hG A0 cap0 d0 h0 x_1 hx_1) (by kernel_rfl) (fun _ => by kernel_rfl) (fun w_1 p_1 a_3 f_3 => ?_)
  refine V_run f_3 2 (by kernel_rfl) (fun a_4 f_4 => ?_)
  refine W_end rfl (T_n (wp_ret ?_))
  refine E_ret1 f_4 rfl (by kernel_rfl : Vc.look _ 4 = some (.bool (decide ((0 : Int) ≤ x_1)))) ?_
  obtain rfl := Option.some.inj hF_1
  exact ⟨_, rfl, M1, (Mem.le_refl _), p_1, rfl⟩

def schema_value_b (n : Nat) (rec_schema_value : T_api_Value → Int → Option Bool) (d0 : T_api_Value) (d1 : Int) : Option Bool :=
  ((bif (!(decide (d0.fKind = d1))) then
      (some ((true)))
    else
      (tree_Check n d0).bind fun x_1 =>
      some ((!(decide (x_1 = 0)))) : Option Bool)).bind fun y_1 =>
  bif y_1 then
    (some ((false)))
  else
    bif (decide (d1 = 3)) then
      ((print_Word n d0.fText).bind fun x_2 =>
      some ((x_2)))
    else
      bif (decide (d1 = 4)) then
        (bif (decide (((d0.fList.length : Nat) : Int) ≤ 8)) then
          ((slices_ContainsFuncapi_Value_api_Value_2 n rec_schema_value d0.fList).bind fun x_3 =>
          some ((!x_3)))
        else
          some ((false)))
      else
        some ((true))
set_option maxHeartbeats 2000000 in
theorem schema_value_b_ok (n : Nat) (rec_schema_value : T_api_Value → Int → Option Bool) (hrec_schema_value : ∀ (M : Mem) (hG : GL M) (ad0 : Addr) (c0 : List Value) (d0 : T_api_Value) (h0 : Rep M (emb_T_api_Value d0) c0) (q0 : ∀ j v, c0[j]? = some v → M.cell? (ad0.add j) = some v) (d1 : Int) (r : Bool) (hF : rec_schema_value d0 d1 = some r), Ok Tryd.prog M 51 [.pointer (some ad0), .int .i8 d1] (fun _ v => v = .bool r)) (M : Mem) (hG : GL M) (ad0 : Addr) (c0 : List Value) (d0 : T_api_Value) (h0 : Rep M (emb_T_api_Value d0) c0) (q0 : ∀ j v, c0[j]? = some v → M.cell? (ad0.add j) = some v) (d1 : Int) (r : Bool) (hF : schema_value_b n rec_schema_value d0 d1 = some r) : Ok Tryd.prog M 51 [.pointer (some ad0), .int .i8 d1] (fun _ v => v = .bool r) := by
  unfold schema_value_b at hF
  intro M1 hM0 w0 H w p0
  replace hG := GL.mono hM0 hG
  replace h0 := Rep.mono hM0 _ _ h0
  replace q0 := fun j v h => hM0.cell (q0 j v h)
  obtain ⟨A_1, cap_1, A_2, cap_2, rfl, h_1, h_2⟩ := T_api_Value.opn h0
  refine R_enter 42 Tryd.func51 rfl rfl (by simp) (fun a0 f0 => ?_)
  refine R_seq (R_reg ?_)
  refine V_run f0 1 (by kernel_rfl) (fun a_1 f_1 => ?_)
  refine W_end rfl (T_n (R_seq (R_seq ?_)))
  obtain ⟨j_1, hj_1, hF_1⟩ := bind_some' hF
  refine R_mid (fun a_10 w_2 => ∃ y_1 : Bool, j_1 = y_1 ∧ ∃ M_1 : Mem, M1.le M_1 ∧ Frm 42 [(0, .pointer (some ad0)), (1, .int .i8 d1), (17, .bool y_1)] a_10 ∧ Hp w0 M_1 (H) w_2) ?_ ?_
  · refine R_reg ?_
    refine V_run f_1 3 (by kernel_rfl) (fun a_2 f_2 => ?_)
    refine V_ld f_2 p0 q0 0 rfl (by kernel_rfl) (by kernel_rfl) (fun a_3 f_3 => ?_)
    refine V_run f_3 3 (by kernel_rfl) (fun a_4 f_4 => ?_)
    rcases Bool.eq_false_or_eq_true (!(decide (d0.fKind = d1))) with h_3 | h_3
    · have k_1 : ¬ (d0.fKind = d1) := (not_iff decide_eq_true_iff).1 h_3
      have hF_2 := cnd_t h_3 hj_1
      have f_5 := Frm.set f_4 11 (v := .bool (!(decide (d0.fKind = d1)))) (v' := .bool true) (by kernel_rfl) (congrArg Value.bool h_3)
      refine V_run f_5 6 (by kernel_rfl) (fun a_5 f_6 => ?_)
      refine W_end rfl (T_n ?_)
      exact ⟨(true), (Option.some.inj hF_2).symm, M1, (Mem.le_refl _), f_6.keep (ks := [0, 1, 17]) (by kernel_rfl), p0⟩
    · have k_2 : ¬ (¬ (d0.fKind = d1)) := iff_f (not_iff decide_eq_true_iff) h_3
      have hF_3 := cnd_f h_3 hj_1
      have f_7 := Frm.set f_4 11 (v := .bool (!(decide (d0.fKind = d1)))) (v' := .bool false) (by kernel_rfl) (congrArg Value.bool h_3)
      refine V_run f_7 2 (by kernel_rfl) (fun a_6 f_8 => ?_)
      refine V_eq (v := .agg #[.int .i8 d0.fKind, .bool d0.fBool, .int .i64 d0.fNum, S d0.fText, .slice A_1 d0.fList.length cap_1, .slice A_2 d0.fKeys.length cap_2]) f_8 (by kernel_rfl) (X_loadN (cs := [.int .i8 d0.fKind, .bool d0.fBool, .int .i64 d0.fNum, S d0.fText, .slice A_1 d0.fList.length cap_1, .slice A_2 d0.fKeys.length cap_2]) rfl (ad := ad0) (by kernel_rfl) (by kernel_rfl) (fun j v h => p0.cell (q0 j v h))) (fun a_7 f_9 => ?_)
      obtain ⟨x_1, hx_1, hF_4⟩ := bind_some' hF_3
      refine V_okv f_9 p0 (tree_Check_ok n _ hG _ d0 (T_api_Value.shutx (x := d0) h_1 h_2) x_1 hx_1) (by kernel_rfl) (fun _ => by kernel_rfl) (fun w_1 p_1 a_8 f_10 => ?_)
      refine V_run f_10 2 (by kernel_rfl) (fun a_9 f_11 => ?_)
      refine W_end rfl (T_n ?_)
      exact ⟨(!(decide (x_1 = 0))), (Option.some.inj hF_4).symm, M1, (Mem.le_refl _), f_11.keep (ks := [0, 1, 17]) (by kernel_rfl), p_1⟩
  · rintro a_10 w_2 ⟨y_1, hq_1, M_1, hM_1, f_12, p_2⟩
    subst j_1
    refine T_n ?_
    refine R_cond f_12 (b := y_1) (by kernel_rfl) (by kernel_rfl) (fun h_4 => ?_) (fun h_4 => ?_)
    · have hF_5 := cnd_t h_4 hF_1
      refine R_seq (R_reg ?_)
      refine V_run f_12 1 (by kernel_rfl) (fun a_11 f_13 => ?_)
      refine W_end rfl (T_n (wp_ret (T_r ?_)))
      refine E_ret1 f_13 rfl (by kernel_rfl : Vc.look _ 4 = some (.bool false)) ?_
      obtain rfl := Option.some.inj hF_5
      exact ⟨_, rfl, M_1, hM_1, p_2, rfl⟩
    · have hF_6 := cnd_f h_4 hF_1
      refine wp_skip (T_n (R_seq (R_seq (R_reg ?_))))
      refine V_run f_12 1 (by kernel_rfl) (fun a_12 f_14 => ?_)
      refine W_end rfl (T_n (wp_block (R_seq (R_reg ?_))))
      refine V_run f_14 2 (by kernel_rfl) (fun a_13 f_15 => ?_)
      refine W_end rfl (T_n ?_)
      refine R_cond f_15 (b := decide (d1 = 3)) (by kernel_rfl) (by kernel_rfl) (fun h_5 => ?_) (fun h_5 => ?_)
      · have k_5 : d1 = 3 := decide_eq_true_iff.1 h_5
        have hF_7 := cnd_t h_5 hF_6
        refine R_seq (R_reg ?_)
        refine V_run f_15 3 (by kernel_rfl) (fun a_14 f_16 => ?_)
        refine V_ld f_16 p_2 (fzu hM_1 q0) 3 rfl (by kernel_rfl) (by kernel_rfl) (fun a_15 f_17 => ?_)
        obtain ⟨x_2, hx_2, hF_8⟩ := bind_some' hF_7
        refine V_okv f_17 p_2 (print_Word_ok n _ (GL.mono hM_1 hG) d0.fText x_2 hx_2) (by kernel_rfl) (fun _ => by kernel_rfl) (fun w_3 p_3 a_16 f_18 => ?_)
        refine V_run f_18 1 (by kernel_rfl) (fun a_17 f_19 => ?_)
        refine W_end rfl (T_n (wp_ret (B_r (T_r ?_))))
        refine E_ret1 f_19 rfl (by kernel_rfl : Vc.look _ 4 = some (.bool x_2)) ?_
        obtain rfl := Option.some.inj hF_8
        exact ⟨_, rfl, M_1, hM_1, p_3, rfl⟩
      · have k_6 : ¬ (d1 = 3) := iff_f decide_eq_true_iff h_5
        have hF_9 := cnd_f h_5 hF_6
        refine R_seq (R_reg ?_)
        refine V_run f_15 2 (by kernel_rfl) (fun a_18 f_20 => ?_)
        refine W_end rfl (T_n ?_)
        refine R_cond f_20 (b := decide (d1 = 4)) (by kernel_rfl) (by kernel_rfl) (fun h_6 => ?_) (fun h_6 => ?_)
        · have k_7 : d1 = 4 := decide_eq_true_iff.1 h_6
          have hF_10 := cnd_t h_6 hF_9
          refine R_seq (R_reg ?_)
          refine V_run f_20 3 (by kernel_rfl) (fun a_19 f_21 => ?_)
          refine V_ld f_21 p_2 (fzu hM_1 q0) 4 rfl (by kernel_rfl) (by kernel_rfl) (fun a_20 f_22 => ?_)
          refine V_run f_22 3 (by kernel_rfl) (fun a_21 f_23 => ?_)
          rcases Bool.eq_false_or_eq_true (decide (((d0.fList.length : Nat) : Int) ≤ 8)) with h_7 | h_7
          · have k_8 : ((d0.fList.length : Nat) : Int) ≤ 8 := decide_eq_true_iff.1 h_7
            have hF_11 := cnd_t h_7 hF_10
            have f_24 := Frm.set f_23 34 (v := .bool (decide (((d0.fList.length : Nat) : Int) ≤ 8))) (v' := .bool true) (by kernel_rfl) (congrArg Value.bool h_7)
            refine V_run f_24 3 (by kernel_rfl) (fun a_22 f_25 => ?_)
            refine V_ld f_25 p_2 (fzu hM_1 q0) 4 rfl (by kernel_rfl) (by kernel_rfl) (fun a_23 f_26 => ?_)
            obtain ⟨x_3, hx_3, hF_12⟩ := bind_some' hF_11
            refine V_okv f_26 p_2 (slices_ContainsFuncapi_Value_api_Value_2_ok n rec_schema_value hrec_schema_value _ (GL.mono hM_1 hG) A_1 cap_1 d0.fList (h_1.mono hM_1) x_3 hx_3) (by kernel_rfl) (fun _ => by kernel_rfl) (fun w_4 p_4 a_24 f_27 => ?_)
            refine V_run f_27 3 (by kernel_rfl) (fun a_25 f_28 => ?_)
            refine W_end rfl (T_n (wp_ret (B_r (T_r ?_))))
            refine E_ret1 f_28 rfl (by kernel_rfl : Vc.look _ 4 = some (.bool !x_3)) ?_
            obtain rfl := Option.some.inj hF_12
            exact ⟨_, rfl, M_1, hM_1, p_4, rfl⟩
          · have k_9 : ¬ (((d0.fList.length : Nat) : Int) ≤ 8) := iff_f decide_eq_true_iff h_7
            have hF_13 := cnd_f h_7 hF_10
            have f_29 := Frm.set f_23 34 (v := .bool (decide (((d0.fList.length : Nat) : Int) ≤ 8))) (v' := .bool false) (by kernel_rfl) (congrArg Value.bool h_7)
            refine V_run f_29 8 (by kernel_rfl) (fun a_26 f_30 => ?_)
            refine W_end rfl (T_n (wp_ret (B_r (T_r ?_))))
            refine E_ret1 f_30 rfl (by kernel_rfl : Vc.look _ 4 = some (.bool false)) ?_
            obtain rfl := Option.some.inj hF_13
            exact ⟨_, rfl, M_1, hM_1, p_2, rfl⟩
        · have k_10 : ¬ (d1 = 4) := iff_f decide_eq_true_iff h_6
          have hF_14 := cnd_f h_6 hF_9
          refine wp_skip (B_n (T_n (R_seq (R_reg ?_))))
          refine V_run f_20 1 (by kernel_rfl) (fun a_27 f_31 => ?_)
          refine W_end rfl (T_n (wp_ret ?_))
          refine E_ret1 f_31 rfl (by kernel_rfl : Vc.look _ 4 = some (.bool true)) ?_
          obtain rfl := Option.some.inj hF_14
          exact ⟨_, rfl, M_1, hM_1, p_2, rfl⟩
def schema_value_k (n : Nat) : Nat → T_api_Value → Int → Option Bool
  | 0 => fun _ _ => none
  | k + 1 => schema_value_b n (schema_value_k n k)
def schema_value (n : Nat) (d0 : T_api_Value) (d1 : Int) : Option Bool := schema_value_k n n d0 d1
theorem schema_value_ok (n : Nat) (M : Mem) (hG : GL M) (ad0 : Addr) (c0 : List Value) (d0 : T_api_Value) (h0 : Rep M (emb_T_api_Value d0) c0) (q0 : ∀ j v, c0[j]? = some v → M.cell? (ad0.add j) = some v) (d1 : Int) (r : Bool) (hF : schema_value n d0 d1 = some r) : Ok Tryd.prog M 51 [.pointer (some ad0), .int .i8 d1] (fun _ v => v = .bool r) := by
  have key : ∀ (k : Nat) (M : Mem) (hG : GL M) (ad0 : Addr) (c0 : List Value) (d0 : T_api_Value) (h0 : Rep M (emb_T_api_Value d0) c0) (q0 : ∀ j v, c0[j]? = some v → M.cell? (ad0.add j) = some v) (d1 : Int) (r : Bool) (hF : schema_value_k n k d0 d1 = some r), Ok Tryd.prog M 51 [.pointer (some ad0), .int .i8 d1] (fun _ v => v = .bool r) := by
    intro k
    induction k with
    | zero => intro M hG ad0 c0 d0 h0 q0 d1 r hF; simp [schema_value_k] at hF
    | succ k ih => intro M hG ad0 c0 d0 h0 q0 d1 r hF; exact schema_value_b_ok n (schema_value_k n k) ih M hG ad0 c0 d0 h0 q0 d1 r hF
  exact key n M hG ad0 c0 d0 h0 q0 d1 r hF

def schema_empty (n : Nat) (d0 : T_api_Value) : Option Bool :=
  bif (decide (d0.fKind = 0)) then
    ((tree_Check n d0).bind fun x_1 =>
    some ((decide (x_1 = 0))))
  else
    some ((false))
set_option maxHeartbeats 2000000 in
theorem schema_empty_ok (n : Nat) (M : Mem) (hG : GL M) (ad0 : Addr) (c0 : List Value) (d0 : T_api_Value) (h0 : Rep M (emb_T_api_Value d0) c0) (q0 : ∀ j v, c0[j]? = some v → M.cell? (ad0.add j) = some v) (r : Bool) (hF : schema_empty n d0 = some r) : Ok Tryd.prog M 52 [.pointer (some ad0)] (fun _ v => v = .bool r) := by
  unfold schema_empty at hF
  intro M1 hM0 w0 H w p0
  replace hG := GL.mono hM0 hG
  replace h0 := Rep.mono hM0 _ _ h0
  replace q0 := fun j v h => hM0.cell (q0 j v h)
  obtain ⟨A_1, cap_1, A_2, cap_2, rfl, h_1, h_2⟩ := T_api_Value.opn h0
  refine R_enter 15 Tryd.func52 rfl rfl (by simp) (fun a0 f0 => ?_)
  refine R_seq (R_reg ?_)
  refine V_run f0 1 (by kernel_rfl) (fun a_1 f_1 => ?_)
  refine W_end rfl (T_n (R_seq (R_reg ?_)))
  refine V_run f_1 3 (by kernel_rfl) (fun a_2 f_2 => ?_)
  refine V_ld f_2 p0 q0 0 rfl (by kernel_rfl) (by kernel_rfl) (fun a_3 f_3 => ?_)
  refine V_run f_3 2 (by kernel_rfl) (fun a_4 f_4 => ?_)
  rcases Bool.eq_false_or_eq_true (decide (d0.fKind = 0)) with h_3 | h_3
  · have k_1 : d0.fKind = 0 := decide_eq_true_iff.1 h_3
    have hF_1 := cnd_t h_3 hF
    have f_5 := Frm.set f_4 8 (v := .bool (decide (d0.fKind = 0))) (v' := .bool true) (by kernel_rfl) (congrArg Value.bool h_3)
    refine V_run f_5 2 (by kernel_rfl) (fun a_5 f_6 => ?_)
    refine V_eq (v := .agg #[.int .i8 d0.fKind, .bool d0.fBool, .int .i64 d0.fNum, S d0.fText, .slice A_1 d0.fList.length cap_1, .slice A_2 d0.fKeys.length cap_2]) f_6 (by kernel_rfl) (X_loadN (cs := [.int .i8 d0.fKind, .bool d0.fBool, .int .i64 d0.fNum, S d0.fText, .slice A_1 d0.fList.length cap_1, .slice A_2 d0.fKeys.length cap_2]) rfl (ad := ad0) (by kernel_rfl) (by kernel_rfl) (fun j v h => p0.cell (q0 j v h))) (fun a_6 f_7 => ?_)
    obtain ⟨x_1, hx_1, hF_2⟩ := bind_some' hF_1
    refine V_okv f_7 p0 (tree_Check_ok n _ hG _ d0 (T_api_Value.shutx (x := d0) h_1 h_2) x_1 hx_1) (by kernel_rfl) (fun _ => by kernel_rfl) (fun w_1 p_1 a_7 f_8 => ?_)
    refine V_run f_8 3 (by kernel_rfl) (fun a_8 f_9 => ?_)
    refine W_end rfl (T_n (wp_ret ?_))
    refine E_ret1 f_9 rfl (by kernel_rfl : Vc.look _ 2 = some (.bool (decide (x_1 = 0)))) ?_
    obtain rfl := Option.some.inj hF_2
    exact ⟨_, rfl, M1, (Mem.le_refl _), p_1, rfl⟩
  · have k_2 : ¬ (d0.fKind = 0) := iff_f decide_eq_true_iff h_3
    have hF_3 := cnd_f h_3 hF
    have f_10 := Frm.set f_4 8 (v := .bool (decide (d0.fKind = 0))) (v' := .bool false) (by kernel_rfl) (congrArg Value.bool h_3)
    refine V_run f_10 7 (by kernel_rfl) (fun a_9 f_11 => ?_)
    refine W_end rfl (T_n (wp_ret ?_))
    refine E_ret1 f_11 rfl (by kernel_rfl : Vc.look _ 2 = some (.bool false)) ?_
    obtain rfl := Option.some.inj hF_3
    exact ⟨_, rfl, M1, (Mem.le_refl _), p0, rfl⟩

def schema_Check_s1 (n : Nat) (d0 : List UInt8) (d1 : List T_api_Given) (s_1 : Int) : Option (Lp Int (Sum Unit Unit)) :=
    bif (decide (s_1 < ((d1.length : Nat) : Int))) then
      ((getI d1 s_1).bind fun x_1 =>
      (schema_Find n d0 x_1.fName).bind fun x_2 =>
      (schema_value n x_1.fV x_2.1.fKind).bind fun x_3 =>
      ((bif x_1.fUnknown then
          (bif (!(decide (x_2.1.fKind = 2))) then
            ((schema_empty n x_1.fV).bind fun x_4 =>
            some ((x_4)))
          else
            some ((false)))
        else
          some ((x_3)) : Option Bool)).bind fun y_1 =>
      bif !x_2.2 then
        (some (.br (.inl ())))
      else
        bif !y_1 then
          (some (.br (.inl ())))
        else
          bif (decide ((0 : Int) < s_1)) then
            (need (inR .i64 (s_1 - 1)) <|
            (getI d1 (s_1 - 1)).bind fun x_5 =>
            bif (Op.bytesLess x_1.fName x_5.fName || x_1.fName == x_5.fName) then
              (some (.br (.inl ())))
            else
              need (inR .i64 (s_1 + 1)) <|
              some (.nx (s_1 + 1)))
          else
            need (inR .i64 (s_1 + 1)) <|
            some (.nx (s_1 + 1)))
    else
      some (.br (.inr ()))
def schema_Check (n : Nat) (d0 : List UInt8) (d1 : List T_api_Given) : Option Int :=
  bif (!(kindIn d0)) then
    (some ((90 : Int)))
  else
    (loopF (schema_Check_s1 n d0 d1) n (0 : Int)).bind fun b_6 =>
    (match b_6 with 
    | .inl y_2 => some ((91 : Int)) 
    | .inr y_3 => some ((0 : Int)))
set_option maxHeartbeats 2000000 in
theorem schema_Check_ok (n : Nat) (M : Mem) (hG : GL M) (d0 : List UInt8) (A1 : Option Addr) (cap1 : Nat) (d1 : List T_api_Given) (h1 : Sli M 8 emb_T_api_Given A1 cap1 d1) (r : Int) (hF : schema_Check n d0 d1 = some r) : Ok Tryd.prog M 23 [S d0, .slice A1 d1.length cap1] (fun _ v => v = .int .i64 r) := by
  unfold schema_Check at hF
  intro M1 hM0 w0 H w p0
  replace hG := GL.mono hM0 hG
  replace h1 := h1.mono hM0
  refine R_enter 69 Tryd.func23 rfl rfl (by simp) (fun a0 f0 => ?_)
  refine R_seq (R_reg ?_)
  refine V_run f0 1 (by kernel_rfl) (fun a_1 f_1 => ?_)
  refine W_end rfl (T_n (R_seq (R_seq (R_reg ?_))))
  refine V_ok f_1 p0 (all_ok _) (by kernel_rfl) (fun _ => by kernel_rfl) (fun u_1 M_1 w_1 hM_1 p_1 q_1 a_2 f_2 => ?_)
  obtain ⟨b_1, b_2, b_3, b_4, b_5, rfl, hA_1⟩ := q_1
  refine V_run f_2 1 (by kernel_rfl) (fun a_3 f_3 => ?_)
  refine V_eq (v := .tuple #[.map (blkOf b_2 b_3 b_4 b_5 d0), .bool (kindIn d0)]) f_3 (by kernel_rfl) (X_all2 (k := d0) (kt := 9) (et := 70) hA_1 p_1 rfl (by kernel_rfl) (by kernel_rfl) (by kernel_rfl) (strKey (by kernel_rfl)) (by kernel_rfl)) (fun a_4 f_4 => ?_)
  refine V_run f_4 5 (by kernel_rfl) (fun a_5 f_5 => ?_)
  refine W_end rfl (T_n (R_seq (R_reg ?_)))
  refine V_run f_5 2 (by kernel_rfl) (fun a_6 f_6 => ?_)
  refine W_end rfl (T_n ?_)
  refine R_cond f_6 (b := !(kindIn d0)) (by kernel_rfl) (by kernel_rfl) (fun h_1 => ?_) (fun h_1 => ?_)
  · have k_1 : (kindIn d0) = false := by simpa using h_1
    have hF_1 := cnd_t h_1 hF
    refine R_seq (R_reg ?_)
    refine V_run f_6 1 (by kernel_rfl) (fun a_7 f_7 => ?_)
    refine W_end rfl (T_n (wp_ret (T_r ?_)))
    refine E_ret1 f_7 rfl (by kernel_rfl : Vc.look _ 4 = some (.int .i64 90)) ?_
    obtain rfl := Option.some.inj hF_1
    exact ⟨_, rfl, M_1, hM_1, p_1, rfl⟩
  · have k_2 : (kindIn d0) = true := by simpa using h_1
    have hF_2 := cnd_f h_1 hF
    refine wp_skip (T_n (R_seq (R_seq (R_reg ?_))))
    refine V_run f_6 3 (by kernel_rfl) (fun a_8 f_8 => ?_)
    refine W_end rfl (T_n (wp_block ?_))
    obtain ⟨b_6, hL_1, hF_3⟩ := bind_some' hF_2
    refine wp_mono (Q := fun e a w => (e = .ret ∧ (∃ y_2 : Unit, b_6 = .inl y_2 ∧ ∃ M_6 : Mem, M_1.le M_6 ∧ Frm 69 [(4, .int .i64 91)] a ∧ Hp w0 M_6 (H) w)) ∨ (e = .exit 0 ∧ (∃ y_3 : Unit, b_6 = .inr y_3 ∧ ∃ M_7 : Mem, M_1.le M_7 ∧ Frm 69 [] a ∧ Hp w0 M_7 (H) w))) (R_loop (n := 69) (w0 := w0) (M := M_1) (fun (x : Nat × Int) => match x with | (m_1, s_1) => [(0, S d0), (1, .slice A1 d1.length cap1), (20, .slice A1 d1.length cap1), (21, .int .i64 ((d1.length : Nat) : Int)), (22, .int .i64 s_1)]) (fun (x : Nat × Int) => match x with | (m_1, s_1) => (H)) (fun (x : Nat × Int) (MM : Mem) => match x with | (m_1, s_1) => loopF (schema_Check_s1 n d0 d1) m_1 s_1 = some b_6) (fun (x : Nat × Int) => match x with | (m_1, s_1) => m_1) (n, (0 : Int)) (f_8.keep (ks := [0, 1, 20, 21, 22]) (by kernel_rfl)) p_1 hL_1 ?_) ?_
    · rintro ⟨m_1, s_1⟩ M_2 a_9 w_2 hM_2 I_1 f_9 p_2
      have I_1L := I_1
      obtain ⟨m_2, r_1, rfl, hs_1, hn_1⟩ := loop_step I_1L
      unfold schema_Check_s1 at hs_1
      refine R_seq (R_reg ?_)
      refine V_run f_9 1 (by kernel_rfl) (fun a_10 f_10 => ?_)
      refine W_end rfl (T_n (R_seq ?_))
      refine R_cond f_10 (b := decide (s_1 < ((d1.length : Nat) : Int))) (by kernel_rfl) (by kernel_rfl) (fun h_2 => ?_) (fun h_2 => ?_)
      · have k_3 : s_1 < ((d1.length : Nat) : Int) := decide_eq_true_iff.1 h_2
        have hF_4 := cnd_t h_2 hs_1
        refine wp_skip (T_n (R_seq (wp_block (R_seq (R_reg ?_)))))
        refine V_run f_10 1 (by kernel_rfl) (fun a_11 f_11 => ?_)
        obtain ⟨x_1, hx_1, hF_5⟩ := bind_some' hF_4
        obtain ⟨ad_1, c_1, e_1, hl_1, hr_1, hc_1⟩ := Sli.at_ (h1.mono (hM_1.trans hM_2)) hx_1
        clear hl_1
        obtain ⟨A_1, cap_1, A_2, cap_2, rfl, h_3, h_4⟩ := T_api_Given.opn hr_1
        refine V_eq (v := .pointer (some (ad_1.add (s_1.toNat * 8)))) f_11 (by kernel_rfl) (X_indexAddrA e_1 rfl (len := d1.length) (cap := cap1) (k := .i64) (i := s_1) (by kernel_rfl) (by kernel_rfl) (e := 35) (by kernel_rfl) (sz := 8) (by kernel_rfl) (getI_nn hx_1) (getI_lt hx_1)) (fun a_12 f_12 => ?_)
        refine V_eq (v := .agg #[S x_1.fName, .bool x_1.fUnknown, .int .i8 x_1.fV.fKind, .bool x_1.fV.fBool, .int .i64 x_1.fV.fNum, S x_1.fV.fText, .slice A_1 x_1.fV.fList.length cap_1, .slice A_2 x_1.fV.fKeys.length cap_2]) f_12 (by kernel_rfl) (X_loadN (cs := [S x_1.fName, .bool x_1.fUnknown, .int .i8 x_1.fV.fKind, .bool x_1.fV.fBool, .int .i64 x_1.fV.fNum, S x_1.fV.fText, .slice A_1 x_1.fV.fList.length cap_1, .slice A_2 x_1.fV.fKeys.length cap_2]) rfl (ad := ad_1.add (s_1.toNat * 8)) (by kernel_rfl) (by kernel_rfl) (fun j v h => p_2.cell (hc_1 j v h))) (fun a_13 f_13 => ?_)
        refine V_alloc f_13 p_2 (.cells #[S [], .bool false, .int .i8 0, .bool false, .int .i64 0, S [], .slice none 0 0, .slice none 0 0] 35 (0, 0)) (by kernel_rfl) (fun _ => by kernel_rfl) (fun b_7 w_3 p_3 a_14 f_14 => ?_)
        refine V_run f_14 1 (by kernel_rfl) (fun a_15 f_15 => ?_)
        refine W_storeN (vs := [S x_1.fName, .bool x_1.fUnknown, .int .i8 x_1.fV.fKind, .bool x_1.fV.fBool, .int .i64 x_1.fV.fNum, S x_1.fV.fText, .slice A_1 x_1.fV.fList.length cap_1, .slice A_2 x_1.fV.fKeys.length cap_2]) (j := 0) f_15 p_3 (by kernel_rfl) (by kernel_rfl) rfl rfl (by kernel_rfl) (by kernel_rfl) (by simp [Value.oneCell', S]) (by kernel_rfl) (by simp) (by decide) (cs' := #[S x_1.fName, .bool x_1.fUnknown, .int .i8 x_1.fV.fKind, .bool x_1.fV.fBool, .int .i64 x_1.fV.fNum, S x_1.fV.fText, .slice A_1 x_1.fV.fList.length cap_1, .slice A_2 x_1.fV.fKeys.length cap_2]) rfl (fun w_4 p_4 a_16 f_16 => ?_)
        refine W_end rfl (T_n (R_seq (R_reg ?_)))
        refine V_run f_16 2 (by kernel_rfl) (fun a_17 f_17 => ?_)
        refine V_eq (v := S x_1.fName) f_17 (by kernel_rfl) (X_load1 (v := S x_1.fName) rfl (ad := ⟨b_7, 0, none⟩) (by kernel_rfl) (by kernel_rfl) (p_4.ownCell 0 rfl 0)) (fun a_18 f_18 => ?_)
        obtain ⟨x_2, hx_2, hF_6⟩ := bind_some' hF_5
        refine V_ok f_18 p_4 (schema_Find_ok n _ (GL.mono (hM_1.trans hM_2) hG) d0 x_1.fName x_2 hx_2) (by kernel_rfl) (fun _ => by kernel_rfl) (fun u_2 M_3 w_5 hM_3 p_5 q_2 a_19 f_19 => ?_)
        obtain ⟨c_2, rfl, hr_2⟩ := q_2
        obtain rfl := T_api_Spec.opn hr_2
        refine V_run f_19 3 (by kernel_rfl) (fun a_20 f_20 => ?_)
        refine V_alloc f_20 p_5 (.cells #[S [], .int .i8 0, .bool false] 81 (0, 0)) (by kernel_rfl) (fun _ => by kernel_rfl) (fun b_8 w_6 p_6 a_21 f_21 => ?_)
        refine W_storeN (vs := [S x_2.1.fName, .int .i8 x_2.1.fKind, .bool x_2.1.fReplace]) (j := 0) f_21 p_6 (by kernel_rfl) (by kernel_rfl) rfl rfl (by kernel_rfl) (by kernel_rfl) (by simp [Value.oneCell', S]) (by kernel_rfl) (by simp) (by decide) (cs' := #[S x_2.1.fName, .int .i8 x_2.1.fKind, .bool x_2.1.fReplace]) rfl (fun w_7 p_7 a_22 f_22 => ?_)
        refine V_run f_22 1 (by kernel_rfl) (fun a_23 f_23 => ?_)
        refine W_end rfl (T_n (R_seq (R_reg ?_)))
        refine V_run f_23 2 (by kernel_rfl) (fun a_24 f_24 => ?_)
        refine V_eq (v := .int .i8 x_2.1.fKind) f_24 (by kernel_rfl) (X_load1 (v := .int .i8 x_2.1.fKind) rfl (ad := ⟨b_8, 1, none⟩) (by kernel_rfl) (by kernel_rfl) (p_7.ownCell 0 rfl 1)) (fun a_25 f_25 => ?_)
        have p_8 := p_7.pl [1]
        obtain ⟨M_4, hM_4, p_9, hc_2⟩ := p_8.fzOwn
        obtain ⟨x_3, hx_3, hF_7⟩ := bind_some' hF_6
        refine V_okv f_25 p_9 (schema_value_ok n _ (GL.mono (((hM_1.trans hM_2).trans hM_3).trans hM_4) hG) (⟨b_7, 2, none⟩) [.int .i8 x_1.fV.fKind, .bool x_1.fV.fBool, .int .i64 x_1.fV.fNum, S x_1.fV.fText, .slice A_1 x_1.fV.fList.length cap_1, .slice A_2 x_1.fV.fKeys.length cap_2] x_1.fV (T_api_Value.shutx (x := x_1.fV) (h_3.mono (hM_3.trans hM_4)) (h_4.mono (hM_3.trans hM_4))) (fz_at (hc_2) 2 rfl) x_2.1.fKind x_3 hx_3) (by kernel_rfl) (fun _ => by kernel_rfl) (fun w_8 p_10 a_26 f_26 => ?_)
        refine V_run f_26 1 (by kernel_rfl) (fun a_27 f_27 => ?_)
        refine W_end rfl (T_n (R_seq (R_seq (R_reg ?_))))
        refine V_run f_27 1 (by kernel_rfl) (fun a_28 f_28 => ?_)
        refine V_ld f_28 p_10 hc_2 1 rfl (by kernel_rfl) (by kernel_rfl) (fun a_29 f_29 => ?_)
        refine W_end rfl (T_n ?_)
        obtain ⟨j_1, hj_1, hF_8⟩ := bind_some' hF_7
        refine R_mid (fun a_37 w_10 => ∃ y_1 : Bool, j_1 = y_1 ∧ ∃ M_5 : Mem, M_4.le M_5 ∧ Frm 69 [(0, S d0), (1, .slice A1 d1.length cap1), (7, .int .i64 s_1), (8, .pointer (some (⟨b_7, 0, none⟩))), (10, .bool x_2.2), (11, .bool y_1), (20, .slice A1 d1.length cap1), (21, .int .i64 ((d1.length : Nat) : Int)), (22, .int .i64 s_1)] a_37 ∧ Hp w0 M_5 ((Ent.obj b_8 (.cells #[S x_2.1.fName, .int .i8 x_2.1.fKind, .bool x_2.1.fReplace] 81 (0, 0))) :: H) w_10) ?_ ?_
        · refine R_cond f_29 (b := x_1.fUnknown) (by kernel_rfl) (by kernel_rfl) (fun h_5 => ?_) (fun h_5 => ?_)
          · have hF_9 := cnd_t h_5 hj_1
            refine R_reg ?_
            refine V_run f_29 1 (by kernel_rfl) (fun a_30 f_30 => ?_)
            refine V_eq (v := .int .i8 x_2.1.fKind) f_30 (by kernel_rfl) (X_load1 (v := .int .i8 x_2.1.fKind) rfl (ad := ⟨b_8, 1, none⟩) (by kernel_rfl) (by kernel_rfl) (p_10.ownCell 0 rfl 1)) (fun a_31 f_31 => ?_)
            refine V_run f_31 2 (by kernel_rfl) (fun a_32 f_32 => ?_)
            rcases Bool.eq_false_or_eq_true (!(decide (x_2.1.fKind = 2))) with h_6 | h_6
            · have k_5 : ¬ (x_2.1.fKind = 2) := (not_iff decide_eq_true_iff).1 h_6
              have hF_10 := cnd_t h_6 hF_9
              have f_33 := Frm.set f_32 43 (v := .bool (!(decide (x_2.1.fKind = 2)))) (v' := .bool true) (by kernel_rfl) (congrArg Value.bool h_6)
              refine V_run f_33 1 (by kernel_rfl) (fun a_33 f_34 => ?_)
              obtain ⟨x_4, hx_4, hF_11⟩ := bind_some' hF_10
              refine V_okv f_34 p_10 (schema_empty_ok n _ (GL.mono (((hM_1.trans hM_2).trans hM_3).trans hM_4) hG) ((⟨b_7, 0, none⟩ : Addr).add 2) [.int .i8 x_1.fV.fKind, .bool x_1.fV.fBool, .int .i64 x_1.fV.fNum, S x_1.fV.fText, .slice A_1 x_1.fV.fList.length cap_1, .slice A_2 x_1.fV.fKeys.length cap_2] x_1.fV (T_api_Value.shutx (x := x_1.fV) (h_3.mono (hM_3.trans hM_4)) (h_4.mono (hM_3.trans hM_4))) (fz_at (hc_2) 2 rfl) x_4 hx_4) (by kernel_rfl) (fun _ => by kernel_rfl) (fun w_9 p_11 a_34 f_35 => ?_)
              refine V_run f_35 2 (by kernel_rfl) (fun a_35 f_36 => ?_)
              refine W_end rfl (T_n ?_)
              exact ⟨(x_4), (Option.some.inj hF_11).symm, M_4, (Mem.le_refl _), f_36.keep (ks := [0, 1, 7, 8, 10, 11, 20, 21, 22]) (by kernel_rfl), p_11⟩
            · have k_6 : ¬ (¬ (x_2.1.fKind = 2)) := iff_f (not_iff decide_eq_true_iff) h_6
              have hF_12 := cnd_f h_6 hF_9
              have f_37 := Frm.set f_32 43 (v := .bool (!(decide (x_2.1.fKind = 2)))) (v' := .bool false) (by kernel_rfl) (congrArg Value.bool h_6)
              refine V_run f_37 4 (by kernel_rfl) (fun a_36 f_38 => ?_)
              refine W_end rfl (T_n ?_)
              exact ⟨(false), (Option.some.inj hF_12).symm, M_4, (Mem.le_refl _), f_38.keep (ks := [0, 1, 7, 8, 10, 11, 20, 21, 22]) (by kernel_rfl), p_10⟩
          · have hF_13 := cnd_f h_5 hj_1
            refine wp_skip (T_n ?_)
            exact ⟨(x_3), (Option.some.inj hF_13).symm, M_4, (Mem.le_refl _), f_29.keep (ks := [0, 1, 7, 8, 10, 11, 20, 21, 22]) (by kernel_rfl), p_10⟩
        · rintro a_37 w_10 ⟨y_1, hq_1, M_5, hM_5, f_39, p_12⟩
          subst j_1
          refine T_n (R_seq ?_)
          refine R_draw p_12 (by kernel_rfl) (by kernel_rfl) ?_
          refine Q_run default f_39 3 (fun _ => by kernel_rfl) (fun a_38 f_40 => ?_)
          rcases Bool.eq_false_or_eq_true (!x_2.2) with h_7 | h_7
          · have k_8 : (x_2.2) = false := by simpa using h_7
            have hF_14 := cnd_t h_7 hF_8
            have f_41 := Frm.set f_40 49 (v := .bool !x_2.2) (v' := .bool true) (by kernel_rfl) (congrArg Value.bool h_7)
            refine Q_run default f_41 18 (fun _ => by kernel_rfl) (fun a_39 f_42 => ?_)
            refine Q_end rfl ?_
            intro w_11 p_13
            refine T_n ?_
            refine R_cond_t f_42 (by kernel_rfl) (by kernel_rfl) ?_
            refine R_seq (R_reg ?_)
            refine V_run f_42 1 (by kernel_rfl) (fun a_40 f_43 => ?_)
            refine W_end rfl (T_n (wp_ret (B_r (T_r (T_r ?_)))))
            obtain rfl := Option.some.inj hF_14
            exact .inl ⟨rfl, (), (Option.some.inj hn_1).symm, M_5, (((hM_2.trans hM_3).trans hM_4).trans hM_5), f_43.keep (ks := [4]) (by kernel_rfl), (p_13.dropN 1)⟩
          · have k_9 : (x_2.2) = true := by simpa using h_7
            have hF_15 := cnd_f h_7 hF_8
            have f_44 := Frm.set f_40 49 (v := .bool !x_2.2) (v' := .bool false) (by kernel_rfl) (congrArg Value.bool h_7)
            refine Q_run default f_44 4 (fun _ => by kernel_rfl) (fun a_41 f_45 => ?_)
            rcases Bool.eq_false_or_eq_true (!y_1) with h_8 | h_8
            · have k_10 : (y_1) = false := by simpa using h_8
              have hF_16 := cnd_t h_8 hF_15
              have f_46 := Frm.set f_45 53 (v := .bool !y_1) (v' := .bool true) (by kernel_rfl) (congrArg Value.bool h_8)
              refine Q_run default f_46 14 (fun _ => by kernel_rfl) (fun a_42 f_47 => ?_)
              refine Q_end rfl ?_
              intro w_12 p_14
              refine T_n ?_
              refine R_cond_t f_47 (by kernel_rfl) (by kernel_rfl) ?_
              refine R_seq (R_reg ?_)
              refine V_run f_47 1 (by kernel_rfl) (fun a_43 f_48 => ?_)
              refine W_end rfl (T_n (wp_ret (B_r (T_r (T_r ?_)))))
              obtain rfl := Option.some.inj hF_16
              exact .inl ⟨rfl, (), (Option.some.inj hn_1).symm, M_5, (((hM_2.trans hM_3).trans hM_4).trans hM_5), f_48.keep (ks := [4]) (by kernel_rfl), (p_14.dropN 1)⟩
            · have k_11 : (y_1) = true := by simpa using h_8
              have hF_17 := cnd_f h_8 hF_15
              have f_49 := Frm.set f_45 53 (v := .bool !y_1) (v' := .bool false) (by kernel_rfl) (congrArg Value.bool h_8)
              refine Q_run default f_49 3 (fun _ => by kernel_rfl) (fun a_44 f_50 => ?_)
              rcases Bool.eq_false_or_eq_true (decide ((0 : Int) < s_1)) with h_9 | h_9
              · have k_12 : (0 : Int) < s_1 := decide_eq_true_iff.1 h_9
                have hF_18 := cnd_t h_9 hF_17
                have f_51 := Frm.set f_50 56 (v := .bool (decide ((0 : Int) < s_1))) (v' := .bool true) (by kernel_rfl) (congrArg Value.bool h_9)
                refine Q_run default f_51 1 (fun _ => by kernel_rfl) (fun a_45 f_52 => ?_)
                refine Q_ld f_52 (fzu hM_5 hc_2) 0 rfl (by kernel_rfl) (by kernel_rfl) (fun a_46 f_53 => ?_)
                refine Q_run default f_53 2 (fun _ => by kernel_rfl) (fun a_47 f_54 => ?_)
                obtain ⟨g_1, hF_19⟩ := need_some hF_18
                refine QV_eq (v := .int .i64 (IntKind.wrap .i64 (s_1 - 1))) f_54 (by kernel_rfl) (fun _ pq => by kernel_rfl) (fun a_48 f_55 => ?_)
                have f_56 := Frm.set f_55 61 (v := .int .i64 (IntKind.wrap .i64 (s_1 - 1))) (v' := .int .i64 (s_1 - 1)) (by kernel_rfl) (congrArg (Value.int .i64) (inR_wrap g_1))
                obtain ⟨x_5, hx_5, hF_20⟩ := bind_some' hF_19
                obtain ⟨ad_2, c_3, e_2, hl_2, hr_3, hc_3⟩ := Sli.at_ (h1.mono ((((hM_1.trans hM_2).trans hM_3).trans hM_4).trans hM_5)) hx_5
                clear hl_2
                obtain ⟨A_3, cap_3, A_4, cap_4, rfl, h_10, h_11⟩ := T_api_Given.opn hr_3
                refine QV_eq (v := .pointer (some (ad_2.add ((s_1 - 1).toNat * 8)))) f_56 (by kernel_rfl) (fun _ pq => X_indexAddrA e_2 rfl (len := d1.length) (cap := cap1) (k := .i64) (i := s_1 - 1) (by kernel_rfl) (by kernel_rfl) (e := 35) (by kernel_rfl) (sz := 8) (by kernel_rfl) (getI_nn hx_5) (getI_lt hx_5)) (fun a_49 f_57 => ?_)
                refine Q_run default f_57 1 (fun _ => by kernel_rfl) (fun a_50 f_58 => ?_)
                refine Q_ld f_58 hc_3 0 rfl (by kernel_rfl) (by kernel_rfl) (fun a_51 f_59 => ?_)
                refine QV_eq (v := .bool (Op.bytesLess x_1.fName x_5.fName || x_1.fName == x_5.fName)) f_59 (by kernel_rfl) (fun _ pq => X_strle rfl (l := x_1.fName) (m := x_5.fName) (by kernel_rfl) (by kernel_rfl)) (fun a_52 f_60 => ?_)
                refine Q_run default f_60 2 (fun _ => by kernel_rfl) (fun a_53 f_61 => ?_)
                refine Q_end rfl ?_
                intro w_13 p_15
                refine T_n ?_
                refine R_cond f_61 (b := Op.bytesLess x_1.fName x_5.fName || x_1.fName == x_5.fName) (by kernel_rfl) (by kernel_rfl) (fun h_12 => ?_) (fun h_12 => ?_)
                · have hF_21 := cnd_t h_12 hF_20
                  refine R_seq (R_reg ?_)
                  refine V_run f_61 1 (by kernel_rfl) (fun a_54 f_62 => ?_)
                  refine W_end rfl (T_n (wp_ret (B_r (T_r (T_r ?_)))))
                  obtain rfl := Option.some.inj hF_21
                  exact .inl ⟨rfl, (), (Option.some.inj hn_1).symm, M_5, (((hM_2.trans hM_3).trans hM_4).trans hM_5), f_62.keep (ks := [4]) (by kernel_rfl), (p_15.dropN 1)⟩
                · have hF_22 := cnd_f h_12 hF_20
                  refine wp_skip (B_n (T_n (R_reg ?_)))
                  obtain ⟨g_2, hF_23⟩ := need_some hF_22
                  refine V_run f_61 1 (by kernel_rfl) (fun a_55 f_63 => ?_)
                  have f_64 := Frm.set f_63 68 (v := .int .i64 (IntKind.wrap .i64 (s_1 + 1))) (v' := .int .i64 (s_1 + 1)) (by kernel_rfl) (congrArg (Value.int .i64) (inR_wrap g_2))
                  refine V_run f_64 1 (by kernel_rfl) (fun a_56 f_65 => ?_)
                  refine W_end rfl (T_n ?_)
                  obtain rfl := Option.some.inj hF_23
                  exact ⟨⟨m_2, s_1 + 1⟩, Nat.lt_succ_self _, M_5, (((hM_2.trans hM_3).trans hM_4).trans hM_5), hn_1, f_65.keep (ks := [0, 1, 20, 21, 22]) (by kernel_rfl), (p_15.dropN 1)⟩
              · have k_15 : ¬ ((0 : Int) < s_1) := iff_f decide_eq_true_iff h_9
                have hF_24 := cnd_f h_9 hF_17
                have f_66 := Frm.set f_50 56 (v := .bool (decide ((0 : Int) < s_1))) (v' := .bool false) (by kernel_rfl) (congrArg Value.bool h_9)
                refine Q_run default f_66 11 (fun _ => by kernel_rfl) (fun a_57 f_67 => ?_)
                refine Q_end rfl ?_
                intro w_14 p_16
                refine T_n ?_
                refine R_cond_f f_67 (by kernel_rfl) (by kernel_rfl) ?_
                refine wp_skip (B_n (T_n (R_reg ?_)))
                obtain ⟨g_3, hF_25⟩ := need_some hF_24
                refine V_run f_67 1 (by kernel_rfl) (fun a_58 f_68 => ?_)
                have f_69 := Frm.set f_68 68 (v := .int .i64 (IntKind.wrap .i64 (s_1 + 1))) (v' := .int .i64 (s_1 + 1)) (by kernel_rfl) (congrArg (Value.int .i64) (inR_wrap g_3))
                refine V_run f_69 1 (by kernel_rfl) (fun a_59 f_70 => ?_)
                refine W_end rfl (T_n ?_)
                obtain rfl := Option.some.inj hF_25
                exact ⟨⟨m_2, s_1 + 1⟩, Nat.lt_succ_self _, M_5, (((hM_2.trans hM_3).trans hM_4).trans hM_5), hn_1, f_70.keep (ks := [0, 1, 20, 21, 22]) (by kernel_rfl), (p_16.dropN 1)⟩
      · have k_16 : ¬ (s_1 < ((d1.length : Nat) : Int)) := iff_f decide_eq_true_iff h_2
        have hF_26 := cnd_f h_2 hs_1
        refine wp_exit (T_x (T_x ?_))
        obtain rfl := Option.some.inj hF_26
        exact .inr ⟨rfl, (), (Option.some.inj hn_1).symm, M_2, hM_2, f_10.keep (ks := []) (by kernel_rfl), p_2⟩
    · rintro _ a_62 w_17 (⟨rfl, y_2, rfl, M_6, hM_6, f_71, p_17⟩ | ⟨rfl, y_3, rfl, M_7, hM_7, f_72, p_18⟩)
      · refine B_r (T_r ?_)
        refine E_ret1 f_71 rfl (by kernel_rfl : Vc.look _ 4 = some (.int .i64 91)) ?_
        obtain rfl := Option.some.inj hF_3
        exact ⟨_, rfl, M_6, (hM_1.trans hM_6), p_17, rfl⟩
      · refine B_x (T_n (R_seq (R_reg ?_)))
        refine V_run f_72 1 (by kernel_rfl) (fun a_63 f_73 => ?_)
        refine W_end rfl (T_n (wp_ret ?_))
        refine E_ret1 f_73 rfl (by kernel_rfl : Vc.look _ 4 = some (.int .i64 0)) ?_
        obtain rfl := Option.some.inj hF_3
        exact ⟨_, rfl, M_7, (hM_1.trans hM_7), p_18, rfl⟩
end Go.Proofs.YtalifkcchfkgmaaDoor
