/-
  Printed by a program: of each function its shallow reading, and the proof that the function gives what the reading gives. No condition.
-/
import Derived.Test.YtalifkcchfkgmaaDoorS3
import Derived.Test.YtalifkcchfkgmaaDoorS4
import Derived.Test.YtalifkcchfkgmaaDoorQ4h
import Derived.Test.YtalifkcchfkgmaaDoorQ4i
set_option linter.unusedVariables false
set_option linter.unusedSimpArgs false
namespace Go.Proofs.YtalifkcchfkgmaaDoor
open Go Go.Vc Go.RowKit
def cmp_Or_2_s1 (n : Nat) (d0 : List Int) (s_1 : Int) : Option (Lp Int (Sum Int Unit)) :=
    bif (decide (s_1 < ((d0.length : Nat) : Int))) then
      ((getI d0 s_1).bind fun x_1 =>
      bif (!(decide (x_1 = 0))) then
        (some (.br (.inl x_1)))
      else
        need (inR .i64 (s_1 + 1)) <|
        some (.nx (s_1 + 1)))
    else
      some (.br (.inr ()))
def cmp_Or_2 (n : Nat) (d0 : List Int) : Option Int :=
  (loopF (cmp_Or_2_s1 n d0) n (0 : Int)).bind fun b_1 =>
  (match b_1 with 
  | .inl y_1 => some (y_1) 
  | .inr y_2 => some ((0 : Int)))
set_option maxHeartbeats 2000000 in
theorem cmp_Or_2_ok (n : Nat) (M : Mem) (hG : GL M) (A0 : Option Addr) (cap0 : Nat) (d0 : List Int) (h0 : Sli M 1 (Dat.int .i64) A0 cap0 d0) (r : Int) (hF : cmp_Or_2 n d0 = some r) : Ok Tryd.prog M 45 [.slice A0 d0.length cap0] (fun _ v => v = .int .i64 r) := by
  unfold cmp_Or_2 at hF
  intro M1 hM0 w0 H w p0
  replace hG := GL.mono hM0 hG
  replace h0 := h0.mono hM0
  refine R_enter 18 Tryd.func45 rfl rfl (by simp) (fun a0 f0 => ?_)
  refine R_seq (R_reg ?_)
  refine V_run f0 1 (by kernel_rfl) (fun a_1 f_1 => ?_)
  refine W_end rfl (T_n (R_seq (R_reg ?_)))
  refine V_run f_1 1 (by kernel_rfl) (fun a_2 f_2 => ?_)
  refine W_end rfl (T_n (R_seq (R_seq (R_reg ?_))))
  refine V_run f_2 3 (by kernel_rfl) (fun a_3 f_3 => ?_)
  refine W_end rfl (T_n (wp_block ?_))
  obtain ⟨b_1, hL_1, hF_1⟩ := bind_some' hF
  refine wp_mono (Q := fun e a w => (e = .ret ∧ (∃ y_1 : Int, b_1 = .inl y_1 ∧ ∃ M_2 : Mem, M1.le M_2 ∧ Frm 18 [(2, .int .i64 y_1)] a ∧ Hp w0 M_2 (H) w)) ∨ (e = .exit 0 ∧ (∃ y_2 : Unit, b_1 = .inr y_2 ∧ ∃ M_3 : Mem, M1.le M_3 ∧ Frm 18 [(3, .int .i64 0)] a ∧ Hp w0 M_3 (H) w))) (R_loop (n := 18) (w0 := w0) (M := M1) (fun (x : Nat × Int) => match x with | (m_1, s_1) => [(3, .int .i64 0), (6, .slice A0 d0.length cap0), (7, .int .i64 ((d0.length : Nat) : Int)), (8, .int .i64 s_1)]) (fun (x : Nat × Int) => match x with | (m_1, s_1) => (H)) (fun (x : Nat × Int) (MM : Mem) => match x with | (m_1, s_1) => loopF (cmp_Or_2_s1 n d0) m_1 s_1 = some b_1) (fun (x : Nat × Int) => match x with | (m_1, s_1) => m_1) (n, (0 : Int)) (f_3.keep (ks := [3, 6, 7, 8]) (by kernel_rfl)) p0 hL_1 ?_) ?_
  · rintro ⟨m_1, s_1⟩ M_1 a_4 w_1 hM_1 I_1 f_4 p_1
    have I_1L := I_1
    obtain ⟨m_2, r_1, rfl, hs_1, hn_1⟩ := loop_step I_1L
    unfold cmp_Or_2_s1 at hs_1
    refine R_seq (R_reg ?_)
    refine V_run f_4 1 (by kernel_rfl) (fun a_5 f_5 => ?_)
    refine W_end rfl (T_n (R_seq ?_))
    refine R_cond f_5 (b := decide (s_1 < ((d0.length : Nat) : Int))) (by kernel_rfl) (by kernel_rfl) (fun h_1 => ?_) (fun h_1 => ?_)
    · have k_1 : s_1 < ((d0.length : Nat) : Int) := decide_eq_true_iff.1 h_1
      have hF_2 := cnd_t h_1 hs_1
      refine wp_skip (T_n (R_seq (wp_block (R_seq (R_reg ?_)))))
      obtain ⟨x_1, hx_1, hF_3⟩ := bind_some' hF_2
      obtain ⟨ad_1, c_1, e_1, hl_1, hr_1, hc_1⟩ := Sli.at_ (h0.mono hM_1) hx_1
      clear hl_1
      obtain rfl : c_1 = [.int .i64 x_1] := hr_1
      refine V_eq (v := .pointer (some (ad_1.add (s_1.toNat * 1)))) f_5 (by kernel_rfl) (X_indexAddrA e_1 rfl (len := d0.length) (cap := cap0) (k := .i64) (i := s_1) (by kernel_rfl) (by kernel_rfl) (e := 26) (by kernel_rfl) (sz := 1) (by kernel_rfl) (getI_nn hx_1) (getI_lt hx_1)) (fun a_6 f_6 => ?_)
      refine V_ld f_6 p_1 hc_1 0 rfl (by kernel_rfl) (by kernel_rfl) (fun a_7 f_7 => ?_)
      refine V_run f_7 1 (by kernel_rfl) (fun a_8 f_8 => ?_)
      refine W_end rfl (T_n (R_seq (R_reg ?_)))
      refine V_run f_8 3 (by kernel_rfl) (fun a_9 f_9 => ?_)
      refine W_end rfl (T_n ?_)
      refine R_cond f_9 (b := !(decide (x_1 = 0))) (by kernel_rfl) (by kernel_rfl) (fun h_2 => ?_) (fun h_2 => ?_)
      · have k_2 : ¬ (x_1 = 0) := (not_iff decide_eq_true_iff).1 h_2
        have hF_4 := cnd_t h_2 hF_3
        refine R_seq (R_reg ?_)
        refine V_run f_9 2 (by kernel_rfl) (fun a_10 f_10 => ?_)
        refine W_end rfl (T_n (wp_ret (B_r (T_r (T_r ?_)))))
        obtain rfl := Option.some.inj hF_4
        exact .inl ⟨rfl, x_1, (Option.some.inj hn_1).symm, M_1, hM_1, f_10.keep (ks := [2]) (by kernel_rfl), p_1⟩
      · have k_3 : ¬ (¬ (x_1 = 0)) := iff_f (not_iff decide_eq_true_iff) h_2
        have hF_5 := cnd_f h_2 hF_3
        refine wp_skip (B_n (T_n (R_reg ?_)))
        obtain ⟨g_1, hF_6⟩ := need_some hF_5
        refine V_run f_9 1 (by kernel_rfl) (fun a_11 f_11 => ?_)
        have f_12 := Frm.set f_11 16 (v := .int .i64 (IntKind.wrap .i64 (s_1 + 1))) (v' := .int .i64 (s_1 + 1)) (by kernel_rfl) (congrArg (Value.int .i64) (inR_wrap g_1))
        refine V_run f_12 1 (by kernel_rfl) (fun a_12 f_13 => ?_)
        refine W_end rfl (T_n ?_)
        obtain rfl := Option.some.inj hF_6
        exact ⟨⟨m_2, s_1 + 1⟩, Nat.lt_succ_self _, M_1, hM_1, hn_1, f_13.keep (ks := [3, 6, 7, 8]) (by kernel_rfl), p_1⟩
    · have k_4 : ¬ (s_1 < ((d0.length : Nat) : Int)) := iff_f decide_eq_true_iff h_1
      have hF_7 := cnd_f h_1 hs_1
      refine wp_exit (T_x (T_x ?_))
      obtain rfl := Option.some.inj hF_7
      exact .inr ⟨rfl, (), (Option.some.inj hn_1).symm, M_1, hM_1, f_5.keep (ks := [3]) (by kernel_rfl), p_1⟩
  · rintro _ a_15 w_4 (⟨rfl, y_1, rfl, M_2, hM_2, f_14, p_2⟩ | ⟨rfl, y_2, rfl, M_3, hM_3, f_15, p_3⟩)
    · refine B_r (T_r ?_)
      refine E_ret1 f_14 rfl (by kernel_rfl : Vc.look _ 2 = some (.int .i64 y_1)) ?_
      obtain rfl := Option.some.inj hF_1
      exact ⟨_, rfl, M_2, hM_2, p_2, rfl⟩
    · refine B_x (T_n (R_seq (R_reg ?_)))
      refine V_run f_15 2 (by kernel_rfl) (fun a_16 f_16 => ?_)
      refine W_end rfl (T_n (wp_ret ?_))
      refine E_ret1 f_16 rfl (by kernel_rfl : Vc.look _ 2 = some (.int .i64 0)) ?_
      obtain rfl := Option.some.inj hF_1
      exact ⟨_, rfl, M_3, hM_3, p_3, rfl⟩

def schema_Differ_1 (n : Nat) (d0 : T_api_Given) : Option Bool :=
  some ((d0.fUnknown))
theorem schema_Differ_1_ok (n : Nat) (M : Mem) (hG : GL M) (c0 : List Value) (d0 : T_api_Given) (h0 : Rep M (emb_T_api_Given d0) c0) (r : Bool) (hF : schema_Differ_1 n d0 = some r) : Ok Tryd.prog M 47 [.agg c0.toArray] (fun _ v => v = .bool r) := by
  unfold schema_Differ_1 at hF
  intro M1 hM0 w0 H w p0
  replace hG := GL.mono hM0 hG
  replace h0 := Rep.mono hM0 _ _ h0
  obtain ⟨A_1, cap_1, A_2, cap_2, rfl, h_1, h_2⟩ := T_api_Given.opn h0
  refine R_enter 5 Tryd.func47 rfl rfl (by simp) (fun a0 f0 => ?_)
  refine R_seq (R_reg ?_)
  refine V_box (cs := #[S d0.fName, .bool d0.fUnknown, .int .i8 d0.fV.fKind, .bool d0.fV.fBool, .int .i64 d0.fV.fNum, S d0.fV.fText, .slice A_1 d0.fV.fList.length cap_1, .slice A_2 d0.fV.fKeys.length cap_2]) (T := 35) f0 p0 (by kernel_rfl) (fun _ => by kernel_rfl) (fun b_1 M_1 w_1 hM_1 hc_1 p_1 a_1 f_1 => ?_)
  have hc_2 := fz_box hc_1
  refine V_run f_1 1 (by kernel_rfl) (fun a_2 f_2 => ?_)
  refine W_end rfl (T_n (R_seq (R_reg ?_)))
  refine V_run f_2 1 (by kernel_rfl) (fun a_3 f_3 => ?_)
  refine V_ld f_3 p_1 hc_2 1 rfl (by kernel_rfl) (by kernel_rfl) (fun a_4 f_4 => ?_)
  refine V_run f_4 1 (by kernel_rfl) (fun a_5 f_5 => ?_)
  refine W_end rfl (T_n (wp_ret ?_))
  refine E_ret1 f_5 rfl (by kernel_rfl : Vc.look _ 2 = some (.bool d0.fUnknown)) ?_
  obtain rfl := Option.some.inj hF
  exact ⟨_, rfl, M_1, hM_1, p_1, rfl⟩

def slices_IndexFuncapi_Given_api_Given_s1 (n : Nat) (d0 : List T_api_Given) (s_1 : Int) : Option (Lp Int (Sum Int Unit)) :=
    bif (decide (s_1 < ((d0.length : Nat) : Int))) then
      ((getI d0 s_1).bind fun x_1 =>
      (schema_Differ_1 n x_1).bind fun x_2 =>
      bif x_2 then
        (some (.br (.inl s_1)))
      else
        need (inR .i64 (s_1 + 1)) <|
        some (.nx (s_1 + 1)))
    else
      some (.br (.inr ()))
def slices_IndexFuncapi_Given_api_Given (n : Nat) (d0 : List T_api_Given) : Option Int :=
  (loopF (slices_IndexFuncapi_Given_api_Given_s1 n d0) n (0 : Int)).bind fun b_1 =>
  (match b_1 with 
  | .inl y_1 => some (y_1) 
  | .inr y_2 => some ((-1 : Int)))
set_option maxHeartbeats 2000000 in
theorem slices_IndexFuncapi_Given_api_Given_ok (n : Nat) (M : Mem) (hG : GL M) (A0 : Option Addr) (cap0 : Nat) (d0 : List T_api_Given) (h0 : Sli M 8 emb_T_api_Given A0 cap0 d0) (r : Int) (hF : slices_IndexFuncapi_Given_api_Given n d0 = some r) : Ok Tryd.prog M 77 [.slice A0 d0.length cap0, .func (.func 47) #[] #[]] (fun _ v => v = .int .i64 r) := by
  unfold slices_IndexFuncapi_Given_api_Given at hF
  intro M1 hM0 w0 H w p0
  replace hG := GL.mono hM0 hG
  replace h0 := h0.mono hM0
  refine R_enter 19 Tryd.func77 rfl rfl (by simp) (fun a0 f0 => ?_)
  refine R_seq (R_reg ?_)
  refine V_run f0 1 (by kernel_rfl) (fun a_1 f_1 => ?_)
  refine W_end rfl (T_n (R_seq (R_seq (R_reg ?_))))
  refine V_run f_1 3 (by kernel_rfl) (fun a_2 f_2 => ?_)
  refine W_end rfl (T_n (wp_block ?_))
  obtain ⟨b_1, hL_1, hF_1⟩ := bind_some' hF
  refine wp_mono (Q := fun e a w => (e = .ret ∧ (∃ y_1 : Int, b_1 = .inl y_1 ∧ ∃ M_2 : Mem, M1.le M_2 ∧ Frm 19 [(4, .int .i64 y_1)] a ∧ Hp w0 M_2 (H) w)) ∨ (e = .exit 0 ∧ (∃ y_2 : Unit, b_1 = .inr y_2 ∧ ∃ M_3 : Mem, M1.le M_3 ∧ Frm 19 [] a ∧ Hp w0 M_3 (H) w))) (R_loop (n := 19) (w0 := w0) (M := M1) (fun (x : Nat × Int) => match x with | (m_1, s_1) => [(0, .slice A0 d0.length cap0), (1, .func (.func 47) #[] #[]), (7, .int .i64 ((d0.length : Nat) : Int)), (8, .int .i64 s_1)]) (fun (x : Nat × Int) => match x with | (m_1, s_1) => (H)) (fun (x : Nat × Int) (MM : Mem) => match x with | (m_1, s_1) => loopF (slices_IndexFuncapi_Given_api_Given_s1 n d0) m_1 s_1 = some b_1) (fun (x : Nat × Int) => match x with | (m_1, s_1) => m_1) (n, (0 : Int)) (f_2.keep (ks := [0, 1, 7, 8]) (by kernel_rfl)) p0 hL_1 ?_) ?_
  · rintro ⟨m_1, s_1⟩ M_1 a_3 w_1 hM_1 I_1 f_3 p_1
    have I_1L := I_1
    obtain ⟨m_2, r_1, rfl, hs_1, hn_1⟩ := loop_step I_1L
    unfold slices_IndexFuncapi_Given_api_Given_s1 at hs_1
    refine R_seq (R_reg ?_)
    refine V_run f_3 1 (by kernel_rfl) (fun a_4 f_4 => ?_)
    refine W_end rfl (T_n (R_seq ?_))
    refine R_cond f_4 (b := decide (s_1 < ((d0.length : Nat) : Int))) (by kernel_rfl) (by kernel_rfl) (fun h_1 => ?_) (fun h_1 => ?_)
    · have k_1 : s_1 < ((d0.length : Nat) : Int) := decide_eq_true_iff.1 h_1
      have hF_2 := cnd_t h_1 hs_1
      refine wp_skip (T_n (R_seq (wp_block (R_seq (R_reg ?_)))))
      refine V_run f_4 2 (by kernel_rfl) (fun a_5 f_5 => ?_)
      refine W_end rfl (T_n (R_seq (R_reg ?_)))
      refine V_run f_5 3 (by kernel_rfl) (fun a_6 f_6 => ?_)
      obtain ⟨x_1, hx_1, hF_3⟩ := bind_some' hF_2
      obtain ⟨ad_1, c_1, e_1, hl_1, hr_1, hc_1⟩ := Sli.at_ (h0.mono hM_1) hx_1
      clear hl_1
      obtain ⟨A_1, cap_1, A_2, cap_2, rfl, h_2, h_3⟩ := T_api_Given.opn hr_1
      refine V_eq (v := .pointer (some (ad_1.add (s_1.toNat * 8)))) f_6 (by kernel_rfl) (X_indexAddrA e_1 rfl (len := d0.length) (cap := cap0) (k := .i64) (i := s_1) (by kernel_rfl) (by kernel_rfl) (e := 35) (by kernel_rfl) (sz := 8) (by kernel_rfl) (getI_nn hx_1) (getI_lt hx_1)) (fun a_7 f_7 => ?_)
      refine V_eq (v := .agg #[S x_1.fName, .bool x_1.fUnknown, .int .i8 x_1.fV.fKind, .bool x_1.fV.fBool, .int .i64 x_1.fV.fNum, S x_1.fV.fText, .slice A_1 x_1.fV.fList.length cap_1, .slice A_2 x_1.fV.fKeys.length cap_2]) f_7 (by kernel_rfl) (X_loadN (cs := [S x_1.fName, .bool x_1.fUnknown, .int .i8 x_1.fV.fKind, .bool x_1.fV.fBool, .int .i64 x_1.fV.fNum, S x_1.fV.fText, .slice A_1 x_1.fV.fList.length cap_1, .slice A_2 x_1.fV.fKeys.length cap_2]) rfl (ad := ad_1.add (s_1.toNat * 8)) (by kernel_rfl) (by kernel_rfl) (fun j v h => p_1.cell (hc_1 j v h))) (fun a_8 f_8 => ?_)
      obtain ⟨x_2, hx_2, hF_4⟩ := bind_some' hF_3
      refine V_okv f_8 p_1 (schema_Differ_1_ok n _ (GL.mono hM_1 hG) _ x_1 (T_api_Given.shutx (x := x_1) h_2 h_3) x_2 hx_2) (by kernel_rfl) (fun _ => by kernel_rfl) (fun w_2 p_2 a_9 f_9 => ?_)
      refine W_end rfl (T_n ?_)
      refine R_cond f_9 (b := x_2) (by kernel_rfl) (by kernel_rfl) (fun h_4 => ?_) (fun h_4 => ?_)
      · have hF_5 := cnd_t h_4 hF_4
        refine R_seq (R_reg ?_)
        refine V_run f_9 2 (by kernel_rfl) (fun a_10 f_10 => ?_)
        refine W_end rfl (T_n (wp_ret (B_r (T_r (T_r ?_)))))
        obtain rfl := Option.some.inj hF_5
        exact .inl ⟨rfl, s_1, (Option.some.inj hn_1).symm, M_1, hM_1, f_10.keep (ks := [4]) (by kernel_rfl), p_2⟩
      · have hF_6 := cnd_f h_4 hF_4
        refine wp_skip (B_n (T_n (R_reg ?_)))
        obtain ⟨g_1, hF_7⟩ := need_some hF_6
        refine V_run f_9 1 (by kernel_rfl) (fun a_11 f_11 => ?_)
        have f_12 := Frm.set f_11 18 (v := .int .i64 (IntKind.wrap .i64 (s_1 + 1))) (v' := .int .i64 (s_1 + 1)) (by kernel_rfl) (congrArg (Value.int .i64) (inR_wrap g_1))
        refine V_run f_12 1 (by kernel_rfl) (fun a_12 f_13 => ?_)
        refine W_end rfl (T_n ?_)
        obtain rfl := Option.some.inj hF_7
        exact ⟨⟨m_2, s_1 + 1⟩, Nat.lt_succ_self _, M_1, hM_1, hn_1, f_13.keep (ks := [0, 1, 7, 8]) (by kernel_rfl), p_2⟩
    · have k_4 : ¬ (s_1 < ((d0.length : Nat) : Int)) := iff_f decide_eq_true_iff h_1
      have hF_8 := cnd_f h_1 hs_1
      refine wp_exit (T_x (T_x ?_))
      obtain rfl := Option.some.inj hF_8
      exact .inr ⟨rfl, (), (Option.some.inj hn_1).symm, M_1, hM_1, f_4.keep (ks := []) (by kernel_rfl), p_1⟩
  · rintro _ a_15 w_5 (⟨rfl, y_1, rfl, M_2, hM_2, f_14, p_3⟩ | ⟨rfl, y_2, rfl, M_3, hM_3, f_15, p_4⟩)
    · refine B_r (T_r ?_)
      refine E_ret1 f_14 rfl (by kernel_rfl : Vc.look _ 4 = some (.int .i64 y_1)) ?_
      obtain rfl := Option.some.inj hF_1
      exact ⟨_, rfl, M_2, hM_2, p_3, rfl⟩
    · refine B_x (T_n (R_seq (R_reg ?_)))
      refine V_run f_15 1 (by kernel_rfl) (fun a_16 f_16 => ?_)
      refine W_end rfl (T_n (wp_ret ?_))
      refine E_ret1 f_16 rfl (by kernel_rfl : Vc.look _ 4 = some (.int .i64 (-1))) ?_
      obtain rfl := Option.some.inj hF_1
      exact ⟨_, rfl, M_3, hM_3, p_4, rfl⟩

def slices_ContainsFuncapi_Given_api_Given (n : Nat) (d0 : List T_api_Given) : Option Bool :=
  (slices_IndexFuncapi_Given_api_Given n d0).bind fun x_1 =>
  some ((decide ((0 : Int) ≤ x_1)))
theorem slices_ContainsFuncapi_Given_api_Given_ok (n : Nat) (M : Mem) (hG : GL M) (A0 : Option Addr) (cap0 : Nat) (d0 : List T_api_Given) (h0 : Sli M 8 emb_T_api_Given A0 cap0 d0) (r : Bool) (hF : slices_ContainsFuncapi_Given_api_Given n d0 = some r) : Ok Tryd.prog M 46 [.slice A0 d0.length cap0, .func (.func 47) #[] #[]] (fun _ v => v = .bool r) := by
  unfold slices_ContainsFuncapi_Given_api_Given at hF
  intro M1 hM0 w0 H w p0
  replace hG := GL.mono hM0 hG
  replace h0 := h0.mono hM0
  refine R_enter 9 Tryd.func46 rfl rfl (by simp) (fun a0 f0 => ?_)
  refine R_seq (R_reg ?_)
  refine V_run f0 1 (by kernel_rfl) (fun a_1 f_1 => ?_)
  refine W_end rfl (T_n (R_seq (R_reg ?_)))
  refine V_run f_1 2 (by kernel_rfl) (fun a_2 f_2 => ?_)
  obtain ⟨x_1, hx_1, hF_1⟩ := bind_some' hF
  refine V_okv f_2 p0 (slices_IndexFuncapi_Given_api_Given_ok n _ hG A0 cap0 d0 h0 x_1 hx_1) (by kernel_rfl) (fun _ => by kernel_rfl) (fun w_1 p_1 a_3 f_3 => ?_)
  refine V_run f_3 2 (by kernel_rfl) (fun a_4 f_4 => ?_)
  refine W_end rfl (T_n (wp_ret ?_))
  refine E_ret1 f_4 rfl (by kernel_rfl : Vc.look _ 4 = some (.bool (decide ((0 : Int) ≤ x_1)))) ?_
  obtain rfl := Option.some.inj hF_1
  exact ⟨_, rfl, M1, (Mem.le_refl _), p_1, rfl⟩

def schema_byName_s1 (n : Nat) (d0 : List T_api_Given) (s_1 : Int × (List ((List UInt8) × T_api_Given))) : Option (Lp (Int × (List ((List UInt8) × T_api_Given))) (List ((List UInt8) × T_api_Given))) :=
    bif (decide (s_1.1 < ((d0.length : Nat) : Int))) then
      ((getI d0 s_1.1).bind fun x_1 =>
      need (inR .i64 (s_1.1 + 1)) <|
      some (.nx (s_1.1 + 1, mput s_1.2 x_1.fName x_1)))
    else
      some (.br s_1.2)
def schema_byName (n : Nat) (d0 : List T_api_Given) : Option (List ((List UInt8) × T_api_Given)) :=
  (loopF (schema_byName_s1 n d0) n ((0 : Int), ([] : List ((List UInt8) × T_api_Given)))).bind fun y_1 =>
  some (y_1)
set_option maxHeartbeats 2000000 in
theorem schema_byName_ok (n : Nat) (M : Mem) (hG : GL M) (A0 : Option Addr) (cap0 : Nat) (d0 : List T_api_Given) (h0 : Sli M 8 emb_T_api_Given A0 cap0 d0) (r : (List ((List UInt8) × T_api_Given))) (hF : schema_byName n d0 = some r) : Ok Tryd.prog M 48 [.slice A0 d0.length cap0] (fun M' v => ∃ (b0 : Nat) (m0 : List ((List UInt8) × Value)), v = .map (some b0) ∧ M' b0 = some (mapO S idV m0) ∧ RepMap M' emb_T_api_Given r m0) := by
  unfold schema_byName at hF
  intro M1 hM0 w0 H w p0
  replace hG := GL.mono hM0 hG
  replace h0 := h0.mono hM0
  refine R_enter 19 Tryd.func48 rfl rfl (by simp) (fun a0 f0 => ?_)
  refine R_seq (R_reg ?_)
  refine V_run f0 1 (by kernel_rfl) (fun a_1 f_1 => ?_)
  refine W_end rfl (T_n (R_seq (R_reg ?_)))
  refine W_newmap S idV f_1 p0 (by kernel_rfl) (by kernel_rfl) rfl rfl rfl (fun bm_1 w_1 p_1 a_2 f_2 => ?_)
  have hm_1 : RepMap M1 emb_T_api_Given ([] : List ((List UInt8) × T_api_Given)) ([] : List ((List UInt8) × Value)) := RepMap.nil
  refine V_run f_2 1 (by kernel_rfl) (fun a_3 f_3 => ?_)
  refine W_end rfl (T_n (R_seq (R_seq (R_reg ?_))))
  refine V_run f_3 3 (by kernel_rfl) (fun a_4 f_4 => ?_)
  refine W_end rfl (T_n (wp_block ?_))
  obtain ⟨b_1, hL_1, hF_1⟩ := bind_some' hF
  refine wp_mono (Q := fun e a w => (e = .exit 0 ∧ (∃ y_1 : (List ((List UInt8) × T_api_Given)), b_1 = y_1 ∧ ∃ M_2 : Mem, M1.le M_2 ∧ ∃ (m_4 : List ((List UInt8) × Value)), RepMap M_2 emb_T_api_Given y_1 m_4 ∧ Frm 19 [(3, .map (some bm_1))] a ∧ Hp w0 M_2 ((Ent.obj bm_1 (mapO S idV m_4)) :: H) w))) (R_loop (n := 19) (w0 := w0) (M := M1) (fun (x : Nat × (Int × (List ((List UInt8) × T_api_Given))) × (List ((List UInt8) × Value))) => match x with | (m_1, s_1, m_2) => [(3, .map (some bm_1)), (7, .slice A0 d0.length cap0), (8, .int .i64 ((d0.length : Nat) : Int)), (9, .int .i64 s_1.1)]) (fun (x : Nat × (Int × (List ((List UInt8) × T_api_Given))) × (List ((List UInt8) × Value))) => match x with | (m_1, s_1, m_2) => ((Ent.obj bm_1 (mapO S idV m_2)) :: H)) (fun (x : Nat × (Int × (List ((List UInt8) × T_api_Given))) × (List ((List UInt8) × Value))) (MM : Mem) => match x with | (m_1, s_1, m_2) => loopF (schema_byName_s1 n d0) m_1 s_1 = some b_1 ∧ RepMap MM emb_T_api_Given s_1.2 m_2) (fun (x : Nat × (Int × (List ((List UInt8) × T_api_Given))) × (List ((List UInt8) × Value))) => match x with | (m_1, s_1, m_2) => m_1) (n, ((0 : Int), ([] : List ((List UInt8) × T_api_Given))), ([] : List ((List UInt8) × Value))) (f_4.keep (ks := [3, 7, 8, 9]) (by kernel_rfl)) p_1 ⟨hL_1, hm_1⟩ ?_) ?_
  · rintro ⟨m_1, s_1, m_2⟩ M_1 a_5 w_2 hM_1 I_1 f_5 p_2
    obtain ⟨I_1L, hm_2⟩ := I_1
    obtain ⟨m_3, r_1, rfl, hs_1, hn_1⟩ := loop_step I_1L
    unfold schema_byName_s1 at hs_1
    refine R_seq (R_reg ?_)
    refine V_run f_5 1 (by kernel_rfl) (fun a_6 f_6 => ?_)
    refine W_end rfl (T_n (R_seq ?_))
    refine R_cond f_6 (b := decide (s_1.1 < ((d0.length : Nat) : Int))) (by kernel_rfl) (by kernel_rfl) (fun h_1 => ?_) (fun h_1 => ?_)
    · have k_1 : s_1.1 < ((d0.length : Nat) : Int) := decide_eq_true_iff.1 h_1
      have hF_2 := cnd_t h_1 hs_1
      refine wp_skip (T_n (R_seq (wp_block (R_seq (R_reg ?_)))))
      obtain ⟨x_1, hx_1, hF_3⟩ := bind_some' hF_2
      obtain ⟨ad_1, c_1, e_1, hl_1, hr_1, hc_1⟩ := Sli.at_ (h0.mono hM_1) hx_1
      clear hl_1
      obtain ⟨A_1, cap_1, A_2, cap_2, rfl, h_2, h_3⟩ := T_api_Given.opn hr_1
      refine V_eq (v := .pointer (some (ad_1.add (s_1.1.toNat * 8)))) f_6 (by kernel_rfl) (X_indexAddrA e_1 rfl (len := d0.length) (cap := cap0) (k := .i64) (i := s_1.1) (by kernel_rfl) (by kernel_rfl) (e := 35) (by kernel_rfl) (sz := 8) (by kernel_rfl) (getI_nn hx_1) (getI_lt hx_1)) (fun a_7 f_7 => ?_)
      refine V_eq (v := .agg #[S x_1.fName, .bool x_1.fUnknown, .int .i8 x_1.fV.fKind, .bool x_1.fV.fBool, .int .i64 x_1.fV.fNum, S x_1.fV.fText, .slice A_1 x_1.fV.fList.length cap_1, .slice A_2 x_1.fV.fKeys.length cap_2]) f_7 (by kernel_rfl) (X_loadN (cs := [S x_1.fName, .bool x_1.fUnknown, .int .i8 x_1.fV.fKind, .bool x_1.fV.fBool, .int .i64 x_1.fV.fNum, S x_1.fV.fText, .slice A_1 x_1.fV.fList.length cap_1, .slice A_2 x_1.fV.fKeys.length cap_2]) rfl (ad := ad_1.add (s_1.1.toNat * 8)) (by kernel_rfl) (by kernel_rfl) (fun j v h => p_2.cell (hc_1 j v h))) (fun a_8 f_8 => ?_)
      refine V_alloc f_8 p_2 (.cells #[S [], .bool false, .int .i8 0, .bool false, .int .i64 0, S [], .slice none 0 0, .slice none 0 0] 35 (0, 0)) (by kernel_rfl) (fun _ => by kernel_rfl) (fun b_2 w_3 p_3 a_9 f_9 => ?_)
      refine W_storeN (vs := [S x_1.fName, .bool x_1.fUnknown, .int .i8 x_1.fV.fKind, .bool x_1.fV.fBool, .int .i64 x_1.fV.fNum, S x_1.fV.fText, .slice A_1 x_1.fV.fList.length cap_1, .slice A_2 x_1.fV.fKeys.length cap_2]) (j := 0) f_9 p_3 (by kernel_rfl) (by kernel_rfl) rfl rfl (by kernel_rfl) (by kernel_rfl) (by simp [Value.oneCell', S]) (by kernel_rfl) (by simp) (by decide) (cs' := #[S x_1.fName, .bool x_1.fUnknown, .int .i8 x_1.fV.fKind, .bool x_1.fV.fBool, .int .i64 x_1.fV.fNum, S x_1.fV.fText, .slice A_1 x_1.fV.fList.length cap_1, .slice A_2 x_1.fV.fKeys.length cap_2]) rfl (fun w_4 p_4 a_10 f_10 => ?_)
      refine W_end rfl (T_n (R_reg ?_))
      refine V_run f_10 2 (by kernel_rfl) (fun a_11 f_11 => ?_)
      refine V_eq (v := S x_1.fName) f_11 (by kernel_rfl) (X_load1 (v := S x_1.fName) rfl (ad := ⟨b_2, 0, none⟩) (by kernel_rfl) (by kernel_rfl) (p_4.ownCell 0 rfl 0)) (fun a_12 f_12 => ?_)
      refine V_eq (v := .agg #[S x_1.fName, .bool x_1.fUnknown, .int .i8 x_1.fV.fKind, .bool x_1.fV.fBool, .int .i64 x_1.fV.fNum, S x_1.fV.fText, .slice A_1 x_1.fV.fList.length cap_1, .slice A_2 x_1.fV.fKeys.length cap_2]) f_12 (by kernel_rfl) (X_loadN (cs := [S x_1.fName, .bool x_1.fUnknown, .int .i8 x_1.fV.fKind, .bool x_1.fV.fBool, .int .i64 x_1.fV.fNum, S x_1.fV.fText, .slice A_1 x_1.fV.fList.length cap_1, .slice A_2 x_1.fV.fKeys.length cap_2]) rfl (ad := ⟨b_2, 0, none⟩) (by kernel_rfl) (by kernel_rfl) (own_cells (p_4.ownCell 0 rfl) 0 rfl)) (fun a_13 f_13 => ?_)
      have p_5 := p_4.pl [1]
      have hm_3 := RepMap.put (k := x_1.fName) (x := x_1) (cs := [S x_1.fName, .bool x_1.fUnknown, .int .i8 x_1.fV.fKind, .bool x_1.fV.fBool, .int .i64 x_1.fV.fNum, S x_1.fV.fText, .slice A_1 x_1.fV.fList.length cap_1, .slice A_2 x_1.fV.fKeys.length cap_2]) (T_api_Given.shutx (x := x_1) h_2 h_3) hm_2
      refine W_mapput (ek := S) (ev := idV) (m := m_2) (k := x_1.fName) (v := .agg [S x_1.fName, .bool x_1.fUnknown, .int .i8 x_1.fV.fKind, .bool x_1.fV.fBool, .int .i64 x_1.fV.fNum, S x_1.fV.fText, .slice A_1 x_1.fV.fList.length cap_1, .slice A_2 x_1.fV.fKeys.length cap_2].toArray) (kt := 9) (et := 35) f_13 p_5 (by kernel_rfl) (by kernel_rfl) rfl (.inl rfl) (by kernel_rfl) (by kernel_rfl) (by kernel_rfl) (by kernel_rfl) (strKey (by kernel_rfl)) (fun w_5 p_6 a_14 f_14 => ?_)
      refine W_end rfl (B_n (T_n (R_reg ?_)))
      obtain ⟨g_1, hF_4⟩ := need_some hF_3
      refine V_run f_14 1 (by kernel_rfl) (fun a_15 f_15 => ?_)
      have f_16 := Frm.set f_15 17 (v := .int .i64 (IntKind.wrap .i64 (s_1.1 + 1))) (v' := .int .i64 (s_1.1 + 1)) (by kernel_rfl) (congrArg (Value.int .i64) (inR_wrap g_1))
      refine V_run f_16 1 (by kernel_rfl) (fun a_16 f_17 => ?_)
      refine W_end rfl ?_
      have p_8 := p_6.pl [1]
      refine T_n ?_
      obtain rfl := Option.some.inj hF_4
      exact ⟨⟨m_3, (s_1.1 + 1, mput s_1.2 x_1.fName x_1), mput m_2 x_1.fName (.agg [S x_1.fName, .bool x_1.fUnknown, .int .i8 x_1.fV.fKind, .bool x_1.fV.fBool, .int .i64 x_1.fV.fNum, S x_1.fV.fText, .slice A_1 x_1.fV.fList.length cap_1, .slice A_2 x_1.fV.fKeys.length cap_2].toArray)⟩, Nat.lt_succ_self _, M_1, hM_1, ⟨hn_1, hm_3⟩, f_17.keep (ks := [3, 7, 8, 9]) (by kernel_rfl), (p_8.dropN 1)⟩
    · have k_2 : ¬ (s_1.1 < ((d0.length : Nat) : Int)) := iff_f decide_eq_true_iff h_1
      have hF_5 := cnd_f h_1 hs_1
      refine wp_exit (T_x (T_x ?_))
      obtain rfl := Option.some.inj hF_5
      exact ⟨rfl, s_1.2, (Option.some.inj hn_1).symm, M_1, hM_1, m_2, hm_2, f_6.keep (ks := [3]) (by kernel_rfl), p_2⟩
  · rintro _ a_18 w_7 ⟨rfl, y_1, hq_, M_2, hM_2, m_4, hm_4, f_18, p_7⟩
    subst b_1
    refine B_x (T_n (R_seq (R_reg ?_)))
    refine V_run f_18 2 (by kernel_rfl) (fun a_19 f_19 => ?_)
    refine W_end rfl (T_n (wp_ret ?_))
    obtain ⟨M_3, hM_3, p_9, h_4⟩ := p_7.fzObj
    refine E_ret1 f_19 rfl (by kernel_rfl : Vc.look _ 2 = some (.map (some bm_1))) ?_
    obtain rfl := Option.some.inj hF_1
    exact ⟨_, rfl, M_3, (hM_2.trans hM_3), p_9, ⟨bm_1, m_4, rfl, h_4, (hm_4.mono hM_3)⟩⟩

def schema_Differ_s1_e (n : Nat) (x_5 : (List ((List UInt8) × T_api_Given))) (x_6 : (List ((List UInt8) × T_api_Given))) (s_1 : Int) : Option (Lp Int (Sum Int Unit)) :=
    some (.br (.inl s_1))
def schema_Differ_s1_y (n : Nat) (x_5 : (List ((List UInt8) × T_api_Given))) (x_6 : (List ((List UInt8) × T_api_Given))) (pv_1 : List UInt8 × T_api_Spec) (s_1 : Int) : Option (Lp Int (Sum Int Unit)) :=
    ((bif ((mget x_5 pv_1.1).isSome == (mget x_6 pv_1.1).isSome) then
        (bif (!((mget x_6 pv_1.1).getD z_T_api_Given).fUnknown) then
          (bif (!(mget x_5 pv_1.1).isSome) then
            (some ((true)))
          else
            (tree_Equal n (⟨((mget x_5 pv_1.1).getD z_T_api_Given).fV.fKind, (((mget x_5 pv_1.1).getD z_T_api_Given).fV.fBool), ((mget x_5 pv_1.1).getD z_T_api_Given).fV.fNum, ((mget x_5 pv_1.1).getD z_T_api_Given).fV.fText, ((mget x_5 pv_1.1).getD z_T_api_Given).fV.fList, ((mget x_5 pv_1.1).getD z_T_api_Given).fV.fKeys⟩ : T_api_Value) (⟨((mget x_6 pv_1.1).getD z_T_api_Given).fV.fKind, (((mget x_6 pv_1.1).getD z_T_api_Given).fV.fBool), ((mget x_6 pv_1.1).getD z_T_api_Given).fV.fNum, ((mget x_6 pv_1.1).getD z_T_api_Given).fV.fText, ((mget x_6 pv_1.1).getD z_T_api_Given).fV.fList, ((mget x_6 pv_1.1).getD z_T_api_Given).fV.fKeys⟩ : T_api_Value)).bind fun x_7 =>
            some ((x_7)))
        else
          some ((false)))
      else
        some ((false)) : Option Bool)).bind fun y_1 =>
    bif y_1 then
      (some (.nx s_1))
    else
      bif pv_1.2.fReplace then
        (some (.br (.inr ())))
      else
        some (.nx (2 : Int))
def schema_Differ (n : Nat) (d0 : List UInt8) (d1 : List T_api_Given) (d2 : List T_api_Given) : Option (Int × Int) :=
  (schema_Check n d0 d1).bind fun x_1 =>
  (schema_Check n d0 d2).bind fun x_2 =>
  (cmp_Or_2 n [x_1, x_2]).bind fun x_3 =>
  bif (!(decide (x_3 = 0))) then
    (some (((0 : Int), x_3)))
  else
    (slices_ContainsFuncapi_Given_api_Given n d1).bind fun x_4 =>
    bif x_4 then
      (some (((0 : Int), (91 : Int))))
    else
      (schema_byName n d1).bind fun x_5 =>
      (schema_byName n d2).bind fun x_6 =>
      (foldP (schema_Differ_s1_e n x_5 x_6) (schema_Differ_s1_y n x_5 x_6) (propsD d0) (0 : Int)).bind fun b_7 =>
      (match b_7 with 
      | .inl y_2 => some ((y_2, (0 : Int))) 
      | .inr y_3 => some (((3 : Int), (0 : Int))))
set_option maxHeartbeats 2000000 in
theorem schema_Differ_ok (n : Nat) (M : Mem) (hG : GL M) (d0 : List UInt8) (A1 : Option Addr) (cap1 : Nat) (d1 : List T_api_Given) (h1 : Sli M 8 emb_T_api_Given A1 cap1 d1) (A2 : Option Addr) (cap2 : Nat) (d2 : List T_api_Given) (h2 : Sli M 8 emb_T_api_Given A2 cap2 d2) (r : Int × Int) (hF : schema_Differ n d0 d1 d2 = some r) : Ok Tryd.prog M 21 [S d0, .slice A1 d1.length cap1, .slice A2 d2.length cap2] (fun _ v => v = .tuple #[.int .i8 r.1, .int .i64 r.2]) := by
  unfold schema_Differ at hF
  intro M1 hM0 w0 H w p0
  replace hG := GL.mono hM0 hG
  replace h1 := h1.mono hM0
  replace h2 := h2.mono hM0
  refine R_enter 78 Tryd.func21 rfl rfl (by simp) (fun a0 f0 => ?_)
  refine R_seq (R_reg ?_)
  refine V_run f0 2 (by kernel_rfl) (fun a_1 f_1 => ?_)
  refine W_end rfl (T_n (R_seq (R_seq (R_reg ?_))))
  refine V_run f_1 2 (by kernel_rfl) (fun a_2 f_2 => ?_)
  obtain ⟨x_1, hx_1, hF_1⟩ := bind_some' hF
  refine V_okv f_2 p0 (schema_Check_ok n _ hG d0 A1 cap1 d1 h1 x_1 hx_1) (by kernel_rfl) (fun _ => by kernel_rfl) (fun w_1 p_1 a_3 f_3 => ?_)
  refine V_run f_3 2 (by kernel_rfl) (fun a_4 f_4 => ?_)
  obtain ⟨x_2, hx_2, hF_2⟩ := bind_some' hF_1
  refine V_okv f_4 p_1 (schema_Check_ok n _ hG d0 A2 cap2 d2 h2 x_2 hx_2) (by kernel_rfl) (fun _ => by kernel_rfl) (fun w_2 p_2 a_5 f_5 => ?_)
  refine V_allocS (k := 2) (c := 2) f_5 p_2 (.cells #[.int .i64 x_1, .int .i64 x_2] 26 (0, 0)) (by kernel_rfl) (fun _ => by kernel_rfl) (fun b_1 w_3 p_3 a_6 f_6 => ?_)
  have hr_1 : RepSeq M1 ([x_1, x_2].map (Dat.int .i64)) [.int .i64 x_1, .int .i64 x_2] := ⟨_, _, rfl, rfl, ⟨_, _, rfl, rfl, rfl⟩⟩
  have p_4 : Hp w0 M1 ((Ent.row 26 1 (.slice (some ⟨b_1, 0, none⟩) 2 2) [x_1, x_2].length [.int .i64 x_1, .int .i64 x_2]) :: H) w_3 := p_3.objRow (n := 2) (cap := 2) (size := 1) (by decide) (by decide) rfl rfl rfl
  obtain ⟨M_1, A_1, cap_1, hM_1, hv_1, p_5, h_1, hb_1⟩ := p_4.lend (f := (Dat.int .i64)) (xs := [x_1, x_2]) (szd_int .i64) hr_1
  have f_7 := Frm.set f_6 24 (v := .slice (some ⟨b_1, 0, none⟩) 2 2) (v' := .slice A_1 [x_1, x_2].length cap_1) (by kernel_rfl) (hv_1)
  obtain ⟨x_3, hx_3, hF_3⟩ := bind_some' hF_2
  refine V_okv f_7 p_5 (cmp_Or_2_ok n _ (GL.mono hM_1 hG) A_1 cap_1 [x_1, x_2] h_1 x_3 hx_3) (by kernel_rfl) (fun _ => by kernel_rfl) (fun w_4 p_6 a_7 f_8 => ?_)
  obtain ⟨M_2, hM_2, p_7⟩ := hb_1 _ _ _ (Mem.le_refl _) p_6
  have f_9 := Frm.set f_8 24 (v := .slice A_1 [x_1, x_2].length cap_1) (v' := .slice (some ⟨b_1, 0, none⟩) 2 2) (by kernel_rfl) (hv_1.symm)
  refine V_run f_9 1 (by kernel_rfl) (fun a_8 f_10 => ?_)
  refine W_end rfl (T_n (R_seq (R_reg ?_)))
  refine V_run f_10 2 (by kernel_rfl) (fun a_9 f_11 => ?_)
  refine W_end rfl (T_n ?_)
  refine R_cond f_11 (b := !(decide (x_3 = 0))) (by kernel_rfl) (by kernel_rfl) (fun h_2 => ?_) (fun h_2 => ?_)
  · have k_1 : ¬ (x_3 = 0) := (not_iff decide_eq_true_iff).1 h_2
    have hF_4 := cnd_t h_2 hF_3
    refine R_seq (R_reg ?_)
    refine V_run f_11 3 (by kernel_rfl) (fun a_10 f_12 => ?_)
    refine W_end rfl (T_n (wp_ret (T_r ?_)))
    refine E_ret2 f_12 rfl (by kernel_rfl : Vc.look _ 6 = some (.int .i8 0)) (by kernel_rfl : Vc.look _ 7 = some (.int .i64 x_3)) ?_
    obtain rfl := Option.some.inj hF_4
    exact ⟨_, rfl, M_2, hM_2, (p_7.dropN 1), rfl⟩
  · have k_2 : ¬ (¬ (x_3 = 0)) := iff_f (not_iff decide_eq_true_iff) h_2
    have hF_5 := cnd_f h_2 hF_3
    refine wp_skip (T_n (R_seq (R_seq (R_reg ?_))))
    refine V_run f_11 1 (by kernel_rfl) (fun a_11 f_13 => ?_)
    obtain ⟨x_4, hx_4, hF_6⟩ := bind_some' hF_5
    refine V_okv f_13 p_7 (slices_ContainsFuncapi_Given_api_Given_ok n _ (GL.mono hM_2 hG) A1 cap1 d1 (h1.mono hM_2) x_4 hx_4) (by kernel_rfl) (fun _ => by kernel_rfl) (fun w_5 p_8 a_12 f_14 => ?_)
    refine W_end rfl (T_n ?_)
    refine R_cond f_14 (b := x_4) (by kernel_rfl) (by kernel_rfl) (fun h_3 => ?_) (fun h_3 => ?_)
    · have hF_7 := cnd_t h_3 hF_6
      refine R_seq (R_reg ?_)
      refine V_run f_14 2 (by kernel_rfl) (fun a_13 f_15 => ?_)
      refine W_end rfl (T_n (wp_ret (T_r ?_)))
      refine E_ret2 f_15 rfl (by kernel_rfl : Vc.look _ 6 = some (.int .i8 0)) (by kernel_rfl : Vc.look _ 7 = some (.int .i64 91)) ?_
      obtain rfl := Option.some.inj hF_7
      exact ⟨_, rfl, M_2, hM_2, (p_8.dropN 1), rfl⟩
    · have hF_8 := cnd_f h_3 hF_6
      refine wp_skip (T_n (R_seq (R_reg ?_)))
      refine V_run f_14 1 (by kernel_rfl) (fun a_14 f_16 => ?_)
      obtain ⟨x_5, hx_5, hF_9⟩ := bind_some' hF_8
      refine V_ok f_16 p_8 (schema_byName_ok n _ (GL.mono hM_2 hG) A1 cap1 d1 (h1.mono hM_2) x_5 hx_5) (by kernel_rfl) (fun _ => by kernel_rfl) (fun u_1 M_3 w_6 hM_3 p_9 q_1 a_15 f_17 => ?_)
      obtain ⟨bk_1, m_1, rfl, h0_1, hm_1⟩ := q_1
      refine V_run f_17 1 (by kernel_rfl) (fun a_16 f_18 => ?_)
      obtain ⟨x_6, hx_6, hF_10⟩ := bind_some' hF_9
      refine V_ok f_18 p_9 (schema_byName_ok n _ (GL.mono (hM_2.trans hM_3) hG) A2 cap2 d2 (h2.mono (hM_2.trans hM_3)) x_6 hx_6) (by kernel_rfl) (fun _ => by kernel_rfl) (fun u_2 M_4 w_7 hM_4 p_10 q_2 a_17 f_19 => ?_)
      obtain ⟨bk_2, m_2, rfl, h0_2, hm_2⟩ := q_2
      refine V_run f_19 2 (by kernel_rfl) (fun a_18 f_20 => ?_)
      refine W_end rfl (T_n (R_seq (R_reg ?_)))
      refine V_run f_20 1 (by kernel_rfl) (fun a_19 f_21 => ?_)
      refine W_end rfl (T_n (R_seq (R_seq (R_reg ?_))))
      refine V_ok f_21 p_10 (all_ok _) (by kernel_rfl) (fun _ => by kernel_rfl) (fun u_3 M_5 w_8 hM_5 p_11 q_3 a_20 f_22 => ?_)
      obtain ⟨b_2, b_3, b_4, b_5, b_6, rfl, hA_1⟩ := q_3
      refine V_run f_22 1 (by kernel_rfl) (fun a_21 f_23 => ?_)
      refine V_eq (v := .map (blkOf b_3 b_4 b_5 b_6 d0)) f_23 (by kernel_rfl) (X_all1 (k := d0) (kt := 9) (et := 70) hA_1 p_11 rfl (by kernel_rfl) (by kernel_rfl) (by kernel_rfl) (strKey (by kernel_rfl)) (by kernel_rfl)) (fun a_22 f_24 => ?_)
      refine W_rangeM (kt := 9) (et := 81) (kmap_of hA_1 d0) f_24 p_11 (by kernel_rfl) (by kernel_rfl) rfl rfl rfl (by kernel_rfl) (by kernel_rfl) (fun r_1 w_9 p_12 a_23 f_25 => ?_)
      refine W_end rfl (T_n (wp_block ?_))
      obtain ⟨b_7, hL_1, hF_11⟩ := bind_some' hF_10
      refine wp_mono (Q := fun e a w => (e = .exit 0 ∧ (∃ y_2 : Int, b_7 = .inl y_2 ∧ ∃ M_8 : Mem, M_5.le M_8 ∧ Frm 78 [(11, .int .i8 y_2)] a ∧ Hp w0 M_8 ((Ent.row 26 1 (.slice (some ⟨b_1, 0, none⟩) 2 2) [x_1, x_2].length [.int .i64 x_1, .int .i64 x_2]) :: H) w)) ∨ (e = .ret ∧ (∃ y_3 : Unit, b_7 = .inr y_3 ∧ ∃ M_9 : Mem, M_5.le M_9 ∧ Frm 78 [(6, .int .i8 3), (7, .int .i64 0)] a ∧ Hp w0 M_9 ((Ent.row 26 1 (.slice (some ⟨b_1, 0, none⟩) 2 2) [x_1, x_2].length [.int .i64 x_1, .int .i64 x_2]) :: H) w))) (R_loop (n := 78) (w0 := w0) (M := M_5) (fun (x : Int × (Array Nat)) => match x with | (s_1, sn_1) => [(9, .map (some bk_1)), (10, .map (some bk_2)), (11, .int .i8 s_1), (38, .pointer (some (⟨r_1, 0, none⟩)))]) (fun (x : Int × (Array Nat)) => match x with | (s_1, sn_1) => ((Ent.obj r_1 (.mapIter (blkOf b_3 b_4 b_5 b_6 d0) (propsD d0).length sn_1 (propsD d0).length)) :: (Ent.row 26 1 (.slice (some ⟨b_1, 0, none⟩) 2 2) [x_1, x_2].length [.int .i64 x_1, .int .i64 x_2]) :: H)) (fun (x : Int × (Array Nat)) (MM : Mem) => match x with | (s_1, sn_1) => (∀ l, l.Perm (leftD (propsD d0) sn_1) → foldO (schema_Differ_s1_e n x_5 x_6) (schema_Differ_s1_y n x_5 x_6) l s_1 = some b_7)) (fun (x : Int × (Array Nat)) => match x with | (s_1, sn_1) => (leftD (propsD d0) sn_1).length) ((0 : Int), #[]) (f_25.keep (ks := [9, 10, 11, 38]) (by kernel_rfl)) p_12 (foldP_start hL_1) ?_) ?_
      · rintro ⟨s_1, sn_1⟩ M_6 a_24 w_10 hM_6 I_1 f_26 p_13
        have I_1L := I_1
        refine R_seq (R_reg ?_)
        refine W_nextM (kmap_of (hA_1.mono hM_6) d0) f_26 p_13 (by kernel_rfl) (by kernel_rfl) rfl rfl rfl (by kernel_rfl) (fun ho_1 w_11 p_14 a_25 f_27 => ?_) (fun pv_1 j_1 hj_1 w_12 p_15 a_26 f_28 => ?_)
        · obtain ⟨r_2, hs_1, hn_1⟩ := foldO_end I_1L ho_1
          unfold schema_Differ_s1_e at hs_1
          refine V_run f_27 1 (by kernel_rfl) (fun a_27 f_29 => ?_)
          refine W_end rfl (T_n (R_seq ?_))
          refine R_cond_f f_29 (by kernel_rfl) (by kernel_rfl) ?_
          refine wp_exit (T_x (T_x ?_))
          obtain rfl := Option.some.inj hs_1
          exact .inl ⟨rfl, s_1, (Option.some.inj hn_1).symm, M_6, hM_6, f_29.keep (ks := [11]) (by kernel_rfl), (p_14.dropN 1)⟩
        · obtain ⟨r_2, hs_1, hn_1⟩ := foldO_go hj_1 I_1L
          unfold schema_Differ_s1_y at hs_1
          refine V_run f_28 1 (by kernel_rfl) (fun a_28 f_30 => ?_)
          refine W_end rfl (T_n (R_seq ?_))
          refine R_cond_t f_30 (by kernel_rfl) (by kernel_rfl) ?_
          refine wp_skip (T_n (wp_block (R_seq (R_reg ?_))))
          refine V_eq (v := .tuple #[S pv_1.1, .agg #[S pv_1.2.fName, .int .i8 pv_1.2.fKind, .bool pv_1.2.fReplace]]) f_30 (by kernel_rfl) (X_entryM (m := propsD d0) (kmap_of (hA_1.mono hM_6) d0) p_15 hj_1 0 rfl rfl (by kernel_rfl)) (fun a_29 f_31 => ?_)
          refine V_run f_31 2 (by kernel_rfl) (fun a_30 f_32 => ?_)
          refine V_alloc f_32 p_15 (.cells #[S [], .int .i8 0, .bool false] 81 (0, 0)) (by kernel_rfl) (fun _ => by kernel_rfl) (fun b_8 w_13 p_16 a_31 f_33 => ?_)
          refine V_run f_33 1 (by kernel_rfl) (fun a_32 f_34 => ?_)
          refine W_storeN (vs := [S pv_1.2.fName, .int .i8 pv_1.2.fKind, .bool pv_1.2.fReplace]) (j := 0) f_34 p_16 (by kernel_rfl) (by kernel_rfl) rfl rfl (by kernel_rfl) (by kernel_rfl) (by simp [Value.oneCell', S]) (by kernel_rfl) (by simp) (by decide) (cs' := #[S pv_1.2.fName, .int .i8 pv_1.2.fKind, .bool pv_1.2.fReplace]) rfl (fun w_14 p_17 a_33 f_35 => ?_)
          refine W_end rfl (T_n (R_seq (R_reg ?_)))
          refine V_run f_35 2 (by kernel_rfl) (fun a_34 f_36 => ?_)
          obtain ⟨c_1, hc_1, hr_2⟩ := RepMap.get (k := pv_1.1) (z := z_T_api_Given) (zc := [S [], .bool false, .int .i8 0, .bool false, .int .i64 0, S [], .slice none 0 0, .slice none 0 0]) (T_api_Given.shutx (x := z_T_api_Given) Sli.nil Sli.nil) (hm_1.mono ((hM_4.trans hM_5).trans hM_6))
          obtain ⟨A_2, cap_2, A_3, cap_3, rfl, h_4, h_5⟩ := T_api_Given.opn hr_2
          refine V_eq (v := .tuple #[.agg #[S ((mget x_5 pv_1.1).getD z_T_api_Given).fName, .bool ((mget x_5 pv_1.1).getD z_T_api_Given).fUnknown, .int .i8 ((mget x_5 pv_1.1).getD z_T_api_Given).fV.fKind, .bool ((mget x_5 pv_1.1).getD z_T_api_Given).fV.fBool, .int .i64 ((mget x_5 pv_1.1).getD z_T_api_Given).fV.fNum, S ((mget x_5 pv_1.1).getD z_T_api_Given).fV.fText, .slice A_2 ((mget x_5 pv_1.1).getD z_T_api_Given).fV.fList.length cap_2, .slice A_3 ((mget x_5 pv_1.1).getD z_T_api_Given).fV.fKeys.length cap_3], .bool (mget x_5 pv_1.1).isSome]) f_36 (by kernel_rfl) (X_lookupR2 (ek := S) (kt := 9) (et := 35) hc_1 (RepMap.isSome (hm_1.mono ((hM_4.trans hM_5).trans hM_6))) rfl (by kernel_rfl) (by kernel_rfl) (by kernel_rfl) (strKey (by kernel_rfl)) (by kernel_rfl) (p_17.mem _ _ (((hM_4.trans hM_5).trans hM_6) _ _ h0_1))) (fun a_35 f_37 => ?_)
          refine V_run f_37 3 (by kernel_rfl) (fun a_36 f_38 => ?_)
          refine V_alloc f_38 p_17 (.cells #[S [], .bool false, .int .i8 0, .bool false, .int .i64 0, S [], .slice none 0 0, .slice none 0 0] 35 (0, 0)) (by kernel_rfl) (fun _ => by kernel_rfl) (fun b_9 w_15 p_18 a_37 f_39 => ?_)
          refine W_storeN (vs := [S ((mget x_5 pv_1.1).getD z_T_api_Given).fName, .bool ((mget x_5 pv_1.1).getD z_T_api_Given).fUnknown, .int .i8 ((mget x_5 pv_1.1).getD z_T_api_Given).fV.fKind, .bool ((mget x_5 pv_1.1).getD z_T_api_Given).fV.fBool, .int .i64 ((mget x_5 pv_1.1).getD z_T_api_Given).fV.fNum, S ((mget x_5 pv_1.1).getD z_T_api_Given).fV.fText, .slice A_2 ((mget x_5 pv_1.1).getD z_T_api_Given).fV.fList.length cap_2, .slice A_3 ((mget x_5 pv_1.1).getD z_T_api_Given).fV.fKeys.length cap_3]) (j := 0) f_39 p_18 (by kernel_rfl) (by kernel_rfl) rfl rfl (by kernel_rfl) (by kernel_rfl) (by simp [Value.oneCell', S]) (by kernel_rfl) (by simp) (by decide) (cs' := #[S ((mget x_5 pv_1.1).getD z_T_api_Given).fName, .bool ((mget x_5 pv_1.1).getD z_T_api_Given).fUnknown, .int .i8 ((mget x_5 pv_1.1).getD z_T_api_Given).fV.fKind, .bool ((mget x_5 pv_1.1).getD z_T_api_Given).fV.fBool, .int .i64 ((mget x_5 pv_1.1).getD z_T_api_Given).fV.fNum, S ((mget x_5 pv_1.1).getD z_T_api_Given).fV.fText, .slice A_2 ((mget x_5 pv_1.1).getD z_T_api_Given).fV.fList.length cap_2, .slice A_3 ((mget x_5 pv_1.1).getD z_T_api_Given).fV.fKeys.length cap_3]) rfl (fun w_16 p_19 a_38 f_40 => ?_)
          refine V_run f_40 1 (by kernel_rfl) (fun a_39 f_41 => ?_)
          refine W_end rfl (T_n (R_seq (R_reg ?_)))
          refine V_run f_41 2 (by kernel_rfl) (fun a_40 f_42 => ?_)
          obtain ⟨c_2, hc_2, hr_3⟩ := RepMap.get (k := pv_1.1) (z := z_T_api_Given) (zc := [S [], .bool false, .int .i8 0, .bool false, .int .i64 0, S [], .slice none 0 0, .slice none 0 0]) (T_api_Given.shutx (x := z_T_api_Given) Sli.nil Sli.nil) (hm_2.mono (hM_5.trans hM_6))
          obtain ⟨A_4, cap_4, A_5, cap_5, rfl, h_6, h_7⟩ := T_api_Given.opn hr_3
          refine V_eq (v := .tuple #[.agg #[S ((mget x_6 pv_1.1).getD z_T_api_Given).fName, .bool ((mget x_6 pv_1.1).getD z_T_api_Given).fUnknown, .int .i8 ((mget x_6 pv_1.1).getD z_T_api_Given).fV.fKind, .bool ((mget x_6 pv_1.1).getD z_T_api_Given).fV.fBool, .int .i64 ((mget x_6 pv_1.1).getD z_T_api_Given).fV.fNum, S ((mget x_6 pv_1.1).getD z_T_api_Given).fV.fText, .slice A_4 ((mget x_6 pv_1.1).getD z_T_api_Given).fV.fList.length cap_4, .slice A_5 ((mget x_6 pv_1.1).getD z_T_api_Given).fV.fKeys.length cap_5], .bool (mget x_6 pv_1.1).isSome]) f_42 (by kernel_rfl) (X_lookupR2 (ek := S) (kt := 9) (et := 35) hc_2 (RepMap.isSome (hm_2.mono (hM_5.trans hM_6))) rfl (by kernel_rfl) (by kernel_rfl) (by kernel_rfl) (strKey (by kernel_rfl)) (by kernel_rfl) (p_19.mem _ _ ((hM_5.trans hM_6) _ _ h0_2))) (fun a_41 f_43 => ?_)
          refine V_run f_43 3 (by kernel_rfl) (fun a_42 f_44 => ?_)
          refine V_alloc f_44 p_19 (.cells #[S [], .bool false, .int .i8 0, .bool false, .int .i64 0, S [], .slice none 0 0, .slice none 0 0] 35 (0, 0)) (by kernel_rfl) (fun _ => by kernel_rfl) (fun b_10 w_17 p_20 a_43 f_45 => ?_)
          refine W_storeN (vs := [S ((mget x_6 pv_1.1).getD z_T_api_Given).fName, .bool ((mget x_6 pv_1.1).getD z_T_api_Given).fUnknown, .int .i8 ((mget x_6 pv_1.1).getD z_T_api_Given).fV.fKind, .bool ((mget x_6 pv_1.1).getD z_T_api_Given).fV.fBool, .int .i64 ((mget x_6 pv_1.1).getD z_T_api_Given).fV.fNum, S ((mget x_6 pv_1.1).getD z_T_api_Given).fV.fText, .slice A_4 ((mget x_6 pv_1.1).getD z_T_api_Given).fV.fList.length cap_4, .slice A_5 ((mget x_6 pv_1.1).getD z_T_api_Given).fV.fKeys.length cap_5]) (j := 0) f_45 p_20 (by kernel_rfl) (by kernel_rfl) rfl rfl (by kernel_rfl) (by kernel_rfl) (by simp [Value.oneCell', S]) (by kernel_rfl) (by simp) (by decide) (cs' := #[S ((mget x_6 pv_1.1).getD z_T_api_Given).fName, .bool ((mget x_6 pv_1.1).getD z_T_api_Given).fUnknown, .int .i8 ((mget x_6 pv_1.1).getD z_T_api_Given).fV.fKind, .bool ((mget x_6 pv_1.1).getD z_T_api_Given).fV.fBool, .int .i64 ((mget x_6 pv_1.1).getD z_T_api_Given).fV.fNum, S ((mget x_6 pv_1.1).getD z_T_api_Given).fV.fText, .slice A_4 ((mget x_6 pv_1.1).getD z_T_api_Given).fV.fList.length cap_4, .slice A_5 ((mget x_6 pv_1.1).getD z_T_api_Given).fV.fKeys.length cap_5]) rfl (fun w_18 p_21 a_44 f_46 => ?_)
          refine V_run f_46 1 (by kernel_rfl) (fun a_45 f_47 => ?_)
          refine W_end rfl (T_n (R_seq (R_seq ?_)))
          obtain ⟨j_2, hj_2, hF_12⟩ := bind_some' hs_1
          refine R_mid (fun a_60 w_20 => ∃ y_1 : Bool, j_2 = y_1 ∧ ∃ M_7 : Mem, M_6.le M_7 ∧ Frm 78 [(9, .map (some bk_1)), (10, .map (some bk_2)), (11, .int .i8 s_1), (13, .pointer (some (⟨b_8, 0, none⟩))), (38, .pointer (some (⟨r_1, 0, none⟩))), (74, .bool y_1)] a_60 ∧ Hp w0 M_7 ((Ent.obj b_10 (.cells #[S ((mget x_6 pv_1.1).getD z_T_api_Given).fName, .bool ((mget x_6 pv_1.1).getD z_T_api_Given).fUnknown, .int .i8 ((mget x_6 pv_1.1).getD z_T_api_Given).fV.fKind, .bool ((mget x_6 pv_1.1).getD z_T_api_Given).fV.fBool, .int .i64 ((mget x_6 pv_1.1).getD z_T_api_Given).fV.fNum, S ((mget x_6 pv_1.1).getD z_T_api_Given).fV.fText, .slice A_4 ((mget x_6 pv_1.1).getD z_T_api_Given).fV.fList.length cap_4, .slice A_5 ((mget x_6 pv_1.1).getD z_T_api_Given).fV.fKeys.length cap_5] 35 (0, 0))) :: (Ent.obj b_9 (.cells #[S ((mget x_5 pv_1.1).getD z_T_api_Given).fName, .bool ((mget x_5 pv_1.1).getD z_T_api_Given).fUnknown, .int .i8 ((mget x_5 pv_1.1).getD z_T_api_Given).fV.fKind, .bool ((mget x_5 pv_1.1).getD z_T_api_Given).fV.fBool, .int .i64 ((mget x_5 pv_1.1).getD z_T_api_Given).fV.fNum, S ((mget x_5 pv_1.1).getD z_T_api_Given).fV.fText, .slice A_2 ((mget x_5 pv_1.1).getD z_T_api_Given).fV.fList.length cap_2, .slice A_3 ((mget x_5 pv_1.1).getD z_T_api_Given).fV.fKeys.length cap_3] 35 (0, 0))) :: (Ent.obj b_8 (.cells #[S pv_1.2.fName, .int .i8 pv_1.2.fKind, .bool pv_1.2.fReplace] 81 (0, 0))) :: (Ent.obj r_1 (.mapIter (blkOf b_3 b_4 b_5 b_6 d0) (propsD d0).length (sn_1.push j_1) (propsD d0).length)) :: (Ent.row 26 1 (.slice (some ⟨b_1, 0, none⟩) 2 2) [x_1, x_2].length [.int .i64 x_1, .int .i64 x_2]) :: H) w_20) ?_ ?_
          · refine R_reg ?_
            refine V_run f_47 4 (by kernel_rfl) (fun a_46 f_48 => ?_)
            rcases Bool.eq_false_or_eq_true ((mget x_5 pv_1.1).isSome == (mget x_6 pv_1.1).isSome) with h_8 | h_8
            · have hF_13 := cnd_t h_8 hj_2
              have f_49 := Frm.set f_48 59 (v := .bool ((mget x_5 pv_1.1).isSome == (mget x_6 pv_1.1).isSome)) (v' := .bool true) (by kernel_rfl) (congrArg Value.bool h_8)
              refine V_run f_49 1 (by kernel_rfl) (fun a_47 f_50 => ?_)
              refine V_eq (v := .bool ((mget x_6 pv_1.1).getD z_T_api_Given).fUnknown) f_50 (by kernel_rfl) (X_load1 (v := .bool ((mget x_6 pv_1.1).getD z_T_api_Given).fUnknown) rfl (ad := ⟨b_10, 1, none⟩) (by kernel_rfl) (by kernel_rfl) (p_21.ownCell 0 rfl 1)) (fun a_48 f_51 => ?_)
              refine V_run f_51 3 (by kernel_rfl) (fun a_49 f_52 => ?_)
              rcases Bool.eq_false_or_eq_true (!((mget x_6 pv_1.1).getD z_T_api_Given).fUnknown) with h_9 | h_9
              · have k_6 : (((mget x_6 pv_1.1).getD z_T_api_Given).fUnknown) = false := by simpa using h_9
                have hF_14 := cnd_t h_9 hF_13
                have f_53 := Frm.set f_52 64 (v := .bool (!((mget x_6 pv_1.1).getD z_T_api_Given).fUnknown)) (v' := .bool true) (by kernel_rfl) (congrArg Value.bool h_9)
                refine V_run f_53 3 (by kernel_rfl) (fun a_50 f_54 => ?_)
                rcases Bool.eq_false_or_eq_true (!(mget x_5 pv_1.1).isSome) with h_10 | h_10
                · have k_7 : ((mget x_5 pv_1.1).isSome) = false := by simpa using h_10
                  have hF_15 := cnd_t h_10 hF_14
                  have f_55 := Frm.set f_54 67 (v := .bool (!(mget x_5 pv_1.1).isSome)) (v' := .bool true) (by kernel_rfl) (congrArg Value.bool h_10)
                  refine V_run f_55 7 (by kernel_rfl) (fun a_51 f_56 => ?_)
                  refine W_end rfl (T_n ?_)
                  exact ⟨(true), (Option.some.inj hF_15).symm, M_6, (Mem.le_refl _), f_56.keep (ks := [9, 10, 11, 13, 38, 74]) (by kernel_rfl), p_21⟩
                · have k_8 : ((mget x_5 pv_1.1).isSome) = true := by simpa using h_10
                  have hF_16 := cnd_f h_10 hF_14
                  have f_57 := Frm.set f_54 67 (v := .bool (!(mget x_5 pv_1.1).isSome)) (v' := .bool false) (by kernel_rfl) (congrArg Value.bool h_10)
                  refine V_run f_57 1 (by kernel_rfl) (fun a_52 f_58 => ?_)
                  refine V_eq (v := .agg #[.int .i8 ((mget x_5 pv_1.1).getD z_T_api_Given).fV.fKind, .bool ((mget x_5 pv_1.1).getD z_T_api_Given).fV.fBool, .int .i64 ((mget x_5 pv_1.1).getD z_T_api_Given).fV.fNum, S ((mget x_5 pv_1.1).getD z_T_api_Given).fV.fText, .slice A_2 ((mget x_5 pv_1.1).getD z_T_api_Given).fV.fList.length cap_2, .slice A_3 ((mget x_5 pv_1.1).getD z_T_api_Given).fV.fKeys.length cap_3]) f_58 (by kernel_rfl) (X_loadN (cs := [.int .i8 ((mget x_5 pv_1.1).getD z_T_api_Given).fV.fKind, .bool ((mget x_5 pv_1.1).getD z_T_api_Given).fV.fBool, .int .i64 ((mget x_5 pv_1.1).getD z_T_api_Given).fV.fNum, S ((mget x_5 pv_1.1).getD z_T_api_Given).fV.fText, .slice A_2 ((mget x_5 pv_1.1).getD z_T_api_Given).fV.fList.length cap_2, .slice A_3 ((mget x_5 pv_1.1).getD z_T_api_Given).fV.fKeys.length cap_3]) rfl (ad := ⟨b_9, 2, none⟩) (by kernel_rfl) (by kernel_rfl) (own_cells (p_21.ownCell 1 rfl) 2 rfl)) (fun a_53 f_59 => ?_)
                  refine V_run f_59 1 (by kernel_rfl) (fun a_54 f_60 => ?_)
                  refine V_eq (v := .agg #[.int .i8 ((mget x_6 pv_1.1).getD z_T_api_Given).fV.fKind, .bool ((mget x_6 pv_1.1).getD z_T_api_Given).fV.fBool, .int .i64 ((mget x_6 pv_1.1).getD z_T_api_Given).fV.fNum, S ((mget x_6 pv_1.1).getD z_T_api_Given).fV.fText, .slice A_4 ((mget x_6 pv_1.1).getD z_T_api_Given).fV.fList.length cap_4, .slice A_5 ((mget x_6 pv_1.1).getD z_T_api_Given).fV.fKeys.length cap_5]) f_60 (by kernel_rfl) (X_loadN (cs := [.int .i8 ((mget x_6 pv_1.1).getD z_T_api_Given).fV.fKind, .bool ((mget x_6 pv_1.1).getD z_T_api_Given).fV.fBool, .int .i64 ((mget x_6 pv_1.1).getD z_T_api_Given).fV.fNum, S ((mget x_6 pv_1.1).getD z_T_api_Given).fV.fText, .slice A_4 ((mget x_6 pv_1.1).getD z_T_api_Given).fV.fList.length cap_4, .slice A_5 ((mget x_6 pv_1.1).getD z_T_api_Given).fV.fKeys.length cap_5]) rfl (ad := ⟨b_10, 2, none⟩) (by kernel_rfl) (by kernel_rfl) (own_cells (p_21.ownCell 0 rfl) 2 rfl)) (fun a_55 f_61 => ?_)
                  obtain ⟨x_7, hx_7, hF_17⟩ := bind_some' hF_16
                  refine V_okv f_61 p_21 (tree_Equal_ok n _ (GL.mono ((((hM_2.trans hM_3).trans hM_4).trans hM_5).trans hM_6) hG) _ (⟨((mget x_5 pv_1.1).getD z_T_api_Given).fV.fKind, (((mget x_5 pv_1.1).getD z_T_api_Given).fV.fBool), ((mget x_5 pv_1.1).getD z_T_api_Given).fV.fNum, ((mget x_5 pv_1.1).getD z_T_api_Given).fV.fText, ((mget x_5 pv_1.1).getD z_T_api_Given).fV.fList, ((mget x_5 pv_1.1).getD z_T_api_Given).fV.fKeys⟩ : T_api_Value) (T_api_Value.shut h_4 h_5) _ (⟨((mget x_6 pv_1.1).getD z_T_api_Given).fV.fKind, (((mget x_6 pv_1.1).getD z_T_api_Given).fV.fBool), ((mget x_6 pv_1.1).getD z_T_api_Given).fV.fNum, ((mget x_6 pv_1.1).getD z_T_api_Given).fV.fText, ((mget x_6 pv_1.1).getD z_T_api_Given).fV.fList, ((mget x_6 pv_1.1).getD z_T_api_Given).fV.fKeys⟩ : T_api_Value) (T_api_Value.shut h_6 h_7) x_7 hx_7) (by kernel_rfl) (fun _ => by kernel_rfl) (fun w_19 p_22 a_56 f_62 => ?_)
                  refine V_run f_62 2 (by kernel_rfl) (fun a_57 f_63 => ?_)
                  refine W_end rfl (T_n ?_)
                  exact ⟨(x_7), (Option.some.inj hF_17).symm, M_6, (Mem.le_refl _), f_63.keep (ks := [9, 10, 11, 13, 38, 74]) (by kernel_rfl), p_22⟩
              · have k_9 : (((mget x_6 pv_1.1).getD z_T_api_Given).fUnknown) = true := by simpa using h_9
                have hF_18 := cnd_f h_9 hF_13
                have f_64 := Frm.set f_52 64 (v := .bool (!((mget x_6 pv_1.1).getD z_T_api_Given).fUnknown)) (v' := .bool false) (by kernel_rfl) (congrArg Value.bool h_9)
                refine V_run f_64 10 (by kernel_rfl) (fun a_58 f_65 => ?_)
                refine W_end rfl (T_n ?_)
                exact ⟨(false), (Option.some.inj hF_18).symm, M_6, (Mem.le_refl _), f_65.keep (ks := [9, 10, 11, 13, 38, 74]) (by kernel_rfl), p_21⟩
            · have hF_19 := cnd_f h_8 hj_2
              have f_66 := Frm.set f_48 59 (v := .bool ((mget x_5 pv_1.1).isSome == (mget x_6 pv_1.1).isSome)) (v' := .bool false) (by kernel_rfl) (congrArg Value.bool h_8)
              refine V_run f_66 15 (by kernel_rfl) (fun a_59 f_67 => ?_)
              refine W_end rfl (T_n ?_)
              exact ⟨(false), (Option.some.inj hF_19).symm, M_6, (Mem.le_refl _), f_67.keep (ks := [9, 10, 11, 13, 38, 74]) (by kernel_rfl), p_21⟩
          · rintro a_60 w_20 ⟨y_1, hq_1, M_7, hM_7, f_68, p_23⟩
            subst j_2
            refine T_n ?_
            refine R_cond f_68 (b := y_1) (by kernel_rfl) (by kernel_rfl) (fun h_11 => ?_) (fun h_11 => ?_)
            · have hF_20 := cnd_t h_11 hF_12
              refine wp_exit (T_x (B_x (T_n ?_)))
              obtain rfl := Option.some.inj hF_20
              exact ⟨⟨s_1, sn_1.push j_1⟩, leftD_lt hj_1, M_7, (hM_6.trans hM_7), hn_1, f_68.keep (ks := [9, 10, 11, 38]) (by kernel_rfl), (p_23.dropN 3)⟩
            · have hF_21 := cnd_f h_11 hF_12
              refine wp_skip (T_n (R_seq (R_seq (R_reg ?_))))
              refine V_run f_68 1 (by kernel_rfl) (fun a_61 f_69 => ?_)
              refine V_eq (v := .bool pv_1.2.fReplace) f_69 (by kernel_rfl) (X_load1 (v := .bool pv_1.2.fReplace) rfl (ad := ⟨b_8, 2, none⟩) (by kernel_rfl) (by kernel_rfl) (p_23.ownCell 2 rfl 2)) (fun a_62 f_70 => ?_)
              refine W_end rfl (T_n ?_)
              refine R_cond f_70 (b := pv_1.2.fReplace) (by kernel_rfl) (by kernel_rfl) (fun h_12 => ?_) (fun h_12 => ?_)
              · have hF_22 := cnd_t h_12 hF_21
                refine R_seq (R_reg ?_)
                refine V_run f_70 2 (by kernel_rfl) (fun a_63 f_71 => ?_)
                refine W_end rfl (T_n (wp_ret (T_r (B_r (T_r ?_)))))
                obtain rfl := Option.some.inj hF_22
                exact .inr ⟨rfl, (), (Option.some.inj hn_1).symm, M_7, (hM_6.trans hM_7), f_71.keep (ks := [6, 7]) (by kernel_rfl), (p_23.dropN 4)⟩
              · have hF_23 := cnd_f h_12 hF_21
                refine wp_skip (T_n (R_reg ?_))
                refine V_run f_70 1 (by kernel_rfl) (fun a_64 f_72 => ?_)
                refine W_end rfl (B_n (T_n ?_))
                obtain rfl := Option.some.inj hF_23
                exact ⟨⟨(2 : Int), sn_1.push j_1⟩, leftD_lt hj_1, M_7, (hM_6.trans hM_7), hn_1, f_72.keep (ks := [9, 10, 11, 38]) (by kernel_rfl), (p_23.dropN 3)⟩
      · rintro _ a_67 w_23 (⟨rfl, y_2, rfl, M_8, hM_8, f_73, p_24⟩ | ⟨rfl, y_3, rfl, M_9, hM_9, f_74, p_25⟩)
        · refine B_x (T_n (R_seq (R_reg ?_)))
          refine V_run f_73 3 (by kernel_rfl) (fun a_68 f_75 => ?_)
          refine W_end rfl (T_n (wp_ret ?_))
          refine E_ret2 f_75 rfl (by kernel_rfl : Vc.look _ 6 = some (.int .i8 y_2)) (by kernel_rfl : Vc.look _ 7 = some (.int .i64 0)) ?_
          obtain rfl := Option.some.inj hF_11
          exact ⟨_, rfl, M_8, ((((hM_2.trans hM_3).trans hM_4).trans hM_5).trans hM_8), (p_24.dropN 1), rfl⟩
        · refine B_r (T_r ?_)
          refine E_ret2 f_74 rfl (by kernel_rfl : Vc.look _ 6 = some (.int .i8 3)) (by kernel_rfl : Vc.look _ 7 = some (.int .i64 0)) ?_
          obtain rfl := Option.some.inj hF_11
          exact ⟨_, rfl, M_9, ((((hM_2.trans hM_3).trans hM_4).trans hM_5).trans hM_9), (p_25.dropN 1), rfl⟩
end Go.Proofs.YtalifkcchfkgmaaDoor
