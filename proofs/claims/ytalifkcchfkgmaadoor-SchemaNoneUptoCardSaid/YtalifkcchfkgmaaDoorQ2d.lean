/-
  Printed by a program: of each function its shallow reading, and the proof that the function gives what the reading gives. No condition.
-/
import Derived.Test.YtalifkcchfkgmaaDoorQ1
set_option linter.unusedVariables false
set_option linter.unusedSimpArgs false
namespace Go.Proofs.YtalifkcchfkgmaaDoor
open Go Go.Vc Go.RowKit
def ref03_Count_s1 (n : Nat) (rec_ref03_Count : T_api_Value → Option Int) (d0 : T_api_Value) (s_1 : Int × Int) : Option (Lp (Int × Int) Int) :=
    bif (decide (s_1.2 < ((d0.fList.length : Nat) : Int))) then
      ((getI d0.fList s_1.2).bind fun x_1 =>
      (rec_ref03_Count x_1).bind fun x_2 =>
      need (inR .i64 (s_1.1 + x_2)) <|
      need (inR .i64 (s_1.2 + 1)) <|
      some (.nx (s_1.1 + x_2, s_1.2 + 1)))
    else
      some (.br s_1.1)
def ref03_Count_b (n : Nat) (rec_ref03_Count : T_api_Value → Option Int) (d0 : T_api_Value) : Option Int :=
  (loopF (ref03_Count_s1 n rec_ref03_Count d0) n ((1 : Int), (0 : Int))).bind fun y_1 =>
  some (y_1)
set_option maxHeartbeats 2000000 in
theorem ref03_Count_b_ok (n : Nat) (rec_ref03_Count : T_api_Value → Option Int) (hrec_ref03_Count : ∀ (M : Mem) (c0 : List Value) (d0 : T_api_Value) (h0 : Rep M (emb_T_api_Value d0) c0) (r : Int) (hF : rec_ref03_Count d0 = some r), Ok Tryd.prog M 74 [.agg c0.toArray] (fun _ v => v = .int .i64 r)) (M : Mem) (c0 : List Value) (d0 : T_api_Value) (h0 : Rep M (emb_T_api_Value d0) c0) (r : Int) (hF : ref03_Count_b n rec_ref03_Count d0 = some r) : Ok Tryd.prog M 74 [.agg c0.toArray] (fun _ v => v = .int .i64 r) := by
  unfold ref03_Count_b at hF
  intro M1 hM0 w0 H w p0
  replace h0 := Rep.mono hM0 _ _ h0
  obtain ⟨A_1, cap_1, A_2, cap_2, rfl, h_1, h_2⟩ := T_api_Value.opn h0
  refine R_enter 21 Tryd.func74 rfl rfl (by simp) (fun a0 f0 => ?_)
  refine R_seq (R_reg ?_)
  refine V_box (cs := #[.int .i8 d0.fKind, .bool d0.fBool, .int .i64 d0.fNum, S d0.fText, .slice A_1 d0.fList.length cap_1, .slice A_2 d0.fKeys.length cap_2]) (T := 33) f0 p0 (by kernel_rfl) (fun _ => by kernel_rfl) (fun b_1 M_1 w_1 hM_1 hc_1 p_1 a_1 f_1 => ?_)
  have hc_2 := fz_box hc_1
  refine V_run f_1 1 (by kernel_rfl) (fun a_2 f_2 => ?_)
  refine W_end rfl (T_n (R_seq (R_reg ?_)))
  refine V_run f_2 1 (by kernel_rfl) (fun a_3 f_3 => ?_)
  refine W_end rfl (T_n (R_seq (R_seq (R_reg ?_))))
  refine V_run f_3 1 (by kernel_rfl) (fun a_4 f_4 => ?_)
  refine W_end rfl (T_n (wp_block ?_))
  obtain ⟨b_2, hL_1, hF_1⟩ := bind_some' hF
  refine wp_mono (Q := fun e a w => (e = .exit 0 ∧ (∃ y_1 : Int, b_2 = y_1 ∧ ∃ M_3 : Mem, M_1.le M_3 ∧ Frm 21 [(3, .int .i64 y_1)] a ∧ Hp w0 M_3 (H) w))) (R_loop (n := 21) (w0 := w0) (M := M_1) (fun (x : Nat × (Int × Int)) => match x with | (m_1, s_1) => [(1, .pointer (some (⟨b_1, 0, none⟩))), (3, .int .i64 s_1.1), (4, .int .i64 s_1.2)]) (fun (x : Nat × (Int × Int)) => match x with | (m_1, s_1) => (H)) (fun (x : Nat × (Int × Int)) (MM : Mem) => match x with | (m_1, s_1) => loopF (ref03_Count_s1 n rec_ref03_Count d0) m_1 s_1 = some b_2) (fun (x : Nat × (Int × Int)) => match x with | (m_1, s_1) => m_1) (n, ((1 : Int), (0 : Int))) (f_4.keep (ks := [1, 3, 4]) (by kernel_rfl)) p_1 hL_1 ?_) ?_
  · rintro ⟨m_1, s_1⟩ M_2 a_5 w_2 hM_2 I_1 f_5 p_2
    have I_1L := I_1
    obtain ⟨m_2, r_1, rfl, hs_1, hn_1⟩ := loop_step I_1L
    unfold ref03_Count_s1 at hs_1
    refine R_seq (R_seq (R_reg ?_))
    refine V_run f_5 2 (by kernel_rfl) (fun a_6 f_6 => ?_)
    refine V_ld f_6 p_2 (fzu hM_2 hc_2) 4 rfl (by kernel_rfl) (by kernel_rfl) (fun a_7 f_7 => ?_)
    refine V_run f_7 2 (by kernel_rfl) (fun a_8 f_8 => ?_)
    refine W_end rfl (T_n ?_)
    refine R_cond f_8 (b := decide (s_1.2 < ((d0.fList.length : Nat) : Int))) (by kernel_rfl) (by kernel_rfl) (fun h_3 => ?_) (fun h_3 => ?_)
    · have k_1 : s_1.2 < ((d0.fList.length : Nat) : Int) := decide_eq_true_iff.1 h_3
      have hF_2 := cnd_t h_3 hs_1
      refine wp_skip (T_n (R_seq (wp_block (R_reg ?_))))
      refine V_run f_8 2 (by kernel_rfl) (fun a_9 f_9 => ?_)
      refine V_ld f_9 p_2 (fzu hM_2 hc_2) 4 rfl (by kernel_rfl) (by kernel_rfl) (fun a_10 f_10 => ?_)
      refine V_run f_10 1 (by kernel_rfl) (fun a_11 f_11 => ?_)
      obtain ⟨x_1, hx_1, hF_3⟩ := bind_some' hF_2
      obtain ⟨ad_1, c_1, e_1, hl_1, hr_1, hc_3⟩ := Sli.at_ (h_1.mono (hM_1.trans hM_2)) hx_1
      clear hl_1
      obtain ⟨A_3, cap_3, A_4, cap_4, rfl, h_4, h_5⟩ := T_api_Value.opn hr_1
      refine V_eq (v := .pointer (some (ad_1.add (s_1.2.toNat * 6)))) f_11 (by kernel_rfl) (X_indexAddrA e_1 rfl (len := d0.fList.length) (cap := cap_1) (k := .i64) (i := s_1.2) (by kernel_rfl) (by kernel_rfl) (e := 33) (by kernel_rfl) (sz := 6) (by kernel_rfl) (getI_nn hx_1) (getI_lt hx_1)) (fun a_12 f_12 => ?_)
      refine V_eq (v := .agg #[.int .i8 x_1.fKind, .bool x_1.fBool, .int .i64 x_1.fNum, S x_1.fText, .slice A_3 x_1.fList.length cap_3, .slice A_4 x_1.fKeys.length cap_4]) f_12 (by kernel_rfl) (X_loadN (cs := [.int .i8 x_1.fKind, .bool x_1.fBool, .int .i64 x_1.fNum, S x_1.fText, .slice A_3 x_1.fList.length cap_3, .slice A_4 x_1.fKeys.length cap_4]) rfl (ad := ad_1.add (s_1.2.toNat * 6)) (by kernel_rfl) (by kernel_rfl) (fun j v h => p_2.cell (hc_3 j v h))) (fun a_13 f_13 => ?_)
      obtain ⟨x_2, hx_2, hF_4⟩ := bind_some' hF_3
      refine V_okv f_13 p_2 (hrec_ref03_Count _ _ x_1 (T_api_Value.shutx (x := x_1) h_4 h_5) x_2 hx_2) (by kernel_rfl) (fun _ => by kernel_rfl) (fun w_3 p_3 a_14 f_14 => ?_)
      obtain ⟨g_1, hF_5⟩ := need_some hF_4
      refine V_run f_14 1 (by kernel_rfl) (fun a_15 f_15 => ?_)
      have f_16 := Frm.set f_15 19 (v := .int .i64 (IntKind.wrap .i64 (s_1.1 + x_2))) (v' := .int .i64 (s_1.1 + x_2)) (by kernel_rfl) (congrArg (Value.int .i64) (inR_wrap g_1))
      refine V_run f_16 1 (by kernel_rfl) (fun a_16 f_17 => ?_)
      refine W_end rfl (B_n (T_n (R_reg ?_)))
      refine V_run f_17 1 (by kernel_rfl) (fun a_17 f_18 => ?_)
      obtain ⟨g_2, hF_6⟩ := need_some hF_5
      refine V_run f_18 1 (by kernel_rfl) (fun a_18 f_19 => ?_)
      have f_20 := Frm.set f_19 11 (v := .int .i64 (IntKind.wrap .i64 (s_1.2 + 1))) (v' := .int .i64 (s_1.2 + 1)) (by kernel_rfl) (congrArg (Value.int .i64) (inR_wrap g_2))
      refine V_run f_20 1 (by kernel_rfl) (fun a_19 f_21 => ?_)
      refine W_end rfl (T_n ?_)
      obtain rfl := Option.some.inj hF_6
      exact ⟨⟨m_2, (s_1.1 + x_2, s_1.2 + 1)⟩, Nat.lt_succ_self _, M_2, hM_2, hn_1, f_21.keep (ks := [1, 3, 4]) (by kernel_rfl), p_3⟩
    · have k_2 : ¬ (s_1.2 < ((d0.fList.length : Nat) : Int)) := iff_f decide_eq_true_iff h_3
      have hF_7 := cnd_f h_3 hs_1
      refine wp_exit (T_x (T_x ?_))
      obtain rfl := Option.some.inj hF_7
      exact ⟨rfl, s_1.1, (Option.some.inj hn_1).symm, M_2, hM_2, f_8.keep (ks := [3]) (by kernel_rfl), p_2⟩
  · rintro _ a_21 w_5 ⟨rfl, y_1, hq_, M_3, hM_3, f_22, p_4⟩
    subst b_2
    refine B_x (T_n (R_seq (R_reg ?_)))
    refine V_run f_22 2 (by kernel_rfl) (fun a_22 f_23 => ?_)
    refine W_end rfl (T_n (wp_ret ?_))
    refine E_ret1 f_23 rfl (by kernel_rfl : Vc.look _ 2 = some (.int .i64 y_1)) ?_
    obtain rfl := Option.some.inj hF_1
    exact ⟨_, rfl, M_3, (hM_1.trans hM_3), p_4, rfl⟩
def ref03_Count_k (n : Nat) : Nat → T_api_Value → Option Int
  | 0 => fun _ => none
  | k + 1 => ref03_Count_b n (ref03_Count_k n k)
def ref03_Count (n : Nat) (d0 : T_api_Value) : Option Int := ref03_Count_k n n d0
theorem ref03_Count_ok (n : Nat) (M : Mem) (c0 : List Value) (d0 : T_api_Value) (h0 : Rep M (emb_T_api_Value d0) c0) (r : Int) (hF : ref03_Count n d0 = some r) : Ok Tryd.prog M 74 [.agg c0.toArray] (fun _ v => v = .int .i64 r) := by
  have key : ∀ (k : Nat) (M : Mem) (c0 : List Value) (d0 : T_api_Value) (h0 : Rep M (emb_T_api_Value d0) c0) (r : Int) (hF : ref03_Count_k n k d0 = some r), Ok Tryd.prog M 74 [.agg c0.toArray] (fun _ v => v = .int .i64 r) := by
    intro k
    induction k with
    | zero => intro M c0 d0 h0 r hF; simp [ref03_Count_k] at hF
    | succ k ih => intro M c0 d0 h0 r hF; exact ref03_Count_b_ok n (ref03_Count_k n k) ih M c0 d0 h0 r hF
  exact key n M c0 d0 h0 r hF
end Go.Proofs.YtalifkcchfkgmaaDoor
