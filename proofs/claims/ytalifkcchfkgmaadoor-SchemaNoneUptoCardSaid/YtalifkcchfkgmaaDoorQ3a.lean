/-
  Printed by a program: of each function its shallow reading, and the proof that the function gives what the reading gives. No condition.
-/
import Derived.Test.YtalifkcchfkgmaaDoorQ1
set_option linter.unusedVariables false
set_option linter.unusedSimpArgs false
namespace Go.Proofs.YtalifkcchfkgmaaDoor
open Go Go.Vc Go.RowKit
def tree_depth_s1 (n : Nat) (rec_tree_depth : T_api_Value → Int → Option Int) (d0 : T_api_Value) (d1 : Int) (s_1 : Int × Int) : Option (Lp (Int × Int) Int) :=
    bif (decide (s_1.2 < ((d0.fList.length : Nat) : Int))) then
      (bif (decide ((0 : Int) < d1)) then
        ((getI d0.fList s_1.2).bind fun x_1 =>
        need (inR .i64 (d1 - 1)) <|
        (rec_tree_depth x_1 (d1 - 1)).bind fun x_2 =>
        need (inR .i64 (s_1.2 + 1)) <|
        some (.nx (max s_1.1 x_2, s_1.2 + 1)))
      else
        need (inR .i64 (s_1.2 + 1)) <|
        some (.nx (s_1.1, s_1.2 + 1)))
    else
      some (.br s_1.1)
def tree_depth_b (n : Nat) (rec_tree_depth : T_api_Value → Int → Option Int) (d0 : T_api_Value) (d1 : Int) : Option Int :=
  (loopF (tree_depth_s1 n rec_tree_depth d0 d1) n ((0 : Int), (0 : Int))).bind fun y_1 =>
  need (inR .i64 (y_1 + 1)) <|
  some (y_1 + 1)
set_option maxHeartbeats 2000000 in
theorem tree_depth_b_ok (n : Nat) (rec_tree_depth : T_api_Value → Int → Option Int) (hrec_tree_depth : ∀ (M : Mem) (ad0 : Addr) (c0 : List Value) (d0 : T_api_Value) (h0 : Rep M (emb_T_api_Value d0) c0) (q0 : ∀ j v, c0[j]? = some v → M.cell? (ad0.add j) = some v) (d1 : Int) (r : Int) (hF : rec_tree_depth d0 d1 = some r), Ok Tryd.prog M 84 [.pointer (some ad0), .int .i64 d1] (fun _ v => v = .int .i64 r)) (M : Mem) (ad0 : Addr) (c0 : List Value) (d0 : T_api_Value) (h0 : Rep M (emb_T_api_Value d0) c0) (q0 : ∀ j v, c0[j]? = some v → M.cell? (ad0.add j) = some v) (d1 : Int) (r : Int) (hF : tree_depth_b n rec_tree_depth d0 d1 = some r) : Ok Tryd.prog M 84 [.pointer (some ad0), .int .i64 d1] (fun _ v => v = .int .i64 r) := by
  unfold tree_depth_b at hF
  intro M1 hM0 w0 H w p0
  replace h0 := Rep.mono hM0 _ _ h0
  replace q0 := fun j v h => hM0.cell (q0 j v h)
  obtain ⟨A_1, cap_1, A_2, cap_2, rfl, h_1, h_2⟩ := T_api_Value.opn h0
  refine R_enter 31 Tryd.func84 rfl rfl (by simp) (fun a0 f0 => ?_)
  refine R_seq (R_reg ?_)
  refine V_run f0 1 (by kernel_rfl) (fun a_1 f_1 => ?_)
  refine W_end rfl (T_n (R_seq (R_reg ?_)))
  refine V_run f_1 1 (by kernel_rfl) (fun a_2 f_2 => ?_)
  refine W_end rfl (T_n (R_seq (R_seq (R_reg ?_))))
  refine V_run f_2 3 (by kernel_rfl) (fun a_3 f_3 => ?_)
  refine V_ld f_3 p0 q0 4 rfl (by kernel_rfl) (by kernel_rfl) (fun a_4 f_4 => ?_)
  refine V_run f_4 2 (by kernel_rfl) (fun a_5 f_5 => ?_)
  refine W_end rfl (T_n (wp_block ?_))
  obtain ⟨b_1, hL_1, hF_1⟩ := bind_some' hF
  refine wp_mono (Q := fun e a w => (e = .exit 0 ∧ (∃ y_1 : Int, b_1 = y_1 ∧ ∃ M_2 : Mem, M1.le M_2 ∧ Frm 31 [(5, .int .i64 y_1)] a ∧ Hp w0 M_2 (H) w))) (R_loop (n := 31) (w0 := w0) (M := M1) (fun (x : Nat × (Int × Int)) => match x with | (m_1, s_1) => [(0, .pointer (some ad0)), (1, .int .i64 d1), (5, .int .i64 s_1.1), (11, .int .i64 ((d0.fList.length : Nat) : Int)), (12, .int .i64 s_1.2)]) (fun (x : Nat × (Int × Int)) => match x with | (m_1, s_1) => (H)) (fun (x : Nat × (Int × Int)) (MM : Mem) => match x with | (m_1, s_1) => loopF (tree_depth_s1 n rec_tree_depth d0 d1) m_1 s_1 = some b_1) (fun (x : Nat × (Int × Int)) => match x with | (m_1, s_1) => m_1) (n, ((0 : Int), (0 : Int))) (f_5.keep (ks := [0, 1, 5, 11, 12]) (by kernel_rfl)) p0 hL_1 ?_) ?_
  · rintro ⟨m_1, s_1⟩ M_1 a_6 w_1 hM_1 I_1 f_6 p_1
    have I_1L := I_1
    obtain ⟨m_2, r_1, rfl, hs_1, hn_1⟩ := loop_step I_1L
    unfold tree_depth_s1 at hs_1
    refine R_seq (R_reg ?_)
    refine V_run f_6 1 (by kernel_rfl) (fun a_7 f_7 => ?_)
    refine W_end rfl (T_n (R_seq ?_))
    refine R_cond f_7 (b := decide (s_1.2 < ((d0.fList.length : Nat) : Int))) (by kernel_rfl) (by kernel_rfl) (fun h_3 => ?_) (fun h_3 => ?_)
    · have k_1 : s_1.2 < ((d0.fList.length : Nat) : Int) := decide_eq_true_iff.1 h_3
      have hF_2 := cnd_t h_3 hs_1
      refine wp_skip (T_n (R_seq (wp_block (R_seq (R_reg ?_)))))
      refine V_run f_7 2 (by kernel_rfl) (fun a_8 f_8 => ?_)
      refine W_end rfl (T_n (R_seq (R_reg ?_)))
      refine V_run f_8 2 (by kernel_rfl) (fun a_9 f_9 => ?_)
      refine W_end rfl (T_n ?_)
      refine R_cond f_9 (b := decide ((0 : Int) < d1)) (by kernel_rfl) (by kernel_rfl) (fun h_4 => ?_) (fun h_4 => ?_)
      · have k_2 : (0 : Int) < d1 := decide_eq_true_iff.1 h_4
        have hF_3 := cnd_t h_4 hF_2
        refine R_reg ?_
        refine V_run f_9 4 (by kernel_rfl) (fun a_10 f_10 => ?_)
        refine V_ld f_10 p_1 (fzu hM_1 q0) 4 rfl (by kernel_rfl) (by kernel_rfl) (fun a_11 f_11 => ?_)
        refine V_run f_11 1 (by kernel_rfl) (fun a_12 f_12 => ?_)
        obtain ⟨x_1, hx_1, hF_4⟩ := bind_some' hF_3
        obtain ⟨ad_1, c_1, e_1, hl_1, hr_1, hc_1⟩ := Sli.at_ (h_1.mono hM_1) hx_1
        clear hl_1
        obtain ⟨A_3, cap_3, A_4, cap_4, rfl, h_5, h_6⟩ := T_api_Value.opn hr_1
        refine V_eq (v := .pointer (some (ad_1.add (s_1.2.toNat * 6)))) f_12 (by kernel_rfl) (X_indexAddrA e_1 rfl (len := d0.fList.length) (cap := cap_1) (k := .i64) (i := s_1.2) (by kernel_rfl) (by kernel_rfl) (e := 33) (by kernel_rfl) (sz := 6) (by kernel_rfl) (getI_nn hx_1) (getI_lt hx_1)) (fun a_13 f_13 => ?_)
        refine V_run f_13 1 (by kernel_rfl) (fun a_14 f_14 => ?_)
        obtain ⟨g_1, hF_5⟩ := need_some hF_4
        refine V_run f_14 1 (by kernel_rfl) (fun a_15 f_15 => ?_)
        have f_16 := Frm.set f_15 25 (v := .int .i64 (IntKind.wrap .i64 (d1 - 1))) (v' := .int .i64 (d1 - 1)) (by kernel_rfl) (congrArg (Value.int .i64) (inR_wrap g_1))
        obtain ⟨x_2, hx_2, hF_6⟩ := bind_some' hF_5
        refine V_okv f_16 p_1 (hrec_tree_depth _ (ad_1.add (s_1.2.toNat * 6)) [.int .i8 x_1.fKind, .bool x_1.fBool, .int .i64 x_1.fNum, S x_1.fText, .slice A_3 x_1.fList.length cap_3, .slice A_4 x_1.fKeys.length cap_4] x_1 (T_api_Value.shutx (x := x_1) h_5 h_6) (fz_at (hc_1) 0 rfl) (d1 - 1) x_2 hx_2) (by kernel_rfl) (fun _ => by kernel_rfl) (fun w_2 p_2 a_16 f_17 => ?_)
        refine V_eq (v := .int .i64 (max s_1.1 x_2)) f_17 (by kernel_rfl) (X_max (k := .i64) (a := s_1.1) (b := x_2) rfl (by kernel_rfl) (by kernel_rfl)) (fun a_17 f_18 => ?_)
        refine V_run f_18 1 (by kernel_rfl) (fun a_18 f_19 => ?_)
        refine W_end rfl (B_n (T_n (R_reg ?_)))
        obtain ⟨g_2, hF_7⟩ := need_some hF_6
        refine V_run f_19 1 (by kernel_rfl) (fun a_19 f_20 => ?_)
        have f_21 := Frm.set f_20 28 (v := .int .i64 (IntKind.wrap .i64 (s_1.2 + 1))) (v' := .int .i64 (s_1.2 + 1)) (by kernel_rfl) (congrArg (Value.int .i64) (inR_wrap g_2))
        refine V_run f_21 1 (by kernel_rfl) (fun a_20 f_22 => ?_)
        refine W_end rfl (T_n ?_)
        obtain rfl := Option.some.inj hF_7
        exact ⟨⟨m_2, (max s_1.1 x_2, s_1.2 + 1)⟩, Nat.lt_succ_self _, M_1, hM_1, hn_1, f_22.keep (ks := [0, 1, 5, 11, 12]) (by kernel_rfl), p_2⟩
      · have k_3 : ¬ ((0 : Int) < d1) := iff_f decide_eq_true_iff h_4
        have hF_8 := cnd_f h_4 hF_2
        refine wp_skip (B_n (T_n (R_reg ?_)))
        obtain ⟨g_3, hF_9⟩ := need_some hF_8
        refine V_run f_9 1 (by kernel_rfl) (fun a_21 f_23 => ?_)
        have f_24 := Frm.set f_23 28 (v := .int .i64 (IntKind.wrap .i64 (s_1.2 + 1))) (v' := .int .i64 (s_1.2 + 1)) (by kernel_rfl) (congrArg (Value.int .i64) (inR_wrap g_3))
        refine V_run f_24 1 (by kernel_rfl) (fun a_22 f_25 => ?_)
        refine W_end rfl (T_n ?_)
        obtain rfl := Option.some.inj hF_9
        exact ⟨⟨m_2, (s_1.1, s_1.2 + 1)⟩, Nat.lt_succ_self _, M_1, hM_1, hn_1, f_25.keep (ks := [0, 1, 5, 11, 12]) (by kernel_rfl), p_1⟩
    · have k_4 : ¬ (s_1.2 < ((d0.fList.length : Nat) : Int)) := iff_f decide_eq_true_iff h_3
      have hF_10 := cnd_f h_3 hs_1
      refine wp_exit (T_x (T_x ?_))
      obtain rfl := Option.some.inj hF_10
      exact ⟨rfl, s_1.1, (Option.some.inj hn_1).symm, M_1, hM_1, f_7.keep (ks := [5]) (by kernel_rfl), p_1⟩
  · rintro _ a_24 w_4 ⟨rfl, y_1, hq_, M_2, hM_2, f_26, p_3⟩
    subst b_1
    refine B_x (T_n (R_seq (R_reg ?_)))
    refine V_run f_26 1 (by kernel_rfl) (fun a_25 f_27 => ?_)
    obtain ⟨g_4, hF_11⟩ := need_some hF_1
    refine V_run f_27 1 (by kernel_rfl) (fun a_26 f_28 => ?_)
    have f_29 := Frm.set f_28 30 (v := .int .i64 (IntKind.wrap .i64 (y_1 + 1))) (v' := .int .i64 (y_1 + 1)) (by kernel_rfl) (congrArg (Value.int .i64) (inR_wrap g_4))
    refine V_run f_29 1 (by kernel_rfl) (fun a_27 f_30 => ?_)
    refine W_end rfl (T_n (wp_ret ?_))
    refine E_ret1 f_30 rfl (by kernel_rfl : Vc.look _ 4 = some (.int .i64 (y_1 + 1))) ?_
    obtain rfl := Option.some.inj hF_11
    exact ⟨_, rfl, M_2, hM_2, p_3, rfl⟩
def tree_depth_k (n : Nat) : Nat → T_api_Value → Int → Option Int
  | 0 => fun _ _ => none
  | k + 1 => tree_depth_b n (tree_depth_k n k)
def tree_depth (n : Nat) (d0 : T_api_Value) (d1 : Int) : Option Int := tree_depth_k n n d0 d1
theorem tree_depth_ok (n : Nat) (M : Mem) (ad0 : Addr) (c0 : List Value) (d0 : T_api_Value) (h0 : Rep M (emb_T_api_Value d0) c0) (q0 : ∀ j v, c0[j]? = some v → M.cell? (ad0.add j) = some v) (d1 : Int) (r : Int) (hF : tree_depth n d0 d1 = some r) : Ok Tryd.prog M 84 [.pointer (some ad0), .int .i64 d1] (fun _ v => v = .int .i64 r) := by
  have key : ∀ (k : Nat) (M : Mem) (ad0 : Addr) (c0 : List Value) (d0 : T_api_Value) (h0 : Rep M (emb_T_api_Value d0) c0) (q0 : ∀ j v, c0[j]? = some v → M.cell? (ad0.add j) = some v) (d1 : Int) (r : Int) (hF : tree_depth_k n k d0 d1 = some r), Ok Tryd.prog M 84 [.pointer (some ad0), .int .i64 d1] (fun _ v => v = .int .i64 r) := by
    intro k
    induction k with
    | zero => intro M ad0 c0 d0 h0 q0 d1 r hF; simp [tree_depth_k] at hF
    | succ k ih => intro M ad0 c0 d0 h0 q0 d1 r hF; exact tree_depth_b_ok n (tree_depth_k n k) ih M ad0 c0 d0 h0 q0 d1 r hF
  exact key n M ad0 c0 d0 h0 q0 d1 r hF
end Go.Proofs.YtalifkcchfkgmaaDoor
