/-
  Printed by a program: of each function its shallow reading, and the proof that the function gives what the reading gives. No condition.
-/
import Derived.Test.YtalifkcchfkgmaaDoorQ2d
set_option linter.unusedVariables false
set_option linter.unusedSimpArgs false
namespace Go.Proofs.YtalifkcchfkgmaaDoor
open Go Go.Vc Go.RowKit
def ref03_deeper_s1 (n : Nat) (rec_ref03_deeper : T_api_Value → Int → Option Bool) (d0 : T_api_Value) (d1 : Int) (s_1 : Int) : Option (Lp Int (Sum Unit Unit)) :=
    bif (decide (s_1 < ((d0.fList.length : Nat) : Int))) then
      ((getI d0.fList s_1).bind fun x_1 =>
      need (inR .i64 (d1 - 1)) <|
      (rec_ref03_deeper x_1 (d1 - 1)).bind fun x_2 =>
      bif x_2 then
        (some (.br (.inl ())))
      else
        need (inR .i64 (s_1 + 1)) <|
        some (.nx (s_1 + 1)))
    else
      some (.br (.inr ()))
def ref03_deeper_b (n : Nat) (rec_ref03_deeper : T_api_Value → Int → Option Bool) (d0 : T_api_Value) (d1 : Int) : Option Bool :=
  bif (decide (d1 = 0)) then
    (some ((true)))
  else
    (loopF (ref03_deeper_s1 n rec_ref03_deeper d0 d1) n (0 : Int)).bind fun b_2 =>
    (match b_2 with 
    | .inl y_1 => some ((true)) 
    | .inr y_2 => some ((false)))
set_option maxHeartbeats 2000000 in
theorem ref03_deeper_b_ok (n : Nat) (rec_ref03_deeper : T_api_Value → Int → Option Bool) (hrec_ref03_deeper : ∀ (M : Mem) (c0 : List Value) (d0 : T_api_Value) (h0 : Rep M (emb_T_api_Value d0) c0) (d1 : Int) (r : Bool) (hF : rec_ref03_deeper d0 d1 = some r), Ok Tryd.prog M 72 [.agg c0.toArray, .int .i64 d1] (fun _ v => v = .bool r)) (M : Mem) (c0 : List Value) (d0 : T_api_Value) (h0 : Rep M (emb_T_api_Value d0) c0) (d1 : Int) (r : Bool) (hF : ref03_deeper_b n rec_ref03_deeper d0 d1 = some r) : Ok Tryd.prog M 72 [.agg c0.toArray, .int .i64 d1] (fun _ v => v = .bool r) := by
  unfold ref03_deeper_b at hF
  intro M1 hM0 w0 H w p0
  replace h0 := Rep.mono hM0 _ _ h0
  obtain ⟨A_1, cap_1, A_2, cap_2, rfl, h_1, h_2⟩ := T_api_Value.opn h0
  refine R_enter 23 Tryd.func72 rfl rfl (by simp) (fun a0 f0 => ?_)
  refine R_seq (R_reg ?_)
  refine V_box (cs := #[.int .i8 d0.fKind, .bool d0.fBool, .int .i64 d0.fNum, S d0.fText, .slice A_1 d0.fList.length cap_1, .slice A_2 d0.fKeys.length cap_2]) (T := 33) f0 p0 (by kernel_rfl) (fun _ => by kernel_rfl) (fun b_1 M_1 w_1 hM_1 hc_1 p_1 a_1 f_1 => ?_)
  have hc_2 := fz_box hc_1
  refine V_run f_1 1 (by kernel_rfl) (fun a_2 f_2 => ?_)
  refine W_end rfl (T_n (R_seq (R_seq (R_reg ?_))))
  refine V_run f_2 2 (by kernel_rfl) (fun a_3 f_3 => ?_)
  refine W_end rfl (T_n ?_)
  refine R_cond f_3 (b := decide (d1 = 0)) (by kernel_rfl) (by kernel_rfl) (fun h_3 => ?_) (fun h_3 => ?_)
  · have k_1 : d1 = 0 := decide_eq_true_iff.1 h_3
    have hF_1 := cnd_t h_3 hF
    refine R_seq (R_reg ?_)
    refine V_run f_3 1 (by kernel_rfl) (fun a_4 f_4 => ?_)
    refine W_end rfl (T_n (wp_ret (T_r ?_)))
    refine E_ret1 f_4 rfl (by kernel_rfl : Vc.look _ 4 = some (.bool true)) ?_
    obtain rfl := Option.some.inj hF_1
    exact ⟨_, rfl, M_1, hM_1, p_1, rfl⟩
  · have k_2 : ¬ (d1 = 0) := iff_f decide_eq_true_iff h_3
    have hF_2 := cnd_f h_3 hF
    refine wp_skip (T_n (R_seq (R_seq (R_reg ?_))))
    refine V_run f_3 1 (by kernel_rfl) (fun a_5 f_5 => ?_)
    refine W_end rfl (T_n (wp_block ?_))
    obtain ⟨b_2, hL_1, hF_3⟩ := bind_some' hF_2
    refine wp_mono (Q := fun e a w => (e = .ret ∧ (∃ y_1 : Unit, b_2 = .inl y_1 ∧ ∃ M_3 : Mem, M_1.le M_3 ∧ Frm 23 [(4, .bool true)] a ∧ Hp w0 M_3 (H) w)) ∨ (e = .exit 0 ∧ (∃ y_2 : Unit, b_2 = .inr y_2 ∧ ∃ M_4 : Mem, M_1.le M_4 ∧ Frm 23 [] a ∧ Hp w0 M_4 (H) w))) (R_loop (n := 23) (w0 := w0) (M := M_1) (fun (x : Nat × Int) => match x with | (m_1, s_1) => [(1, .int .i64 d1), (2, .pointer (some (⟨b_1, 0, none⟩))), (5, .int .i64 s_1)]) (fun (x : Nat × Int) => match x with | (m_1, s_1) => (H)) (fun (x : Nat × Int) (MM : Mem) => match x with | (m_1, s_1) => loopF (ref03_deeper_s1 n rec_ref03_deeper d0 d1) m_1 s_1 = some b_2) (fun (x : Nat × Int) => match x with | (m_1, s_1) => m_1) (n, (0 : Int)) (f_5.keep (ks := [1, 2, 5]) (by kernel_rfl)) p_1 hL_1 ?_) ?_
    · rintro ⟨m_1, s_1⟩ M_2 a_6 w_2 hM_2 I_1 f_6 p_2
      have I_1L := I_1
      obtain ⟨m_2, r_1, rfl, hs_1, hn_1⟩ := loop_step I_1L
      unfold ref03_deeper_s1 at hs_1
      refine R_seq (R_seq (R_reg ?_))
      refine V_run f_6 2 (by kernel_rfl) (fun a_7 f_7 => ?_)
      refine V_ld f_7 p_2 (fzu hM_2 hc_2) 4 rfl (by kernel_rfl) (by kernel_rfl) (fun a_8 f_8 => ?_)
      refine V_run f_8 2 (by kernel_rfl) (fun a_9 f_9 => ?_)
      refine W_end rfl (T_n ?_)
      refine R_cond f_9 (b := decide (s_1 < ((d0.fList.length : Nat) : Int))) (by kernel_rfl) (by kernel_rfl) (fun h_4 => ?_) (fun h_4 => ?_)
      · have k_3 : s_1 < ((d0.fList.length : Nat) : Int) := decide_eq_true_iff.1 h_4
        have hF_4 := cnd_t h_4 hs_1
        refine wp_skip (T_n (R_seq (wp_block (R_seq (R_reg ?_)))))
        refine V_run f_9 1 (by kernel_rfl) (fun a_10 f_10 => ?_)
        refine V_ld f_10 p_2 (fzu hM_2 hc_2) 4 rfl (by kernel_rfl) (by kernel_rfl) (fun a_11 f_11 => ?_)
        refine V_run f_11 1 (by kernel_rfl) (fun a_12 f_12 => ?_)
        obtain ⟨x_1, hx_1, hF_5⟩ := bind_some' hF_4
        obtain ⟨ad_1, c_1, e_1, hl_1, hr_1, hc_3⟩ := Sli.at_ (h_1.mono (hM_1.trans hM_2)) hx_1
        clear hl_1
        obtain ⟨A_3, cap_3, A_4, cap_4, rfl, h_5, h_6⟩ := T_api_Value.opn hr_1
        refine V_eq (v := .pointer (some (ad_1.add (s_1.toNat * 6)))) f_12 (by kernel_rfl) (X_indexAddrA e_1 rfl (len := d0.fList.length) (cap := cap_1) (k := .i64) (i := s_1) (by kernel_rfl) (by kernel_rfl) (e := 33) (by kernel_rfl) (sz := 6) (by kernel_rfl) (getI_nn hx_1) (getI_lt hx_1)) (fun a_13 f_13 => ?_)
        refine V_eq (v := .agg #[.int .i8 x_1.fKind, .bool x_1.fBool, .int .i64 x_1.fNum, S x_1.fText, .slice A_3 x_1.fList.length cap_3, .slice A_4 x_1.fKeys.length cap_4]) f_13 (by kernel_rfl) (X_loadN (cs := [.int .i8 x_1.fKind, .bool x_1.fBool, .int .i64 x_1.fNum, S x_1.fText, .slice A_3 x_1.fList.length cap_3, .slice A_4 x_1.fKeys.length cap_4]) rfl (ad := ad_1.add (s_1.toNat * 6)) (by kernel_rfl) (by kernel_rfl) (fun j v h => p_2.cell (hc_3 j v h))) (fun a_14 f_14 => ?_)
        refine V_run f_14 1 (by kernel_rfl) (fun a_15 f_15 => ?_)
        obtain ⟨g_1, hF_6⟩ := need_some hF_5
        refine V_run f_15 1 (by kernel_rfl) (fun a_16 f_16 => ?_)
        have f_17 := Frm.set f_16 21 (v := .int .i64 (IntKind.wrap .i64 (d1 - 1))) (v' := .int .i64 (d1 - 1)) (by kernel_rfl) (congrArg (Value.int .i64) (inR_wrap g_1))
        obtain ⟨x_2, hx_2, hF_7⟩ := bind_some' hF_6
        refine V_okv f_17 p_2 (hrec_ref03_deeper _ _ x_1 (T_api_Value.shutx (x := x_1) h_5 h_6) (d1 - 1) x_2 hx_2) (by kernel_rfl) (fun _ => by kernel_rfl) (fun w_3 p_3 a_17 f_18 => ?_)
        refine W_end rfl (T_n ?_)
        refine R_cond f_18 (b := x_2) (by kernel_rfl) (by kernel_rfl) (fun h_7 => ?_) (fun h_7 => ?_)
        · have hF_8 := cnd_t h_7 hF_7
          refine R_seq (R_reg ?_)
          refine V_run f_18 1 (by kernel_rfl) (fun a_18 f_19 => ?_)
          refine W_end rfl (T_n (wp_ret (B_r (T_r (T_r ?_)))))
          obtain rfl := Option.some.inj hF_8
          exact .inl ⟨rfl, (), (Option.some.inj hn_1).symm, M_2, hM_2, f_19.keep (ks := [4]) (by kernel_rfl), p_3⟩
        · have hF_9 := cnd_f h_7 hF_7
          refine wp_skip (B_n (T_n (R_reg ?_)))
          refine V_run f_18 1 (by kernel_rfl) (fun a_19 f_20 => ?_)
          obtain ⟨g_2, hF_10⟩ := need_some hF_9
          refine V_run f_20 1 (by kernel_rfl) (fun a_20 f_21 => ?_)
          have f_22 := Frm.set f_21 14 (v := .int .i64 (IntKind.wrap .i64 (s_1 + 1))) (v' := .int .i64 (s_1 + 1)) (by kernel_rfl) (congrArg (Value.int .i64) (inR_wrap g_2))
          refine V_run f_22 1 (by kernel_rfl) (fun a_21 f_23 => ?_)
          refine W_end rfl (T_n ?_)
          obtain rfl := Option.some.inj hF_10
          exact ⟨⟨m_2, s_1 + 1⟩, Nat.lt_succ_self _, M_2, hM_2, hn_1, f_23.keep (ks := [1, 2, 5]) (by kernel_rfl), p_3⟩
      · have k_6 : ¬ (s_1 < ((d0.fList.length : Nat) : Int)) := iff_f decide_eq_true_iff h_4
        have hF_11 := cnd_f h_4 hs_1
        refine wp_exit (T_x (T_x ?_))
        obtain rfl := Option.some.inj hF_11
        exact .inr ⟨rfl, (), (Option.some.inj hn_1).symm, M_2, hM_2, f_9.keep (ks := []) (by kernel_rfl), p_2⟩
    · rintro _ a_24 w_6 (⟨rfl, y_1, rfl, M_3, hM_3, f_24, p_4⟩ | ⟨rfl, y_2, rfl, M_4, hM_4, f_25, p_5⟩)
      · refine B_r (T_r ?_)
        refine E_ret1 f_24 rfl (by kernel_rfl : Vc.look _ 4 = some (.bool true)) ?_
        obtain rfl := Option.some.inj hF_3
        exact ⟨_, rfl, M_3, (hM_1.trans hM_3), p_4, rfl⟩
      · refine B_x (T_n (R_seq (R_reg ?_)))
        refine V_run f_25 1 (by kernel_rfl) (fun a_25 f_26 => ?_)
        refine W_end rfl (T_n (wp_ret ?_))
        refine E_ret1 f_26 rfl (by kernel_rfl : Vc.look _ 4 = some (.bool false)) ?_
        obtain rfl := Option.some.inj hF_3
        exact ⟨_, rfl, M_4, (hM_1.trans hM_4), p_5, rfl⟩
def ref03_deeper_k (n : Nat) : Nat → T_api_Value → Int → Option Bool
  | 0 => fun _ _ => none
  | k + 1 => ref03_deeper_b n (ref03_deeper_k n k)
def ref03_deeper (n : Nat) (d0 : T_api_Value) (d1 : Int) : Option Bool := ref03_deeper_k n n d0 d1
theorem ref03_deeper_ok (n : Nat) (M : Mem) (c0 : List Value) (d0 : T_api_Value) (h0 : Rep M (emb_T_api_Value d0) c0) (d1 : Int) (r : Bool) (hF : ref03_deeper n d0 d1 = some r) : Ok Tryd.prog M 72 [.agg c0.toArray, .int .i64 d1] (fun _ v => v = .bool r) := by
  have key : ∀ (k : Nat) (M : Mem) (c0 : List Value) (d0 : T_api_Value) (h0 : Rep M (emb_T_api_Value d0) c0) (d1 : Int) (r : Bool) (hF : ref03_deeper_k n k d0 d1 = some r), Ok Tryd.prog M 72 [.agg c0.toArray, .int .i64 d1] (fun _ v => v = .bool r) := by
    intro k
    induction k with
    | zero => intro M c0 d0 h0 d1 r hF; simp [ref03_deeper_k] at hF
    | succ k ih => intro M c0 d0 h0 d1 r hF; exact ref03_deeper_b_ok n (ref03_deeper_k n k) ih M c0 d0 h0 d1 r hF
  exact key n M c0 d0 h0 d1 r hF

def ref03_plain (n : Nat) (d0 : T_api_Value) : Option Bool :=
  ((bif (decide (d0.fKind < 0)) then
      (some ((true)))
    else
      some ((decide ((5 : Int) < d0.fKind))) : Option Bool)).bind fun y_1 =>
  bif y_1 then
    (some ((false)))
  else
    ((bif d0.fBool then
        (bif (!(decide (d0.fKind = 1))) then
          (some ((true)))
        else
          bif (!(decide (d0.fNum = 0))) then
            (bif (!(decide (d0.fKind = 2))) then
              (some ((true)))
            else
              bif (!(decide (d0.fText = []))) then
                (some ((!(decide (d0.fKind = 3)))))
              else
                some ((false)))
          else
            bif (!(decide (d0.fText = []))) then
              (some ((!(decide (d0.fKind = 3)))))
            else
              some ((false)))
      else
        bif (!(decide (d0.fNum = 0))) then
          (bif (!(decide (d0.fKind = 2))) then
            (some ((true)))
          else
            bif (!(decide (d0.fText = []))) then
              (some ((!(decide (d0.fKind = 3)))))
            else
              some ((false)))
        else
          bif (!(decide (d0.fText = []))) then
            (some ((!(decide (d0.fKind = 3)))))
          else
            some ((false)) : Option Bool)).bind fun y_2 =>
    bif y_2 then
      (some ((false)))
    else
      ((bif (decide ((0 : Int) < ((d0.fList.length : Nat) : Int))) then
          (bif (!(decide (d0.fKind = 4))) then
            (some ((!(decide (d0.fKind = 5)))))
          else
            some ((false)))
        else
          some ((false)) : Option Bool)).bind fun y_3 =>
      bif y_3 then
        (some ((false)))
      else
        bif (decide (d0.fKind = 5)) then
          (some ((decide (((d0.fKeys.length : Nat) : Int) = ((d0.fList.length : Nat) : Int)))))
        else
          some ((decide (((d0.fKeys.length : Nat) : Int) = 0)))
set_option maxHeartbeats 2000000 in
theorem ref03_plain_ok (n : Nat) (M : Mem) (c0 : List Value) (d0 : T_api_Value) (h0 : Rep M (emb_T_api_Value d0) c0) (r : Bool) (hF : ref03_plain n d0 = some r) : Ok Tryd.prog M 90 [.agg c0.toArray] (fun _ v => v = .bool r) := by
  unfold ref03_plain at hF
  intro M1 hM0 w0 H w p0
  replace h0 := Rep.mono hM0 _ _ h0
  obtain ⟨A_1, cap_1, A_2, cap_2, rfl, h_1, h_2⟩ := T_api_Value.opn h0
  refine R_enter 66 Tryd.func90 rfl rfl (by simp) (fun a0 f0 => ?_)
  refine R_seq (R_reg ?_)
  refine V_box (cs := #[.int .i8 d0.fKind, .bool d0.fBool, .int .i64 d0.fNum, S d0.fText, .slice A_1 d0.fList.length cap_1, .slice A_2 d0.fKeys.length cap_2]) (T := 33) f0 p0 (by kernel_rfl) (fun _ => by kernel_rfl) (fun b_1 M_1 w_1 hM_1 hc_1 p_1 a_1 f_1 => ?_)
  have hc_2 := fz_box hc_1
  refine V_run f_1 1 (by kernel_rfl) (fun a_2 f_2 => ?_)
  refine W_end rfl (T_n (R_seq (R_seq ?_)))
  obtain ⟨j_1, hj_1, hF_1⟩ := bind_some' hF
  refine R_mid (fun a_10 w_2 => ∃ y_1 : Bool, j_1 = y_1 ∧ ∃ M_2 : Mem, M_1.le M_2 ∧ Frm 66 [(1, .pointer (some (⟨b_1, 0, none⟩))), (10, .bool y_1)] a_10 ∧ Hp w0 M_2 (H) w_2) ?_ ?_
  · refine R_reg ?_
    refine V_run f_2 1 (by kernel_rfl) (fun a_3 f_3 => ?_)
    refine V_ld f_3 p_1 hc_2 0 rfl (by kernel_rfl) (by kernel_rfl) (fun a_4 f_4 => ?_)
    refine V_run f_4 2 (by kernel_rfl) (fun a_5 f_5 => ?_)
    rcases Bool.eq_false_or_eq_true (decide (d0.fKind < 0)) with h_3 | h_3
    · have k_1 : d0.fKind < 0 := decide_eq_true_iff.1 h_3
      have hF_2 := cnd_t h_3 hj_1
      have f_6 := Frm.set f_5 6 (v := .bool (decide (d0.fKind < 0))) (v' := .bool true) (by kernel_rfl) (congrArg Value.bool h_3)
      refine V_run f_6 4 (by kernel_rfl) (fun a_6 f_7 => ?_)
      refine W_end rfl (T_n ?_)
      exact ⟨(true), (Option.some.inj hF_2).symm, M_1, (Mem.le_refl _), f_7.keep (ks := [1, 10]) (by kernel_rfl), p_1⟩
    · have k_2 : ¬ (d0.fKind < 0) := iff_f decide_eq_true_iff h_3
      have hF_3 := cnd_f h_3 hj_1
      have f_8 := Frm.set f_5 6 (v := .bool (decide (d0.fKind < 0))) (v' := .bool false) (by kernel_rfl) (congrArg Value.bool h_3)
      refine V_run f_8 1 (by kernel_rfl) (fun a_7 f_9 => ?_)
      refine V_ld f_9 p_1 hc_2 0 rfl (by kernel_rfl) (by kernel_rfl) (fun a_8 f_10 => ?_)
      refine V_run f_10 2 (by kernel_rfl) (fun a_9 f_11 => ?_)
      refine W_end rfl (T_n ?_)
      exact ⟨(decide ((5 : Int) < d0.fKind)), (Option.some.inj hF_3).symm, M_1, (Mem.le_refl _), f_11.keep (ks := [1, 10]) (by kernel_rfl), p_1⟩
  · rintro a_10 w_2 ⟨y_1, hq_1, M_2, hM_2, f_12, p_2⟩
    subst j_1
    refine T_n ?_
    refine R_cond f_12 (b := y_1) (by kernel_rfl) (by kernel_rfl) (fun h_4 => ?_) (fun h_4 => ?_)
    · have hF_4 := cnd_t h_4 hF_1
      refine R_seq (R_reg ?_)
      refine V_run f_12 1 (by kernel_rfl) (fun a_11 f_13 => ?_)
      refine W_end rfl (T_n (wp_ret (T_r ?_)))
      refine E_ret1 f_13 rfl (by kernel_rfl : Vc.look _ 2 = some (.bool false)) ?_
      obtain rfl := Option.some.inj hF_4
      exact ⟨_, rfl, M_2, (hM_1.trans hM_2), p_2, rfl⟩
    · have hF_5 := cnd_f h_4 hF_1
      refine wp_skip (T_n (R_seq (R_seq ?_)))
      obtain ⟨j_2, hj_2, hF_6⟩ := bind_some' hF_5
      refine R_mid (fun a_65 w_3 => ∃ y_2 : Bool, j_2 = y_2 ∧ ∃ M_3 : Mem, M_2.le M_3 ∧ Frm 66 [(1, .pointer (some (⟨b_1, 0, none⟩))), (37, .bool y_2)] a_65 ∧ Hp w0 M_3 (H) w_3) ?_ ?_
      · refine R_reg ?_
        refine V_run f_12 1 (by kernel_rfl) (fun a_12 f_14 => ?_)
        refine V_ld f_14 p_2 (fzu hM_2 hc_2) 1 rfl (by kernel_rfl) (by kernel_rfl) (fun a_13 f_15 => ?_)
        refine V_run f_15 1 (by kernel_rfl) (fun a_14 f_16 => ?_)
        rcases Bool.eq_false_or_eq_true (d0.fBool) with h_5 | h_5
        · have hF_7 := cnd_t h_5 hj_2
          have f_17 := Frm.set f_16 13 (v := .bool d0.fBool) (v' := .bool true) (by kernel_rfl) (congrArg Value.bool h_5)
          refine V_run f_17 1 (by kernel_rfl) (fun a_15 f_18 => ?_)
          refine V_ld f_18 p_2 (fzu hM_2 hc_2) 0 rfl (by kernel_rfl) (by kernel_rfl) (fun a_16 f_19 => ?_)
          refine V_run f_19 3 (by kernel_rfl) (fun a_17 f_20 => ?_)
          rcases Bool.eq_false_or_eq_true (!(decide (d0.fKind = 1))) with h_6 | h_6
          · have k_6 : ¬ (d0.fKind = 1) := (not_iff decide_eq_true_iff).1 h_6
            have hF_8 := cnd_t h_6 hF_7
            have f_21 := Frm.set f_20 18 (v := .bool (!(decide (d0.fKind = 1)))) (v' := .bool true) (by kernel_rfl) (congrArg Value.bool h_6)
            refine V_run f_21 19 (by kernel_rfl) (fun a_18 f_22 => ?_)
            refine W_end rfl (T_n ?_)
            exact ⟨(true), (Option.some.inj hF_8).symm, M_2, (Mem.le_refl _), f_22.keep (ks := [1, 37]) (by kernel_rfl), p_2⟩
          · have k_7 : ¬ (¬ (d0.fKind = 1)) := iff_f (not_iff decide_eq_true_iff) h_6
            have hF_9 := cnd_f h_6 hF_7
            have f_23 := Frm.set f_20 18 (v := .bool (!(decide (d0.fKind = 1)))) (v' := .bool false) (by kernel_rfl) (congrArg Value.bool h_6)
            refine V_run f_23 1 (by kernel_rfl) (fun a_19 f_24 => ?_)
            refine V_ld f_24 p_2 (fzu hM_2 hc_2) 2 rfl (by kernel_rfl) (by kernel_rfl) (fun a_20 f_25 => ?_)
            refine V_run f_25 2 (by kernel_rfl) (fun a_21 f_26 => ?_)
            rcases Bool.eq_false_or_eq_true (!(decide (d0.fNum = 0))) with h_7 | h_7
            · have k_8 : ¬ (d0.fNum = 0) := (not_iff decide_eq_true_iff).1 h_7
              have hF_10 := cnd_t h_7 hF_9
              have f_27 := Frm.set f_26 22 (v := .bool (!(decide (d0.fNum = 0)))) (v' := .bool true) (by kernel_rfl) (congrArg Value.bool h_7)
              refine V_run f_27 1 (by kernel_rfl) (fun a_22 f_28 => ?_)
              refine V_ld f_28 p_2 (fzu hM_2 hc_2) 0 rfl (by kernel_rfl) (by kernel_rfl) (fun a_23 f_29 => ?_)
              refine V_run f_29 4 (by kernel_rfl) (fun a_24 f_30 => ?_)
              rcases Bool.eq_false_or_eq_true (!(decide (d0.fKind = 2))) with h_8 | h_8
              · have k_9 : ¬ (d0.fKind = 2) := (not_iff decide_eq_true_iff).1 h_8
                have hF_11 := cnd_t h_8 hF_10
                have f_31 := Frm.set f_30 28 (v := .bool (!(decide (d0.fKind = 2)))) (v' := .bool true) (by kernel_rfl) (congrArg Value.bool h_8)
                refine V_run f_31 9 (by kernel_rfl) (fun a_25 f_32 => ?_)
                refine W_end rfl (T_n ?_)
                exact ⟨(true), (Option.some.inj hF_11).symm, M_2, (Mem.le_refl _), f_32.keep (ks := [1, 37]) (by kernel_rfl), p_2⟩
              · have k_10 : ¬ (¬ (d0.fKind = 2)) := iff_f (not_iff decide_eq_true_iff) h_8
                have hF_12 := cnd_f h_8 hF_10
                have f_33 := Frm.set f_30 28 (v := .bool (!(decide (d0.fKind = 2)))) (v' := .bool false) (by kernel_rfl) (congrArg Value.bool h_8)
                refine V_run f_33 1 (by kernel_rfl) (fun a_26 f_34 => ?_)
                refine V_ld f_34 p_2 (fzu hM_2 hc_2) 3 rfl (by kernel_rfl) (by kernel_rfl) (fun a_27 f_35 => ?_)
                refine V_eq (v := .bool (!(decide (d0.fText = [])))) f_35 (by kernel_rfl) (X_strne rfl (l := d0.fText) (m := []) (by kernel_rfl) (by kernel_rfl)) (fun a_28 f_36 => ?_)
                refine V_run f_36 1 (by kernel_rfl) (fun a_29 f_37 => ?_)
                rcases Bool.eq_false_or_eq_true (!(decide (d0.fText = []))) with h_9 | h_9
                · have k_11 : ¬ (d0.fText = []) := (not_iff decide_eq_true_iff).1 h_9
                  have hF_13 := cnd_t h_9 hF_12
                  have f_38 := Frm.set f_37 32 (v := .bool (!(decide (d0.fText = [])))) (v' := .bool true) (by kernel_rfl) (congrArg Value.bool h_9)
                  refine V_run f_38 1 (by kernel_rfl) (fun a_30 f_39 => ?_)
                  refine V_ld f_39 p_2 (fzu hM_2 hc_2) 0 rfl (by kernel_rfl) (by kernel_rfl) (fun a_31 f_40 => ?_)
                  refine V_run f_40 3 (by kernel_rfl) (fun a_32 f_41 => ?_)
                  refine W_end rfl (T_n ?_)
                  exact ⟨(!(decide (d0.fKind = 3))), (Option.some.inj hF_13).symm, M_2, (Mem.le_refl _), f_41.keep (ks := [1, 37]) (by kernel_rfl), p_2⟩
                · have k_12 : ¬ (¬ (d0.fText = [])) := iff_f (not_iff decide_eq_true_iff) h_9
                  have hF_14 := cnd_f h_9 hF_12
                  have f_42 := Frm.set f_37 32 (v := .bool (!(decide (d0.fText = [])))) (v' := .bool false) (by kernel_rfl) (congrArg Value.bool h_9)
                  refine V_run f_42 5 (by kernel_rfl) (fun a_33 f_43 => ?_)
                  refine W_end rfl (T_n ?_)
                  exact ⟨(false), (Option.some.inj hF_14).symm, M_2, (Mem.le_refl _), f_43.keep (ks := [1, 37]) (by kernel_rfl), p_2⟩
            · have k_13 : ¬ (¬ (d0.fNum = 0)) := iff_f (not_iff decide_eq_true_iff) h_7
              have hF_15 := cnd_f h_7 hF_9
              have f_44 := Frm.set f_26 22 (v := .bool (!(decide (d0.fNum = 0)))) (v' := .bool false) (by kernel_rfl) (congrArg Value.bool h_7)
              refine V_run f_44 7 (by kernel_rfl) (fun a_34 f_45 => ?_)
              refine V_ld f_45 p_2 (fzu hM_2 hc_2) 3 rfl (by kernel_rfl) (by kernel_rfl) (fun a_35 f_46 => ?_)
              refine V_eq (v := .bool (!(decide (d0.fText = [])))) f_46 (by kernel_rfl) (X_strne rfl (l := d0.fText) (m := []) (by kernel_rfl) (by kernel_rfl)) (fun a_36 f_47 => ?_)
              refine V_run f_47 1 (by kernel_rfl) (fun a_37 f_48 => ?_)
              rcases Bool.eq_false_or_eq_true (!(decide (d0.fText = []))) with h_10 | h_10
              · have k_14 : ¬ (d0.fText = []) := (not_iff decide_eq_true_iff).1 h_10
                have hF_16 := cnd_t h_10 hF_15
                have f_49 := Frm.set f_48 32 (v := .bool (!(decide (d0.fText = [])))) (v' := .bool true) (by kernel_rfl) (congrArg Value.bool h_10)
                refine V_run f_49 1 (by kernel_rfl) (fun a_38 f_50 => ?_)
                refine V_ld f_50 p_2 (fzu hM_2 hc_2) 0 rfl (by kernel_rfl) (by kernel_rfl) (fun a_39 f_51 => ?_)
                refine V_run f_51 3 (by kernel_rfl) (fun a_40 f_52 => ?_)
                refine W_end rfl (T_n ?_)
                exact ⟨(!(decide (d0.fKind = 3))), (Option.some.inj hF_16).symm, M_2, (Mem.le_refl _), f_52.keep (ks := [1, 37]) (by kernel_rfl), p_2⟩
              · have k_15 : ¬ (¬ (d0.fText = [])) := iff_f (not_iff decide_eq_true_iff) h_10
                have hF_17 := cnd_f h_10 hF_15
                have f_53 := Frm.set f_48 32 (v := .bool (!(decide (d0.fText = [])))) (v' := .bool false) (by kernel_rfl) (congrArg Value.bool h_10)
                refine V_run f_53 5 (by kernel_rfl) (fun a_41 f_54 => ?_)
                refine W_end rfl (T_n ?_)
                exact ⟨(false), (Option.some.inj hF_17).symm, M_2, (Mem.le_refl _), f_54.keep (ks := [1, 37]) (by kernel_rfl), p_2⟩
        · have hF_18 := cnd_f h_5 hj_2
          have f_55 := Frm.set f_16 13 (v := .bool d0.fBool) (v' := .bool false) (by kernel_rfl) (congrArg Value.bool h_5)
          refine V_run f_55 6 (by kernel_rfl) (fun a_42 f_56 => ?_)
          refine V_ld f_56 p_2 (fzu hM_2 hc_2) 2 rfl (by kernel_rfl) (by kernel_rfl) (fun a_43 f_57 => ?_)
          refine V_run f_57 2 (by kernel_rfl) (fun a_44 f_58 => ?_)
          rcases Bool.eq_false_or_eq_true (!(decide (d0.fNum = 0))) with h_11 | h_11
          · have k_17 : ¬ (d0.fNum = 0) := (not_iff decide_eq_true_iff).1 h_11
            have hF_19 := cnd_t h_11 hF_18
            have f_59 := Frm.set f_58 22 (v := .bool (!(decide (d0.fNum = 0)))) (v' := .bool true) (by kernel_rfl) (congrArg Value.bool h_11)
            refine V_run f_59 1 (by kernel_rfl) (fun a_45 f_60 => ?_)
            refine V_ld f_60 p_2 (fzu hM_2 hc_2) 0 rfl (by kernel_rfl) (by kernel_rfl) (fun a_46 f_61 => ?_)
            refine V_run f_61 4 (by kernel_rfl) (fun a_47 f_62 => ?_)
            rcases Bool.eq_false_or_eq_true (!(decide (d0.fKind = 2))) with h_12 | h_12
            · have k_18 : ¬ (d0.fKind = 2) := (not_iff decide_eq_true_iff).1 h_12
              have hF_20 := cnd_t h_12 hF_19
              have f_63 := Frm.set f_62 28 (v := .bool (!(decide (d0.fKind = 2)))) (v' := .bool true) (by kernel_rfl) (congrArg Value.bool h_12)
              refine V_run f_63 9 (by kernel_rfl) (fun a_48 f_64 => ?_)
              refine W_end rfl (T_n ?_)
              exact ⟨(true), (Option.some.inj hF_20).symm, M_2, (Mem.le_refl _), f_64.keep (ks := [1, 37]) (by kernel_rfl), p_2⟩
            · have k_19 : ¬ (¬ (d0.fKind = 2)) := iff_f (not_iff decide_eq_true_iff) h_12
              have hF_21 := cnd_f h_12 hF_19
              have f_65 := Frm.set f_62 28 (v := .bool (!(decide (d0.fKind = 2)))) (v' := .bool false) (by kernel_rfl) (congrArg Value.bool h_12)
              refine V_run f_65 1 (by kernel_rfl) (fun a_49 f_66 => ?_)
              refine V_ld f_66 p_2 (fzu hM_2 hc_2) 3 rfl (by kernel_rfl) (by kernel_rfl) (fun a_50 f_67 => ?_)
              refine V_eq (v := .bool (!(decide (d0.fText = [])))) f_67 (by kernel_rfl) (X_strne rfl (l := d0.fText) (m := []) (by kernel_rfl) (by kernel_rfl)) (fun a_51 f_68 => ?_)
              refine V_run f_68 1 (by kernel_rfl) (fun a_52 f_69 => ?_)
              rcases Bool.eq_false_or_eq_true (!(decide (d0.fText = []))) with h_13 | h_13
              · have k_20 : ¬ (d0.fText = []) := (not_iff decide_eq_true_iff).1 h_13
                have hF_22 := cnd_t h_13 hF_21
                have f_70 := Frm.set f_69 32 (v := .bool (!(decide (d0.fText = [])))) (v' := .bool true) (by kernel_rfl) (congrArg Value.bool h_13)
                refine V_run f_70 1 (by kernel_rfl) (fun a_53 f_71 => ?_)
                refine V_ld f_71 p_2 (fzu hM_2 hc_2) 0 rfl (by kernel_rfl) (by kernel_rfl) (fun a_54 f_72 => ?_)
                refine V_run f_72 3 (by kernel_rfl) (fun a_55 f_73 => ?_)
                refine W_end rfl (T_n ?_)
                exact ⟨(!(decide (d0.fKind = 3))), (Option.some.inj hF_22).symm, M_2, (Mem.le_refl _), f_73.keep (ks := [1, 37]) (by kernel_rfl), p_2⟩
              · have k_21 : ¬ (¬ (d0.fText = [])) := iff_f (not_iff decide_eq_true_iff) h_13
                have hF_23 := cnd_f h_13 hF_21
                have f_74 := Frm.set f_69 32 (v := .bool (!(decide (d0.fText = [])))) (v' := .bool false) (by kernel_rfl) (congrArg Value.bool h_13)
                refine V_run f_74 5 (by kernel_rfl) (fun a_56 f_75 => ?_)
                refine W_end rfl (T_n ?_)
                exact ⟨(false), (Option.some.inj hF_23).symm, M_2, (Mem.le_refl _), f_75.keep (ks := [1, 37]) (by kernel_rfl), p_2⟩
          · have k_22 : ¬ (¬ (d0.fNum = 0)) := iff_f (not_iff decide_eq_true_iff) h_11
            have hF_24 := cnd_f h_11 hF_18
            have f_76 := Frm.set f_58 22 (v := .bool (!(decide (d0.fNum = 0)))) (v' := .bool false) (by kernel_rfl) (congrArg Value.bool h_11)
            refine V_run f_76 7 (by kernel_rfl) (fun a_57 f_77 => ?_)
            refine V_ld f_77 p_2 (fzu hM_2 hc_2) 3 rfl (by kernel_rfl) (by kernel_rfl) (fun a_58 f_78 => ?_)
            refine V_eq (v := .bool (!(decide (d0.fText = [])))) f_78 (by kernel_rfl) (X_strne rfl (l := d0.fText) (m := []) (by kernel_rfl) (by kernel_rfl)) (fun a_59 f_79 => ?_)
            refine V_run f_79 1 (by kernel_rfl) (fun a_60 f_80 => ?_)
            rcases Bool.eq_false_or_eq_true (!(decide (d0.fText = []))) with h_14 | h_14
            · have k_23 : ¬ (d0.fText = []) := (not_iff decide_eq_true_iff).1 h_14
              have hF_25 := cnd_t h_14 hF_24
              have f_81 := Frm.set f_80 32 (v := .bool (!(decide (d0.fText = [])))) (v' := .bool true) (by kernel_rfl) (congrArg Value.bool h_14)
              refine V_run f_81 1 (by kernel_rfl) (fun a_61 f_82 => ?_)
              refine V_ld f_82 p_2 (fzu hM_2 hc_2) 0 rfl (by kernel_rfl) (by kernel_rfl) (fun a_62 f_83 => ?_)
              refine V_run f_83 3 (by kernel_rfl) (fun a_63 f_84 => ?_)
              refine W_end rfl (T_n ?_)
              exact ⟨(!(decide (d0.fKind = 3))), (Option.some.inj hF_25).symm, M_2, (Mem.le_refl _), f_84.keep (ks := [1, 37]) (by kernel_rfl), p_2⟩
            · have k_24 : ¬ (¬ (d0.fText = [])) := iff_f (not_iff decide_eq_true_iff) h_14
              have hF_26 := cnd_f h_14 hF_24
              have f_85 := Frm.set f_80 32 (v := .bool (!(decide (d0.fText = [])))) (v' := .bool false) (by kernel_rfl) (congrArg Value.bool h_14)
              refine V_run f_85 5 (by kernel_rfl) (fun a_64 f_86 => ?_)
              refine W_end rfl (T_n ?_)
              exact ⟨(false), (Option.some.inj hF_26).symm, M_2, (Mem.le_refl _), f_86.keep (ks := [1, 37]) (by kernel_rfl), p_2⟩
      · rintro a_65 w_3 ⟨y_2, hq_2, M_3, hM_3, f_87, p_3⟩
        subst j_2
        refine T_n ?_
        refine R_cond f_87 (b := y_2) (by kernel_rfl) (by kernel_rfl) (fun h_15 => ?_) (fun h_15 => ?_)
        · have hF_27 := cnd_t h_15 hF_6
          refine R_seq (R_reg ?_)
          refine V_run f_87 1 (by kernel_rfl) (fun a_66 f_88 => ?_)
          refine W_end rfl (T_n (wp_ret (T_r ?_)))
          refine E_ret1 f_88 rfl (by kernel_rfl : Vc.look _ 2 = some (.bool false)) ?_
          obtain rfl := Option.some.inj hF_27
          exact ⟨_, rfl, M_3, ((hM_1.trans hM_2).trans hM_3), p_3, rfl⟩
        · have hF_28 := cnd_f h_15 hF_6
          refine wp_skip (T_n (R_seq (R_seq ?_)))
          obtain ⟨j_3, hj_3, hF_29⟩ := bind_some' hF_28
          refine R_mid (fun a_78 w_4 => ∃ y_3 : Bool, j_3 = y_3 ∧ ∃ M_4 : Mem, M_3.le M_4 ∧ Frm 66 [(1, .pointer (some (⟨b_1, 0, none⟩))), (51, .bool y_3)] a_78 ∧ Hp w0 M_4 (H) w_4) ?_ ?_
          · refine R_reg ?_
            refine V_run f_87 1 (by kernel_rfl) (fun a_67 f_89 => ?_)
            refine V_ld f_89 p_3 (fzu (hM_2.trans hM_3) hc_2) 4 rfl (by kernel_rfl) (by kernel_rfl) (fun a_68 f_90 => ?_)
            refine V_run f_90 3 (by kernel_rfl) (fun a_69 f_91 => ?_)
            rcases Bool.eq_false_or_eq_true (decide ((0 : Int) < ((d0.fList.length : Nat) : Int))) with h_16 | h_16
            · have k_27 : (0 : Int) < ((d0.fList.length : Nat) : Int) := decide_eq_true_iff.1 h_16
              have hF_30 := cnd_t h_16 hj_3
              have f_92 := Frm.set f_91 42 (v := .bool (decide ((0 : Int) < ((d0.fList.length : Nat) : Int)))) (v' := .bool true) (by kernel_rfl) (congrArg Value.bool h_16)
              refine V_run f_92 1 (by kernel_rfl) (fun a_70 f_93 => ?_)
              refine V_ld f_93 p_3 (fzu (hM_2.trans hM_3) hc_2) 0 rfl (by kernel_rfl) (by kernel_rfl) (fun a_71 f_94 => ?_)
              refine V_run f_94 3 (by kernel_rfl) (fun a_72 f_95 => ?_)
              rcases Bool.eq_false_or_eq_true (!(decide (d0.fKind = 4))) with h_17 | h_17
              · have k_28 : ¬ (d0.fKind = 4) := (not_iff decide_eq_true_iff).1 h_17
                have hF_31 := cnd_t h_17 hF_30
                have f_96 := Frm.set f_95 47 (v := .bool (!(decide (d0.fKind = 4)))) (v' := .bool true) (by kernel_rfl) (congrArg Value.bool h_17)
                refine V_run f_96 1 (by kernel_rfl) (fun a_73 f_97 => ?_)
                refine V_ld f_97 p_3 (fzu (hM_2.trans hM_3) hc_2) 0 rfl (by kernel_rfl) (by kernel_rfl) (fun a_74 f_98 => ?_)
                refine V_run f_98 2 (by kernel_rfl) (fun a_75 f_99 => ?_)
                refine W_end rfl (T_n ?_)
                exact ⟨(!(decide (d0.fKind = 5))), (Option.some.inj hF_31).symm, M_3, (Mem.le_refl _), f_99.keep (ks := [1, 51]) (by kernel_rfl), p_3⟩
              · have k_29 : ¬ (¬ (d0.fKind = 4)) := iff_f (not_iff decide_eq_true_iff) h_17
                have hF_32 := cnd_f h_17 hF_30
                have f_100 := Frm.set f_95 47 (v := .bool (!(decide (d0.fKind = 4)))) (v' := .bool false) (by kernel_rfl) (congrArg Value.bool h_17)
                refine V_run f_100 4 (by kernel_rfl) (fun a_76 f_101 => ?_)
                refine W_end rfl (T_n ?_)
                exact ⟨(false), (Option.some.inj hF_32).symm, M_3, (Mem.le_refl _), f_101.keep (ks := [1, 51]) (by kernel_rfl), p_3⟩
            · have k_30 : ¬ ((0 : Int) < ((d0.fList.length : Nat) : Int)) := iff_f decide_eq_true_iff h_16
              have hF_33 := cnd_f h_16 hj_3
              have f_102 := Frm.set f_91 42 (v := .bool (decide ((0 : Int) < ((d0.fList.length : Nat) : Int)))) (v' := .bool false) (by kernel_rfl) (congrArg Value.bool h_16)
              refine V_run f_102 9 (by kernel_rfl) (fun a_77 f_103 => ?_)
              refine W_end rfl (T_n ?_)
              exact ⟨(false), (Option.some.inj hF_33).symm, M_3, (Mem.le_refl _), f_103.keep (ks := [1, 51]) (by kernel_rfl), p_3⟩
          · rintro a_78 w_4 ⟨y_3, hq_3, M_4, hM_4, f_104, p_4⟩
            subst j_3
            refine T_n ?_
            refine R_cond f_104 (b := y_3) (by kernel_rfl) (by kernel_rfl) (fun h_18 => ?_) (fun h_18 => ?_)
            · have hF_34 := cnd_t h_18 hF_29
              refine R_seq (R_reg ?_)
              refine V_run f_104 1 (by kernel_rfl) (fun a_79 f_105 => ?_)
              refine W_end rfl (T_n (wp_ret (T_r ?_)))
              refine E_ret1 f_105 rfl (by kernel_rfl : Vc.look _ 2 = some (.bool false)) ?_
              obtain rfl := Option.some.inj hF_34
              exact ⟨_, rfl, M_4, (((hM_1.trans hM_2).trans hM_3).trans hM_4), p_4, rfl⟩
            · have hF_35 := cnd_f h_18 hF_29
              refine wp_skip (T_n (R_seq (R_seq (R_reg ?_))))
              refine V_run f_104 1 (by kernel_rfl) (fun a_80 f_106 => ?_)
              refine V_ld f_106 p_4 (fzu ((hM_2.trans hM_3).trans hM_4) hc_2) 0 rfl (by kernel_rfl) (by kernel_rfl) (fun a_81 f_107 => ?_)
              refine V_run f_107 1 (by kernel_rfl) (fun a_82 f_108 => ?_)
              refine W_end rfl (T_n ?_)
              refine R_cond f_108 (b := decide (d0.fKind = 5)) (by kernel_rfl) (by kernel_rfl) (fun h_19 => ?_) (fun h_19 => ?_)
              · have k_33 : d0.fKind = 5 := decide_eq_true_iff.1 h_19
                have hF_36 := cnd_t h_19 hF_35
                refine R_seq (R_reg ?_)
                refine V_run f_108 1 (by kernel_rfl) (fun a_83 f_109 => ?_)
                refine V_ld f_109 p_4 (fzu ((hM_2.trans hM_3).trans hM_4) hc_2) 5 rfl (by kernel_rfl) (by kernel_rfl) (fun a_84 f_110 => ?_)
                refine V_run f_110 2 (by kernel_rfl) (fun a_85 f_111 => ?_)
                refine V_ld f_111 p_4 (fzu ((hM_2.trans hM_3).trans hM_4) hc_2) 4 rfl (by kernel_rfl) (by kernel_rfl) (fun a_86 f_112 => ?_)
                refine V_run f_112 3 (by kernel_rfl) (fun a_87 f_113 => ?_)
                refine W_end rfl (T_n (wp_ret (T_r ?_)))
                refine E_ret1 f_113 rfl (by kernel_rfl : Vc.look _ 2 = some (.bool (decide (((d0.fKeys.length : Nat) : Int) = ((d0.fList.length : Nat) : Int))))) ?_
                obtain rfl := Option.some.inj hF_36
                exact ⟨_, rfl, M_4, (((hM_1.trans hM_2).trans hM_3).trans hM_4), p_4, rfl⟩
              · have k_34 : ¬ (d0.fKind = 5) := iff_f decide_eq_true_iff h_19
                have hF_37 := cnd_f h_19 hF_35
                refine wp_skip (T_n (R_seq (R_reg ?_)))
                refine V_run f_108 1 (by kernel_rfl) (fun a_88 f_114 => ?_)
                refine V_ld f_114 p_4 (fzu ((hM_2.trans hM_3).trans hM_4) hc_2) 5 rfl (by kernel_rfl) (by kernel_rfl) (fun a_89 f_115 => ?_)
                refine V_run f_115 3 (by kernel_rfl) (fun a_90 f_116 => ?_)
                refine W_end rfl (T_n (wp_ret ?_))
                refine E_ret1 f_116 rfl (by kernel_rfl : Vc.look _ 2 = some (.bool (decide (((d0.fKeys.length : Nat) : Int) = 0)))) ?_
                obtain rfl := Option.some.inj hF_37
                exact ⟨_, rfl, M_4, (((hM_1.trans hM_2).trans hM_3).trans hM_4), p_4, rfl⟩

def ref03_wrong_s1 (n : Nat) (d0 : T_api_Value) (s_1 : Int) : Option (Lp Int (Sum Unit Unit)) :=
    bif (decide (s_1 < ((d0.fKeys.length : Nat) : Int))) then
      ((getI d0.fKeys s_1).bind fun x_3 =>
      (ref01_Valid n x_3).bind fun x_4 =>
      bif !x_4 then
        (some (.br (.inl ())))
      else
        need (inR .i64 (s_1 + 1)) <|
        some (.nx (s_1 + 1)))
    else
      some (.br (.inr ()))
def ref03_wrong_s3 (n : Nat) (d0 : T_api_Value) (s_2 : Int) (s_3 : Int) : Option (Lp Int (Sum Unit Unit)) :=
    bif (decide (s_3 < s_2)) then
      ((getI d0.fKeys s_3).bind fun x_5 =>
      (getI d0.fKeys s_2).bind fun x_6 =>
      bif (decide (x_5 = x_6)) then
        (some (.br (.inl ())))
      else
        need (inR .i64 (s_3 + 1)) <|
        some (.nx (s_3 + 1)))
    else
      some (.br (.inr ()))
def ref03_wrong_s2 (n : Nat) (d0 : T_api_Value) (s_2 : Int) : Option (Lp Int (Sum Unit Unit)) :=
    bif (decide (s_2 < ((d0.fKeys.length : Nat) : Int))) then
      ((loopF (ref03_wrong_s3 n d0 s_2) n (0 : Int)).bind fun b_4 =>
      (match b_4 with 
      | .inl y_4 => some (.br (.inl ())) 
      | .inr y_5 => need (inR .i64 (s_2 + 1)) <|
        some (.nx (s_2 + 1))))
    else
      some (.br (.inr ()))
def ref03_wrong_s4 (n : Nat) (rec_ref03_wrong : T_api_Value → Option Int) (d0 : T_api_Value) (s_4 : Int) : Option (Lp Int (Sum Int Unit)) :=
    bif (decide (s_4 < ((d0.fList.length : Nat) : Int))) then
      ((getI d0.fList s_4).bind fun x_7 =>
      (rec_ref03_wrong x_7).bind fun x_8 =>
      bif (!(decide (x_8 = 0))) then
        (some (.br (.inl x_8)))
      else
        need (inR .i64 (s_4 + 1)) <|
        some (.nx (s_4 + 1)))
    else
      some (.br (.inr ()))
def ref03_wrong_b (n : Nat) (rec_ref03_wrong : T_api_Value → Option Int) (d0 : T_api_Value) : Option Int :=
  (ref03_plain n d0).bind fun x_1 =>
  bif !x_1 then
    (some ((2 : Int)))
  else
    ((bif (decide (d0.fNum < (-9007199254740992))) then
        (some ((true)))
      else
        some ((decide ((9007199254740992 : Int) < d0.fNum))) : Option Bool)).bind fun y_1 =>
    bif y_1 then
      (some ((20 : Int)))
    else
      (ref01_Valid n d0.fText).bind fun x_2 =>
      bif !x_2 then
        (some ((10 : Int)))
      else
        (loopF (ref03_wrong_s1 n d0) n (0 : Int)).bind fun b_2 =>
        (match b_2 with 
        | .inl y_2 => some ((10 : Int)) 
        | .inr y_3 => (loopF (ref03_wrong_s2 n d0) n (0 : Int)).bind fun b_3 =>
          (match b_3 with 
          | .inl y_6 => some ((41 : Int)) 
          | .inr y_7 => (loopF (ref03_wrong_s4 n rec_ref03_wrong d0) n (0 : Int)).bind fun b_5 =>
            (match b_5 with 
            | .inl y_8 => some (y_8) 
            | .inr y_9 => some ((0 : Int)))))
set_option maxHeartbeats 2000000 in
theorem ref03_wrong_b_ok (n : Nat) (rec_ref03_wrong : T_api_Value → Option Int) (hrec_ref03_wrong : ∀ (M : Mem) (c0 : List Value) (d0 : T_api_Value) (h0 : Rep M (emb_T_api_Value d0) c0) (r : Int) (hF : rec_ref03_wrong d0 = some r), Ok Tryd.prog M 73 [.agg c0.toArray] (fun _ v => v = .int .i64 r)) (M : Mem) (c0 : List Value) (d0 : T_api_Value) (h0 : Rep M (emb_T_api_Value d0) c0) (r : Int) (hF : ref03_wrong_b n rec_ref03_wrong d0 = some r) : Ok Tryd.prog M 73 [.agg c0.toArray] (fun _ v => v = .int .i64 r) := by
  unfold ref03_wrong_b at hF
  intro M1 hM0 w0 H w p0
  replace h0 := Rep.mono hM0 _ _ h0
  obtain ⟨A_1, cap_1, A_2, cap_2, rfl, h_1, h_2⟩ := T_api_Value.opn h0
  refine R_enter 76 Tryd.func73 rfl rfl (by simp) (fun a0 f0 => ?_)
  refine R_seq (R_reg ?_)
  refine V_box (cs := #[.int .i8 d0.fKind, .bool d0.fBool, .int .i64 d0.fNum, S d0.fText, .slice A_1 d0.fList.length cap_1, .slice A_2 d0.fKeys.length cap_2]) (T := 33) f0 p0 (by kernel_rfl) (fun _ => by kernel_rfl) (fun b_1 M_1 w_1 hM_1 hc_1 p_1 a_1 f_1 => ?_)
  have hc_2 := fz_box hc_1
  refine V_run f_1 1 (by kernel_rfl) (fun a_2 f_2 => ?_)
  refine W_end rfl (T_n (R_seq (R_seq (R_reg ?_))))
  refine V_eq (v := .agg #[.int .i8 d0.fKind, .bool d0.fBool, .int .i64 d0.fNum, S d0.fText, .slice A_1 d0.fList.length cap_1, .slice A_2 d0.fKeys.length cap_2]) f_2 (by kernel_rfl) (X_loadN (cs := [.int .i8 d0.fKind, .bool d0.fBool, .int .i64 d0.fNum, S d0.fText, .slice A_1 d0.fList.length cap_1, .slice A_2 d0.fKeys.length cap_2]) rfl (ad := ⟨b_1, 0, none⟩) (by kernel_rfl) (by kernel_rfl) (fun j v h => p_1.cell (hc_2 j v h))) (fun a_3 f_3 => ?_)
  obtain ⟨x_1, hx_1, hF_1⟩ := bind_some' hF
  refine V_okv f_3 p_1 (ref03_plain_ok n _ _ d0 (T_api_Value.shutx (x := d0) (h_1.mono hM_1) (h_2.mono hM_1)) x_1 hx_1) (by kernel_rfl) (fun _ => by kernel_rfl) (fun w_2 p_2 a_4 f_4 => ?_)
  refine V_run f_4 1 (by kernel_rfl) (fun a_5 f_5 => ?_)
  refine W_end rfl (T_n ?_)
  refine R_cond f_5 (b := !x_1) (by kernel_rfl) (by kernel_rfl) (fun h_3 => ?_) (fun h_3 => ?_)
  · have k_1 : (x_1) = false := by simpa using h_3
    have hF_2 := cnd_t h_3 hF_1
    refine R_seq (R_reg ?_)
    refine V_run f_5 1 (by kernel_rfl) (fun a_6 f_6 => ?_)
    refine W_end rfl (T_n (wp_ret (T_r ?_)))
    refine E_ret1 f_6 rfl (by kernel_rfl : Vc.look _ 2 = some (.int .i64 2)) ?_
    obtain rfl := Option.some.inj hF_2
    exact ⟨_, rfl, M_1, hM_1, p_2, rfl⟩
  · have k_2 : (x_1) = true := by simpa using h_3
    have hF_3 := cnd_f h_3 hF_1
    refine wp_skip (T_n (R_seq (R_seq ?_)))
    obtain ⟨j_1, hj_1, hF_4⟩ := bind_some' hF_3
    refine R_mid (fun a_14 w_3 => ∃ y_1 : Bool, j_1 = y_1 ∧ ∃ M_2 : Mem, M_1.le M_2 ∧ Frm 76 [(1, .pointer (some (⟨b_1, 0, none⟩))), (18, .bool y_1)] a_14 ∧ Hp w0 M_2 (H) w_3) ?_ ?_
    · refine R_reg ?_
      refine V_run f_5 1 (by kernel_rfl) (fun a_7 f_7 => ?_)
      refine V_ld f_7 p_2 hc_2 2 rfl (by kernel_rfl) (by kernel_rfl) (fun a_8 f_8 => ?_)
      refine V_run f_8 2 (by kernel_rfl) (fun a_9 f_9 => ?_)
      rcases Bool.eq_false_or_eq_true (decide (d0.fNum < (-9007199254740992))) with h_4 | h_4
      · have k_3 : d0.fNum < (-9007199254740992) := decide_eq_true_iff.1 h_4
        have hF_5 := cnd_t h_4 hj_1
        have f_10 := Frm.set f_9 14 (v := .bool (decide (d0.fNum < (-9007199254740992)))) (v' := .bool true) (by kernel_rfl) (congrArg Value.bool h_4)
        refine V_run f_10 4 (by kernel_rfl) (fun a_10 f_11 => ?_)
        refine W_end rfl (T_n ?_)
        exact ⟨(true), (Option.some.inj hF_5).symm, M_1, (Mem.le_refl _), f_11.keep (ks := [1, 18]) (by kernel_rfl), p_2⟩
      · have k_4 : ¬ (d0.fNum < (-9007199254740992)) := iff_f decide_eq_true_iff h_4
        have hF_6 := cnd_f h_4 hj_1
        have f_12 := Frm.set f_9 14 (v := .bool (decide (d0.fNum < (-9007199254740992)))) (v' := .bool false) (by kernel_rfl) (congrArg Value.bool h_4)
        refine V_run f_12 1 (by kernel_rfl) (fun a_11 f_13 => ?_)
        refine V_ld f_13 p_2 hc_2 2 rfl (by kernel_rfl) (by kernel_rfl) (fun a_12 f_14 => ?_)
        refine V_run f_14 2 (by kernel_rfl) (fun a_13 f_15 => ?_)
        refine W_end rfl (T_n ?_)
        exact ⟨(decide ((9007199254740992 : Int) < d0.fNum)), (Option.some.inj hF_6).symm, M_1, (Mem.le_refl _), f_15.keep (ks := [1, 18]) (by kernel_rfl), p_2⟩
    · rintro a_14 w_3 ⟨y_1, hq_1, M_2, hM_2, f_16, p_3⟩
      subst j_1
      refine T_n ?_
      refine R_cond f_16 (b := y_1) (by kernel_rfl) (by kernel_rfl) (fun h_5 => ?_) (fun h_5 => ?_)
      · have hF_7 := cnd_t h_5 hF_4
        refine R_seq (R_reg ?_)
        refine V_run f_16 1 (by kernel_rfl) (fun a_15 f_17 => ?_)
        refine W_end rfl (T_n (wp_ret (T_r ?_)))
        refine E_ret1 f_17 rfl (by kernel_rfl : Vc.look _ 2 = some (.int .i64 20)) ?_
        obtain rfl := Option.some.inj hF_7
        exact ⟨_, rfl, M_2, (hM_1.trans hM_2), p_3, rfl⟩
      · have hF_8 := cnd_f h_5 hF_4
        refine wp_skip (T_n (R_seq (R_seq (R_reg ?_))))
        refine V_run f_16 1 (by kernel_rfl) (fun a_16 f_18 => ?_)
        refine V_ld f_18 p_3 (fzu hM_2 hc_2) 3 rfl (by kernel_rfl) (by kernel_rfl) (fun a_17 f_19 => ?_)
        obtain ⟨x_2, hx_2, hF_9⟩ := bind_some' hF_8
        refine V_okv f_19 p_3 (ref01_Valid_ok n _ d0.fText x_2 hx_2) (by kernel_rfl) (fun _ => by kernel_rfl) (fun w_4 p_4 a_18 f_20 => ?_)
        refine V_run f_20 1 (by kernel_rfl) (fun a_19 f_21 => ?_)
        refine W_end rfl (T_n ?_)
        refine R_cond f_21 (b := !x_2) (by kernel_rfl) (by kernel_rfl) (fun h_6 => ?_) (fun h_6 => ?_)
        · have k_7 : (x_2) = false := by simpa using h_6
          have hF_10 := cnd_t h_6 hF_9
          refine R_seq (R_reg ?_)
          refine V_run f_21 1 (by kernel_rfl) (fun a_20 f_22 => ?_)
          refine W_end rfl (T_n (wp_ret (T_r ?_)))
          refine E_ret1 f_22 rfl (by kernel_rfl : Vc.look _ 2 = some (.int .i64 10)) ?_
          obtain rfl := Option.some.inj hF_10
          exact ⟨_, rfl, M_2, (hM_1.trans hM_2), p_4, rfl⟩
        · have k_8 : (x_2) = true := by simpa using h_6
          have hF_11 := cnd_f h_6 hF_9
          refine wp_skip (T_n (R_seq (R_seq (R_reg ?_))))
          refine V_run f_21 1 (by kernel_rfl) (fun a_21 f_23 => ?_)
          refine W_end rfl (T_n (wp_block ?_))
          obtain ⟨b_2, hL_1, hF_12⟩ := bind_some' hF_11
          refine wp_mono (Q := fun e a w => (e = .ret ∧ (∃ y_2 : Unit, b_2 = .inl y_2 ∧ ∃ M_4 : Mem, M_2.le M_4 ∧ Frm 76 [(2, .int .i64 10)] a ∧ Hp w0 M_4 (H) w)) ∨ (e = .exit 0 ∧ (∃ y_3 : Unit, b_2 = .inr y_3 ∧ ∃ M_5 : Mem, M_2.le M_5 ∧ Frm 76 [(1, .pointer (some (⟨b_1, 0, none⟩)))] a ∧ Hp w0 M_5 (H) w))) (R_loop (n := 76) (w0 := w0) (M := M_2) (fun (x : Nat × Int) => match x with | (m_1, s_1) => [(1, .pointer (some (⟨b_1, 0, none⟩))), (3, .int .i64 s_1)]) (fun (x : Nat × Int) => match x with | (m_1, s_1) => (H)) (fun (x : Nat × Int) (MM : Mem) => match x with | (m_1, s_1) => loopF (ref03_wrong_s1 n d0) m_1 s_1 = some b_2) (fun (x : Nat × Int) => match x with | (m_1, s_1) => m_1) (n, (0 : Int)) (f_23.keep (ks := [1, 3]) (by kernel_rfl)) p_4 hL_1 ?_) ?_
          · rintro ⟨m_1, s_1⟩ M_3 a_22 w_5 hM_3 I_1 f_24 p_5
            have I_1L := I_1
            obtain ⟨m_2, r_1, rfl, hs_1, hn_1⟩ := loop_step I_1L
            unfold ref03_wrong_s1 at hs_1
            refine R_seq (R_seq (R_reg ?_))
            refine V_run f_24 2 (by kernel_rfl) (fun a_23 f_25 => ?_)
            refine V_ld f_25 p_5 (fzu (hM_2.trans hM_3) hc_2) 5 rfl (by kernel_rfl) (by kernel_rfl) (fun a_24 f_26 => ?_)
            refine V_run f_26 2 (by kernel_rfl) (fun a_25 f_27 => ?_)
            refine W_end rfl (T_n ?_)
            refine R_cond f_27 (b := decide (s_1 < ((d0.fKeys.length : Nat) : Int))) (by kernel_rfl) (by kernel_rfl) (fun h_7 => ?_) (fun h_7 => ?_)
            · have k_9 : s_1 < ((d0.fKeys.length : Nat) : Int) := decide_eq_true_iff.1 h_7
              have hF_13 := cnd_t h_7 hs_1
              refine wp_skip (T_n (R_seq (wp_block (R_seq (R_reg ?_)))))
              refine V_run f_27 1 (by kernel_rfl) (fun a_26 f_28 => ?_)
              refine V_ld f_28 p_5 (fzu (hM_2.trans hM_3) hc_2) 5 rfl (by kernel_rfl) (by kernel_rfl) (fun a_27 f_29 => ?_)
              refine V_run f_29 1 (by kernel_rfl) (fun a_28 f_30 => ?_)
              obtain ⟨x_3, hx_3, hF_14⟩ := bind_some' hF_13
              obtain ⟨ad_1, c_1, e_1, hl_1, hr_1, hc_3⟩ := Sli.at_ (h_2.mono ((hM_1.trans hM_2).trans hM_3)) hx_3
              clear hl_1
              obtain rfl : c_1 = [S x_3] := hr_1
              refine V_eq (v := .pointer (some (ad_1.add (s_1.toNat * 1)))) f_30 (by kernel_rfl) (X_indexAddrA e_1 rfl (len := d0.fKeys.length) (cap := cap_2) (k := .i64) (i := s_1) (by kernel_rfl) (by kernel_rfl) (e := 9) (by kernel_rfl) (sz := 1) (by kernel_rfl) (getI_nn hx_3) (getI_lt hx_3)) (fun a_29 f_31 => ?_)
              refine V_ld f_31 p_5 hc_3 0 rfl (by kernel_rfl) (by kernel_rfl) (fun a_30 f_32 => ?_)
              obtain ⟨x_4, hx_4, hF_15⟩ := bind_some' hF_14
              refine V_okv f_32 p_5 (ref01_Valid_ok n _ x_3 x_4 hx_4) (by kernel_rfl) (fun _ => by kernel_rfl) (fun w_6 p_6 a_31 f_33 => ?_)
              refine V_run f_33 1 (by kernel_rfl) (fun a_32 f_34 => ?_)
              refine W_end rfl (T_n ?_)
              refine R_cond f_34 (b := !x_4) (by kernel_rfl) (by kernel_rfl) (fun h_8 => ?_) (fun h_8 => ?_)
              · have k_10 : (x_4) = false := by simpa using h_8
                have hF_16 := cnd_t h_8 hF_15
                refine R_seq (R_reg ?_)
                refine V_run f_34 1 (by kernel_rfl) (fun a_33 f_35 => ?_)
                refine W_end rfl (T_n (wp_ret (B_r (T_r (T_r ?_)))))
                obtain rfl := Option.some.inj hF_16
                exact .inl ⟨rfl, (), (Option.some.inj hn_1).symm, M_3, hM_3, f_35.keep (ks := [2]) (by kernel_rfl), p_6⟩
              · have k_11 : (x_4) = true := by simpa using h_8
                have hF_17 := cnd_f h_8 hF_15
                refine wp_skip (B_n (T_n (R_reg ?_)))
                refine V_run f_34 1 (by kernel_rfl) (fun a_34 f_36 => ?_)
                obtain ⟨g_1, hF_18⟩ := need_some hF_17
                refine V_run f_36 1 (by kernel_rfl) (fun a_35 f_37 => ?_)
                have f_38 := Frm.set f_37 29 (v := .int .i64 (IntKind.wrap .i64 (s_1 + 1))) (v' := .int .i64 (s_1 + 1)) (by kernel_rfl) (congrArg (Value.int .i64) (inR_wrap g_1))
                refine V_run f_38 1 (by kernel_rfl) (fun a_36 f_39 => ?_)
                refine W_end rfl (T_n ?_)
                obtain rfl := Option.some.inj hF_18
                exact ⟨⟨m_2, s_1 + 1⟩, Nat.lt_succ_self _, M_3, hM_3, hn_1, f_39.keep (ks := [1, 3]) (by kernel_rfl), p_6⟩
            · have k_12 : ¬ (s_1 < ((d0.fKeys.length : Nat) : Int)) := iff_f decide_eq_true_iff h_7
              have hF_19 := cnd_f h_7 hs_1
              refine wp_exit (T_x (T_x ?_))
              obtain rfl := Option.some.inj hF_19
              exact .inr ⟨rfl, (), (Option.some.inj hn_1).symm, M_3, hM_3, f_27.keep (ks := [1]) (by kernel_rfl), p_5⟩
          · rintro _ a_39 w_9 (⟨rfl, y_2, rfl, M_4, hM_4, f_40, p_7⟩ | ⟨rfl, y_3, rfl, M_5, hM_5, f_41, p_8⟩)
            · refine B_r (T_r ?_)
              refine E_ret1 f_40 rfl (by kernel_rfl : Vc.look _ 2 = some (.int .i64 10)) ?_
              obtain rfl := Option.some.inj hF_12
              exact ⟨_, rfl, M_4, ((hM_1.trans hM_2).trans hM_4), p_7, rfl⟩
            · refine B_x (T_n (R_seq (R_seq (R_reg ?_))))
              refine V_run f_41 1 (by kernel_rfl) (fun a_40 f_42 => ?_)
              refine W_end rfl (T_n (wp_block ?_))
              obtain ⟨b_3, hL_2, hF_20⟩ := bind_some' hF_12
              refine wp_mono (Q := fun e a w => (e = .ret ∧ (∃ y_6 : Unit, b_3 = .inl y_6 ∧ ∃ M_10 : Mem, M_5.le M_10 ∧ Frm 76 [(2, .int .i64 41)] a ∧ Hp w0 M_10 (H) w)) ∨ (e = .exit 2 ∧ (∃ y_7 : Unit, b_3 = .inr y_7 ∧ ∃ M_11 : Mem, M_5.le M_11 ∧ Frm 76 [(1, .pointer (some (⟨b_1, 0, none⟩)))] a ∧ Hp w0 M_11 (H) w))) (R_loop (n := 76) (w0 := w0) (M := M_5) (fun (x : Nat × Int) => match x with | (m_3, s_2) => [(1, .pointer (some (⟨b_1, 0, none⟩))), (4, .int .i64 s_2)]) (fun (x : Nat × Int) => match x with | (m_3, s_2) => (H)) (fun (x : Nat × Int) (MM : Mem) => match x with | (m_3, s_2) => loopF (ref03_wrong_s2 n d0) m_3 s_2 = some b_3) (fun (x : Nat × Int) => match x with | (m_3, s_2) => m_3) (n, (0 : Int)) (f_42.keep (ks := [1, 4]) (by kernel_rfl)) p_8 hL_2 ?_) ?_
              · rintro ⟨m_3, s_2⟩ M_6 a_41 w_10 hM_6 I_2 f_43 p_9
                have I_2L := I_2
                obtain ⟨m_4, r_2, rfl, hs_2, hn_2⟩ := loop_step I_2L
                unfold ref03_wrong_s2 at hs_2
                refine R_seq (R_seq (R_reg ?_))
                refine V_run f_43 2 (by kernel_rfl) (fun a_42 f_44 => ?_)
                refine V_ld f_44 p_9 (fzu ((hM_2.trans hM_5).trans hM_6) hc_2) 5 rfl (by kernel_rfl) (by kernel_rfl) (fun a_43 f_45 => ?_)
                refine V_run f_45 2 (by kernel_rfl) (fun a_44 f_46 => ?_)
                refine W_end rfl (T_n ?_)
                refine R_cond f_46 (b := decide (s_2 < ((d0.fKeys.length : Nat) : Int))) (by kernel_rfl) (by kernel_rfl) (fun h_9 => ?_) (fun h_9 => ?_)
                · have k_13 : s_2 < ((d0.fKeys.length : Nat) : Int) := decide_eq_true_iff.1 h_9
                  have hF_21 := cnd_t h_9 hs_2
                  refine wp_skip (T_n (R_seq (wp_block (R_seq (R_reg ?_)))))
                  refine V_run f_46 1 (by kernel_rfl) (fun a_45 f_47 => ?_)
                  refine W_end rfl (T_n (wp_block ?_))
                  obtain ⟨b_4, hL_3, hF_22⟩ := bind_some' hF_21
                  refine wp_mono (Q := fun e a w => (e = .ret ∧ (∃ y_4 : Unit, b_4 = .inl y_4 ∧ ∃ M_8 : Mem, M_6.le M_8 ∧ Frm 76 [(2, .int .i64 41)] a ∧ Hp w0 M_8 (H) w)) ∨ (e = .exit 4 ∧ (∃ y_5 : Unit, b_4 = .inr y_5 ∧ ∃ M_9 : Mem, M_6.le M_9 ∧ Frm 76 [(1, .pointer (some (⟨b_1, 0, none⟩))), (4, .int .i64 s_2)] a ∧ Hp w0 M_9 (H) w))) (R_loop (n := 76) (w0 := w0) (M := M_6) (fun (x : Nat × Int) => match x with | (m_5, s_3) => [(1, .pointer (some (⟨b_1, 0, none⟩))), (4, .int .i64 s_2), (5, .int .i64 s_3)]) (fun (x : Nat × Int) => match x with | (m_5, s_3) => (H)) (fun (x : Nat × Int) (MM : Mem) => match x with | (m_5, s_3) => loopF (ref03_wrong_s3 n d0 s_2) m_5 s_3 = some b_4) (fun (x : Nat × Int) => match x with | (m_5, s_3) => m_5) (n, (0 : Int)) (f_47.keep (ks := [1, 4, 5]) (by kernel_rfl)) p_9 hL_3 ?_) ?_
                  · rintro ⟨m_5, s_3⟩ M_7 a_46 w_11 hM_7 I_3 f_48 p_10
                    have I_3L := I_3
                    obtain ⟨m_6, r_3, rfl, hs_3, hn_3⟩ := loop_step I_3L
                    unfold ref03_wrong_s3 at hs_3
                    refine R_seq (R_seq (R_reg ?_))
                    refine V_run f_48 3 (by kernel_rfl) (fun a_47 f_49 => ?_)
                    refine W_end rfl (T_n ?_)
                    refine R_cond f_49 (b := decide (s_3 < s_2)) (by kernel_rfl) (by kernel_rfl) (fun h_10 => ?_) (fun h_10 => ?_)
                    · have k_14 : s_3 < s_2 := decide_eq_true_iff.1 h_10
                      have hF_23 := cnd_t h_10 hs_3
                      refine wp_skip (T_n (R_seq (wp_block (R_seq ?_))))
                      refine R_draw p_10 (by kernel_rfl) (by kernel_rfl) ?_
                      refine Q_run default f_49 1 (fun _ => by kernel_rfl) (fun a_48 f_50 => ?_)
                      refine Q_ld f_50 (fzu (((hM_2.trans hM_5).trans hM_6).trans hM_7) hc_2) 5 rfl (by kernel_rfl) (by kernel_rfl) (fun a_49 f_51 => ?_)
                      refine Q_run default f_51 1 (fun _ => by kernel_rfl) (fun a_50 f_52 => ?_)
                      obtain ⟨x_5, hx_5, hF_24⟩ := bind_some' hF_23
                      obtain ⟨ad_2, c_2, e_2, hl_2, hr_2, hc_4⟩ := Sli.at_ (h_2.mono ((((hM_1.trans hM_2).trans hM_5).trans hM_6).trans hM_7)) hx_5
                      clear hl_2
                      obtain rfl : c_2 = [S x_5] := hr_2
                      refine QV_eq (v := .pointer (some (ad_2.add (s_3.toNat * 1)))) f_52 (by kernel_rfl) (fun _ pq => X_indexAddrA e_2 rfl (len := d0.fKeys.length) (cap := cap_2) (k := .i64) (i := s_3) (by kernel_rfl) (by kernel_rfl) (e := 9) (by kernel_rfl) (sz := 1) (by kernel_rfl) (getI_nn hx_5) (getI_lt hx_5)) (fun a_51 f_53 => ?_)
                      refine Q_ld f_53 hc_4 0 rfl (by kernel_rfl) (by kernel_rfl) (fun a_52 f_54 => ?_)
                      refine Q_run default f_54 1 (fun _ => by kernel_rfl) (fun a_53 f_55 => ?_)
                      refine Q_ld f_55 (fzu (((hM_2.trans hM_5).trans hM_6).trans hM_7) hc_2) 5 rfl (by kernel_rfl) (by kernel_rfl) (fun a_54 f_56 => ?_)
                      refine Q_run default f_56 1 (fun _ => by kernel_rfl) (fun a_55 f_57 => ?_)
                      obtain ⟨x_6, hx_6, hF_25⟩ := bind_some' hF_24
                      obtain ⟨ad_3, c_3, e_3, hl_3, hr_3, hc_5⟩ := Sli.at_ (h_2.mono ((((hM_1.trans hM_2).trans hM_5).trans hM_6).trans hM_7)) hx_6
                      clear hl_3
                      obtain rfl : c_3 = [S x_6] := hr_3
                      refine QV_eq (v := .pointer (some (ad_3.add (s_2.toNat * 1)))) f_57 (by kernel_rfl) (fun _ pq => X_indexAddrA e_3 rfl (len := d0.fKeys.length) (cap := cap_2) (k := .i64) (i := s_2) (by kernel_rfl) (by kernel_rfl) (e := 9) (by kernel_rfl) (sz := 1) (by kernel_rfl) (getI_nn hx_6) (getI_lt hx_6)) (fun a_56 f_58 => ?_)
                      refine Q_ld f_58 hc_5 0 rfl (by kernel_rfl) (by kernel_rfl) (fun a_57 f_59 => ?_)
                      refine QV_eq (v := .bool (decide (x_5 = x_6))) f_59 (by kernel_rfl) (fun _ pq => X_streq rfl (l := x_5) (m := x_6) (by kernel_rfl) (by kernel_rfl)) (fun a_58 f_60 => ?_)
                      refine Q_end rfl ?_
                      intro w_12 p_11
                      refine T_n ?_
                      refine R_cond f_60 (b := decide (x_5 = x_6)) (by kernel_rfl) (by kernel_rfl) (fun h_11 => ?_) (fun h_11 => ?_)
                      · have k_15 : x_5 = x_6 := decide_eq_true_iff.1 h_11
                        have hF_26 := cnd_t h_11 hF_25
                        refine R_seq (R_reg ?_)
                        refine V_run f_60 1 (by kernel_rfl) (fun a_59 f_61 => ?_)
                        refine W_end rfl (T_n (wp_ret (B_r (T_r (T_r ?_)))))
                        obtain rfl := Option.some.inj hF_26
                        exact .inl ⟨rfl, (), (Option.some.inj hn_3).symm, M_7, hM_7, f_61.keep (ks := [2]) (by kernel_rfl), p_11⟩
                      · have k_16 : ¬ (x_5 = x_6) := iff_f decide_eq_true_iff h_11
                        have hF_27 := cnd_f h_11 hF_25
                        refine wp_skip (B_n (T_n (R_reg ?_)))
                        refine V_run f_60 1 (by kernel_rfl) (fun a_60 f_62 => ?_)
                        obtain ⟨g_2, hF_28⟩ := need_some hF_27
                        refine V_run f_62 1 (by kernel_rfl) (fun a_61 f_63 => ?_)
                        have f_64 := Frm.set f_63 48 (v := .int .i64 (IntKind.wrap .i64 (s_3 + 1))) (v' := .int .i64 (s_3 + 1)) (by kernel_rfl) (congrArg (Value.int .i64) (inR_wrap g_2))
                        refine V_run f_64 1 (by kernel_rfl) (fun a_62 f_65 => ?_)
                        refine W_end rfl (T_n ?_)
                        obtain rfl := Option.some.inj hF_28
                        exact ⟨⟨m_6, s_3 + 1⟩, Nat.lt_succ_self _, M_7, hM_7, hn_3, f_65.keep (ks := [1, 4, 5]) (by kernel_rfl), p_11⟩
                    · have k_17 : ¬ (s_3 < s_2) := iff_f decide_eq_true_iff h_10
                      have hF_29 := cnd_f h_10 hs_3
                      refine wp_exit (T_x (T_x ?_))
                      obtain rfl := Option.some.inj hF_29
                      exact .inr ⟨rfl, (), (Option.some.inj hn_3).symm, M_7, hM_7, f_49.keep (ks := [1, 4]) (by kernel_rfl), p_10⟩
                  · rintro _ a_65 w_15 (⟨rfl, y_4, rfl, M_8, hM_8, f_66, p_12⟩ | ⟨rfl, y_5, rfl, M_9, hM_9, f_67, p_13⟩)
                    · refine B_r (B_r (T_r (T_r ?_)))
                      obtain rfl := Option.some.inj hF_22
                      exact .inl ⟨rfl, (), (Option.some.inj hn_2).symm, M_8, (hM_6.trans hM_8), f_66.keep (ks := [2]) (by kernel_rfl), p_12⟩
                    · refine B_x (B_n (T_n (R_reg ?_)))
                      refine V_run f_67 1 (by kernel_rfl) (fun a_66 f_68 => ?_)
                      obtain ⟨g_3, hF_30⟩ := need_some hF_22
                      refine V_run f_68 1 (by kernel_rfl) (fun a_67 f_69 => ?_)
                      have f_70 := Frm.set f_69 43 (v := .int .i64 (IntKind.wrap .i64 (s_2 + 1))) (v' := .int .i64 (s_2 + 1)) (by kernel_rfl) (congrArg (Value.int .i64) (inR_wrap g_3))
                      refine V_run f_70 1 (by kernel_rfl) (fun a_68 f_71 => ?_)
                      refine W_end rfl (T_n ?_)
                      obtain rfl := Option.some.inj hF_30
                      exact ⟨⟨m_4, s_2 + 1⟩, Nat.lt_succ_self _, M_9, (hM_6.trans hM_9), hn_2, f_71.keep (ks := [1, 4]) (by kernel_rfl), p_13⟩
                · have k_18 : ¬ (s_2 < ((d0.fKeys.length : Nat) : Int)) := iff_f decide_eq_true_iff h_9
                  have hF_31 := cnd_f h_9 hs_2
                  refine wp_exit (T_x (T_x ?_))
                  obtain rfl := Option.some.inj hF_31
                  exact .inr ⟨rfl, (), (Option.some.inj hn_2).symm, M_6, hM_6, f_46.keep (ks := [1]) (by kernel_rfl), p_9⟩
              · rintro _ a_71 w_18 (⟨rfl, y_6, rfl, M_10, hM_10, f_72, p_14⟩ | ⟨rfl, y_7, rfl, M_11, hM_11, f_73, p_15⟩)
                · refine B_r (T_r ?_)
                  refine E_ret1 f_72 rfl (by kernel_rfl : Vc.look _ 2 = some (.int .i64 41)) ?_
                  obtain rfl := Option.some.inj hF_20
                  exact ⟨_, rfl, M_10, (((hM_1.trans hM_2).trans hM_5).trans hM_10), p_14, rfl⟩
                · refine B_x (T_n (R_seq (R_seq (R_reg ?_))))
                  refine V_run f_73 1 (by kernel_rfl) (fun a_72 f_74 => ?_)
                  refine W_end rfl (T_n (wp_block ?_))
                  obtain ⟨b_5, hL_4, hF_32⟩ := bind_some' hF_20
                  refine wp_mono (Q := fun e a w => (e = .ret ∧ (∃ y_8 : Int, b_5 = .inl y_8 ∧ ∃ M_13 : Mem, M_11.le M_13 ∧ Frm 76 [(2, .int .i64 y_8)] a ∧ Hp w0 M_13 (H) w)) ∨ (e = .exit 6 ∧ (∃ y_9 : Unit, b_5 = .inr y_9 ∧ ∃ M_14 : Mem, M_11.le M_14 ∧ Frm 76 [] a ∧ Hp w0 M_14 (H) w))) (R_loop (n := 76) (w0 := w0) (M := M_11) (fun (x : Nat × Int) => match x with | (m_7, s_4) => [(1, .pointer (some (⟨b_1, 0, none⟩))), (6, .int .i64 s_4)]) (fun (x : Nat × Int) => match x with | (m_7, s_4) => (H)) (fun (x : Nat × Int) (MM : Mem) => match x with | (m_7, s_4) => loopF (ref03_wrong_s4 n rec_ref03_wrong d0) m_7 s_4 = some b_5) (fun (x : Nat × Int) => match x with | (m_7, s_4) => m_7) (n, (0 : Int)) (f_74.keep (ks := [1, 6]) (by kernel_rfl)) p_15 hL_4 ?_) ?_
                  · rintro ⟨m_7, s_4⟩ M_12 a_73 w_19 hM_12 I_4 f_75 p_16
                    have I_4L := I_4
                    obtain ⟨m_8, r_4, rfl, hs_4, hn_4⟩ := loop_step I_4L
                    unfold ref03_wrong_s4 at hs_4
                    refine R_seq (R_seq (R_reg ?_))
                    refine V_run f_75 2 (by kernel_rfl) (fun a_74 f_76 => ?_)
                    refine V_ld f_76 p_16 (fzu (((hM_2.trans hM_5).trans hM_11).trans hM_12) hc_2) 4 rfl (by kernel_rfl) (by kernel_rfl) (fun a_75 f_77 => ?_)
                    refine V_run f_77 2 (by kernel_rfl) (fun a_76 f_78 => ?_)
                    refine W_end rfl (T_n ?_)
                    refine R_cond f_78 (b := decide (s_4 < ((d0.fList.length : Nat) : Int))) (by kernel_rfl) (by kernel_rfl) (fun h_12 => ?_) (fun h_12 => ?_)
                    · have k_19 : s_4 < ((d0.fList.length : Nat) : Int) := decide_eq_true_iff.1 h_12
                      have hF_33 := cnd_t h_12 hs_4
                      refine wp_skip (T_n (R_seq (wp_block (R_seq (R_reg ?_)))))
                      refine V_run f_78 1 (by kernel_rfl) (fun a_77 f_79 => ?_)
                      refine V_ld f_79 p_16 (fzu (((hM_2.trans hM_5).trans hM_11).trans hM_12) hc_2) 4 rfl (by kernel_rfl) (by kernel_rfl) (fun a_78 f_80 => ?_)
                      refine V_run f_80 1 (by kernel_rfl) (fun a_79 f_81 => ?_)
                      obtain ⟨x_7, hx_7, hF_34⟩ := bind_some' hF_33
                      obtain ⟨ad_4, c_4, e_4, hl_4, hr_4, hc_6⟩ := Sli.at_ (h_1.mono ((((hM_1.trans hM_2).trans hM_5).trans hM_11).trans hM_12)) hx_7
                      clear hl_4
                      obtain ⟨A_3, cap_3, A_4, cap_4, rfl, h_13, h_14⟩ := T_api_Value.opn hr_4
                      refine V_eq (v := .pointer (some (ad_4.add (s_4.toNat * 6)))) f_81 (by kernel_rfl) (X_indexAddrA e_4 rfl (len := d0.fList.length) (cap := cap_1) (k := .i64) (i := s_4) (by kernel_rfl) (by kernel_rfl) (e := 33) (by kernel_rfl) (sz := 6) (by kernel_rfl) (getI_nn hx_7) (getI_lt hx_7)) (fun a_80 f_82 => ?_)
                      refine V_eq (v := .agg #[.int .i8 x_7.fKind, .bool x_7.fBool, .int .i64 x_7.fNum, S x_7.fText, .slice A_3 x_7.fList.length cap_3, .slice A_4 x_7.fKeys.length cap_4]) f_82 (by kernel_rfl) (X_loadN (cs := [.int .i8 x_7.fKind, .bool x_7.fBool, .int .i64 x_7.fNum, S x_7.fText, .slice A_3 x_7.fList.length cap_3, .slice A_4 x_7.fKeys.length cap_4]) rfl (ad := ad_4.add (s_4.toNat * 6)) (by kernel_rfl) (by kernel_rfl) (fun j v h => p_16.cell (hc_6 j v h))) (fun a_81 f_83 => ?_)
                      obtain ⟨x_8, hx_8, hF_35⟩ := bind_some' hF_34
                      refine V_okv f_83 p_16 (hrec_ref03_wrong _ _ x_7 (T_api_Value.shutx (x := x_7) h_13 h_14) x_8 hx_8) (by kernel_rfl) (fun _ => by kernel_rfl) (fun w_20 p_17 a_82 f_84 => ?_)
                      refine V_run f_84 1 (by kernel_rfl) (fun a_83 f_85 => ?_)
                      refine W_end rfl (T_n (R_seq (R_reg ?_)))
                      refine V_run f_85 2 (by kernel_rfl) (fun a_84 f_86 => ?_)
                      refine W_end rfl (T_n ?_)
                      refine R_cond f_86 (b := !(decide (x_8 = 0))) (by kernel_rfl) (by kernel_rfl) (fun h_15 => ?_) (fun h_15 => ?_)
                      · have k_20 : ¬ (x_8 = 0) := (not_iff decide_eq_true_iff).1 h_15
                        have hF_36 := cnd_t h_15 hF_35
                        refine R_seq (R_reg ?_)
                        refine V_run f_86 2 (by kernel_rfl) (fun a_85 f_87 => ?_)
                        refine W_end rfl (T_n (wp_ret (B_r (T_r (T_r ?_)))))
                        obtain rfl := Option.some.inj hF_36
                        exact .inl ⟨rfl, x_8, (Option.some.inj hn_4).symm, M_12, hM_12, f_87.keep (ks := [2]) (by kernel_rfl), p_17⟩
                      · have k_21 : ¬ (¬ (x_8 = 0)) := iff_f (not_iff decide_eq_true_iff) h_15
                        have hF_37 := cnd_f h_15 hF_35
                        refine wp_skip (B_n (T_n (R_reg ?_)))
                        refine V_run f_86 1 (by kernel_rfl) (fun a_86 f_88 => ?_)
                        obtain ⟨g_4, hF_38⟩ := need_some hF_37
                        refine V_run f_88 1 (by kernel_rfl) (fun a_87 f_89 => ?_)
                        have f_90 := Frm.set f_89 66 (v := .int .i64 (IntKind.wrap .i64 (s_4 + 1))) (v' := .int .i64 (s_4 + 1)) (by kernel_rfl) (congrArg (Value.int .i64) (inR_wrap g_4))
                        refine V_run f_90 1 (by kernel_rfl) (fun a_88 f_91 => ?_)
                        refine W_end rfl (T_n ?_)
                        obtain rfl := Option.some.inj hF_38
                        exact ⟨⟨m_8, s_4 + 1⟩, Nat.lt_succ_self _, M_12, hM_12, hn_4, f_91.keep (ks := [1, 6]) (by kernel_rfl), p_17⟩
                    · have k_22 : ¬ (s_4 < ((d0.fList.length : Nat) : Int)) := iff_f decide_eq_true_iff h_12
                      have hF_39 := cnd_f h_12 hs_4
                      refine wp_exit (T_x (T_x ?_))
                      obtain rfl := Option.some.inj hF_39
                      exact .inr ⟨rfl, (), (Option.some.inj hn_4).symm, M_12, hM_12, f_78.keep (ks := []) (by kernel_rfl), p_16⟩
                  · rintro _ a_91 w_23 (⟨rfl, y_8, rfl, M_13, hM_13, f_92, p_18⟩ | ⟨rfl, y_9, rfl, M_14, hM_14, f_93, p_19⟩)
                    · refine B_r (T_r ?_)
                      refine E_ret1 f_92 rfl (by kernel_rfl : Vc.look _ 2 = some (.int .i64 y_8)) ?_
                      obtain rfl := Option.some.inj hF_32
                      exact ⟨_, rfl, M_13, ((((hM_1.trans hM_2).trans hM_5).trans hM_11).trans hM_13), p_18, rfl⟩
                    · refine B_x (T_n (R_seq (R_reg ?_)))
                      refine V_run f_93 1 (by kernel_rfl) (fun a_92 f_94 => ?_)
                      refine W_end rfl (T_n (wp_ret ?_))
                      refine E_ret1 f_94 rfl (by kernel_rfl : Vc.look _ 2 = some (.int .i64 0)) ?_
                      obtain rfl := Option.some.inj hF_32
                      exact ⟨_, rfl, M_14, ((((hM_1.trans hM_2).trans hM_5).trans hM_11).trans hM_14), p_19, rfl⟩
def ref03_wrong_k (n : Nat) : Nat → T_api_Value → Option Int
  | 0 => fun _ => none
  | k + 1 => ref03_wrong_b n (ref03_wrong_k n k)
def ref03_wrong (n : Nat) (d0 : T_api_Value) : Option Int := ref03_wrong_k n n d0
theorem ref03_wrong_ok (n : Nat) (M : Mem) (c0 : List Value) (d0 : T_api_Value) (h0 : Rep M (emb_T_api_Value d0) c0) (r : Int) (hF : ref03_wrong n d0 = some r) : Ok Tryd.prog M 73 [.agg c0.toArray] (fun _ v => v = .int .i64 r) := by
  have key : ∀ (k : Nat) (M : Mem) (c0 : List Value) (d0 : T_api_Value) (h0 : Rep M (emb_T_api_Value d0) c0) (r : Int) (hF : ref03_wrong_k n k d0 = some r), Ok Tryd.prog M 73 [.agg c0.toArray] (fun _ v => v = .int .i64 r) := by
    intro k
    induction k with
    | zero => intro M c0 d0 h0 r hF; simp [ref03_wrong_k] at hF
    | succ k ih => intro M c0 d0 h0 r hF; exact ref03_wrong_b_ok n (ref03_wrong_k n k) ih M c0 d0 h0 r hF
  exact key n M c0 d0 h0 r hF

def ref03_Check (n : Nat) (d0 : T_api_Value) : Option Int :=
  (ref03_deeper n d0 (24 : Int)).bind fun x_1 =>
  bif x_1 then
    (some ((30 : Int)))
  else
    (ref03_wrong n d0).bind fun x_2 =>
    bif (!(decide (x_2 = 0))) then
      (some (x_2))
    else
      (ref03_Count n d0).bind fun x_3 =>
      bif (decide ((4096 : Int) < x_3)) then
        (some ((3 : Int)))
      else
        some ((0 : Int))
set_option maxHeartbeats 2000000 in
theorem ref03_Check_ok (n : Nat) (M : Mem) (c0 : List Value) (d0 : T_api_Value) (h0 : Rep M (emb_T_api_Value d0) c0) (r : Int) (hF : ref03_Check n d0 = some r) : Ok Tryd.prog M 38 [.agg c0.toArray] (fun _ v => v = .int .i64 r) := by
  unfold ref03_Check at hF
  intro M1 hM0 w0 H w p0
  replace h0 := Rep.mono hM0 _ _ h0
  obtain ⟨A_1, cap_1, A_2, cap_2, rfl, h_1, h_2⟩ := T_api_Value.opn h0
  refine R_enter 14 Tryd.func38 rfl rfl (by simp) (fun a0 f0 => ?_)
  refine R_seq (R_reg ?_)
  refine V_box (cs := #[.int .i8 d0.fKind, .bool d0.fBool, .int .i64 d0.fNum, S d0.fText, .slice A_1 d0.fList.length cap_1, .slice A_2 d0.fKeys.length cap_2]) (T := 33) f0 p0 (by kernel_rfl) (fun _ => by kernel_rfl) (fun b_1 M_1 w_1 hM_1 hc_1 p_1 a_1 f_1 => ?_)
  have hc_2 := fz_box hc_1
  refine V_run f_1 1 (by kernel_rfl) (fun a_2 f_2 => ?_)
  refine W_end rfl (T_n (R_seq (R_seq (R_reg ?_))))
  refine V_eq (v := .agg #[.int .i8 d0.fKind, .bool d0.fBool, .int .i64 d0.fNum, S d0.fText, .slice A_1 d0.fList.length cap_1, .slice A_2 d0.fKeys.length cap_2]) f_2 (by kernel_rfl) (X_loadN (cs := [.int .i8 d0.fKind, .bool d0.fBool, .int .i64 d0.fNum, S d0.fText, .slice A_1 d0.fList.length cap_1, .slice A_2 d0.fKeys.length cap_2]) rfl (ad := ⟨b_1, 0, none⟩) (by kernel_rfl) (by kernel_rfl) (fun j v h => p_1.cell (hc_2 j v h))) (fun a_3 f_3 => ?_)
  obtain ⟨x_1, hx_1, hF_1⟩ := bind_some' hF
  refine V_okv f_3 p_1 (ref03_deeper_ok n _ _ d0 (T_api_Value.shutx (x := d0) (h_1.mono hM_1) (h_2.mono hM_1)) (24 : Int) x_1 hx_1) (by kernel_rfl) (fun _ => by kernel_rfl) (fun w_2 p_2 a_4 f_4 => ?_)
  refine W_end rfl (T_n ?_)
  refine R_cond f_4 (b := x_1) (by kernel_rfl) (by kernel_rfl) (fun h_3 => ?_) (fun h_3 => ?_)
  · have hF_2 := cnd_t h_3 hF_1
    refine R_seq (R_reg ?_)
    refine V_run f_4 1 (by kernel_rfl) (fun a_5 f_5 => ?_)
    refine W_end rfl (T_n (wp_ret (T_r ?_)))
    refine E_ret1 f_5 rfl (by kernel_rfl : Vc.look _ 2 = some (.int .i64 30)) ?_
    obtain rfl := Option.some.inj hF_2
    exact ⟨_, rfl, M_1, hM_1, p_2, rfl⟩
  · have hF_3 := cnd_f h_3 hF_1
    refine wp_skip (T_n (R_seq (R_reg ?_)))
    refine V_eq (v := .agg #[.int .i8 d0.fKind, .bool d0.fBool, .int .i64 d0.fNum, S d0.fText, .slice A_1 d0.fList.length cap_1, .slice A_2 d0.fKeys.length cap_2]) f_4 (by kernel_rfl) (X_loadN (cs := [.int .i8 d0.fKind, .bool d0.fBool, .int .i64 d0.fNum, S d0.fText, .slice A_1 d0.fList.length cap_1, .slice A_2 d0.fKeys.length cap_2]) rfl (ad := ⟨b_1, 0, none⟩) (by kernel_rfl) (by kernel_rfl) (fun j v h => p_2.cell (hc_2 j v h))) (fun a_6 f_6 => ?_)
    obtain ⟨x_2, hx_2, hF_4⟩ := bind_some' hF_3
    refine V_okv f_6 p_2 (ref03_wrong_ok n _ _ d0 (T_api_Value.shutx (x := d0) (h_1.mono hM_1) (h_2.mono hM_1)) x_2 hx_2) (by kernel_rfl) (fun _ => by kernel_rfl) (fun w_3 p_3 a_7 f_7 => ?_)
    refine V_run f_7 1 (by kernel_rfl) (fun a_8 f_8 => ?_)
    refine W_end rfl (T_n (R_seq (R_seq (R_reg ?_))))
    refine V_run f_8 2 (by kernel_rfl) (fun a_9 f_9 => ?_)
    refine W_end rfl (T_n ?_)
    refine R_cond f_9 (b := !(decide (x_2 = 0))) (by kernel_rfl) (by kernel_rfl) (fun h_4 => ?_) (fun h_4 => ?_)
    · have k_3 : ¬ (x_2 = 0) := (not_iff decide_eq_true_iff).1 h_4
      have hF_5 := cnd_t h_4 hF_4
      refine R_seq (R_reg ?_)
      refine V_run f_9 2 (by kernel_rfl) (fun a_10 f_10 => ?_)
      refine W_end rfl (T_n (wp_ret (T_r ?_)))
      refine E_ret1 f_10 rfl (by kernel_rfl : Vc.look _ 2 = some (.int .i64 x_2)) ?_
      obtain rfl := Option.some.inj hF_5
      exact ⟨_, rfl, M_1, hM_1, p_3, rfl⟩
    · have k_4 : ¬ (¬ (x_2 = 0)) := iff_f (not_iff decide_eq_true_iff) h_4
      have hF_6 := cnd_f h_4 hF_4
      refine wp_skip (T_n (R_seq (R_seq (R_reg ?_))))
      refine V_eq (v := .agg #[.int .i8 d0.fKind, .bool d0.fBool, .int .i64 d0.fNum, S d0.fText, .slice A_1 d0.fList.length cap_1, .slice A_2 d0.fKeys.length cap_2]) f_9 (by kernel_rfl) (X_loadN (cs := [.int .i8 d0.fKind, .bool d0.fBool, .int .i64 d0.fNum, S d0.fText, .slice A_1 d0.fList.length cap_1, .slice A_2 d0.fKeys.length cap_2]) rfl (ad := ⟨b_1, 0, none⟩) (by kernel_rfl) (by kernel_rfl) (fun j v h => p_3.cell (hc_2 j v h))) (fun a_11 f_11 => ?_)
      obtain ⟨x_3, hx_3, hF_7⟩ := bind_some' hF_6
      refine V_okv f_11 p_3 (ref03_Count_ok n _ _ d0 (T_api_Value.shutx (x := d0) (h_1.mono hM_1) (h_2.mono hM_1)) x_3 hx_3) (by kernel_rfl) (fun _ => by kernel_rfl) (fun w_4 p_4 a_12 f_12 => ?_)
      refine V_run f_12 1 (by kernel_rfl) (fun a_13 f_13 => ?_)
      refine W_end rfl (T_n ?_)
      refine R_cond f_13 (b := decide ((4096 : Int) < x_3)) (by kernel_rfl) (by kernel_rfl) (fun h_5 => ?_) (fun h_5 => ?_)
      · have k_5 : (4096 : Int) < x_3 := decide_eq_true_iff.1 h_5
        have hF_8 := cnd_t h_5 hF_7
        refine R_seq (R_reg ?_)
        refine V_run f_13 1 (by kernel_rfl) (fun a_14 f_14 => ?_)
        refine W_end rfl (T_n (wp_ret (T_r ?_)))
        refine E_ret1 f_14 rfl (by kernel_rfl : Vc.look _ 2 = some (.int .i64 3)) ?_
        obtain rfl := Option.some.inj hF_8
        exact ⟨_, rfl, M_1, hM_1, p_4, rfl⟩
      · have k_6 : ¬ ((4096 : Int) < x_3) := iff_f decide_eq_true_iff h_5
        have hF_9 := cnd_f h_5 hF_7
        refine wp_skip (T_n (R_seq (R_reg ?_)))
        refine V_run f_13 1 (by kernel_rfl) (fun a_15 f_15 => ?_)
        refine W_end rfl (T_n (wp_ret ?_))
        refine E_ret1 f_15 rfl (by kernel_rfl : Vc.look _ 2 = some (.int .i64 0)) ?_
        obtain rfl := Option.some.inj hF_9
        exact ⟨_, rfl, M_1, hM_1, p_4, rfl⟩
end Go.Proofs.YtalifkcchfkgmaaDoor
