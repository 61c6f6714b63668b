/-
  Printed by a program: of each function its shallow reading, and the proof that the function gives what the reading gives. No condition.
-/
import Derived.Test.YtalifkcchfkgmaaDoorQ4d
set_option linter.unusedVariables false
set_option linter.unusedSimpArgs false
namespace Go.Proofs.YtalifkcchfkgmaaDoor
open Go Go.Vc Go.RowKit
def slices_Equalstring_string_s1 (n : Nat) (d0 : List (List UInt8)) (d1 : List (List UInt8)) (s_1 : Int) : Option (Lp Int (Sum Unit Unit)) :=
    bif (decide (s_1 < ((d0.length : Nat) : Int))) then
      ((getI d0 s_1).bind fun x_1 =>
      (getI d1 s_1).bind fun x_2 =>
      bif (!(decide (x_1 = x_2))) then
        (some (.br (.inl ())))
      else
        need (inR .i64 (s_1 + 1)) <|
        some (.nx (s_1 + 1)))
    else
      some (.br (.inr ()))
def slices_Equalstring_string (n : Nat) (d0 : List (List UInt8)) (d1 : List (List UInt8)) : Option Bool :=
  bif (!(decide (((d0.length : Nat) : Int) = ((d1.length : Nat) : Int)))) then
    (some ((false)))
  else
    (loopF (slices_Equalstring_string_s1 n d0 d1) n (0 : Int)).bind fun b_1 =>
    (match b_1 with 
    | .inl y_1 => some ((false)) 
    | .inr y_2 => some ((true)))
set_option maxHeartbeats 2000000 in
theorem slices_Equalstring_string_ok (n : Nat) (M : Mem) (hG : GL M) (A0 : Option Addr) (cap0 : Nat) (d0 : List (List UInt8)) (h0 : Sli M 1 Dat.str A0 cap0 d0) (A1 : Option Addr) (cap1 : Nat) (d1 : List (List UInt8)) (h1 : Sli M 1 Dat.str A1 cap1 d1) (r : Bool) (hF : slices_Equalstring_string n d0 d1 = some r) : Ok Tryd.prog M 81 [.slice A0 d0.length cap0, .slice A1 d1.length cap1] (fun _ v => v = .bool r) := by
  unfold slices_Equalstring_string at hF
  intro M1 hM0 w0 H w p0
  replace hG := GL.mono hM0 hG
  replace h0 := h0.mono hM0
  replace h1 := h1.mono hM0
  refine R_enter 26 Tryd.func81 rfl rfl (by simp) (fun a0 f0 => ?_)
  refine R_seq (R_reg ?_)
  refine V_run f0 1 (by kernel_rfl) (fun a_1 f_1 => ?_)
  refine W_end rfl (T_n (R_seq (R_seq (R_reg ?_))))
  refine V_run f_1 5 (by kernel_rfl) (fun a_2 f_2 => ?_)
  refine W_end rfl (T_n ?_)
  refine R_cond f_2 (b := !(decide (((d0.length : Nat) : Int) = ((d1.length : Nat) : Int)))) (by kernel_rfl) (by kernel_rfl) (fun h_1 => ?_) (fun h_1 => ?_)
  · have k_1 : ¬ (((d0.length : Nat) : Int) = ((d1.length : Nat) : Int)) := (not_iff decide_eq_true_iff).1 h_1
    have hF_1 := cnd_t h_1 hF
    refine R_seq (R_reg ?_)
    refine V_run f_2 1 (by kernel_rfl) (fun a_3 f_3 => ?_)
    refine W_end rfl (T_n (wp_ret (T_r ?_)))
    refine E_ret1 f_3 rfl (by kernel_rfl : Vc.look _ 4 = some (.bool false)) ?_
    obtain rfl := Option.some.inj hF_1
    exact ⟨_, rfl, M1, (Mem.le_refl _), p0, rfl⟩
  · have k_2 : ¬ (¬ (((d0.length : Nat) : Int) = ((d1.length : Nat) : Int))) := iff_f (not_iff decide_eq_true_iff) h_1
    have hF_2 := cnd_f h_1 hF
    refine wp_skip (T_n (R_seq (R_seq (R_reg ?_))))
    refine V_run f_2 3 (by kernel_rfl) (fun a_4 f_4 => ?_)
    refine W_end rfl (T_n (wp_block ?_))
    obtain ⟨b_1, hL_1, hF_3⟩ := bind_some' hF_2
    refine wp_mono (Q := fun e a w => (e = .ret ∧ (∃ y_1 : Unit, b_1 = .inl y_1 ∧ ∃ M_2 : Mem, M1.le M_2 ∧ Frm 26 [(4, .bool false)] a ∧ Hp w0 M_2 (H) w)) ∨ (e = .exit 0 ∧ (∃ y_2 : Unit, b_1 = .inr y_2 ∧ ∃ M_3 : Mem, M1.le M_3 ∧ Frm 26 [] a ∧ Hp w0 M_3 (H) w))) (R_loop (n := 26) (w0 := w0) (M := M1) (fun (x : Nat × Int) => match x with | (m_1, s_1) => [(0, .slice A0 d0.length cap0), (1, .slice A1 d1.length cap1), (12, .int .i64 ((d0.length : Nat) : Int)), (13, .int .i64 s_1)]) (fun (x : Nat × Int) => match x with | (m_1, s_1) => (H)) (fun (x : Nat × Int) (MM : Mem) => match x with | (m_1, s_1) => loopF (slices_Equalstring_string_s1 n d0 d1) m_1 s_1 = some b_1) (fun (x : Nat × Int) => match x with | (m_1, s_1) => m_1) (n, (0 : Int)) (f_4.keep (ks := [0, 1, 12, 13]) (by kernel_rfl)) p0 hL_1 ?_) ?_
    · rintro ⟨m_1, s_1⟩ M_1 a_5 w_1 hM_1 I_1 f_5 p_1
      have I_1L := I_1
      obtain ⟨m_2, r_1, rfl, hs_1, hn_1⟩ := loop_step I_1L
      unfold slices_Equalstring_string_s1 at hs_1
      refine R_seq (R_reg ?_)
      refine V_run f_5 1 (by kernel_rfl) (fun a_6 f_6 => ?_)
      refine W_end rfl (T_n (R_seq ?_))
      refine R_cond f_6 (b := decide (s_1 < ((d0.length : Nat) : Int))) (by kernel_rfl) (by kernel_rfl) (fun h_2 => ?_) (fun h_2 => ?_)
      · have k_3 : s_1 < ((d0.length : Nat) : Int) := decide_eq_true_iff.1 h_2
        have hF_4 := cnd_t h_2 hs_1
        refine wp_skip (T_n (R_seq (wp_block (R_seq (R_reg ?_)))))
        refine V_run f_6 2 (by kernel_rfl) (fun a_7 f_7 => ?_)
        refine W_end rfl (T_n (R_seq ?_))
        refine R_draw p_1 (by kernel_rfl) (by kernel_rfl) ?_
        refine Q_run default f_7 2 (fun _ => by kernel_rfl) (fun a_8 f_8 => ?_)
        obtain ⟨x_1, hx_1, hF_5⟩ := bind_some' hF_4
        obtain ⟨ad_1, c_1, e_1, hl_1, hr_1, hc_1⟩ := Sli.at_ (h0.mono hM_1) hx_1
        clear hl_1
        obtain rfl : c_1 = [S x_1] := hr_1
        refine QV_eq (v := .pointer (some (ad_1.add (s_1.toNat * 1)))) f_8 (by kernel_rfl) (fun _ pq => X_indexAddrA e_1 rfl (len := d0.length) (cap := cap0) (k := .i64) (i := s_1) (by kernel_rfl) (by kernel_rfl) (e := 9) (by kernel_rfl) (sz := 1) (by kernel_rfl) (getI_nn hx_1) (getI_lt hx_1)) (fun a_9 f_9 => ?_)
        refine Q_ld f_9 hc_1 0 rfl (by kernel_rfl) (by kernel_rfl) (fun a_10 f_10 => ?_)
        refine Q_run default f_10 2 (fun _ => by kernel_rfl) (fun a_11 f_11 => ?_)
        obtain ⟨x_2, hx_2, hF_6⟩ := bind_some' hF_5
        obtain ⟨ad_2, c_2, e_2, hl_2, hr_2, hc_2⟩ := Sli.at_ (h1.mono hM_1) hx_2
        clear hl_2
        obtain rfl : c_2 = [S x_2] := hr_2
        refine QV_eq (v := .pointer (some (ad_2.add (s_1.toNat * 1)))) f_11 (by kernel_rfl) (fun _ pq => X_indexAddrA e_2 rfl (len := d1.length) (cap := cap1) (k := .i64) (i := s_1) (by kernel_rfl) (by kernel_rfl) (e := 9) (by kernel_rfl) (sz := 1) (by kernel_rfl) (getI_nn hx_2) (getI_lt hx_2)) (fun a_12 f_12 => ?_)
        refine Q_ld f_12 hc_2 0 rfl (by kernel_rfl) (by kernel_rfl) (fun a_13 f_13 => ?_)
        refine QV_eq (v := .bool (!(decide (x_1 = x_2)))) f_13 (by kernel_rfl) (fun _ pq => X_strne rfl (l := x_1) (m := x_2) (by kernel_rfl) (by kernel_rfl)) (fun a_14 f_14 => ?_)
        refine Q_end rfl ?_
        intro w_2 p_2
        refine T_n ?_
        refine R_cond f_14 (b := !(decide (x_1 = x_2))) (by kernel_rfl) (by kernel_rfl) (fun h_3 => ?_) (fun h_3 => ?_)
        · have k_4 : ¬ (x_1 = x_2) := (not_iff decide_eq_true_iff).1 h_3
          have hF_7 := cnd_t h_3 hF_6
          refine R_seq (R_reg ?_)
          refine V_run f_14 1 (by kernel_rfl) (fun a_15 f_15 => ?_)
          refine W_end rfl (T_n (wp_ret (B_r (T_r (T_r ?_)))))
          obtain rfl := Option.some.inj hF_7
          exact .inl ⟨rfl, (), (Option.some.inj hn_1).symm, M_1, hM_1, f_15.keep (ks := [4]) (by kernel_rfl), p_2⟩
        · have k_5 : ¬ (¬ (x_1 = x_2)) := iff_f (not_iff decide_eq_true_iff) h_3
          have hF_8 := cnd_f h_3 hF_6
          refine wp_skip (B_n (T_n (R_reg ?_)))
          obtain ⟨g_1, hF_9⟩ := need_some hF_8
          refine V_run f_14 1 (by kernel_rfl) (fun a_16 f_16 => ?_)
          have f_17 := Frm.set f_16 25 (v := .int .i64 (IntKind.wrap .i64 (s_1 + 1))) (v' := .int .i64 (s_1 + 1)) (by kernel_rfl) (congrArg (Value.int .i64) (inR_wrap g_1))
          refine V_run f_17 1 (by kernel_rfl) (fun a_17 f_18 => ?_)
          refine W_end rfl (T_n ?_)
          obtain rfl := Option.some.inj hF_9
          exact ⟨⟨m_2, s_1 + 1⟩, Nat.lt_succ_self _, M_1, hM_1, hn_1, f_18.keep (ks := [0, 1, 12, 13]) (by kernel_rfl), p_2⟩
      · have k_6 : ¬ (s_1 < ((d0.length : Nat) : Int)) := iff_f decide_eq_true_iff h_2
        have hF_10 := cnd_f h_2 hs_1
        refine wp_exit (T_x (T_x ?_))
        obtain rfl := Option.some.inj hF_10
        exact .inr ⟨rfl, (), (Option.some.inj hn_1).symm, M_1, hM_1, f_6.keep (ks := []) (by kernel_rfl), p_1⟩
    · rintro _ a_20 w_5 (⟨rfl, y_1, rfl, M_2, hM_2, f_19, p_3⟩ | ⟨rfl, y_2, rfl, M_3, hM_3, f_20, p_4⟩)
      · refine B_r (T_r ?_)
        refine E_ret1 f_19 rfl (by kernel_rfl : Vc.look _ 4 = some (.bool false)) ?_
        obtain rfl := Option.some.inj hF_3
        exact ⟨_, rfl, M_2, hM_2, p_3, rfl⟩
      · refine B_x (T_n (R_seq (R_reg ?_)))
        refine V_run f_20 1 (by kernel_rfl) (fun a_21 f_21 => ?_)
        refine W_end rfl (T_n (wp_ret ?_))
        refine E_ret1 f_21 rfl (by kernel_rfl : Vc.look _ 4 = some (.bool true)) ?_
        obtain rfl := Option.some.inj hF_3
        exact ⟨_, rfl, M_3, hM_3, p_4, rfl⟩

def slices_EqualFuncapi_Value_api_Value_api_Value_api_Value_2_s1 (n : Nat) (rec_schema_alike : T_api_Value → T_api_Value → Option Bool) (d0 : List T_api_Value) (d1 : List T_api_Value) (s_1 : Int) : Option (Lp Int (Sum Unit Unit)) :=
    bif (decide (s_1 < ((d0.length : Nat) : Int))) then
      ((getI d0 s_1).bind fun x_1 =>
      (getI d1 s_1).bind fun x_2 =>
      (rec_schema_alike x_1 x_2).bind fun x_3 =>
      bif !x_3 then
        (some (.br (.inl ())))
      else
        need (inR .i64 (s_1 + 1)) <|
        some (.nx (s_1 + 1)))
    else
      some (.br (.inr ()))
def slices_EqualFuncapi_Value_api_Value_api_Value_api_Value_2 (n : Nat) (rec_schema_alike : T_api_Value → T_api_Value → Option Bool) (d0 : List T_api_Value) (d1 : List T_api_Value) : Option Bool :=
  bif (!(decide (((d0.length : Nat) : Int) = ((d1.length : Nat) : Int)))) then
    (some ((false)))
  else
    (loopF (slices_EqualFuncapi_Value_api_Value_api_Value_api_Value_2_s1 n rec_schema_alike d0 d1) n (0 : Int)).bind fun b_1 =>
    (match b_1 with 
    | .inl y_1 => some ((false)) 
    | .inr y_2 => some ((true)))
set_option maxHeartbeats 2000000 in
theorem slices_EqualFuncapi_Value_api_Value_api_Value_api_Value_2_ok (n : Nat) (rec_schema_alike : T_api_Value → T_api_Value → Option Bool) (hrec_schema_alike : ∀ (M : Mem) (hG : GL M) (c0 : List Value) (d0 : T_api_Value) (h0 : Rep M (emb_T_api_Value d0) c0) (c1 : List Value) (d1 : T_api_Value) (h1 : Rep M (emb_T_api_Value d1) c1) (r : Bool) (hF : rec_schema_alike d0 d1 = some r), Ok Tryd.prog M 55 [.agg c0.toArray, .agg c1.toArray] (fun _ v => v = .bool r)) (M : Mem) (hG : GL M) (A0 : Option Addr) (cap0 : Nat) (d0 : List T_api_Value) (h0 : Sli M 6 emb_T_api_Value A0 cap0 d0) (A1 : Option Addr) (cap1 : Nat) (d1 : List T_api_Value) (h1 : Sli M 6 emb_T_api_Value A1 cap1 d1) (r : Bool) (hF : slices_EqualFuncapi_Value_api_Value_api_Value_api_Value_2 n rec_schema_alike d0 d1 = some r) : Ok Tryd.prog M 82 [.slice A0 d0.length cap0, .slice A1 d1.length cap1, .func (.func 55) #[] #[]] (fun _ v => v = .bool r) := by
  unfold slices_EqualFuncapi_Value_api_Value_api_Value_api_Value_2 at hF
  intro M1 hM0 w0 H w p0
  replace hG := GL.mono hM0 hG
  replace h0 := h0.mono hM0
  replace h1 := h1.mono hM0
  refine R_enter 32 Tryd.func82 rfl rfl (by simp) (fun a0 f0 => ?_)
  refine R_seq (R_reg ?_)
  refine V_run f0 1 (by kernel_rfl) (fun a_1 f_1 => ?_)
  refine W_end rfl (T_n (R_seq (R_seq (R_reg ?_))))
  refine V_run f_1 5 (by kernel_rfl) (fun a_2 f_2 => ?_)
  refine W_end rfl (T_n ?_)
  refine R_cond f_2 (b := !(decide (((d0.length : Nat) : Int) = ((d1.length : Nat) : Int)))) (by kernel_rfl) (by kernel_rfl) (fun h_1 => ?_) (fun h_1 => ?_)
  · have k_1 : ¬ (((d0.length : Nat) : Int) = ((d1.length : Nat) : Int)) := (not_iff decide_eq_true_iff).1 h_1
    have hF_1 := cnd_t h_1 hF
    refine R_seq (R_reg ?_)
    refine V_run f_2 1 (by kernel_rfl) (fun a_3 f_3 => ?_)
    refine W_end rfl (T_n (wp_ret (T_r ?_)))
    refine E_ret1 f_3 rfl (by kernel_rfl : Vc.look _ 6 = some (.bool false)) ?_
    obtain rfl := Option.some.inj hF_1
    exact ⟨_, rfl, M1, (Mem.le_refl _), p0, rfl⟩
  · have k_2 : ¬ (¬ (((d0.length : Nat) : Int) = ((d1.length : Nat) : Int))) := iff_f (not_iff decide_eq_true_iff) h_1
    have hF_2 := cnd_f h_1 hF
    refine wp_skip (T_n (R_seq (R_seq (R_reg ?_))))
    refine V_run f_2 3 (by kernel_rfl) (fun a_4 f_4 => ?_)
    refine W_end rfl (T_n (wp_block ?_))
    obtain ⟨b_1, hL_1, hF_3⟩ := bind_some' hF_2
    refine wp_mono (Q := fun e a w => (e = .ret ∧ (∃ y_1 : Unit, b_1 = .inl y_1 ∧ ∃ M_2 : Mem, M1.le M_2 ∧ Frm 32 [(6, .bool false)] a ∧ Hp w0 M_2 (H) w)) ∨ (e = .exit 0 ∧ (∃ y_2 : Unit, b_1 = .inr y_2 ∧ ∃ M_3 : Mem, M1.le M_3 ∧ Frm 32 [] a ∧ Hp w0 M_3 (H) w))) (R_loop (n := 32) (w0 := w0) (M := M1) (fun (x : Nat × Int) => match x with | (m_1, s_1) => [(1, .slice A1 d1.length cap1), (2, .func (.func 55) #[] #[]), (15, .slice A0 d0.length cap0), (16, .int .i64 ((d0.length : Nat) : Int)), (17, .int .i64 s_1)]) (fun (x : Nat × Int) => match x with | (m_1, s_1) => (H)) (fun (x : Nat × Int) (MM : Mem) => match x with | (m_1, s_1) => loopF (slices_EqualFuncapi_Value_api_Value_api_Value_api_Value_2_s1 n rec_schema_alike d0 d1) m_1 s_1 = some b_1) (fun (x : Nat × Int) => match x with | (m_1, s_1) => m_1) (n, (0 : Int)) (f_4.keep (ks := [1, 2, 15, 16, 17]) (by kernel_rfl)) p0 hL_1 ?_) ?_
    · rintro ⟨m_1, s_1⟩ M_1 a_5 w_1 hM_1 I_1 f_5 p_1
      have I_1L := I_1
      obtain ⟨m_2, r_1, rfl, hs_1, hn_1⟩ := loop_step I_1L
      unfold slices_EqualFuncapi_Value_api_Value_api_Value_api_Value_2_s1 at hs_1
      refine R_seq (R_reg ?_)
      refine V_run f_5 1 (by kernel_rfl) (fun a_6 f_6 => ?_)
      refine W_end rfl (T_n (R_seq ?_))
      refine R_cond f_6 (b := decide (s_1 < ((d0.length : Nat) : Int))) (by kernel_rfl) (by kernel_rfl) (fun h_2 => ?_) (fun h_2 => ?_)
      · have k_3 : s_1 < ((d0.length : Nat) : Int) := decide_eq_true_iff.1 h_2
        have hF_4 := cnd_t h_2 hs_1
        refine wp_skip (T_n (R_seq (wp_block (R_seq (R_reg ?_)))))
        refine V_run f_6 1 (by kernel_rfl) (fun a_7 f_7 => ?_)
        obtain ⟨x_1, hx_1, hF_5⟩ := bind_some' hF_4
        obtain ⟨ad_1, c_1, e_1, hl_1, hr_1, hc_1⟩ := Sli.at_ (h0.mono hM_1) hx_1
        clear hl_1
        obtain ⟨A_1, cap_1, A_2, cap_2, rfl, h_3, h_4⟩ := T_api_Value.opn hr_1
        refine V_eq (v := .pointer (some (ad_1.add (s_1.toNat * 6)))) f_7 (by kernel_rfl) (X_indexAddrA e_1 rfl (len := d0.length) (cap := cap0) (k := .i64) (i := s_1) (by kernel_rfl) (by kernel_rfl) (e := 33) (by kernel_rfl) (sz := 6) (by kernel_rfl) (getI_nn hx_1) (getI_lt hx_1)) (fun a_8 f_8 => ?_)
        refine V_eq (v := .agg #[.int .i8 x_1.fKind, .bool x_1.fBool, .int .i64 x_1.fNum, S x_1.fText, .slice A_1 x_1.fList.length cap_1, .slice A_2 x_1.fKeys.length cap_2]) f_8 (by kernel_rfl) (X_loadN (cs := [.int .i8 x_1.fKind, .bool x_1.fBool, .int .i64 x_1.fNum, S x_1.fText, .slice A_1 x_1.fList.length cap_1, .slice A_2 x_1.fKeys.length cap_2]) rfl (ad := ad_1.add (s_1.toNat * 6)) (by kernel_rfl) (by kernel_rfl) (fun j v h => p_1.cell (hc_1 j v h))) (fun a_9 f_9 => ?_)
        refine V_alloc f_9 p_1 (.cells #[.int .i8 0, .bool false, .int .i64 0, S [], .slice none 0 0, .slice none 0 0] 33 (0, 0)) (by kernel_rfl) (fun _ => by kernel_rfl) (fun b_2 w_2 p_2 a_10 f_10 => ?_)
        refine V_run f_10 1 (by kernel_rfl) (fun a_11 f_11 => ?_)
        refine W_storeN (vs := [.int .i8 x_1.fKind, .bool x_1.fBool, .int .i64 x_1.fNum, S x_1.fText, .slice A_1 x_1.fList.length cap_1, .slice A_2 x_1.fKeys.length cap_2]) (j := 0) f_11 p_2 (by kernel_rfl) (by kernel_rfl) rfl rfl (by kernel_rfl) (by kernel_rfl) (by simp [Value.oneCell', S]) (by kernel_rfl) (by simp) (by decide) (cs' := #[.int .i8 x_1.fKind, .bool x_1.fBool, .int .i64 x_1.fNum, S x_1.fText, .slice A_1 x_1.fList.length cap_1, .slice A_2 x_1.fKeys.length cap_2]) rfl (fun w_3 p_3 a_12 f_12 => ?_)
        refine W_end rfl (T_n (R_seq (R_reg ?_)))
        refine V_run f_12 2 (by kernel_rfl) (fun a_13 f_13 => ?_)
        obtain ⟨x_2, hx_2, hF_6⟩ := bind_some' hF_5
        obtain ⟨ad_2, c_2, e_2, hl_2, hr_2, hc_2⟩ := Sli.at_ (h1.mono hM_1) hx_2
        clear hl_2
        obtain ⟨A_3, cap_3, A_4, cap_4, rfl, h_5, h_6⟩ := T_api_Value.opn hr_2
        refine V_eq (v := .pointer (some (ad_2.add (s_1.toNat * 6)))) f_13 (by kernel_rfl) (X_indexAddrA e_2 rfl (len := d1.length) (cap := cap1) (k := .i64) (i := s_1) (by kernel_rfl) (by kernel_rfl) (e := 33) (by kernel_rfl) (sz := 6) (by kernel_rfl) (getI_nn hx_2) (getI_lt hx_2)) (fun a_14 f_14 => ?_)
        refine V_eq (v := .agg #[.int .i8 x_2.fKind, .bool x_2.fBool, .int .i64 x_2.fNum, S x_2.fText, .slice A_3 x_2.fList.length cap_3, .slice A_4 x_2.fKeys.length cap_4]) f_14 (by kernel_rfl) (X_loadN (cs := [.int .i8 x_2.fKind, .bool x_2.fBool, .int .i64 x_2.fNum, S x_2.fText, .slice A_3 x_2.fList.length cap_3, .slice A_4 x_2.fKeys.length cap_4]) rfl (ad := ad_2.add (s_1.toNat * 6)) (by kernel_rfl) (by kernel_rfl) (fun j v h => p_3.cell (hc_2 j v h))) (fun a_15 f_15 => ?_)
        refine V_alloc f_15 p_3 (.cells #[.int .i8 0, .bool false, .int .i64 0, S [], .slice none 0 0, .slice none 0 0] 33 (0, 0)) (by kernel_rfl) (fun _ => by kernel_rfl) (fun b_3 w_4 p_4 a_16 f_16 => ?_)
        refine W_storeN (vs := [.int .i8 x_2.fKind, .bool x_2.fBool, .int .i64 x_2.fNum, S x_2.fText, .slice A_3 x_2.fList.length cap_3, .slice A_4 x_2.fKeys.length cap_4]) (j := 0) f_16 p_4 (by kernel_rfl) (by kernel_rfl) rfl rfl (by kernel_rfl) (by kernel_rfl) (by simp [Value.oneCell', S]) (by kernel_rfl) (by simp) (by decide) (cs' := #[.int .i8 x_2.fKind, .bool x_2.fBool, .int .i64 x_2.fNum, S x_2.fText, .slice A_3 x_2.fList.length cap_3, .slice A_4 x_2.fKeys.length cap_4]) rfl (fun w_5 p_5 a_17 f_17 => ?_)
        refine W_end rfl (T_n (R_seq (R_reg ?_)))
        refine V_run f_17 1 (by kernel_rfl) (fun a_18 f_18 => ?_)
        refine V_eq (v := .agg #[.int .i8 x_1.fKind, .bool x_1.fBool, .int .i64 x_1.fNum, S x_1.fText, .slice A_1 x_1.fList.length cap_1, .slice A_2 x_1.fKeys.length cap_2]) f_18 (by kernel_rfl) (X_loadN (cs := [.int .i8 x_1.fKind, .bool x_1.fBool, .int .i64 x_1.fNum, S x_1.fText, .slice A_1 x_1.fList.length cap_1, .slice A_2 x_1.fKeys.length cap_2]) rfl (ad := ⟨b_2, 0, none⟩) (by kernel_rfl) (by kernel_rfl) (own_cells (p_5.ownCell 1 rfl) 0 rfl)) (fun a_19 f_19 => ?_)
        refine V_eq (v := .agg #[.int .i8 x_2.fKind, .bool x_2.fBool, .int .i64 x_2.fNum, S x_2.fText, .slice A_3 x_2.fList.length cap_3, .slice A_4 x_2.fKeys.length cap_4]) f_19 (by kernel_rfl) (X_loadN (cs := [.int .i8 x_2.fKind, .bool x_2.fBool, .int .i64 x_2.fNum, S x_2.fText, .slice A_3 x_2.fList.length cap_3, .slice A_4 x_2.fKeys.length cap_4]) rfl (ad := ⟨b_3, 0, none⟩) (by kernel_rfl) (by kernel_rfl) (own_cells (p_5.ownCell 0 rfl) 0 rfl)) (fun a_20 f_20 => ?_)
        obtain ⟨x_3, hx_3, hF_7⟩ := bind_some' hF_6
        refine V_okv f_20 p_5 (hrec_schema_alike _ (GL.mono hM_1 hG) _ x_1 (T_api_Value.shutx (x := x_1) h_3 h_4) _ x_2 (T_api_Value.shutx (x := x_2) h_5 h_6) x_3 hx_3) (by kernel_rfl) (fun _ => by kernel_rfl) (fun w_6 p_6 a_21 f_21 => ?_)
        refine V_run f_21 1 (by kernel_rfl) (fun a_22 f_22 => ?_)
        refine W_end rfl (T_n ?_)
        refine R_cond f_22 (b := !x_3) (by kernel_rfl) (by kernel_rfl) (fun h_7 => ?_) (fun h_7 => ?_)
        · have k_4 : (x_3) = false := by simpa using h_7
          have hF_8 := cnd_t h_7 hF_7
          refine R_seq (R_reg ?_)
          refine V_run f_22 1 (by kernel_rfl) (fun a_23 f_23 => ?_)
          refine W_end rfl (T_n (wp_ret (B_r (T_r (T_r ?_)))))
          obtain rfl := Option.some.inj hF_8
          exact .inl ⟨rfl, (), (Option.some.inj hn_1).symm, M_1, hM_1, f_23.keep (ks := [6]) (by kernel_rfl), (p_6.dropN 2)⟩
        · have k_5 : (x_3) = true := by simpa using h_7
          have hF_9 := cnd_f h_7 hF_7
          refine wp_skip (B_n (T_n (R_reg ?_)))
          obtain ⟨g_1, hF_10⟩ := need_some hF_9
          refine V_run f_22 1 (by kernel_rfl) (fun a_24 f_24 => ?_)
          have f_25 := Frm.set f_24 31 (v := .int .i64 (IntKind.wrap .i64 (s_1 + 1))) (v' := .int .i64 (s_1 + 1)) (by kernel_rfl) (congrArg (Value.int .i64) (inR_wrap g_1))
          refine V_run f_25 1 (by kernel_rfl) (fun a_25 f_26 => ?_)
          refine W_end rfl (T_n ?_)
          obtain rfl := Option.some.inj hF_10
          exact ⟨⟨m_2, s_1 + 1⟩, Nat.lt_succ_self _, M_1, hM_1, hn_1, f_26.keep (ks := [1, 2, 15, 16, 17]) (by kernel_rfl), (p_6.dropN 2)⟩
      · have k_6 : ¬ (s_1 < ((d0.length : Nat) : Int)) := iff_f decide_eq_true_iff h_2
        have hF_11 := cnd_f h_2 hs_1
        refine wp_exit (T_x (T_x ?_))
        obtain rfl := Option.some.inj hF_11
        exact .inr ⟨rfl, (), (Option.some.inj hn_1).symm, M_1, hM_1, f_6.keep (ks := []) (by kernel_rfl), p_1⟩
    · rintro _ a_28 w_9 (⟨rfl, y_1, rfl, M_2, hM_2, f_27, p_7⟩ | ⟨rfl, y_2, rfl, M_3, hM_3, f_28, p_8⟩)
      · refine B_r (T_r ?_)
        refine E_ret1 f_27 rfl (by kernel_rfl : Vc.look _ 6 = some (.bool false)) ?_
        obtain rfl := Option.some.inj hF_3
        exact ⟨_, rfl, M_2, hM_2, p_7, rfl⟩
      · refine B_x (T_n (R_seq (R_reg ?_)))
        refine V_run f_28 1 (by kernel_rfl) (fun a_29 f_29 => ?_)
        refine W_end rfl (T_n (wp_ret ?_))
        refine E_ret1 f_29 rfl (by kernel_rfl : Vc.look _ 6 = some (.bool true)) ?_
        obtain rfl := Option.some.inj hF_3
        exact ⟨_, rfl, M_3, hM_3, p_8, rfl⟩

def schema_alike_b (n : Nat) (rec_schema_alike : T_api_Value → T_api_Value → Option Bool) (d0 : T_api_Value) (d1 : T_api_Value) : Option Bool :=
  ((bif (decide (d0.fKind = d1.fKind)) then
      (bif (d0.fBool == d1.fBool) then
        (bif (decide (d0.fNum = d1.fNum)) then
          (some ((decide (d0.fText = d1.fText))))
        else
          some ((false)))
      else
        some ((false)))
    else
      some ((false)) : Option Bool)).bind fun y_1 =>
  bif y_1 then
    ((slices_Equalstring_string n d0.fKeys d1.fKeys).bind fun x_1 =>
    bif x_1 then
      ((slices_EqualFuncapi_Value_api_Value_api_Value_api_Value_2 n rec_schema_alike d0.fList d1.fList).bind fun x_2 =>
      some ((x_2)))
    else
      some ((false)))
  else
    some ((false))
set_option maxHeartbeats 2000000 in
theorem schema_alike_b_ok (n : Nat) (rec_schema_alike : T_api_Value → T_api_Value → Option Bool) (hrec_schema_alike : ∀ (M : Mem) (hG : GL M) (c0 : List Value) (d0 : T_api_Value) (h0 : Rep M (emb_T_api_Value d0) c0) (c1 : List Value) (d1 : T_api_Value) (h1 : Rep M (emb_T_api_Value d1) c1) (r : Bool) (hF : rec_schema_alike d0 d1 = some r), Ok Tryd.prog M 55 [.agg c0.toArray, .agg c1.toArray] (fun _ v => v = .bool r)) (M : Mem) (hG : GL M) (c0 : List Value) (d0 : T_api_Value) (h0 : Rep M (emb_T_api_Value d0) c0) (c1 : List Value) (d1 : T_api_Value) (h1 : Rep M (emb_T_api_Value d1) c1) (r : Bool) (hF : schema_alike_b n rec_schema_alike d0 d1 = some r) : Ok Tryd.prog M 55 [.agg c0.toArray, .agg c1.toArray] (fun _ v => v = .bool r) := by
  unfold schema_alike_b at hF
  intro M1 hM0 w0 H w p0
  replace hG := GL.mono hM0 hG
  replace h0 := Rep.mono hM0 _ _ h0
  replace h1 := Rep.mono hM0 _ _ h1
  obtain ⟨A_1, cap_1, A_2, cap_2, rfl, h_1, h_2⟩ := T_api_Value.opn h0
  obtain ⟨A_3, cap_3, A_4, cap_4, rfl, h_3, h_4⟩ := T_api_Value.opn h1
  refine R_enter 47 Tryd.func55 rfl rfl (by simp) (fun a0 f0 => ?_)
  refine R_seq (R_reg ?_)
  refine V_box (cs := #[.int .i8 d0.fKind, .bool d0.fBool, .int .i64 d0.fNum, S d0.fText, .slice A_1 d0.fList.length cap_1, .slice A_2 d0.fKeys.length cap_2]) (T := 33) f0 p0 (by kernel_rfl) (fun _ => by kernel_rfl) (fun b_1 M_1 w_1 hM_1 hc_1 p_1 a_1 f_1 => ?_)
  have hc_2 := fz_box hc_1
  refine V_box (cs := #[.int .i8 d1.fKind, .bool d1.fBool, .int .i64 d1.fNum, S d1.fText, .slice A_3 d1.fList.length cap_3, .slice A_4 d1.fKeys.length cap_4]) (T := 33) f_1 p_1 (by kernel_rfl) (fun _ => by kernel_rfl) (fun b_2 M_2 w_2 hM_2 hc_3 p_2 a_2 f_2 => ?_)
  have hc_4 := fz_box hc_3
  refine V_run f_2 1 (by kernel_rfl) (fun a_3 f_3 => ?_)
  refine W_end rfl (T_n (R_seq ?_))
  obtain ⟨j_1, hj_1, hF_1⟩ := bind_some' hF
  refine R_mid (fun a_28 w_3 => ∃ y_1 : Bool, j_1 = y_1 ∧ ∃ M_3 : Mem, M_2.le M_3 ∧ Frm 47 [(2, .pointer (some (⟨b_1, 0, none⟩))), (3, .pointer (some (⟨b_2, 0, none⟩))), (5, .bool y_1)] a_28 ∧ Hp w0 M_3 (H) w_3) ?_ ?_
  · refine R_reg ?_
    refine V_run f_3 1 (by kernel_rfl) (fun a_4 f_4 => ?_)
    refine V_ld f_4 p_2 (fzu hM_2 hc_2) 0 rfl (by kernel_rfl) (by kernel_rfl) (fun a_5 f_5 => ?_)
    refine V_run f_5 1 (by kernel_rfl) (fun a_6 f_6 => ?_)
    refine V_ld f_6 p_2 hc_4 0 rfl (by kernel_rfl) (by kernel_rfl) (fun a_7 f_7 => ?_)
    refine V_run f_7 2 (by kernel_rfl) (fun a_8 f_8 => ?_)
    rcases Bool.eq_false_or_eq_true (decide (d0.fKind = d1.fKind)) with h_5 | h_5
    · have k_1 : d0.fKind = d1.fKind := decide_eq_true_iff.1 h_5
      have hF_2 := cnd_t h_5 hj_1
      have f_9 := Frm.set f_8 11 (v := .bool (decide (d0.fKind = d1.fKind))) (v' := .bool true) (by kernel_rfl) (congrArg Value.bool h_5)
      refine V_run f_9 1 (by kernel_rfl) (fun a_9 f_10 => ?_)
      refine V_ld f_10 p_2 (fzu hM_2 hc_2) 1 rfl (by kernel_rfl) (by kernel_rfl) (fun a_10 f_11 => ?_)
      refine V_run f_11 1 (by kernel_rfl) (fun a_11 f_12 => ?_)
      refine V_ld f_12 p_2 hc_4 1 rfl (by kernel_rfl) (by kernel_rfl) (fun a_12 f_13 => ?_)
      refine V_run f_13 3 (by kernel_rfl) (fun a_13 f_14 => ?_)
      rcases Bool.eq_false_or_eq_true (d0.fBool == d1.fBool) with h_6 | h_6
      · have hF_3 := cnd_t h_6 hF_2
        have f_15 := Frm.set f_14 18 (v := .bool (d0.fBool == d1.fBool)) (v' := .bool true) (by kernel_rfl) (congrArg Value.bool h_6)
        refine V_run f_15 1 (by kernel_rfl) (fun a_14 f_16 => ?_)
        refine V_ld f_16 p_2 (fzu hM_2 hc_2) 2 rfl (by kernel_rfl) (by kernel_rfl) (fun a_15 f_17 => ?_)
        refine V_run f_17 1 (by kernel_rfl) (fun a_16 f_18 => ?_)
        refine V_ld f_18 p_2 hc_4 2 rfl (by kernel_rfl) (by kernel_rfl) (fun a_17 f_19 => ?_)
        refine V_run f_19 3 (by kernel_rfl) (fun a_18 f_20 => ?_)
        rcases Bool.eq_false_or_eq_true (decide (d0.fNum = d1.fNum)) with h_7 | h_7
        · have k_3 : d0.fNum = d1.fNum := decide_eq_true_iff.1 h_7
          have hF_4 := cnd_t h_7 hF_3
          have f_21 := Frm.set f_20 25 (v := .bool (decide (d0.fNum = d1.fNum))) (v' := .bool true) (by kernel_rfl) (congrArg Value.bool h_7)
          refine V_run f_21 1 (by kernel_rfl) (fun a_19 f_22 => ?_)
          refine V_ld f_22 p_2 (fzu hM_2 hc_2) 3 rfl (by kernel_rfl) (by kernel_rfl) (fun a_20 f_23 => ?_)
          refine V_run f_23 1 (by kernel_rfl) (fun a_21 f_24 => ?_)
          refine V_ld f_24 p_2 hc_4 3 rfl (by kernel_rfl) (by kernel_rfl) (fun a_22 f_25 => ?_)
          refine V_eq (v := .bool (decide (d0.fText = d1.fText))) f_25 (by kernel_rfl) (X_streq rfl (l := d0.fText) (m := d1.fText) (by kernel_rfl) (by kernel_rfl)) (fun a_23 f_26 => ?_)
          refine V_run f_26 2 (by kernel_rfl) (fun a_24 f_27 => ?_)
          refine W_end rfl (T_n ?_)
          exact ⟨(decide (d0.fText = d1.fText)), (Option.some.inj hF_4).symm, M_2, (Mem.le_refl _), f_27.keep (ks := [2, 3, 5]) (by kernel_rfl), p_2⟩
        · have k_4 : ¬ (d0.fNum = d1.fNum) := iff_f decide_eq_true_iff h_7
          have hF_5 := cnd_f h_7 hF_3
          have f_28 := Frm.set f_20 25 (v := .bool (decide (d0.fNum = d1.fNum))) (v' := .bool false) (by kernel_rfl) (congrArg Value.bool h_7)
          refine V_run f_28 7 (by kernel_rfl) (fun a_25 f_29 => ?_)
          refine W_end rfl (T_n ?_)
          exact ⟨(false), (Option.some.inj hF_5).symm, M_2, (Mem.le_refl _), f_29.keep (ks := [2, 3, 5]) (by kernel_rfl), p_2⟩
      · have hF_6 := cnd_f h_6 hF_2
        have f_30 := Frm.set f_14 18 (v := .bool (d0.fBool == d1.fBool)) (v' := .bool false) (by kernel_rfl) (congrArg Value.bool h_6)
        refine V_run f_30 14 (by kernel_rfl) (fun a_26 f_31 => ?_)
        refine W_end rfl (T_n ?_)
        exact ⟨(false), (Option.some.inj hF_6).symm, M_2, (Mem.le_refl _), f_31.keep (ks := [2, 3, 5]) (by kernel_rfl), p_2⟩
    · have k_6 : ¬ (d0.fKind = d1.fKind) := iff_f decide_eq_true_iff h_5
      have hF_7 := cnd_f h_5 hj_1
      have f_32 := Frm.set f_8 11 (v := .bool (decide (d0.fKind = d1.fKind))) (v' := .bool false) (by kernel_rfl) (congrArg Value.bool h_5)
      refine V_run f_32 21 (by kernel_rfl) (fun a_27 f_33 => ?_)
      refine W_end rfl (T_n ?_)
      exact ⟨(false), (Option.some.inj hF_7).symm, M_2, (Mem.le_refl _), f_33.keep (ks := [2, 3, 5]) (by kernel_rfl), p_2⟩
  · rintro a_28 w_3 ⟨y_1, hq_1, M_3, hM_3, f_34, p_3⟩
    subst j_1
    refine T_n (R_seq (R_reg ?_))
    refine V_run f_34 2 (by kernel_rfl) (fun a_29 f_35 => ?_)
    rcases Bool.eq_false_or_eq_true (y_1) with h_8 | h_8
    · have hF_8 := cnd_t h_8 hF_1
      have f_36 := Frm.set f_35 33 (v := .bool y_1) (v' := .bool true) (by kernel_rfl) (congrArg Value.bool h_8)
      refine V_run f_36 1 (by kernel_rfl) (fun a_30 f_37 => ?_)
      refine V_ld f_37 p_3 (fzu (hM_2.trans hM_3) hc_2) 5 rfl (by kernel_rfl) (by kernel_rfl) (fun a_31 f_38 => ?_)
      refine V_run f_38 1 (by kernel_rfl) (fun a_32 f_39 => ?_)
      refine V_ld f_39 p_3 (fzu hM_3 hc_4) 5 rfl (by kernel_rfl) (by kernel_rfl) (fun a_33 f_40 => ?_)
      obtain ⟨x_1, hx_1, hF_9⟩ := bind_some' hF_8
      refine V_okv f_40 p_3 (slices_Equalstring_string_ok n _ (GL.mono ((hM_1.trans hM_2).trans hM_3) hG) A_2 cap_2 d0.fKeys (h_2.mono ((hM_1.trans hM_2).trans hM_3)) A_4 cap_4 d1.fKeys (h_4.mono ((hM_1.trans hM_2).trans hM_3)) x_1 hx_1) (by kernel_rfl) (fun _ => by kernel_rfl) (fun w_4 p_4 a_34 f_41 => ?_)
      refine V_run f_41 2 (by kernel_rfl) (fun a_35 f_42 => ?_)
      rcases Bool.eq_false_or_eq_true (x_1) with h_9 | h_9
      · have hF_10 := cnd_t h_9 hF_9
        have f_43 := Frm.set f_42 40 (v := .bool x_1) (v' := .bool true) (by kernel_rfl) (congrArg Value.bool h_9)
        refine V_run f_43 1 (by kernel_rfl) (fun a_36 f_44 => ?_)
        refine V_ld f_44 p_4 (fzu (hM_2.trans hM_3) hc_2) 4 rfl (by kernel_rfl) (by kernel_rfl) (fun a_37 f_45 => ?_)
        refine V_run f_45 1 (by kernel_rfl) (fun a_38 f_46 => ?_)
        refine V_ld f_46 p_4 (fzu hM_3 hc_4) 4 rfl (by kernel_rfl) (by kernel_rfl) (fun a_39 f_47 => ?_)
        obtain ⟨x_2, hx_2, hF_11⟩ := bind_some' hF_10
        refine V_okv f_47 p_4 (slices_EqualFuncapi_Value_api_Value_api_Value_api_Value_2_ok n rec_schema_alike hrec_schema_alike _ (GL.mono ((hM_1.trans hM_2).trans hM_3) hG) A_1 cap_1 d0.fList (h_1.mono ((hM_1.trans hM_2).trans hM_3)) A_3 cap_3 d1.fList (h_3.mono ((hM_1.trans hM_2).trans hM_3)) x_2 hx_2) (by kernel_rfl) (fun _ => by kernel_rfl) (fun w_5 p_5 a_40 f_48 => ?_)
        refine V_run f_48 2 (by kernel_rfl) (fun a_41 f_49 => ?_)
        refine W_end rfl (T_n (wp_ret ?_))
        refine E_ret1 f_49 rfl (by kernel_rfl : Vc.look _ 4 = some (.bool x_2)) ?_
        obtain rfl := Option.some.inj hF_11
        exact ⟨_, rfl, M_3, ((hM_1.trans hM_2).trans hM_3), p_5, rfl⟩
      · have hF_12 := cnd_f h_9 hF_9
        have f_50 := Frm.set f_42 40 (v := .bool x_1) (v' := .bool false) (by kernel_rfl) (congrArg Value.bool h_9)
        refine V_run f_50 7 (by kernel_rfl) (fun a_42 f_51 => ?_)
        refine W_end rfl (T_n (wp_ret ?_))
        refine E_ret1 f_51 rfl (by kernel_rfl : Vc.look _ 4 = some (.bool false)) ?_
        obtain rfl := Option.some.inj hF_12
        exact ⟨_, rfl, M_3, ((hM_1.trans hM_2).trans hM_3), p_4, rfl⟩
    · have hF_13 := cnd_f h_8 hF_1
      have f_52 := Frm.set f_35 33 (v := .bool y_1) (v' := .bool false) (by kernel_rfl) (congrArg Value.bool h_8)
      refine V_run f_52 14 (by kernel_rfl) (fun a_43 f_53 => ?_)
      refine W_end rfl (T_n (wp_ret ?_))
      refine E_ret1 f_53 rfl (by kernel_rfl : Vc.look _ 4 = some (.bool false)) ?_
      obtain rfl := Option.some.inj hF_13
      exact ⟨_, rfl, M_3, ((hM_1.trans hM_2).trans hM_3), p_3, rfl⟩
def schema_alike_k (n : Nat) : Nat → T_api_Value → T_api_Value → Option Bool
  | 0 => fun _ _ => none
  | k + 1 => schema_alike_b n (schema_alike_k n k)
def schema_alike (n : Nat) (d0 : T_api_Value) (d1 : T_api_Value) : Option Bool := schema_alike_k n n d0 d1
theorem schema_alike_ok (n : Nat) (M : Mem) (hG : GL M) (c0 : List Value) (d0 : T_api_Value) (h0 : Rep M (emb_T_api_Value d0) c0) (c1 : List Value) (d1 : T_api_Value) (h1 : Rep M (emb_T_api_Value d1) c1) (r : Bool) (hF : schema_alike n d0 d1 = some r) : Ok Tryd.prog M 55 [.agg c0.toArray, .agg c1.toArray] (fun _ v => v = .bool r) := by
  have key : ∀ (k : Nat) (M : Mem) (hG : GL M) (c0 : List Value) (d0 : T_api_Value) (h0 : Rep M (emb_T_api_Value d0) c0) (c1 : List Value) (d1 : T_api_Value) (h1 : Rep M (emb_T_api_Value d1) c1) (r : Bool) (hF : schema_alike_k n k d0 d1 = some r), Ok Tryd.prog M 55 [.agg c0.toArray, .agg c1.toArray] (fun _ v => v = .bool r) := by
    intro k
    induction k with
    | zero => intro M hG c0 d0 h0 c1 d1 h1 r hF; simp [schema_alike_k] at hF
    | succ k ih => intro M hG c0 d0 h0 c1 d1 h1 r hF; exact schema_alike_b_ok n (schema_alike_k n k) ih M hG c0 d0 h0 c1 d1 h1 r hF
  exact key n M hG c0 d0 h0 c1 d1 h1 r hF

def schema_Same_1 (n : Nat) (d0 : T_api_Given) (d1 : T_api_Given) : Option Bool :=
  bif (decide (d0.fName = d1.fName)) then
    (bif (d0.fUnknown == d1.fUnknown) then
      ((tree_Equal n (⟨d0.fV.fKind, (d0.fV.fBool), d0.fV.fNum, d0.fV.fText, d0.fV.fList, d0.fV.fKeys⟩ : T_api_Value) (⟨d1.fV.fKind, (d1.fV.fBool), d1.fV.fNum, d1.fV.fText, d1.fV.fList, d1.fV.fKeys⟩ : T_api_Value)).bind fun x_1 =>
      bif x_1 then
        (some ((true)))
      else
        (schema_alike n (⟨d0.fV.fKind, (d0.fV.fBool), d0.fV.fNum, d0.fV.fText, d0.fV.fList, d0.fV.fKeys⟩ : T_api_Value) (⟨d1.fV.fKind, (d1.fV.fBool), d1.fV.fNum, d1.fV.fText, d1.fV.fList, d1.fV.fKeys⟩ : T_api_Value)).bind fun x_2 =>
        some ((x_2)))
    else
      some ((false)))
  else
    some ((false))
set_option maxHeartbeats 2000000 in
theorem schema_Same_1_ok (n : Nat) (M : Mem) (hG : GL M) (c0 : List Value) (d0 : T_api_Given) (h0 : Rep M (emb_T_api_Given d0) c0) (c1 : List Value) (d1 : T_api_Given) (h1 : Rep M (emb_T_api_Given d1) c1) (r : Bool) (hF : schema_Same_1 n d0 d1 = some r) : Ok Tryd.prog M 54 [.agg c0.toArray, .agg c1.toArray] (fun _ v => v = .bool r) := by
  unfold schema_Same_1 at hF
  intro M1 hM0 w0 H w p0
  replace hG := GL.mono hM0 hG
  replace h0 := Rep.mono hM0 _ _ h0
  replace h1 := Rep.mono hM0 _ _ h1
  obtain ⟨A_1, cap_1, A_2, cap_2, rfl, h_1, h_2⟩ := T_api_Given.opn h0
  obtain ⟨A_3, cap_3, A_4, cap_4, rfl, h_3, h_4⟩ := T_api_Given.opn h1
  refine R_enter 31 Tryd.func54 rfl rfl (by simp) (fun a0 f0 => ?_)
  refine R_seq (R_reg ?_)
  refine V_box (cs := #[S d0.fName, .bool d0.fUnknown, .int .i8 d0.fV.fKind, .bool d0.fV.fBool, .int .i64 d0.fV.fNum, S d0.fV.fText, .slice A_1 d0.fV.fList.length cap_1, .slice A_2 d0.fV.fKeys.length cap_2]) (T := 35) f0 p0 (by kernel_rfl) (fun _ => by kernel_rfl) (fun b_1 M_1 w_1 hM_1 hc_1 p_1 a_1 f_1 => ?_)
  have hc_2 := fz_box hc_1
  refine V_box (cs := #[S d1.fName, .bool d1.fUnknown, .int .i8 d1.fV.fKind, .bool d1.fV.fBool, .int .i64 d1.fV.fNum, S d1.fV.fText, .slice A_3 d1.fV.fList.length cap_3, .slice A_4 d1.fV.fKeys.length cap_4]) (T := 35) f_1 p_1 (by kernel_rfl) (fun _ => by kernel_rfl) (fun b_2 M_2 w_2 hM_2 hc_3 p_2 a_2 f_2 => ?_)
  have hc_4 := fz_box hc_3
  refine V_run f_2 1 (by kernel_rfl) (fun a_3 f_3 => ?_)
  refine W_end rfl (T_n (R_seq (R_reg ?_)))
  refine V_run f_3 1 (by kernel_rfl) (fun a_4 f_4 => ?_)
  refine V_ld f_4 p_2 (fzu hM_2 hc_2) 0 rfl (by kernel_rfl) (by kernel_rfl) (fun a_5 f_5 => ?_)
  refine V_run f_5 1 (by kernel_rfl) (fun a_6 f_6 => ?_)
  refine V_ld f_6 p_2 hc_4 0 rfl (by kernel_rfl) (by kernel_rfl) (fun a_7 f_7 => ?_)
  refine V_eq (v := .bool (decide (d0.fName = d1.fName))) f_7 (by kernel_rfl) (X_streq rfl (l := d0.fName) (m := d1.fName) (by kernel_rfl) (by kernel_rfl)) (fun a_8 f_8 => ?_)
  refine V_run f_8 1 (by kernel_rfl) (fun a_9 f_9 => ?_)
  rcases Bool.eq_false_or_eq_true (decide (d0.fName = d1.fName)) with h_5 | h_5
  · have k_1 : d0.fName = d1.fName := decide_eq_true_iff.1 h_5
    have hF_1 := cnd_t h_5 hF
    have f_10 := Frm.set f_9 10 (v := .bool (decide (d0.fName = d1.fName))) (v' := .bool true) (by kernel_rfl) (congrArg Value.bool h_5)
    refine V_run f_10 1 (by kernel_rfl) (fun a_10 f_11 => ?_)
    refine V_ld f_11 p_2 (fzu hM_2 hc_2) 1 rfl (by kernel_rfl) (by kernel_rfl) (fun a_11 f_12 => ?_)
    refine V_run f_12 1 (by kernel_rfl) (fun a_12 f_13 => ?_)
    refine V_ld f_13 p_2 hc_4 1 rfl (by kernel_rfl) (by kernel_rfl) (fun a_13 f_14 => ?_)
    refine V_run f_14 3 (by kernel_rfl) (fun a_14 f_15 => ?_)
    rcases Bool.eq_false_or_eq_true (d0.fUnknown == d1.fUnknown) with h_6 | h_6
    · have hF_2 := cnd_t h_6 hF_1
      have f_16 := Frm.set f_15 17 (v := .bool (d0.fUnknown == d1.fUnknown)) (v' := .bool true) (by kernel_rfl) (congrArg Value.bool h_6)
      refine V_run f_16 1 (by kernel_rfl) (fun a_15 f_17 => ?_)
      refine V_eq (v := .agg #[.int .i8 d0.fV.fKind, .bool d0.fV.fBool, .int .i64 d0.fV.fNum, S d0.fV.fText, .slice A_1 d0.fV.fList.length cap_1, .slice A_2 d0.fV.fKeys.length cap_2]) f_17 (by kernel_rfl) (X_loadN (cs := [.int .i8 d0.fV.fKind, .bool d0.fV.fBool, .int .i64 d0.fV.fNum, S d0.fV.fText, .slice A_1 d0.fV.fList.length cap_1, .slice A_2 d0.fV.fKeys.length cap_2]) rfl (ad := (⟨b_1, 0, none⟩ : Addr).add 2) (by kernel_rfl) (by kernel_rfl) (fz_part (base := (⟨b_1, 0, none⟩ : Addr)) (fun j v h => p_2.cell ((fzu hM_2 hc_2) j v h)) 2 rfl)) (fun a_16 f_18 => ?_)
      refine V_run f_18 1 (by kernel_rfl) (fun a_17 f_19 => ?_)
      refine V_eq (v := .agg #[.int .i8 d1.fV.fKind, .bool d1.fV.fBool, .int .i64 d1.fV.fNum, S d1.fV.fText, .slice A_3 d1.fV.fList.length cap_3, .slice A_4 d1.fV.fKeys.length cap_4]) f_19 (by kernel_rfl) (X_loadN (cs := [.int .i8 d1.fV.fKind, .bool d1.fV.fBool, .int .i64 d1.fV.fNum, S d1.fV.fText, .slice A_3 d1.fV.fList.length cap_3, .slice A_4 d1.fV.fKeys.length cap_4]) rfl (ad := (⟨b_2, 0, none⟩ : Addr).add 2) (by kernel_rfl) (by kernel_rfl) (fz_part (base := (⟨b_2, 0, none⟩ : Addr)) (fun j v h => p_2.cell (hc_4 j v h)) 2 rfl)) (fun a_18 f_20 => ?_)
      obtain ⟨x_1, hx_1, hF_3⟩ := bind_some' hF_2
      refine V_okv f_20 p_2 (tree_Equal_ok n _ (GL.mono (hM_1.trans hM_2) hG) _ (⟨d0.fV.fKind, (d0.fV.fBool), d0.fV.fNum, d0.fV.fText, d0.fV.fList, d0.fV.fKeys⟩ : T_api_Value) (T_api_Value.shut (h_1.mono (hM_1.trans hM_2)) (h_2.mono (hM_1.trans hM_2))) _ (⟨d1.fV.fKind, (d1.fV.fBool), d1.fV.fNum, d1.fV.fText, d1.fV.fList, d1.fV.fKeys⟩ : T_api_Value) (T_api_Value.shut (h_3.mono (hM_1.trans hM_2)) (h_4.mono (hM_1.trans hM_2))) x_1 hx_1) (by kernel_rfl) (fun _ => by kernel_rfl) (fun w_3 p_3 a_19 f_21 => ?_)
      refine V_run f_21 1 (by kernel_rfl) (fun a_20 f_22 => ?_)
      rcases Bool.eq_false_or_eq_true (x_1) with h_7 | h_7
      · have hF_4 := cnd_t h_7 hF_3
        have f_23 := Frm.set f_22 23 (v := .bool x_1) (v' := .bool true) (by kernel_rfl) (congrArg Value.bool h_7)
        refine V_run f_23 8 (by kernel_rfl) (fun a_21 f_24 => ?_)
        refine W_end rfl (T_n (wp_ret ?_))
        refine E_ret1 f_24 rfl (by kernel_rfl : Vc.look _ 4 = some (.bool true)) ?_
        obtain rfl := Option.some.inj hF_4
        exact ⟨_, rfl, M_2, (hM_1.trans hM_2), p_3, rfl⟩
      · have hF_5 := cnd_f h_7 hF_3
        have f_25 := Frm.set f_22 23 (v := .bool x_1) (v' := .bool false) (by kernel_rfl) (congrArg Value.bool h_7)
        refine V_run f_25 1 (by kernel_rfl) (fun a_22 f_26 => ?_)
        refine V_eq (v := .agg #[.int .i8 d0.fV.fKind, .bool d0.fV.fBool, .int .i64 d0.fV.fNum, S d0.fV.fText, .slice A_1 d0.fV.fList.length cap_1, .slice A_2 d0.fV.fKeys.length cap_2]) f_26 (by kernel_rfl) (X_loadN (cs := [.int .i8 d0.fV.fKind, .bool d0.fV.fBool, .int .i64 d0.fV.fNum, S d0.fV.fText, .slice A_1 d0.fV.fList.length cap_1, .slice A_2 d0.fV.fKeys.length cap_2]) rfl (ad := (⟨b_1, 0, none⟩ : Addr).add 2) (by kernel_rfl) (by kernel_rfl) (fz_part (base := (⟨b_1, 0, none⟩ : Addr)) (fun j v h => p_3.cell ((fzu hM_2 hc_2) j v h)) 2 rfl)) (fun a_23 f_27 => ?_)
        refine V_run f_27 1 (by kernel_rfl) (fun a_24 f_28 => ?_)
        refine V_eq (v := .agg #[.int .i8 d1.fV.fKind, .bool d1.fV.fBool, .int .i64 d1.fV.fNum, S d1.fV.fText, .slice A_3 d1.fV.fList.length cap_3, .slice A_4 d1.fV.fKeys.length cap_4]) f_28 (by kernel_rfl) (X_loadN (cs := [.int .i8 d1.fV.fKind, .bool d1.fV.fBool, .int .i64 d1.fV.fNum, S d1.fV.fText, .slice A_3 d1.fV.fList.length cap_3, .slice A_4 d1.fV.fKeys.length cap_4]) rfl (ad := (⟨b_2, 0, none⟩ : Addr).add 2) (by kernel_rfl) (by kernel_rfl) (fz_part (base := (⟨b_2, 0, none⟩ : Addr)) (fun j v h => p_3.cell (hc_4 j v h)) 2 rfl)) (fun a_25 f_29 => ?_)
        obtain ⟨x_2, hx_2, hF_6⟩ := bind_some' hF_5
        refine V_okv f_29 p_3 (schema_alike_ok n _ (GL.mono (hM_1.trans hM_2) hG) _ (⟨d0.fV.fKind, (d0.fV.fBool), d0.fV.fNum, d0.fV.fText, d0.fV.fList, d0.fV.fKeys⟩ : T_api_Value) (T_api_Value.shut (h_1.mono (hM_1.trans hM_2)) (h_2.mono (hM_1.trans hM_2))) _ (⟨d1.fV.fKind, (d1.fV.fBool), d1.fV.fNum, d1.fV.fText, d1.fV.fList, d1.fV.fKeys⟩ : T_api_Value) (T_api_Value.shut (h_3.mono (hM_1.trans hM_2)) (h_4.mono (hM_1.trans hM_2))) x_2 hx_2) (by kernel_rfl) (fun _ => by kernel_rfl) (fun w_4 p_4 a_26 f_30 => ?_)
        refine V_run f_30 3 (by kernel_rfl) (fun a_27 f_31 => ?_)
        refine W_end rfl (T_n (wp_ret ?_))
        refine E_ret1 f_31 rfl (by kernel_rfl : Vc.look _ 4 = some (.bool x_2)) ?_
        obtain rfl := Option.some.inj hF_6
        exact ⟨_, rfl, M_2, (hM_1.trans hM_2), p_4, rfl⟩
    · have hF_7 := cnd_f h_6 hF_1
      have f_32 := Frm.set f_15 17 (v := .bool (d0.fUnknown == d1.fUnknown)) (v' := .bool false) (by kernel_rfl) (congrArg Value.bool h_6)
      refine V_run f_32 14 (by kernel_rfl) (fun a_28 f_33 => ?_)
      refine W_end rfl (T_n (wp_ret ?_))
      refine E_ret1 f_33 rfl (by kernel_rfl : Vc.look _ 4 = some (.bool false)) ?_
      obtain rfl := Option.some.inj hF_7
      exact ⟨_, rfl, M_2, (hM_1.trans hM_2), p_2, rfl⟩
  · have k_6 : ¬ (d0.fName = d1.fName) := iff_f decide_eq_true_iff h_5
    have hF_8 := cnd_f h_5 hF
    have f_34 := Frm.set f_9 10 (v := .bool (decide (d0.fName = d1.fName))) (v' := .bool false) (by kernel_rfl) (congrArg Value.bool h_5)
    refine V_run f_34 21 (by kernel_rfl) (fun a_29 f_35 => ?_)
    refine W_end rfl (T_n (wp_ret ?_))
    refine E_ret1 f_35 rfl (by kernel_rfl : Vc.look _ 4 = some (.bool false)) ?_
    obtain rfl := Option.some.inj hF_8
    exact ⟨_, rfl, M_2, (hM_1.trans hM_2), p_2, rfl⟩

def slices_EqualFuncapi_Given_api_Given_api_Given_api_Given_s1 (n : Nat) (d0 : List T_api_Given) (d1 : List T_api_Given) (s_1 : Int) : Option (Lp Int (Sum Unit Unit)) :=
    bif (decide (s_1 < ((d0.length : Nat) : Int))) then
      ((getI d0 s_1).bind fun x_1 =>
      (getI d1 s_1).bind fun x_2 =>
      (schema_Same_1 n x_1 x_2).bind fun x_3 =>
      bif !x_3 then
        (some (.br (.inl ())))
      else
        need (inR .i64 (s_1 + 1)) <|
        some (.nx (s_1 + 1)))
    else
      some (.br (.inr ()))
def slices_EqualFuncapi_Given_api_Given_api_Given_api_Given (n : Nat) (d0 : List T_api_Given) (d1 : List T_api_Given) : Option Bool :=
  bif (!(decide (((d0.length : Nat) : Int) = ((d1.length : Nat) : Int)))) then
    (some ((false)))
  else
    (loopF (slices_EqualFuncapi_Given_api_Given_api_Given_api_Given_s1 n d0 d1) n (0 : Int)).bind fun b_1 =>
    (match b_1 with 
    | .inl y_1 => some ((false)) 
    | .inr y_2 => some ((true)))
set_option maxHeartbeats 2000000 in
theorem slices_EqualFuncapi_Given_api_Given_api_Given_api_Given_ok (n : Nat) (M : Mem) (hG : GL M) (A0 : Option Addr) (cap0 : Nat) (d0 : List T_api_Given) (h0 : Sli M 8 emb_T_api_Given A0 cap0 d0) (A1 : Option Addr) (cap1 : Nat) (d1 : List T_api_Given) (h1 : Sli M 8 emb_T_api_Given A1 cap1 d1) (r : Bool) (hF : slices_EqualFuncapi_Given_api_Given_api_Given_api_Given n d0 d1 = some r) : Ok Tryd.prog M 53 [.slice A0 d0.length cap0, .slice A1 d1.length cap1, .func (.func 54) #[] #[]] (fun _ v => v = .bool r) := by
  unfold slices_EqualFuncapi_Given_api_Given_api_Given_api_Given at hF
  intro M1 hM0 w0 H w p0
  replace hG := GL.mono hM0 hG
  replace h0 := h0.mono hM0
  replace h1 := h1.mono hM0
  refine R_enter 32 Tryd.func53 rfl rfl (by simp) (fun a0 f0 => ?_)
  refine R_seq (R_reg ?_)
  refine V_run f0 1 (by kernel_rfl) (fun a_1 f_1 => ?_)
  refine W_end rfl (T_n (R_seq (R_seq (R_reg ?_))))
  refine V_run f_1 5 (by kernel_rfl) (fun a_2 f_2 => ?_)
  refine W_end rfl (T_n ?_)
  refine R_cond f_2 (b := !(decide (((d0.length : Nat) : Int) = ((d1.length : Nat) : Int)))) (by kernel_rfl) (by kernel_rfl) (fun h_1 => ?_) (fun h_1 => ?_)
  · have k_1 : ¬ (((d0.length : Nat) : Int) = ((d1.length : Nat) : Int)) := (not_iff decide_eq_true_iff).1 h_1
    have hF_1 := cnd_t h_1 hF
    refine R_seq (R_reg ?_)
    refine V_run f_2 1 (by kernel_rfl) (fun a_3 f_3 => ?_)
    refine W_end rfl (T_n (wp_ret (T_r ?_)))
    refine E_ret1 f_3 rfl (by kernel_rfl : Vc.look _ 6 = some (.bool false)) ?_
    obtain rfl := Option.some.inj hF_1
    exact ⟨_, rfl, M1, (Mem.le_refl _), p0, rfl⟩
  · have k_2 : ¬ (¬ (((d0.length : Nat) : Int) = ((d1.length : Nat) : Int))) := iff_f (not_iff decide_eq_true_iff) h_1
    have hF_2 := cnd_f h_1 hF
    refine wp_skip (T_n (R_seq (R_seq (R_reg ?_))))
    refine V_run f_2 3 (by kernel_rfl) (fun a_4 f_4 => ?_)
    refine W_end rfl (T_n (wp_block ?_))
    obtain ⟨b_1, hL_1, hF_3⟩ := bind_some' hF_2
    refine wp_mono (Q := fun e a w => (e = .ret ∧ (∃ y_1 : Unit, b_1 = .inl y_1 ∧ ∃ M_2 : Mem, M1.le M_2 ∧ Frm 32 [(6, .bool false)] a ∧ Hp w0 M_2 (H) w)) ∨ (e = .exit 0 ∧ (∃ y_2 : Unit, b_1 = .inr y_2 ∧ ∃ M_3 : Mem, M1.le M_3 ∧ Frm 32 [] a ∧ Hp w0 M_3 (H) w))) (R_loop (n := 32) (w0 := w0) (M := M1) (fun (x : Nat × Int) => match x with | (m_1, s_1) => [(1, .slice A1 d1.length cap1), (2, .func (.func 54) #[] #[]), (15, .slice A0 d0.length cap0), (16, .int .i64 ((d0.length : Nat) : Int)), (17, .int .i64 s_1)]) (fun (x : Nat × Int) => match x with | (m_1, s_1) => (H)) (fun (x : Nat × Int) (MM : Mem) => match x with | (m_1, s_1) => loopF (slices_EqualFuncapi_Given_api_Given_api_Given_api_Given_s1 n d0 d1) m_1 s_1 = some b_1) (fun (x : Nat × Int) => match x with | (m_1, s_1) => m_1) (n, (0 : Int)) (f_4.keep (ks := [1, 2, 15, 16, 17]) (by kernel_rfl)) p0 hL_1 ?_) ?_
    · rintro ⟨m_1, s_1⟩ M_1 a_5 w_1 hM_1 I_1 f_5 p_1
      have I_1L := I_1
      obtain ⟨m_2, r_1, rfl, hs_1, hn_1⟩ := loop_step I_1L
      unfold slices_EqualFuncapi_Given_api_Given_api_Given_api_Given_s1 at hs_1
      refine R_seq (R_reg ?_)
      refine V_run f_5 1 (by kernel_rfl) (fun a_6 f_6 => ?_)
      refine W_end rfl (T_n (R_seq ?_))
      refine R_cond f_6 (b := decide (s_1 < ((d0.length : Nat) : Int))) (by kernel_rfl) (by kernel_rfl) (fun h_2 => ?_) (fun h_2 => ?_)
      · have k_3 : s_1 < ((d0.length : Nat) : Int) := decide_eq_true_iff.1 h_2
        have hF_4 := cnd_t h_2 hs_1
        refine wp_skip (T_n (R_seq (wp_block (R_seq (R_reg ?_)))))
        refine V_run f_6 1 (by kernel_rfl) (fun a_7 f_7 => ?_)
        obtain ⟨x_1, hx_1, hF_5⟩ := bind_some' hF_4
        obtain ⟨ad_1, c_1, e_1, hl_1, hr_1, hc_1⟩ := Sli.at_ (h0.mono hM_1) hx_1
        clear hl_1
        obtain ⟨A_1, cap_1, A_2, cap_2, rfl, h_3, h_4⟩ := T_api_Given.opn hr_1
        refine V_eq (v := .pointer (some (ad_1.add (s_1.toNat * 8)))) f_7 (by kernel_rfl) (X_indexAddrA e_1 rfl (len := d0.length) (cap := cap0) (k := .i64) (i := s_1) (by kernel_rfl) (by kernel_rfl) (e := 35) (by kernel_rfl) (sz := 8) (by kernel_rfl) (getI_nn hx_1) (getI_lt hx_1)) (fun a_8 f_8 => ?_)
        refine V_eq (v := .agg #[S x_1.fName, .bool x_1.fUnknown, .int .i8 x_1.fV.fKind, .bool x_1.fV.fBool, .int .i64 x_1.fV.fNum, S x_1.fV.fText, .slice A_1 x_1.fV.fList.length cap_1, .slice A_2 x_1.fV.fKeys.length cap_2]) f_8 (by kernel_rfl) (X_loadN (cs := [S x_1.fName, .bool x_1.fUnknown, .int .i8 x_1.fV.fKind, .bool x_1.fV.fBool, .int .i64 x_1.fV.fNum, S x_1.fV.fText, .slice A_1 x_1.fV.fList.length cap_1, .slice A_2 x_1.fV.fKeys.length cap_2]) rfl (ad := ad_1.add (s_1.toNat * 8)) (by kernel_rfl) (by kernel_rfl) (fun j v h => p_1.cell (hc_1 j v h))) (fun a_9 f_9 => ?_)
        refine V_alloc f_9 p_1 (.cells #[S [], .bool false, .int .i8 0, .bool false, .int .i64 0, S [], .slice none 0 0, .slice none 0 0] 35 (0, 0)) (by kernel_rfl) (fun _ => by kernel_rfl) (fun b_2 w_2 p_2 a_10 f_10 => ?_)
        refine V_run f_10 1 (by kernel_rfl) (fun a_11 f_11 => ?_)
        refine W_storeN (vs := [S x_1.fName, .bool x_1.fUnknown, .int .i8 x_1.fV.fKind, .bool x_1.fV.fBool, .int .i64 x_1.fV.fNum, S x_1.fV.fText, .slice A_1 x_1.fV.fList.length cap_1, .slice A_2 x_1.fV.fKeys.length cap_2]) (j := 0) f_11 p_2 (by kernel_rfl) (by kernel_rfl) rfl rfl (by kernel_rfl) (by kernel_rfl) (by simp [Value.oneCell', S]) (by kernel_rfl) (by simp) (by decide) (cs' := #[S x_1.fName, .bool x_1.fUnknown, .int .i8 x_1.fV.fKind, .bool x_1.fV.fBool, .int .i64 x_1.fV.fNum, S x_1.fV.fText, .slice A_1 x_1.fV.fList.length cap_1, .slice A_2 x_1.fV.fKeys.length cap_2]) rfl (fun w_3 p_3 a_12 f_12 => ?_)
        refine W_end rfl (T_n (R_seq (R_reg ?_)))
        refine V_run f_12 2 (by kernel_rfl) (fun a_13 f_13 => ?_)
        obtain ⟨x_2, hx_2, hF_6⟩ := bind_some' hF_5
        obtain ⟨ad_2, c_2, e_2, hl_2, hr_2, hc_2⟩ := Sli.at_ (h1.mono hM_1) hx_2
        clear hl_2
        obtain ⟨A_3, cap_3, A_4, cap_4, rfl, h_5, h_6⟩ := T_api_Given.opn hr_2
        refine V_eq (v := .pointer (some (ad_2.add (s_1.toNat * 8)))) f_13 (by kernel_rfl) (X_indexAddrA e_2 rfl (len := d1.length) (cap := cap1) (k := .i64) (i := s_1) (by kernel_rfl) (by kernel_rfl) (e := 35) (by kernel_rfl) (sz := 8) (by kernel_rfl) (getI_nn hx_2) (getI_lt hx_2)) (fun a_14 f_14 => ?_)
        refine V_eq (v := .agg #[S x_2.fName, .bool x_2.fUnknown, .int .i8 x_2.fV.fKind, .bool x_2.fV.fBool, .int .i64 x_2.fV.fNum, S x_2.fV.fText, .slice A_3 x_2.fV.fList.length cap_3, .slice A_4 x_2.fV.fKeys.length cap_4]) f_14 (by kernel_rfl) (X_loadN (cs := [S x_2.fName, .bool x_2.fUnknown, .int .i8 x_2.fV.fKind, .bool x_2.fV.fBool, .int .i64 x_2.fV.fNum, S x_2.fV.fText, .slice A_3 x_2.fV.fList.length cap_3, .slice A_4 x_2.fV.fKeys.length cap_4]) rfl (ad := ad_2.add (s_1.toNat * 8)) (by kernel_rfl) (by kernel_rfl) (fun j v h => p_3.cell (hc_2 j v h))) (fun a_15 f_15 => ?_)
        refine V_alloc f_15 p_3 (.cells #[S [], .bool false, .int .i8 0, .bool false, .int .i64 0, S [], .slice none 0 0, .slice none 0 0] 35 (0, 0)) (by kernel_rfl) (fun _ => by kernel_rfl) (fun b_3 w_4 p_4 a_16 f_16 => ?_)
        refine W_storeN (vs := [S x_2.fName, .bool x_2.fUnknown, .int .i8 x_2.fV.fKind, .bool x_2.fV.fBool, .int .i64 x_2.fV.fNum, S x_2.fV.fText, .slice A_3 x_2.fV.fList.length cap_3, .slice A_4 x_2.fV.fKeys.length cap_4]) (j := 0) f_16 p_4 (by kernel_rfl) (by kernel_rfl) rfl rfl (by kernel_rfl) (by kernel_rfl) (by simp [Value.oneCell', S]) (by kernel_rfl) (by simp) (by decide) (cs' := #[S x_2.fName, .bool x_2.fUnknown, .int .i8 x_2.fV.fKind, .bool x_2.fV.fBool, .int .i64 x_2.fV.fNum, S x_2.fV.fText, .slice A_3 x_2.fV.fList.length cap_3, .slice A_4 x_2.fV.fKeys.length cap_4]) rfl (fun w_5 p_5 a_17 f_17 => ?_)
        refine W_end rfl (T_n (R_seq (R_reg ?_)))
        refine V_run f_17 1 (by kernel_rfl) (fun a_18 f_18 => ?_)
        refine V_eq (v := .agg #[S x_1.fName, .bool x_1.fUnknown, .int .i8 x_1.fV.fKind, .bool x_1.fV.fBool, .int .i64 x_1.fV.fNum, S x_1.fV.fText, .slice A_1 x_1.fV.fList.length cap_1, .slice A_2 x_1.fV.fKeys.length cap_2]) f_18 (by kernel_rfl) (X_loadN (cs := [S x_1.fName, .bool x_1.fUnknown, .int .i8 x_1.fV.fKind, .bool x_1.fV.fBool, .int .i64 x_1.fV.fNum, S x_1.fV.fText, .slice A_1 x_1.fV.fList.length cap_1, .slice A_2 x_1.fV.fKeys.length cap_2]) rfl (ad := ⟨b_2, 0, none⟩) (by kernel_rfl) (by kernel_rfl) (own_cells (p_5.ownCell 1 rfl) 0 rfl)) (fun a_19 f_19 => ?_)
        refine V_eq (v := .agg #[S x_2.fName, .bool x_2.fUnknown, .int .i8 x_2.fV.fKind, .bool x_2.fV.fBool, .int .i64 x_2.fV.fNum, S x_2.fV.fText, .slice A_3 x_2.fV.fList.length cap_3, .slice A_4 x_2.fV.fKeys.length cap_4]) f_19 (by kernel_rfl) (X_loadN (cs := [S x_2.fName, .bool x_2.fUnknown, .int .i8 x_2.fV.fKind, .bool x_2.fV.fBool, .int .i64 x_2.fV.fNum, S x_2.fV.fText, .slice A_3 x_2.fV.fList.length cap_3, .slice A_4 x_2.fV.fKeys.length cap_4]) rfl (ad := ⟨b_3, 0, none⟩) (by kernel_rfl) (by kernel_rfl) (own_cells (p_5.ownCell 0 rfl) 0 rfl)) (fun a_20 f_20 => ?_)
        obtain ⟨x_3, hx_3, hF_7⟩ := bind_some' hF_6
        refine V_okv f_20 p_5 (schema_Same_1_ok n _ (GL.mono hM_1 hG) _ x_1 (T_api_Given.shutx (x := x_1) h_3 h_4) _ x_2 (T_api_Given.shutx (x := x_2) h_5 h_6) x_3 hx_3) (by kernel_rfl) (fun _ => by kernel_rfl) (fun w_6 p_6 a_21 f_21 => ?_)
        refine V_run f_21 1 (by kernel_rfl) (fun a_22 f_22 => ?_)
        refine W_end rfl (T_n ?_)
        refine R_cond f_22 (b := !x_3) (by kernel_rfl) (by kernel_rfl) (fun h_7 => ?_) (fun h_7 => ?_)
        · have k_4 : (x_3) = false := by simpa using h_7
          have hF_8 := cnd_t h_7 hF_7
          refine R_seq (R_reg ?_)
          refine V_run f_22 1 (by kernel_rfl) (fun a_23 f_23 => ?_)
          refine W_end rfl (T_n (wp_ret (B_r (T_r (T_r ?_)))))
          obtain rfl := Option.some.inj hF_8
          exact .inl ⟨rfl, (), (Option.some.inj hn_1).symm, M_1, hM_1, f_23.keep (ks := [6]) (by kernel_rfl), (p_6.dropN 2)⟩
        · have k_5 : (x_3) = true := by simpa using h_7
          have hF_9 := cnd_f h_7 hF_7
          refine wp_skip (B_n (T_n (R_reg ?_)))
          obtain ⟨g_1, hF_10⟩ := need_some hF_9
          refine V_run f_22 1 (by kernel_rfl) (fun a_24 f_24 => ?_)
          have f_25 := Frm.set f_24 31 (v := .int .i64 (IntKind.wrap .i64 (s_1 + 1))) (v' := .int .i64 (s_1 + 1)) (by kernel_rfl) (congrArg (Value.int .i64) (inR_wrap g_1))
          refine V_run f_25 1 (by kernel_rfl) (fun a_25 f_26 => ?_)
          refine W_end rfl (T_n ?_)
          obtain rfl := Option.some.inj hF_10
          exact ⟨⟨m_2, s_1 + 1⟩, Nat.lt_succ_self _, M_1, hM_1, hn_1, f_26.keep (ks := [1, 2, 15, 16, 17]) (by kernel_rfl), (p_6.dropN 2)⟩
      · have k_6 : ¬ (s_1 < ((d0.length : Nat) : Int)) := iff_f decide_eq_true_iff h_2
        have hF_11 := cnd_f h_2 hs_1
        refine wp_exit (T_x (T_x ?_))
        obtain rfl := Option.some.inj hF_11
        exact .inr ⟨rfl, (), (Option.some.inj hn_1).symm, M_1, hM_1, f_6.keep (ks := []) (by kernel_rfl), p_1⟩
    · rintro _ a_28 w_9 (⟨rfl, y_1, rfl, M_2, hM_2, f_27, p_7⟩ | ⟨rfl, y_2, rfl, M_3, hM_3, f_28, p_8⟩)
      · refine B_r (T_r ?_)
        refine E_ret1 f_27 rfl (by kernel_rfl : Vc.look _ 6 = some (.bool false)) ?_
        obtain rfl := Option.some.inj hF_3
        exact ⟨_, rfl, M_2, hM_2, p_7, rfl⟩
      · refine B_x (T_n (R_seq (R_reg ?_)))
        refine V_run f_28 1 (by kernel_rfl) (fun a_29 f_29 => ?_)
        refine W_end rfl (T_n (wp_ret ?_))
        refine E_ret1 f_29 rfl (by kernel_rfl : Vc.look _ 6 = some (.bool true)) ?_
        obtain rfl := Option.some.inj hF_3
        exact ⟨_, rfl, M_3, hM_3, p_8, rfl⟩

def schema_Same (n : Nat) (d0 : List T_api_Given) (d1 : List T_api_Given) : Option Bool :=
  (slices_EqualFuncapi_Given_api_Given_api_Given_api_Given n d0 d1).bind fun x_1 =>
  some ((x_1))
theorem schema_Same_ok (n : Nat) (M : Mem) (hG : GL M) (A0 : Option Addr) (cap0 : Nat) (d0 : List T_api_Given) (h0 : Sli M 8 emb_T_api_Given A0 cap0 d0) (A1 : Option Addr) (cap1 : Nat) (d1 : List T_api_Given) (h1 : Sli M 8 emb_T_api_Given A1 cap1 d1) (r : Bool) (hF : schema_Same n d0 d1 = some r) : Ok Tryd.prog M 24 [.slice A0 d0.length cap0, .slice A1 d1.length cap1] (fun _ v => v = .bool r) := by
  unfold schema_Same at hF
  intro M1 hM0 w0 H w p0
  replace hG := GL.mono hM0 hG
  replace h0 := h0.mono hM0
  replace h1 := h1.mono hM0
  refine R_enter 8 Tryd.func24 rfl rfl (by simp) (fun a0 f0 => ?_)
  refine R_seq (R_reg ?_)
  refine V_run f0 1 (by kernel_rfl) (fun a_1 f_1 => ?_)
  refine W_end rfl (T_n (R_seq (R_reg ?_)))
  refine V_run f_1 2 (by kernel_rfl) (fun a_2 f_2 => ?_)
  obtain ⟨x_1, hx_1, hF_1⟩ := bind_some' hF
  refine V_okv f_2 p0 (slices_EqualFuncapi_Given_api_Given_api_Given_api_Given_ok n _ hG A0 cap0 d0 h0 A1 cap1 d1 h1 x_1 hx_1) (by kernel_rfl) (fun _ => by kernel_rfl) (fun w_1 p_1 a_3 f_3 => ?_)
  refine V_run f_3 1 (by kernel_rfl) (fun a_4 f_4 => ?_)
  refine W_end rfl (T_n (wp_ret ?_))
  refine E_ret1 f_4 rfl (by kernel_rfl : Vc.look _ 4 = some (.bool x_1)) ?_
  obtain rfl := Option.some.inj hF_1
  exact ⟨_, rfl, M1, (Mem.le_refl _), p_1, rfl⟩
end Go.Proofs.YtalifkcchfkgmaaDoor
