/-
  Printed by a program: of each function its shallow reading, and the proof that the function gives what the reading gives. No condition.
-/
import Derived.Test.YtekkifakjkhjiaaDoorQ1
import Derived.Test.YtekkifakjkhjiaaDoorTy
import Derived.Test.YtekkifakjkhjiaaDoorRows
import Derived.Test.YtekkifakjkhjiaaDoorVkF
set_option linter.unusedVariables false
set_option linter.unusedSimpArgs false
namespace Go.Proofs.YtekkifakjkhjiaaDoor
open Go Go.Vc Go.RowKit
def ref03_Walk_s1 (n : Nat) (rec_ref03_Walk : T_api_Value → Option (List T_api_Value)) (d0 : T_api_Value) (s_1 : List T_api_Value × Int) : Option (Lp (List T_api_Value × Int) (List T_api_Value)) :=
    bif (decide (s_1.2 < ((d0.fList.length : Nat) : Int))) then
      ((getI d0.fList s_1.2).bind fun x_1 =>
      (rec_ref03_Walk x_1).bind fun x_2 =>
      need ((s_1.1.length + x_2.length) * 80 ≤ 140737488355328) <|
      need (inR .i64 (s_1.2 + 1)) <|
      some (.nx (s_1.1 ++ x_2, s_1.2 + 1)))
    else
      some (.br s_1.1)
def ref03_Walk_b (n : Nat) (rec_ref03_Walk : T_api_Value → Option (List T_api_Value)) (d0 : T_api_Value) : Option (List T_api_Value) :=
  (loopF (ref03_Walk_s1 n rec_ref03_Walk d0) n ([(⟨d0.fKind, (d0.fBool), d0.fNum, d0.fText, d0.fList, d0.fKeys⟩ : T_api_Value)], (0 : Int))).bind fun y_1 =>
  some (y_1)
theorem ref03_Walk_b_ok (n : Nat) (rec_ref03_Walk : T_api_Value → Option (List T_api_Value)) (hrec_ref03_Walk : ∀ (M : Mem) (c0 : List Value) (d0 : T_api_Value) (h0 : Rep M (emb_T_api_Value d0) c0) (r : List T_api_Value) (hF : rec_ref03_Walk d0 = some r), Ok Tryd.prog M 15 [.agg c0.toArray] (fun M' v => ∃ (A0 : Option Addr) (k0 : Nat), v = .slice A0 r.length k0 ∧ Sli M' 6 emb_T_api_Value A0 k0 r)) (M : Mem) (c0 : List Value) (d0 : T_api_Value) (h0 : Rep M (emb_T_api_Value d0) c0) (r : List T_api_Value) (hF : ref03_Walk_b n rec_ref03_Walk d0 = some r) : Ok Tryd.prog M 15 [.agg c0.toArray] (fun M' v => ∃ (A0 : Option Addr) (k0 : Nat), v = .slice A0 r.length k0 ∧ Sli M' 6 emb_T_api_Value A0 k0 r) := by
  unfold ref03_Walk_b at hF
  intro M1 hM0 w0 H w p0
  replace h0 := Rep.mono hM0 _ _ h0
  obtain ⟨A_1, cap_1, A_2, cap_2, rfl, h_1, h_2⟩ := T_api_Value.opn h0
  refine R_enter 23 Tryd.func15 rfl rfl (by simp) (fun a0 f0 => ?_)
  refine R_seq (R_reg ?_)
  refine V_box (cs := #[.int .i8 d0.fKind, .bool d0.fBool, .int .i64 d0.fNum, S d0.fText, .slice A_1 d0.fList.length cap_1, .slice A_2 d0.fKeys.length cap_2]) (T := 26) f0 p0 (by kernel_rfl) (fun _ => by kernel_rfl) (fun b_1 M_1 w_1 hM_1 hc_1 p_1 a_1 f_1 => ?_)
  have hc_2 := fz_box hc_1
  refine V_run f_1 1 (by kernel_rfl) (fun a_2 f_2 => ?_)
  refine W_end rfl (T_n (R_seq (R_reg ?_)))
  refine V_eq (v := .agg #[.int .i8 d0.fKind, .bool d0.fBool, .int .i64 d0.fNum, S d0.fText, .slice A_1 d0.fList.length cap_1, .slice A_2 d0.fKeys.length cap_2]) f_2 (by kernel_rfl) (X_loadN (cs := [.int .i8 d0.fKind, .bool d0.fBool, .int .i64 d0.fNum, S d0.fText, .slice A_1 d0.fList.length cap_1, .slice A_2 d0.fKeys.length cap_2]) rfl (ad := ⟨b_1, 0, none⟩) (by kernel_rfl) (by kernel_rfl) (fun j v h => p_1.cell (hc_2 j v h))) (fun a_3 f_3 => ?_)
  refine V_allocS (k := 1) (c := 1) f_3 p_1 (.cells #[.int .i8 d0.fKind, .bool d0.fBool, .int .i64 d0.fNum, S d0.fText, .slice A_1 d0.fList.length cap_1, .slice A_2 d0.fKeys.length cap_2] 26 (0, 0)) (by kernel_rfl) (fun _ => by kernel_rfl) (fun b_2 w_2 p_2 a_4 f_4 => ?_)
  refine V_run f_4 1 (by kernel_rfl) (fun a_5 f_5 => ?_)
  refine W_end rfl (T_n (R_seq (R_seq (R_reg ?_))))
  refine V_run f_5 1 (by kernel_rfl) (fun a_6 f_6 => ?_)
  refine W_end rfl (T_n (wp_block ?_))
  have hr_1 : RepSeq M_1 ([(⟨d0.fKind, (d0.fBool), d0.fNum, d0.fText, d0.fList, d0.fKeys⟩ : T_api_Value)].map emb_T_api_Value) [.int .i8 d0.fKind, .bool d0.fBool, .int .i64 d0.fNum, S d0.fText, .slice A_1 d0.fList.length cap_1, .slice A_2 d0.fKeys.length cap_2] := ⟨_, _, rfl, T_api_Value.shut (h_1.mono hM_1) (h_2.mono hM_1), rfl⟩
  have p_3 : Hp w0 M_1 ((Ent.row 26 6 (.slice (some ⟨b_2, 0, none⟩) 1 1) [(⟨d0.fKind, (d0.fBool), d0.fNum, d0.fText, d0.fList, d0.fKeys⟩ : T_api_Value)].length [.int .i8 d0.fKind, .bool d0.fBool, .int .i64 d0.fNum, S d0.fText, .slice A_1 d0.fList.length cap_1, .slice A_2 d0.fKeys.length cap_2]) :: H) w_2 := p_2.objRow (n := 1) (cap := 1) (size := 6) (by decide) (by decide) rfl rfl rfl
  obtain ⟨b_3, hL_1, hF_1⟩ := bind_some' hF
  refine wp_mono (Q := fun e a w => (e = .exit 0 ∧ (∃ y_1 : List T_api_Value, b_3 = y_1 ∧ ∃ M_4 : Mem, M_1.le M_4 ∧ ∃ (A_8 : Option Addr), ∃ (cap_8 : Nat), ∃ (cs_3 : List Value), RepSeq M_4 (y_1.map emb_T_api_Value) cs_3 ∧ Frm 23 [(3, .slice A_8 y_1.length cap_8)] a ∧ Hp w0 M_4 ((Ent.row 26 6 (.slice A_8 y_1.length cap_8) y_1.length cs_3) :: H) w))) (R_loop (n := 23) (w0 := w0) (M := M_1) (fun (x : Nat × (List T_api_Value × Int) × (Option Addr) × Nat × (List Value)) => match x with | (m_1, s_1, A_3, cap_3, cs_1) => [(1, .pointer (some (⟨b_1, 0, none⟩))), (3, .slice A_3 s_1.1.length cap_3), (4, .int .i64 s_1.2)]) (fun (x : Nat × (List T_api_Value × Int) × (Option Addr) × Nat × (List Value)) => match x with | (m_1, s_1, A_3, cap_3, cs_1) => ((Ent.row 26 6 (.slice A_3 s_1.1.length cap_3) s_1.1.length cs_1) :: H)) (fun (x : Nat × (List T_api_Value × Int) × (Option Addr) × Nat × (List Value)) (MM : Mem) => match x with | (m_1, s_1, A_3, cap_3, cs_1) => loopF (ref03_Walk_s1 n rec_ref03_Walk d0) m_1 s_1 = some b_3 ∧ RepSeq MM (s_1.1.map emb_T_api_Value) cs_1) (fun (x : Nat × (List T_api_Value × Int) × (Option Addr) × Nat × (List Value)) => match x with | (m_1, s_1, A_3, cap_3, cs_1) => m_1) (n, ([(⟨d0.fKind, (d0.fBool), d0.fNum, d0.fText, d0.fList, d0.fKeys⟩ : T_api_Value)], (0 : Int)), some ⟨b_2, 0, none⟩, 1, [.int .i8 d0.fKind, .bool d0.fBool, .int .i64 d0.fNum, S d0.fText, .slice A_1 d0.fList.length cap_1, .slice A_2 d0.fKeys.length cap_2]) (f_6.keep (ks := [1, 3, 4]) (by kernel_rfl)) p_3 ⟨hL_1, hr_1⟩ ?_) ?_
  · rintro ⟨m_1, s_1, A_3, cap_3, cs_1⟩ M_2 a_7 w_3 hM_2 I_1 f_7 p_4
    obtain ⟨I_1L, hr_2⟩ := I_1
    obtain ⟨m_2, r_1, rfl, hs_1, hn_1⟩ := loop_step I_1L
    unfold ref03_Walk_s1 at hs_1
    refine R_seq (R_seq (R_reg ?_))
    refine V_run f_7 2 (by kernel_rfl) (fun a_8 f_8 => ?_)
    refine V_ld f_8 p_4 (fzu hM_2 hc_2) 4 rfl (by kernel_rfl) (by kernel_rfl) (fun a_9 f_9 => ?_)
    refine V_run f_9 2 (by kernel_rfl) (fun a_10 f_10 => ?_)
    refine W_end rfl (T_n ?_)
    refine R_cond f_10 (b := decide (s_1.2 < ((d0.fList.length : Nat) : Int))) (by kernel_rfl) (by kernel_rfl) (fun h_3 => ?_) (fun h_3 => ?_)
    · have k_1 : s_1.2 < ((d0.fList.length : Nat) : Int) := decide_eq_true_iff.1 h_3
      have hF_2 := cnd_t h_3 hs_1
      refine wp_skip (T_n (R_seq (wp_block (R_reg ?_))))
      refine V_run f_10 2 (by kernel_rfl) (fun a_11 f_11 => ?_)
      refine V_ld f_11 p_4 (fzu hM_2 hc_2) 4 rfl (by kernel_rfl) (by kernel_rfl) (fun a_12 f_12 => ?_)
      refine V_run f_12 1 (by kernel_rfl) (fun a_13 f_13 => ?_)
      obtain ⟨x_1, hx_1, hF_3⟩ := bind_some' hF_2
      obtain ⟨ad_1, c_1, e_1, hl_1, hr_3, hc_3⟩ := Sli.at_ (h_1.mono (hM_1.trans hM_2)) hx_1
      clear hl_1
      obtain ⟨A_4, cap_4, A_5, cap_5, rfl, h_4, h_5⟩ := T_api_Value.opn hr_3
      refine V_eq (v := .pointer (some (ad_1.add (s_1.2.toNat * 6)))) f_13 (by kernel_rfl) (X_indexAddrA e_1 rfl (len := d0.fList.length) (cap := cap_1) (k := .i64) (i := s_1.2) (by kernel_rfl) (by kernel_rfl) (e := 26) (by kernel_rfl) (sz := 6) (by kernel_rfl) (getI_nn hx_1) (getI_lt hx_1)) (fun a_14 f_14 => ?_)
      refine V_eq (v := .agg #[.int .i8 x_1.fKind, .bool x_1.fBool, .int .i64 x_1.fNum, S x_1.fText, .slice A_4 x_1.fList.length cap_4, .slice A_5 x_1.fKeys.length cap_5]) f_14 (by kernel_rfl) (X_loadN (cs := [.int .i8 x_1.fKind, .bool x_1.fBool, .int .i64 x_1.fNum, S x_1.fText, .slice A_4 x_1.fList.length cap_4, .slice A_5 x_1.fKeys.length cap_5]) rfl (ad := ad_1.add (s_1.2.toNat * 6)) (by kernel_rfl) (by kernel_rfl) (fun j v h => p_4.cell (hc_3 j v h))) (fun a_15 f_15 => ?_)
      obtain ⟨x_2, hx_2, hF_4⟩ := bind_some' hF_3
      refine V_ok f_15 p_4 (hrec_ref03_Walk _ _ x_1 (T_api_Value.shutx (x := x_1) h_4 h_5) x_2 hx_2) (by kernel_rfl) (fun _ => by kernel_rfl) (fun u_1 M_3 w_4 hM_3 p_5 q_1 a_16 f_16 => ?_)
      obtain ⟨A_6, cap_6, rfl, h_6⟩ := q_1
      obtain ⟨g_1, hF_5⟩ := need_some hF_4
      refine W_appendS (z := .agg #[.int .i8 0, .bool false, .int .i64 0, S [], .slice none 0 0, .slice none 0 0]) (f := emb_T_api_Value) (xs := s_1.1) (ys := x_2) (c := cap_6) f_16 p_5 (RepSeq.mono hM_3 _ _ hr_2) h_6 (by kernel_rfl) (by kernel_rfl) rfl rfl rfl (by kernel_rfl) (by kernel_rfl) (by kernel_rfl) (by kernel_rfl) g_1 (by omega) (fun A_7 cap_7 cs_2 w_5 p_6 hr_4 a_17 f_17 => ?_)
      refine V_run f_17 1 (by kernel_rfl) (fun a_18 f_18 => ?_)
      refine W_end rfl (B_n (T_n (R_reg ?_)))
      refine V_run f_18 1 (by kernel_rfl) (fun a_19 f_19 => ?_)
      obtain ⟨g_2, hF_6⟩ := need_some hF_5
      refine V_run f_19 1 (by kernel_rfl) (fun a_20 f_20 => ?_)
      have f_21 := Frm.set f_20 13 (v := .int .i64 (IntKind.wrap .i64 (s_1.2 + 1))) (v' := .int .i64 (s_1.2 + 1)) (by kernel_rfl) (congrArg (Value.int .i64) (inR_wrap g_2))
      refine V_run f_21 1 (by kernel_rfl) (fun a_21 f_22 => ?_)
      refine W_end rfl (T_n ?_)
      obtain rfl := Option.some.inj hF_6
      exact ⟨⟨m_2, (s_1.1 ++ x_2, s_1.2 + 1), A_7, cap_7, cs_2⟩, Nat.lt_succ_self _, M_3, (hM_2.trans hM_3), ⟨hn_1, hr_4⟩, f_22.keep (ks := [1, 3, 4]) (by kernel_rfl), p_6⟩
    · have k_2 : ¬ (s_1.2 < ((d0.fList.length : Nat) : Int)) := iff_f decide_eq_true_iff h_3
      have hF_7 := cnd_f h_3 hs_1
      refine wp_exit (T_x (T_x ?_))
      obtain rfl := Option.some.inj hF_7
      exact ⟨rfl, s_1.1, (Option.some.inj hn_1).symm, M_2, hM_2, A_3, cap_3, cs_1, hr_2, f_10.keep (ks := [3]) (by kernel_rfl), p_4⟩
  · rintro _ a_23 w_7 ⟨rfl, y_1, hq_, M_4, hM_4, A_8, cap_8, cs_3, hr_5, f_23, p_7⟩
    subst b_3
    refine B_x (T_n (R_seq (R_reg ?_)))
    refine V_run f_23 2 (by kernel_rfl) (fun a_24 f_24 => ?_)
    refine W_end rfl (T_n (wp_ret ?_))
    obtain ⟨A_9, cap_9, M_5, hv_1, hM_5, p_8, h_7⟩ := p_7.rowSli (f := emb_T_api_Value) (xs := y_1) szd_T_api_Value hr_5
    have f_25 := Frm.set f_24 2 (v := .slice A_8 y_1.length cap_8) (v' := .slice A_9 y_1.length cap_9) (by kernel_rfl) (hv_1)
    refine E_ret1 f_25 rfl (by kernel_rfl : Vc.look _ 2 = some (.slice A_9 y_1.length cap_9)) ?_
    obtain rfl := Option.some.inj hF_1
    exact ⟨_, rfl, M_5, ((hM_1.trans hM_4).trans hM_5), p_8, ⟨A_9, cap_9, rfl, h_7⟩⟩
def ref03_Walk_k (n : Nat) : Nat → T_api_Value → Option (List T_api_Value)
  | 0 => fun _ => none
  | k + 1 => ref03_Walk_b n (ref03_Walk_k n k)
def ref03_Walk (n : Nat) (d0 : T_api_Value) : Option (List T_api_Value) := ref03_Walk_k n n d0
theorem ref03_Walk_ok (n : Nat) (M : Mem) (c0 : List Value) (d0 : T_api_Value) (h0 : Rep M (emb_T_api_Value d0) c0) (r : List T_api_Value) (hF : ref03_Walk n d0 = some r) : Ok Tryd.prog M 15 [.agg c0.toArray] (fun M' v => ∃ (A0 : Option Addr) (k0 : Nat), v = .slice A0 r.length k0 ∧ Sli M' 6 emb_T_api_Value A0 k0 r) := by
  have key : ∀ (k : Nat) (M : Mem) (c0 : List Value) (d0 : T_api_Value) (h0 : Rep M (emb_T_api_Value d0) c0) (r : List T_api_Value) (hF : ref03_Walk_k n k d0 = some r), Ok Tryd.prog M 15 [.agg c0.toArray] (fun M' v => ∃ (A0 : Option Addr) (k0 : Nat), v = .slice A0 r.length k0 ∧ Sli M' 6 emb_T_api_Value A0 k0 r) := by
    intro k
    induction k with
    | zero => intro M c0 d0 h0 r hF; simp [ref03_Walk_k] at hF
    | succ k ih => intro M c0 d0 h0 r hF; exact ref03_Walk_b_ok n (ref03_Walk_k n k) ih M c0 d0 h0 r hF
  exact key n M c0 d0 h0 r hF
end Go.Proofs.YtekkifakjkhjiaaDoor
