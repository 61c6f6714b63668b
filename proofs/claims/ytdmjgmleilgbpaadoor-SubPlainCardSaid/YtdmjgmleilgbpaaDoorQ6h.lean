/-
  Printed by a program: of each function its shallow reading, and the proof that the function gives what the reading gives. No condition.
-/
import Derived.Test.YtdmjgmleilgbpaaDoorQ6
set_option linter.unusedVariables false
set_option linter.unusedSimpArgs false
namespace Go.Proofs.YtdmjgmleilgbpaaDoor
open Go Go.Vc Go.RowKit
def sub_Holes_s1 (n : Nat) (x_1 : List T_api_Expr × Int × Int) (s_1 : Int × Int) : Option (Lp (Int × Int) Int) :=
    bif (decide (s_1.2 < ((x_1.1.length : Nat) : Int))) then
      ((getI x_1.1 s_1.2).bind fun x_2 =>
      bif (!(decide (x_2.fKind = 0))) then
        (need (inR .i64 (s_1.1 + 1)) <|
        need (inR .i64 (s_1.2 + 1)) <|
        some (.nx (s_1.1 + 1, s_1.2 + 1)))
      else
        need (inR .i64 (s_1.2 + 1)) <|
        some (.nx (s_1.1, s_1.2 + 1)))
    else
      some (.br s_1.1)
def sub_Holes (n : Nat) (d0 : List UInt8) : Option Int :=
  (sub_Lex n d0).bind fun x_1 =>
  (loopF (sub_Holes_s1 n x_1) n ((0 : Int), (0 : Int))).bind fun y_1 =>
  some (y_1)
theorem sub_Holes_ok (n : Nat) (M : Mem) (hG : GL M) (d0 : List UInt8) (r : Int) (hF : sub_Holes n d0 = some r) : Ok Tryd.prog M 12 [S d0] (fun _ v => v = .int .i64 r) := by
  unfold sub_Holes at hF
  intro M1 hM0 w0 H w p0
  replace hG := GL.mono hM0 hG
  refine R_enter 28 Tryd.func12 rfl rfl (by simp) (fun a0 f0 => ?_)
  replace f0 : Frm 28 [(0, S d0)] a0 := f0
  refine R_seq ?_
  refine R_reg ?_
  refine W_run (L' := [(0, S d0)]) (w' := w) f0 1 [0] (by kernel_rfl) (fun a_1 f_1 => ?_)
  refine W_end rfl ?_
  refine T_n ?_
  refine R_seq ?_
  refine R_reg ?_
  refine W_run (L' := [(10, S d0)]) (w' := w) f_1 1 [10] (by kernel_rfl) (fun a_2 f_2 => ?_)
  obtain ⟨x_1, hx_1, hF_1⟩ := bind_some' hF
  refine W_okH (E := []) (H := (H)) f_2 p0 (by kernel_rfl) (by kernel_rfl) rfl rfl (fun _ => by kernel_rfl) (sub_Lex_ok n _ hG d0 x_1 hx_1) (fun u_1 M_1 E_1 w_1 hM_1 p_1 q_1 a_3 f_3 => ?_)
  obtain ⟨A_1, cap_1, cs_1, rfl, rfl, hr_1⟩ := q_1
  replace p_1 : Hp w0 M_1 ((Ent.row 29 6 (.slice A_1 x_1.1.length cap_1) x_1.1.length cs_1) :: H) w_1 := p_1
  refine W_run (L' := [(3, .slice A_1 x_1.1.length cap_1)]) (w' := w_1) f_3 7 [3] (by kernel_rfl) (fun a_4 f_4 => ?_)
  refine W_end rfl ?_
  refine T_n ?_
  refine R_seq ?_
  refine R_reg ?_
  refine W_run (L' := [(3, .slice A_1 x_1.1.length cap_1), (6, .int .i64 0)]) (w' := w_1) f_4 1 [3, 6] (by kernel_rfl) (fun a_5 f_5 => ?_)
  refine W_end rfl ?_
  refine T_n ?_
  refine R_seq ?_
  refine R_seq ?_
  refine R_reg ?_
  refine W_run (L' := [(6, .int .i64 0), (15, .slice A_1 x_1.1.length cap_1), (16, .int .i64 ((x_1.1.length : Nat) : Int)), (17, .int .i64 0)]) (w' := w_1) f_5 3 [6, 15, 16, 17] (by kernel_rfl) (fun a_6 f_6 => ?_)
  refine W_end rfl ?_
  refine T_n ?_
  refine wp_block ?_
  obtain ⟨b_1, hL_1, hF_2⟩ := bind_some' hF_1
  refine wp_mono (Q := fun e a w => (e = .exit 0 ∧ (∃ y_1 : Int, b_1 = y_1 ∧ ∃ M_3 : Mem, M_1.le M_3 ∧ Frm 28 [(6, .int .i64 y_1)] a ∧ Hp w0 M_3 ((Ent.row 29 6 (.slice A_1 x_1.1.length cap_1) x_1.1.length cs_1) :: H) w))) (R_loop (n := 28) (w0 := w0) (M := M_1) (fun (x : Nat × (Int × Int)) => match x with | (m_1, s_1) => [(6, .int .i64 s_1.1), (15, .slice A_1 x_1.1.length cap_1), (16, .int .i64 ((x_1.1.length : Nat) : Int)), (17, .int .i64 s_1.2)]) (fun (x : Nat × (Int × Int)) => match x with | (m_1, s_1) => ((Ent.row 29 6 (.slice A_1 x_1.1.length cap_1) x_1.1.length cs_1) :: H)) (fun (x : Nat × (Int × Int)) (MM : Mem) => match x with | (m_1, s_1) => loopF (sub_Holes_s1 n x_1) m_1 s_1 = some b_1) (fun (x : Nat × (Int × Int)) => match x with | (m_1, s_1) => m_1) (n, ((0 : Int), (0 : Int))) (f_6.keep (ks := [6, 15, 16, 17]) (by kernel_rfl)) p_1 hL_1 ?_) ?_
  · rintro ⟨m_1, s_1⟩ M_2 a_7 w_2 hM_2 I_1 f_7 p_2
    replace f_7 : Frm 28 [(6, .int .i64 s_1.1), (15, .slice A_1 x_1.1.length cap_1), (16, .int .i64 ((x_1.1.length : Nat) : Int)), (17, .int .i64 s_1.2)] a_7 := f_7
    replace p_2 : Hp w0 M_2 ((Ent.row 29 6 (.slice A_1 x_1.1.length cap_1) x_1.1.length cs_1) :: H) w_2 := p_2
    have I_1L := I_1
    obtain ⟨m_2, r_1, rfl, hs_1, hn_1⟩ := loop_step I_1L
    unfold sub_Holes_s1 at hs_1
    refine R_seq ?_
    refine R_reg ?_
    refine W_run (L' := [(6, .int .i64 s_1.1), (15, .slice A_1 x_1.1.length cap_1), (16, .int .i64 ((x_1.1.length : Nat) : Int)), (17, .int .i64 s_1.2), (18, .bool (decide (s_1.2 < ((x_1.1.length : Nat) : Int))))]) (w' := w_2) f_7 1 [6, 15, 16, 17, 18] (by kernel_rfl) (fun a_8 f_8 => ?_)
    refine W_end rfl ?_
    refine T_n ?_
    refine R_seq ?_
    refine R_cond f_8 (b := decide (s_1.2 < ((x_1.1.length : Nat) : Int))) (by kernel_rfl) (by kernel_rfl) (fun h_1 => ?_) (fun h_1 => ?_)
    · have k_1 : s_1.2 < ((x_1.1.length : Nat) : Int) := decide_eq_true_iff.1 h_1
      have hF_3 := cnd_t h_1 hs_1
      refine wp_skip ?_
      refine T_n ?_
      refine R_seq ?_
      refine wp_block ?_
      refine R_seq ?_
      refine R_reg ?_
      obtain ⟨x_2, hx_2, hF_4⟩ := bind_some' hF_3
      obtain ⟨b_2, cap_2, hv_1, hcap_1⟩ := p_2.rowAddr 0 rfl (getI_pos hx_2)
      have f_9 := Frm.set f_8 15 (v := .slice A_1 x_1.1.length cap_1) (v' := .slice (some ⟨b_2, 0, none⟩) x_1.1.length cap_2) (by kernel_rfl) (hv_1)
      have f_10 : Frm 28 [(6, .int .i64 s_1.1), (15, .slice (some ⟨b_2, 0, none⟩) x_1.1.length cap_2), (16, .int .i64 ((x_1.1.length : Nat) : Int)), (17, .int .i64 s_1.2), (18, .bool (decide (s_1.2 < ((x_1.1.length : Nat) : Int))))] a_8 := f_9.keep (ks := [6, 15, 16, 17, 18]) (by kernel_rfl)
      refine W_eq (v := .pointer (some ((⟨b_2, 0, none⟩ : Addr).add (s_1.2.toNat * 6)))) f_10 (by kernel_rfl) (by kernel_rfl) rfl rfl (X_indexAddr rfl (ad := ⟨b_2, 0, none⟩) (len := x_1.1.length) (cap := cap_2) (k := .i64) (i := s_1.2) (by kernel_rfl) (by kernel_rfl) (e := 29) (by kernel_rfl) (sz := 6) (by kernel_rfl) (getI_nn hx_2) (getI_lt hx_2)) (fun a_9 f_11 => ?_)
      have f_12 := Frm.set f_11 15 (v := .slice (some ⟨b_2, 0, none⟩) x_1.1.length cap_2) (v' := .slice A_1 x_1.1.length cap_1) (by kernel_rfl) (hv_1.symm)
      have f_13 : Frm 28 [(6, .int .i64 s_1.1), (15, .slice A_1 x_1.1.length cap_1), (16, .int .i64 ((x_1.1.length : Nat) : Int)), (17, .int .i64 s_1.2), (18, .bool (decide (s_1.2 < ((x_1.1.length : Nat) : Int)))), (19, .pointer (some ((⟨b_2, 0, none⟩ : Addr).add (s_1.2.toNat * 6))))] a_9 := f_12.keep (ks := [6, 15, 16, 17, 18, 19]) (by kernel_rfl)
      obtain ⟨c_1, hl_1, hr_2, hc_1⟩ := RepSeq.get s_1.2.toNat (szd_all szd_T_api_Expr) (RepSeq.mono hM_2 _ _ hr_1) (getI_map hx_2)
      clear hl_1
      obtain ⟨A_2, cap_3, rfl, h_2⟩ := T_api_Expr.opn hr_2
      refine W_eq (v := .agg #[.int .i8 x_2.fKind, S x_2.fText, .int .i64 x_2.fNum, S x_2.fName, S x_2.fAttr, .slice A_2 x_2.fL.length cap_3]) f_13 (by kernel_rfl) (by kernel_rfl) rfl rfl (X_loadN (cs := [.int .i8 x_2.fKind, S x_2.fText, .int .i64 x_2.fNum, S x_2.fName, S x_2.fAttr, .slice A_2 x_2.fL.length cap_3]) rfl (ad := (⟨b_2, 0, none⟩ : Addr).add (s_1.2.toNat * 6)) (by kernel_rfl) (by kernel_rfl) (fun j v h => row_at (p_2.rowCell 0 rfl hv_1) hc_1 j v h)) (fun a_10 f_14 => ?_)
      refine W_alloc f_14 p_2 1 [6, 8, 15, 16, 17, 18, 19, 20] (.cells #[.int .i8 0, S [], .int .i64 0, S [], S [], .slice none 0 0] 29 (0, 0)) (fun b_3 => [(6, .int .i64 s_1.1), (8, .pointer (some (⟨b_3, 0, none⟩))), (15, .slice A_1 x_1.1.length cap_1), (16, .int .i64 ((x_1.1.length : Nat) : Int)), (17, .int .i64 s_1.2), (18, .bool (decide (s_1.2 < ((x_1.1.length : Nat) : Int)))), (19, .pointer (some ((⟨b_2, 0, none⟩ : Addr).add (s_1.2.toNat * 6)))), (20, .agg #[.int .i8 x_2.fKind, S x_2.fText, .int .i64 x_2.fNum, S x_2.fName, S x_2.fAttr, .slice A_2 x_2.fL.length cap_3])]) (fun _ => by kernel_rfl) (fun b_3 w_3 p_3 a_11 f_15 => ?_)
      replace f_15 : Frm 28 [(6, .int .i64 s_1.1), (8, .pointer (some (⟨b_3, 0, none⟩))), (15, .slice A_1 x_1.1.length cap_1), (16, .int .i64 ((x_1.1.length : Nat) : Int)), (17, .int .i64 s_1.2), (18, .bool (decide (s_1.2 < ((x_1.1.length : Nat) : Int)))), (19, .pointer (some ((⟨b_2, 0, none⟩ : Addr).add (s_1.2.toNat * 6)))), (20, .agg #[.int .i8 x_2.fKind, S x_2.fText, .int .i64 x_2.fNum, S x_2.fName, S x_2.fAttr, .slice A_2 x_2.fL.length cap_3])] a_11 := f_15
      refine W_storeN (vs := [.int .i8 x_2.fKind, S x_2.fText, .int .i64 x_2.fNum, S x_2.fName, S x_2.fAttr, .slice A_2 x_2.fL.length cap_3]) (j := 0) f_15 p_3 (by kernel_rfl) (by kernel_rfl) rfl rfl (by kernel_rfl) (by kernel_rfl) (by simp [Value.oneCell', S]) (by kernel_rfl) (by simp) (by decide) (cs' := #[.int .i8 x_2.fKind, S x_2.fText, .int .i64 x_2.fNum, S x_2.fName, S x_2.fAttr, .slice A_2 x_2.fL.length cap_3]) rfl (fun w_4 p_4 a_12 f_16 => ?_)
      refine W_end rfl ?_
      refine T_n ?_
      refine R_seq ?_
      refine R_reg ?_
      refine W_run (L' := [(6, .int .i64 s_1.1), (15, .slice A_1 x_1.1.length cap_1), (16, .int .i64 ((x_1.1.length : Nat) : Int)), (17, .int .i64 s_1.2), (21, .pointer (some (⟨b_3, 0, none⟩)))]) (w' := w_4) f_16 1 [6, 15, 16, 17, 21] (by kernel_rfl) (fun a_13 f_17 => ?_)
      refine W_eq (v := .int .i8 x_2.fKind) f_17 (by kernel_rfl) (by kernel_rfl) rfl rfl (X_load1 (v := .int .i8 x_2.fKind) rfl (ad := ⟨b_3, 0, none⟩) (by kernel_rfl) (by kernel_rfl) (p_4.ownCell 0 rfl 0)) (fun a_14 f_18 => ?_)
      refine W_run (L' := [(6, .int .i64 s_1.1), (15, .slice A_1 x_1.1.length cap_1), (16, .int .i64 ((x_1.1.length : Nat) : Int)), (17, .int .i64 s_1.2), (23, .bool (!(decide (x_2.fKind = 0))))]) (w' := w_4) f_18 1 [6, 15, 16, 17, 23] (by kernel_rfl) (fun a_15 f_19 => ?_)
      refine W_end rfl ?_
      refine T_n ?_
      refine R_cond f_19 (b := !(decide (x_2.fKind = 0))) (by kernel_rfl) (by kernel_rfl) (fun h_3 => ?_) (fun h_3 => ?_)
      · have k_2 : ¬ (x_2.fKind = 0) := (not_iff decide_eq_true_iff).1 h_3
        have hF_5 := cnd_t h_3 hF_4
        refine R_reg ?_
        refine W_run (L' := [(15, .slice A_1 x_1.1.length cap_1), (16, .int .i64 ((x_1.1.length : Nat) : Int)), (17, .int .i64 s_1.2), (24, .int .i64 s_1.1)]) (w' := w_4) f_19 1 [15, 16, 17, 24] (by kernel_rfl) (fun a_16 f_20 => ?_)
        obtain ⟨g_1, hF_6⟩ := need_some hF_5
        refine W_run (L' := [(15, .slice A_1 x_1.1.length cap_1), (16, .int .i64 ((x_1.1.length : Nat) : Int)), (17, .int .i64 s_1.2), (24, .int .i64 s_1.1), (25, .int .i64 (IntKind.wrap .i64 (s_1.1 + 1)))]) (w' := w_4) f_20 1 [15, 16, 17, 24, 25] (by kernel_rfl) (fun a_17 f_21 => ?_)
        have f_22 := Frm.set f_21 25 (v := .int .i64 (IntKind.wrap .i64 (s_1.1 + 1))) (v' := .int .i64 (s_1.1 + 1)) (by kernel_rfl) (congrArg (Value.int .i64) (inR_wrap g_1))
        have f_23 : Frm 28 [(15, .slice A_1 x_1.1.length cap_1), (16, .int .i64 ((x_1.1.length : Nat) : Int)), (17, .int .i64 s_1.2), (24, .int .i64 s_1.1), (25, .int .i64 (s_1.1 + 1))] a_17 := f_22.keep (ks := [15, 16, 17, 24, 25]) (by kernel_rfl)
        refine W_run (L' := [(6, .int .i64 (s_1.1 + 1)), (15, .slice A_1 x_1.1.length cap_1), (16, .int .i64 ((x_1.1.length : Nat) : Int)), (17, .int .i64 s_1.2)]) (w' := w_4) f_23 1 [6, 15, 16, 17] (by kernel_rfl) (fun a_18 f_24 => ?_)
        refine W_end rfl ?_
        refine B_n ?_
        refine T_n ?_
        refine R_reg ?_
        obtain ⟨g_2, hF_7⟩ := need_some hF_6
        refine W_run (L' := [(6, .int .i64 (s_1.1 + 1)), (15, .slice A_1 x_1.1.length cap_1), (16, .int .i64 ((x_1.1.length : Nat) : Int)), (17, .int .i64 s_1.2), (26, .int .i64 (IntKind.wrap .i64 (s_1.2 + 1)))]) (w' := w_4) f_24 1 [6, 15, 16, 17, 26] (by kernel_rfl) (fun a_19 f_25 => ?_)
        have f_26 := Frm.set f_25 26 (v := .int .i64 (IntKind.wrap .i64 (s_1.2 + 1))) (v' := .int .i64 (s_1.2 + 1)) (by kernel_rfl) (congrArg (Value.int .i64) (inR_wrap g_2))
        have f_27 : Frm 28 [(6, .int .i64 (s_1.1 + 1)), (15, .slice A_1 x_1.1.length cap_1), (16, .int .i64 ((x_1.1.length : Nat) : Int)), (17, .int .i64 s_1.2), (26, .int .i64 (s_1.2 + 1))] a_19 := f_26.keep (ks := [6, 15, 16, 17, 26]) (by kernel_rfl)
        refine W_run (L' := [(6, .int .i64 (s_1.1 + 1)), (15, .slice A_1 x_1.1.length cap_1), (16, .int .i64 ((x_1.1.length : Nat) : Int)), (17, .int .i64 (s_1.2 + 1))]) (w' := w_4) f_27 1 [6, 15, 16, 17] (by kernel_rfl) (fun a_20 f_28 => ?_)
        refine W_end rfl ?_
        refine T_n ?_
        obtain rfl := Option.some.inj hF_7
        exact ⟨⟨m_2, (s_1.1 + 1, s_1.2 + 1)⟩, Nat.lt_succ_self _, M_2, hM_2, hn_1, f_28.keep (ks := [6, 15, 16, 17]) (by kernel_rfl), (p_4.dropN 1)⟩
      · have k_3 : ¬ (¬ (x_2.fKind = 0)) := iff_f (not_iff decide_eq_true_iff) h_3
        have hF_8 := cnd_f h_3 hF_4
        refine wp_skip ?_
        refine B_n ?_
        refine T_n ?_
        refine R_reg ?_
        obtain ⟨g_3, hF_9⟩ := need_some hF_8
        refine W_run (L' := [(6, .int .i64 s_1.1), (15, .slice A_1 x_1.1.length cap_1), (16, .int .i64 ((x_1.1.length : Nat) : Int)), (17, .int .i64 s_1.2), (23, .bool (!(decide (x_2.fKind = 0)))), (26, .int .i64 (IntKind.wrap .i64 (s_1.2 + 1)))]) (w' := w_4) f_19 1 [6, 15, 16, 17, 23, 26] (by kernel_rfl) (fun a_21 f_29 => ?_)
        have f_30 := Frm.set f_29 26 (v := .int .i64 (IntKind.wrap .i64 (s_1.2 + 1))) (v' := .int .i64 (s_1.2 + 1)) (by kernel_rfl) (congrArg (Value.int .i64) (inR_wrap g_3))
        have f_31 : Frm 28 [(6, .int .i64 s_1.1), (15, .slice A_1 x_1.1.length cap_1), (16, .int .i64 ((x_1.1.length : Nat) : Int)), (17, .int .i64 s_1.2), (23, .bool (!(decide (x_2.fKind = 0)))), (26, .int .i64 (s_1.2 + 1))] a_21 := f_30.keep (ks := [6, 15, 16, 17, 23, 26]) (by kernel_rfl)
        refine W_run (L' := [(6, .int .i64 s_1.1), (15, .slice A_1 x_1.1.length cap_1), (16, .int .i64 ((x_1.1.length : Nat) : Int)), (17, .int .i64 (s_1.2 + 1))]) (w' := w_4) f_31 1 [6, 15, 16, 17] (by kernel_rfl) (fun a_22 f_32 => ?_)
        refine W_end rfl ?_
        refine T_n ?_
        obtain rfl := Option.some.inj hF_9
        exact ⟨⟨m_2, (s_1.1, s_1.2 + 1)⟩, Nat.lt_succ_self _, M_2, hM_2, hn_1, f_32.keep (ks := [6, 15, 16, 17]) (by kernel_rfl), (p_4.dropN 1)⟩
    · have k_4 : ¬ (s_1.2 < ((x_1.1.length : Nat) : Int)) := iff_f decide_eq_true_iff h_1
      have hF_10 := cnd_f h_1 hs_1
      refine wp_exit ?_
      refine T_x ?_
      refine T_x ?_
      obtain rfl := Option.some.inj hF_10
      exact ⟨rfl, s_1.1, (Option.some.inj hn_1).symm, M_2, hM_2, f_8.keep (ks := [6]) (by kernel_rfl), p_2⟩
  · rintro _ a_24 w_6 ⟨rfl, y_1, hq_, M_3, hM_3, f_33, p_5⟩
    subst b_1
    refine B_x ?_
    refine T_n ?_
    refine R_seq ?_
    refine R_reg ?_
    refine W_run (L' := [(2, .int .i64 y_1)]) (w' := w_6) f_33 2 [2] (by kernel_rfl) (fun a_25 f_34 => ?_)
    refine W_end rfl ?_
    refine T_n ?_
    refine wp_ret ?_
    refine E_ret1 f_34 rfl (by kernel_rfl : Vc.look _ 2 = some (.int .i64 y_1)) ?_
    obtain rfl := Option.some.inj hF_2
    exact ⟨_, rfl, M_3, (hM_1.trans hM_3), (p_5.dropN 1), rfl⟩
end Go.Proofs.YtdmjgmleilgbpaaDoor
