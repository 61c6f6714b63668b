/-
  Printed by a program: of each function its shallow reading, and the proof that the function gives what the reading gives. No condition.
-/
import Derived.Test.YtdmjgmleilgbpaaDoorQ7
import Derived.Test.YtdmjgmleilgbpaaDoorQ2g
set_option linter.unusedVariables false
set_option linter.unusedSimpArgs false
namespace Go.Proofs.YtdmjgmleilgbpaaDoor
open Go Go.Vc Go.RowKit
def law12_great_s1 (n : Nat) (d0 : List T_api_Expr) (s_1 : Int) : Option (Lp Int (Sum Unit Unit)) :=
    bif (decide (s_1 < ((d0.length : Nat) : Int))) then
      ((getI d0 s_1).bind fun x_1 =>
      (ref12_Great n x_1).bind fun x_2 =>
      bif x_2 then
        (some (.br (.inl ())))
      else
        need (inR .i64 (s_1 + 1)) <|
        some (.nx (s_1 + 1)))
    else
      some (.br (.inr ()))
def law12_great (n : Nat) (d0 : List T_api_Expr) : Option Bool :=
  bif (decide ((200 : Int) < ((d0.length : Nat) : Int))) then
    (some ((true)))
  else
    (loopF (law12_great_s1 n d0) n (0 : Int)).bind fun b_1 =>
    (match b_1 with 
    | .inl y_1 => some ((true)) 
    | .inr y_2 => some ((false)))
theorem law12_great_ok (n : Nat) (M : Mem) (hG : GL M) (A0 : Option Addr) (cap0 : Nat) (d0 : List T_api_Expr) (h0 : Sli M 6 emb_T_api_Expr A0 cap0 d0) (r : Bool) (hF : law12_great n d0 = some r) : Ok Tryd.prog M 16 [.slice A0 d0.length cap0] (fun _ v => v = .bool r) := by
  unfold law12_great at hF
  intro M1 hM0 w0 H w p0
  replace hG := GL.mono hM0 hG
  replace h0 := h0.mono hM0
  refine R_enter 17 Tryd.func16 rfl rfl (by simp) (fun a0 f0 => ?_)
  replace f0 : Frm 17 [(0, .slice A0 d0.length cap0)] a0 := f0
  refine R_seq ?_
  refine R_reg ?_
  refine W_run (L' := [(0, .slice A0 d0.length cap0)]) (w' := w) f0 1 [0] (by kernel_rfl) (fun a_1 f_1 => ?_)
  refine W_end rfl ?_
  refine T_n ?_
  refine R_seq ?_
  refine R_seq ?_
  refine R_reg ?_
  refine W_run (L' := [(0, .slice A0 d0.length cap0), (7, .bool (decide ((200 : Int) < ((d0.length : Nat) : Int))))]) (w' := w) f_1 3 [0, 7] (by kernel_rfl) (fun a_2 f_2 => ?_)
  refine W_end rfl ?_
  refine T_n ?_
  refine R_cond f_2 (b := decide ((200 : Int) < ((d0.length : Nat) : Int))) (by kernel_rfl) (by kernel_rfl) (fun h_1 => ?_) (fun h_1 => ?_)
  · have k_1 : (200 : Int) < ((d0.length : Nat) : Int) := decide_eq_true_iff.1 h_1
    have hF_1 := cnd_t h_1 hF
    refine R_seq ?_
    refine R_reg ?_
    refine W_run (L' := [(2, .bool true)]) (w' := w) f_2 1 [2] (by kernel_rfl) (fun a_3 f_3 => ?_)
    refine W_end rfl ?_
    refine T_n ?_
    refine wp_ret ?_
    refine T_r ?_
    refine E_ret1 f_3 rfl (by kernel_rfl : Vc.look _ 2 = some (.bool true)) ?_
    obtain rfl := Option.some.inj hF_1
    exact ⟨_, rfl, M1, (Mem.le_refl _), p0, rfl⟩
  · have k_2 : ¬ ((200 : Int) < ((d0.length : Nat) : Int)) := iff_f decide_eq_true_iff h_1
    have hF_2 := cnd_f h_1 hF
    refine wp_skip ?_
    refine T_n ?_
    refine R_seq ?_
    refine R_seq ?_
    refine R_reg ?_
    refine W_run (L' := [(8, .slice A0 d0.length cap0), (9, .int .i64 ((d0.length : Nat) : Int)), (10, .int .i64 0)]) (w' := w) f_2 3 [8, 9, 10] (by kernel_rfl) (fun a_4 f_4 => ?_)
    refine W_end rfl ?_
    refine T_n ?_
    refine wp_block ?_
    obtain ⟨b_1, hL_1, hF_3⟩ := bind_some' hF_2
    refine wp_mono (Q := fun e a w => (e = .ret ∧ (∃ y_1 : Unit, b_1 = .inl y_1 ∧ ∃ M_2 : Mem, M1.le M_2 ∧ Frm 17 [(2, .bool true)] a ∧ Hp w0 M_2 (H) w)) ∨ (e = .exit 0 ∧ (∃ y_2 : Unit, b_1 = .inr y_2 ∧ ∃ M_3 : Mem, M1.le M_3 ∧ Frm 17 [] a ∧ Hp w0 M_3 (H) w))) (R_loop (n := 17) (w0 := w0) (M := M1) (fun (x : Nat × Int) => match x with | (m_1, s_1) => [(8, .slice A0 d0.length cap0), (9, .int .i64 ((d0.length : Nat) : Int)), (10, .int .i64 s_1)]) (fun (x : Nat × Int) => match x with | (m_1, s_1) => (H)) (fun (x : Nat × Int) (MM : Mem) => match x with | (m_1, s_1) => loopF (law12_great_s1 n d0) m_1 s_1 = some b_1) (fun (x : Nat × Int) => match x with | (m_1, s_1) => m_1) (n, (0 : Int)) (f_4.keep (ks := [8, 9, 10]) (by kernel_rfl)) p0 hL_1 ?_) ?_
    · rintro ⟨m_1, s_1⟩ M_1 a_5 w_1 hM_1 I_1 f_5 p_1
      replace f_5 : Frm 17 [(8, .slice A0 d0.length cap0), (9, .int .i64 ((d0.length : Nat) : Int)), (10, .int .i64 s_1)] a_5 := f_5
      replace p_1 : Hp w0 M_1 (H) w_1 := p_1
      have I_1L := I_1
      obtain ⟨m_2, r_1, rfl, hs_1, hn_1⟩ := loop_step I_1L
      unfold law12_great_s1 at hs_1
      refine R_seq ?_
      refine R_reg ?_
      refine W_run (L' := [(8, .slice A0 d0.length cap0), (9, .int .i64 ((d0.length : Nat) : Int)), (10, .int .i64 s_1), (11, .bool (decide (s_1 < ((d0.length : Nat) : Int))))]) (w' := w_1) f_5 1 [8, 9, 10, 11] (by kernel_rfl) (fun a_6 f_6 => ?_)
      refine W_end rfl ?_
      refine T_n ?_
      refine R_seq ?_
      refine R_cond f_6 (b := decide (s_1 < ((d0.length : Nat) : Int))) (by kernel_rfl) (by kernel_rfl) (fun h_2 => ?_) (fun h_2 => ?_)
      · have k_3 : s_1 < ((d0.length : Nat) : Int) := decide_eq_true_iff.1 h_2
        have hF_4 := cnd_t h_2 hs_1
        refine wp_skip ?_
        refine T_n ?_
        refine R_seq ?_
        refine wp_block ?_
        refine R_seq ?_
        refine R_reg ?_
        obtain ⟨x_1, hx_1, hF_5⟩ := bind_some' hF_4
        obtain ⟨ad_1, c_1, e_1, hl_1, hr_1, hc_1⟩ := Sli.at_ (h0.mono hM_1) hx_1
        clear hl_1
        obtain ⟨A_1, cap_1, rfl, h_3⟩ := T_api_Expr.opn hr_1
        refine W_eq (v := .pointer (some (ad_1.add (s_1.toNat * 6)))) f_6 (by kernel_rfl) (by kernel_rfl) rfl rfl (X_indexAddrA e_1 rfl (len := d0.length) (cap := cap0) (k := .i64) (i := s_1) (by kernel_rfl) (by kernel_rfl) (e := 29) (by kernel_rfl) (sz := 6) (by kernel_rfl) (getI_nn hx_1) (getI_lt hx_1)) (fun a_7 f_7 => ?_)
        refine W_eq (v := .agg #[.int .i8 x_1.fKind, S x_1.fText, .int .i64 x_1.fNum, S x_1.fName, S x_1.fAttr, .slice A_1 x_1.fL.length cap_1]) f_7 (by kernel_rfl) (by kernel_rfl) rfl rfl (X_loadN (cs := [.int .i8 x_1.fKind, S x_1.fText, .int .i64 x_1.fNum, S x_1.fName, S x_1.fAttr, .slice A_1 x_1.fL.length cap_1]) rfl (ad := ad_1.add (s_1.toNat * 6)) (by kernel_rfl) (by kernel_rfl) (fun j v h => p_1.cell (hc_1 j v h))) (fun a_8 f_8 => ?_)
        refine W_alloc f_8 p_1 1 [4, 8, 9, 10, 11, 12, 13] (.cells #[.int .i8 0, S [], .int .i64 0, S [], S [], .slice none 0 0] 29 (0, 0)) (fun b_2 => [(4, .pointer (some (⟨b_2, 0, none⟩))), (8, .slice A0 d0.length cap0), (9, .int .i64 ((d0.length : Nat) : Int)), (10, .int .i64 s_1), (11, .bool (decide (s_1 < ((d0.length : Nat) : Int)))), (12, .pointer (some (ad_1.add (s_1.toNat * 6)))), (13, .agg #[.int .i8 x_1.fKind, S x_1.fText, .int .i64 x_1.fNum, S x_1.fName, S x_1.fAttr, .slice A_1 x_1.fL.length cap_1])]) (fun _ => by kernel_rfl) (fun b_2 w_2 p_2 a_9 f_9 => ?_)
        replace f_9 : Frm 17 [(4, .pointer (some (⟨b_2, 0, none⟩))), (8, .slice A0 d0.length cap0), (9, .int .i64 ((d0.length : Nat) : Int)), (10, .int .i64 s_1), (11, .bool (decide (s_1 < ((d0.length : Nat) : Int)))), (12, .pointer (some (ad_1.add (s_1.toNat * 6)))), (13, .agg #[.int .i8 x_1.fKind, S x_1.fText, .int .i64 x_1.fNum, S x_1.fName, S x_1.fAttr, .slice A_1 x_1.fL.length cap_1])] a_9 := f_9
        refine W_storeN (vs := [.int .i8 x_1.fKind, S x_1.fText, .int .i64 x_1.fNum, S x_1.fName, S x_1.fAttr, .slice A_1 x_1.fL.length cap_1]) (j := 0) f_9 p_2 (by kernel_rfl) (by kernel_rfl) rfl rfl (by kernel_rfl) (by kernel_rfl) (by simp [Value.oneCell', S]) (by kernel_rfl) (by simp) (by decide) (cs' := #[.int .i8 x_1.fKind, S x_1.fText, .int .i64 x_1.fNum, S x_1.fName, S x_1.fAttr, .slice A_1 x_1.fL.length cap_1]) rfl (fun w_3 p_3 a_10 f_10 => ?_)
        refine W_end rfl ?_
        refine T_n ?_
        refine R_seq ?_
        refine R_reg ?_
        refine W_eq (v := .agg #[.int .i8 x_1.fKind, S x_1.fText, .int .i64 x_1.fNum, S x_1.fName, S x_1.fAttr, .slice A_1 x_1.fL.length cap_1]) f_10 (by kernel_rfl) (by kernel_rfl) rfl rfl (X_loadN (cs := [.int .i8 x_1.fKind, S x_1.fText, .int .i64 x_1.fNum, S x_1.fName, S x_1.fAttr, .slice A_1 x_1.fL.length cap_1]) rfl (ad := ⟨b_2, 0, none⟩) (by kernel_rfl) (by kernel_rfl) (own_cells (p_3.ownCell 0 rfl) 0 rfl)) (fun a_11 f_11 => ?_)
        obtain ⟨x_2, hx_2, hF_6⟩ := bind_some' hF_5
        refine W_okv (v := .bool x_2) f_11 p_3 (by kernel_rfl) (by kernel_rfl) rfl rfl (fun _ => by kernel_rfl) (ref12_Great_ok n _ [.int .i8 x_1.fKind, S x_1.fText, .int .i64 x_1.fNum, S x_1.fName, S x_1.fAttr, .slice A_1 x_1.fL.length cap_1] x_1 (T_api_Expr.shutx (x := x_1) h_3) x_2 hx_2) (fun w_4 p_4 a_12 f_12 => ?_)
        refine W_end rfl ?_
        refine T_n ?_
        refine R_cond f_12 (b := x_2) (by kernel_rfl) (by kernel_rfl) (fun h_4 => ?_) (fun h_4 => ?_)
        · have hF_7 := cnd_t h_4 hF_6
          refine R_seq ?_
          refine R_reg ?_
          refine W_run (L' := [(2, .bool true)]) (w' := w_4) f_12 1 [2] (by kernel_rfl) (fun a_13 f_13 => ?_)
          refine W_end rfl ?_
          refine T_n ?_
          refine wp_ret ?_
          refine B_r ?_
          refine T_r ?_
          refine T_r ?_
          obtain rfl := Option.some.inj hF_7
          exact .inl ⟨rfl, (), (Option.some.inj hn_1).symm, M_1, hM_1, f_13.keep (ks := [2]) (by kernel_rfl), (p_4.dropN 1)⟩
        · have hF_8 := cnd_f h_4 hF_6
          refine wp_skip ?_
          refine B_n ?_
          refine T_n ?_
          refine R_reg ?_
          obtain ⟨g_1, hF_9⟩ := need_some hF_8
          refine W_run (L' := [(4, .pointer (some (⟨b_2, 0, none⟩))), (8, .slice A0 d0.length cap0), (9, .int .i64 ((d0.length : Nat) : Int)), (10, .int .i64 s_1), (11, .bool (decide (s_1 < ((d0.length : Nat) : Int)))), (12, .pointer (some (ad_1.add (s_1.toNat * 6)))), (13, .agg #[.int .i8 x_1.fKind, S x_1.fText, .int .i64 x_1.fNum, S x_1.fName, S x_1.fAttr, .slice A_1 x_1.fL.length cap_1]), (14, .agg #[.int .i8 x_1.fKind, S x_1.fText, .int .i64 x_1.fNum, S x_1.fName, S x_1.fAttr, .slice A_1 x_1.fL.length cap_1]), (15, .bool x_2), (16, .int .i64 (IntKind.wrap .i64 (s_1 + 1)))]) (w' := w_4) f_12 1 [4, 8, 9, 10, 11, 12, 13, 14, 15, 16] (by kernel_rfl) (fun a_14 f_14 => ?_)
          have f_15 := Frm.set f_14 16 (v := .int .i64 (IntKind.wrap .i64 (s_1 + 1))) (v' := .int .i64 (s_1 + 1)) (by kernel_rfl) (congrArg (Value.int .i64) (inR_wrap g_1))
          have f_16 : Frm 17 [(4, .pointer (some (⟨b_2, 0, none⟩))), (8, .slice A0 d0.length cap0), (9, .int .i64 ((d0.length : Nat) : Int)), (10, .int .i64 s_1), (11, .bool (decide (s_1 < ((d0.length : Nat) : Int)))), (12, .pointer (some (ad_1.add (s_1.toNat * 6)))), (13, .agg #[.int .i8 x_1.fKind, S x_1.fText, .int .i64 x_1.fNum, S x_1.fName, S x_1.fAttr, .slice A_1 x_1.fL.length cap_1]), (14, .agg #[.int .i8 x_1.fKind, S x_1.fText, .int .i64 x_1.fNum, S x_1.fName, S x_1.fAttr, .slice A_1 x_1.fL.length cap_1]), (15, .bool x_2), (16, .int .i64 (s_1 + 1))] a_14 := f_15.keep (ks := [4, 8, 9, 10, 11, 12, 13, 14, 15, 16]) (by kernel_rfl)
          refine W_run (L' := [(8, .slice A0 d0.length cap0), (9, .int .i64 ((d0.length : Nat) : Int)), (10, .int .i64 (s_1 + 1))]) (w' := w_4) f_16 1 [8, 9, 10] (by kernel_rfl) (fun a_15 f_17 => ?_)
          refine W_end rfl ?_
          refine T_n ?_
          obtain rfl := Option.some.inj hF_9
          exact ⟨⟨m_2, s_1 + 1⟩, Nat.lt_succ_self _, M_1, hM_1, hn_1, f_17.keep (ks := [8, 9, 10]) (by kernel_rfl), (p_4.dropN 1)⟩
      · have k_6 : ¬ (s_1 < ((d0.length : Nat) : Int)) := iff_f decide_eq_true_iff h_2
        have hF_10 := cnd_f h_2 hs_1
        refine wp_exit ?_
        refine T_x ?_
        refine T_x ?_
        obtain rfl := Option.some.inj hF_10
        exact .inr ⟨rfl, (), (Option.some.inj hn_1).symm, M_1, hM_1, f_6.keep (ks := []) (by kernel_rfl), p_1⟩
    · rintro _ a_18 w_7 (⟨rfl, y_1, rfl, M_2, hM_2, f_18, p_5⟩ | ⟨rfl, y_2, rfl, M_3, hM_3, f_19, p_6⟩)
      · refine B_r ?_
        refine T_r ?_
        refine E_ret1 f_18 rfl (by kernel_rfl : Vc.look _ 2 = some (.bool true)) ?_
        obtain rfl := Option.some.inj hF_3
        exact ⟨_, rfl, M_2, hM_2, p_5, rfl⟩
      · refine B_x ?_
        refine T_n ?_
        refine R_seq ?_
        refine R_reg ?_
        refine W_run (L' := [(2, .bool false)]) (w' := w_7) f_19 1 [2] (by kernel_rfl) (fun a_19 f_20 => ?_)
        refine W_end rfl ?_
        refine T_n ?_
        refine wp_ret ?_
        refine E_ret1 f_20 rfl (by kernel_rfl : Vc.look _ 2 = some (.bool false)) ?_
        obtain rfl := Option.some.inj hF_3
        exact ⟨_, rfl, M_3, hM_3, p_6, rfl⟩
end Go.Proofs.YtdmjgmleilgbpaaDoor
