/-
  Texts of this claim, packed (what nothing names is left out): S2, S3, Q3c, Q4h, Sort1, LayS, Sort2, Q4i, Q4d, S4. Own work, partly printed by own programs. No condition.
-/
import Derived.Test.YtalifkcchfkgmaaGreatDoorPkA2
import Derived.Lib.Bytealg
import Derived.Shelf.SlLaysF
import Derived.Test.YtalifkcchfkgmaaGreatDoorProg
import Derived.Shelf.SlSortCmp.NoneTotal
section
set_option linter.unusedVariables false
set_option linter.unusedSimpArgs false
namespace Go.Proofs.YtalifkcchfkgmaaGreatDoor
open Go Go.Vc Go.RowKit
def print_Word (n : Nat) (d0 : List UInt8) : Option Bool :=
  bif (decide ((d0.length : Int) ≤ 64)) then
    ((runes_Valid n d0).bind fun x_1 =>
    some ((x_1)))
  else
    some ((false))
theorem print_Word_ok (n : Nat) (M : Mem) (hG : GL M) (d0 : List UInt8) (r : Bool) (hF : print_Word n d0 = some r) : Ok Tryz.prog M 83 [S d0] (fun _ v => v = .bool r) := by
 unfold print_Word at hF
 intro M1 hM0 w0 H w p0
 replace hG := GL.mono hM0 hG
 refine R_enter 10 Tryz.func83 rfl rfl (by simp) fun a0 f0 => ?_
 refine R_seq (R_reg ?_)
 refine Y19 f0 1 fun _ f => ?_
 refine W_end rfl (T_n (R_seq (R_reg ?_)))
 refine Y19 f 4 fun _ f => ?_
 rcases bE (decide ((d0.length : Int) ≤ 64)) with h_1 | h_1
 ·have k_1 : (d0.length : Int) ≤ 64 := dI.1 h_1
  have hF_1 := cnd_t h_1 hF
  have f := Frm.set f 6 (v := .bool (decide ((d0.length : Int) ≤ 64))) (v' := .bool true) (by kernel_rfl) (cB h_1)
  refine Y19 f 1 fun _ f => ?_
  obtain ⟨x_1, hx_1, hF_2⟩ := bS hF_1
  refine Y18 f p0 (runes_Valid_ok n _ hG d0 x_1 hx_1) fun w_1 p_1 _ f => ?_
  refine Y19 f 2 fun _ f => ?_
  refine W_end rfl (T_n (wp_ret ?_))
  refine E_ret1 f rfl (by kernel_rfl : Vc.look _ 2 = some (.bool x_1)) ?_
  obtain rfl := sI hF_2
  exact ⟨_, rfl, M1, (mR _), p_1, rfl⟩
 ·have k_2 : ¬ ((d0.length : Int) ≤ 64) := iff_f dI h_1
  have hF_3 := cnd_f h_1 hF
  have f := Frm.set f 6 (v := .bool (decide ((d0.length : Int) ≤ 64))) (v' := .bool false) (by kernel_rfl) (cB h_1)
  refine Y19 f 4 fun _ f => ?_
  refine W_end rfl (T_n (wp_ret ?_))
  refine E_ret1 f rfl (by kernel_rfl : Vc.look _ 2 = some (.bool false)) ?_
  obtain rfl := sI hF_3
  exact ⟨_, rfl, M1, (mR _), p0, rfl⟩
end Go.Proofs.YtalifkcchfkgmaaGreatDoor
end

section
set_option linter.unusedVariables false
set_option linter.unusedSimpArgs false
namespace Go.Proofs.YtalifkcchfkgmaaGreatDoor
open Go Go.Vc Go.RowKit
def schema_value_1_2 (n : Nat) (rec_schema_value : T_api_Value → Int → Option Bool) (d0 : T_api_Value) : Option Bool :=
  (rec_schema_value d0 (3 : Int)).bind fun x_1 =>
  some ((!x_1))
theorem schema_value_1_2_ok (n : Nat) (rec_schema_value : T_api_Value → Int → Option Bool) (hrec_schema_value : ∀ (M : Mem) (hG : GL M) (ad0 : Addr) (c0 : List Value) (d0 : T_api_Value) (h0 : Rep M (emb_T_api_Value d0) c0) (q0 : ∀ j v, c0[j]? = some v → M.cell? (ad0.add j) = some v) (d1 : Int) (r : Bool) (hF : rec_schema_value d0 d1 = some r), Ok Tryz.prog M 55 [.pointer (some ad0), .int .i8 d1] (fun _ v => v = .bool r)) (M : Mem) (hG : GL M) (c0 : List Value) (d0 : T_api_Value) (h0 : Rep M (emb_T_api_Value d0) c0) (r : Bool) (hF : schema_value_1_2 n rec_schema_value d0 = some r) : Ok Tryz.prog M 85 [.agg c0.toArray] (fun _ v => v = .bool r) := by
 unfold schema_value_1_2 at hF
 intro M1 hM0 w0 H w p0
 replace hG := GL.mono hM0 hG
 replace h0 := Rep.mono hM0 _ _ h0
 obtain ⟨A_1, cap_1, A_2, cap_2, rfl, h_1, h_2⟩ := T_api_Value.opn h0
 refine R_enter 5 Tryz.func85 rfl rfl (by simp) fun a0 f0 => ?_
 refine R_seq (R_reg ?_)
 refine Y13 (cs := #[.int .i8 d0.fKind, .bool d0.fBool, .int .i64 d0.fNum, S d0.fText, .slice A_1 d0.fList.length cap_1, .slice A_2 d0.fKeys.length cap_2]) (T := 76) f0 p0 fun b_1 M_1 w_1 hM_1 hc_1 p_1 _ f => ?_
 have hc_2 := fz_box hc_1
 refine Y19 f 1 fun _ f => ?_
 refine W_end rfl (T_n (R_seq (R_reg ?_)))
 obtain ⟨x_1, hx_1, hF_1⟩ := bS hF
 refine Y18 f p_1 (hrec_schema_value _ (GL.mono hM_1 hG) (⟨b_1, 0, none⟩) [.int .i8 d0.fKind, .bool d0.fBool, .int .i64 d0.fNum, S d0.fText, .slice A_1 d0.fList.length cap_1, .slice A_2 d0.fKeys.length cap_2] d0 (T_api_Value.shutx (x := d0) (h_1.mono hM_1) (h_2.mono hM_1)) (fz_at (hc_2) 0 rfl) (3 : Int) x_1 hx_1) fun w_2 p_2 _ f => ?_
 refine Y19 f 2 fun _ f => ?_
 refine W_end rfl (T_n (wp_ret ?_))
 refine E_ret1 f rfl (by kernel_rfl : Vc.look _ 2 = some (.bool !x_1)) ?_
 obtain rfl := sI hF_1
 exact ⟨_, rfl, M_1, hM_1, p_2, rfl⟩
def slices_IndexFuncapi_Value_api_Value_2_s1 (n : Nat) (rec_schema_value : T_api_Value → Int → Option Bool) (d0 : List T_api_Value) (s_1 : Int) : Option (Lp Int (Sum Int Unit)) :=
    bif (decide (s_1 < ((d0.length : Nat) : Int))) then
      ((getI d0 s_1).bind fun x_1 =>
      (schema_value_1_2 n rec_schema_value x_1).bind fun x_2 =>
      bif x_2 then
        (some (.br (.inl s_1)))
      else
        need (inR .i64 (s_1 + 1)) <|
        some (.nx (s_1 + 1)))
    else
      some (.br (.inr ()))
def slices_IndexFuncapi_Value_api_Value_2 (n : Nat) (rec_schema_value : T_api_Value → Int → Option Bool) (d0 : List T_api_Value) : Option Int :=
  (loopF (slices_IndexFuncapi_Value_api_Value_2_s1 n rec_schema_value d0) n (0 : Int)).bind fun b_1 =>
  (match b_1 with 
  | .inl y_1 => some (y_1) 
  | .inr y_2 => some ((-1 : Int)))
set_option maxHeartbeats 2000000 in
theorem slices_IndexFuncapi_Value_api_Value_2_ok (n : Nat) (rec_schema_value : T_api_Value → Int → Option Bool) (hrec_schema_value : ∀ (M : Mem) (hG : GL M) (ad0 : Addr) (c0 : List Value) (d0 : T_api_Value) (h0 : Rep M (emb_T_api_Value d0) c0) (q0 : ∀ j v, c0[j]? = some v → M.cell? (ad0.add j) = some v) (d1 : Int) (r : Bool) (hF : rec_schema_value d0 d1 = some r), Ok Tryz.prog M 55 [.pointer (some ad0), .int .i8 d1] (fun _ v => v = .bool r)) (M : Mem) (hG : GL M) (A0 : Option Addr) (cap0 : Nat) (d0 : List T_api_Value) (h0 : Sli M 6 emb_T_api_Value A0 cap0 d0) (r : Int) (hF : slices_IndexFuncapi_Value_api_Value_2 n rec_schema_value d0 = some r) : Ok Tryz.prog M 106 [.slice A0 d0.length cap0, .func (.func 85) #[] #[]] (fun _ v => v = .int .i64 r) := by
 unfold slices_IndexFuncapi_Value_api_Value_2 at hF
 intro M1 hM0 w0 H w p0
 replace hG := GL.mono hM0 hG
 replace h0 := h0.mono hM0
 refine R_enter 19 Tryz.func106 rfl rfl (by simp) fun a0 f0 => ?_
 refine R_seq (R_reg ?_)
 refine Y19 f0 1 fun _ f => ?_
 refine W_end rfl (T_n (R_seq (R_seq (R_reg ?_))))
 refine Y19 f 3 fun _ f => ?_
 refine W_end rfl (T_n (wp_block ?_))
 obtain ⟨b_1, hL_1, hF_1⟩ := bS hF
 refine wp_mono (Q := fun e a w => (e = .ret ∧ (∃ y_1 : Int, b_1 = .inl y_1 ∧ ∃ M_2 : Mem, M1.le M_2 ∧ Frm 19 [(4, .int .i64 y_1)] a ∧ Hp w0 M_2 (H) w)) ∨ (e = .exit 0 ∧ (∃ y_2 : Unit, b_1 = .inr y_2 ∧ ∃ M_3 : Mem, M1.le M_3 ∧ Frm 19 [] a ∧ Hp w0 M_3 (H) w))) (R_loop (n := 19) (w0 := w0) (M := M1) (fun (x : Nat × Int) => match x with | (m_1, s_1) => [(0, .slice A0 d0.length cap0), (1, .func (.func 85) #[] #[]), (7, .int .i64 ((d0.length : Nat) : Int)), (8, .int .i64 s_1)]) (fun (x : Nat × Int) => match x with | (m_1, s_1) => (H)) (fun (x : Nat × Int) (MM : Mem) => match x with | (m_1, s_1) => loopF (slices_IndexFuncapi_Value_api_Value_2_s1 n rec_schema_value d0) m_1 s_1 = some b_1) (fun (x : Nat × Int) => match x with | (m_1, s_1) => m_1) (n, (0 : Int)) (f.keep (ks := [0, 1, 7, 8]) (by kernel_rfl)) p0 hL_1 ?_) ?_
 ·rintro ⟨m_1, s_1⟩ M_1 _ w_1 hM_1 I_1 f p_1
  have I_1L := I_1
  obtain ⟨m_2, r_1, rfl, hs_1, hn_1⟩ := loop_step I_1L
  unfold slices_IndexFuncapi_Value_api_Value_2_s1 at hs_1
  refine R_seq (R_reg ?_)
  refine Y19 f 1 fun _ f => ?_
  refine W_end rfl (T_n (R_seq ?_))
  refine Y6 f (b := decide (s_1 < ((d0.length : Nat) : Int))) (fun h_1 => ?_) fun h_1 => ?_
  ·have k_1 : s_1 < ((d0.length : Nat) : Int) := dI.1 h_1
   have hF_2 := cnd_t h_1 hs_1
   refine wp_skip (T_n (R_seq (wp_block (R_seq (R_reg ?_)))))
   refine Y19 f 2 fun _ f => ?_
   refine W_end rfl (T_n (R_seq (R_reg ?_)))
   refine Y19 f 3 fun _ f => ?_
   obtain ⟨x_1, hx_1, hF_3⟩ := bS hF_2
   obtain ⟨ad_1, c_1, e_1, hl_1, hr_1, hc_1⟩ := Sli.at_ (h0.mono hM_1) hx_1
   clear hl_1
   obtain ⟨A_1, cap_1, A_2, cap_2, rfl, h_2, h_3⟩ := T_api_Value.opn hr_1
   refine Y14 (v := .pointer (some (ad_1.add (s_1.toNat * 6)))) f (Y31 e_1 rfl (len := d0.length) (cap := cap0) (k := .i64) (i := s_1) (e := 76) (sz := 6) (getI_nn hx_1) (getI_lt hx_1)) fun _ f => ?_
   refine Y14 (v := .agg #[.int .i8 x_1.fKind, .bool x_1.fBool, .int .i64 x_1.fNum, S x_1.fText, .slice A_1 x_1.fList.length cap_1, .slice A_2 x_1.fKeys.length cap_2]) f (Y33 (cs := [.int .i8 x_1.fKind, .bool x_1.fBool, .int .i64 x_1.fNum, S x_1.fText, .slice A_1 x_1.fList.length cap_1, .slice A_2 x_1.fKeys.length cap_2]) rfl (ad := ad_1.add (s_1.toNat * 6)) (fun j v h => p_1.cell (hc_1 j v h))) fun _ f => ?_
   obtain ⟨x_2, hx_2, hF_4⟩ := bS hF_3
   refine Y18 f p_1 (schema_value_1_2_ok n rec_schema_value hrec_schema_value _ (GL.mono hM_1 hG) _ x_1 (T_api_Value.shutx (x := x_1) h_2 h_3) x_2 hx_2) fun w_2 p_2 _ f => ?_
   refine W_end rfl (T_n ?_)
   refine Y6 f (b := x_2) (fun h_4 => ?_) fun h_4 => ?_
   ·have hF_5 := cnd_t h_4 hF_4
    refine R_seq (R_reg ?_)
    refine Y19 f 2 fun _ f => ?_
    refine W_end rfl (T_n (wp_ret (B_r (T_r (T_r ?_)))))
    obtain rfl := sI hF_5
    exact .inl ⟨rfl, s_1, (sI hn_1).symm, M_1, hM_1, f.keep (ks := [4]) (by kernel_rfl), p_2⟩
   ·have hF_6 := cnd_f h_4 hF_4
    refine wp_skip (B_n (T_n (R_reg ?_)))
    obtain ⟨g_1, hF_7⟩ := nS hF_6
    refine Y19 f 1 fun _ f => ?_
    have f := Frm.set f 18 (v := .int .i64 (IntKind.wrap .i64 (s_1 + 1))) (v' := .int .i64 (s_1 + 1)) (by kernel_rfl) (congrArg (Value.int .i64) (inR_wrap g_1))
    refine Y19 f 1 fun _ f => ?_
    refine W_end rfl (T_n ?_)
    obtain rfl := sI hF_7
    exact ⟨⟨m_2, s_1 + 1⟩, Nat.lt_succ_self _, M_1, hM_1, hn_1, f.keep (ks := [0, 1, 7, 8]) (by kernel_rfl), p_2⟩
  ·have k_4 : ¬ (s_1 < ((d0.length : Nat) : Int)) := iff_f dI h_1
   have hF_8 := cnd_f h_1 hs_1
   refine wp_exit (T_x (T_x ?_))
   obtain rfl := sI hF_8
   exact .inr ⟨rfl, (), (sI hn_1).symm, M_1, hM_1, f.keep (ks := []) (by kernel_rfl), p_1⟩
 ·rintro _ _ w_5 (⟨rfl, y_1, rfl, M_2, hM_2, f, p_3⟩ | ⟨rfl, y_2, rfl, M_3, hM_3, f, p_4⟩)
  ·refine B_r (T_r ?_)
   refine E_ret1 f rfl (by kernel_rfl : Vc.look _ 4 = some (.int .i64 y_1)) ?_
   obtain rfl := sI hF_1
   exact ⟨_, rfl, M_2, hM_2, p_3, rfl⟩
  ·refine B_x (T_n (R_seq (R_reg ?_)))
   refine Y19 f 1 fun _ f => ?_
   refine W_end rfl (T_n (wp_ret ?_))
   refine E_ret1 f rfl (by kernel_rfl : Vc.look _ 4 = some (.int .i64 (-1))) ?_
   obtain rfl := sI hF_1
   exact ⟨_, rfl, M_3, hM_3, p_4, rfl⟩
def slices_ContainsFuncapi_Value_api_Value_2 (n : Nat) (rec_schema_value : T_api_Value → Int → Option Bool) (d0 : List T_api_Value) : Option Bool :=
  (slices_IndexFuncapi_Value_api_Value_2 n rec_schema_value d0).bind fun x_1 =>
  some ((decide ((0 : Int) ≤ x_1)))
theorem slices_ContainsFuncapi_Value_api_Value_2_ok (n : Nat) (rec_schema_value : T_api_Value → Int → Option Bool) (hrec_schema_value : ∀ (M : Mem) (hG : GL M) (ad0 : Addr) (c0 : List Value) (d0 : T_api_Value) (h0 : Rep M (emb_T_api_Value d0) c0) (q0 : ∀ j v, c0[j]? = some v → M.cell? (ad0.add j) = some v) (d1 : Int) (r : Bool) (hF : rec_schema_value d0 d1 = some r), Ok Tryz.prog M 55 [.pointer (some ad0), .int .i8 d1] (fun _ v => v = .bool r)) (M : Mem) (hG : GL M) (A0 : Option Addr) (cap0 : Nat) (d0 : List T_api_Value) (h0 : Sli M 6 emb_T_api_Value A0 cap0 d0) (r : Bool) (hF : slices_ContainsFuncapi_Value_api_Value_2 n rec_schema_value d0 = some r) : Ok Tryz.prog M 84 [.slice A0 d0.length cap0, .func (.func 85) #[] #[]] (fun _ v => v = .bool r) := by
 unfold slices_ContainsFuncapi_Value_api_Value_2 at hF
 intro M1 hM0 w0 H w p0
 replace hG := GL.mono hM0 hG
 replace h0 := h0.mono hM0
 refine R_enter 9 Tryz.func84 rfl rfl (by simp) fun a0 f0 => ?_
 refine R_seq (R_reg ?_)
 refine Y19 f0 1 fun _ f => ?_
 refine W_end rfl (T_n (R_seq (R_reg ?_)))
 refine Y19 f 2 fun _ f => ?_
 obtain ⟨x_1, hx_1, hF_1⟩ := bS hF
 refine Y18 f p0 (slices_IndexFuncapi_Value_api_Value_2_ok n rec_schema_value hrec_schema_value _ hG A0 cap0 d0 h0 x_1 hx_1) fun w_1 p_1 _ f => ?_
 refine Y19 f 2 fun _ f => ?_
 refine W_end rfl (T_n (wp_ret ?_))
 refine E_ret1 f rfl (by kernel_rfl : Vc.look _ 4 = some (.bool (decide ((0 : Int) ≤ x_1)))) ?_
 obtain rfl := sI hF_1
 exact ⟨_, rfl, M1, (mR _), p_1, rfl⟩
def schema_value_b (n : Nat) (rec_schema_value : T_api_Value → Int → Option Bool) (d0 : T_api_Value) (d1 : Int) : Option Bool :=
  ((bif (!(decide (d0.fKind = d1))) then
      (some ((true)))
    else
      (tree_Check n d0).bind fun x_1 =>
      some ((!(decide (x_1 = 0)))) : Option Bool)).bind fun y_1 =>
  bif y_1 then
    (some ((false)))
  else
    bif (decide (d1 = 3)) then
      ((print_Word n d0.fText).bind fun x_2 =>
      some ((x_2)))
    else
      bif (decide (d1 = 4)) then
        (bif (decide (((d0.fList.length : Nat) : Int) ≤ 8)) then
          ((slices_ContainsFuncapi_Value_api_Value_2 n rec_schema_value d0.fList).bind fun x_3 =>
          some ((!x_3)))
        else
          some ((false)))
      else
        some ((true))
set_option maxHeartbeats 2000000 in
theorem schema_value_b_ok (n : Nat) (rec_schema_value : T_api_Value → Int → Option Bool) (hrec_schema_value : ∀ (M : Mem) (hG : GL M) (ad0 : Addr) (c0 : List Value) (d0 : T_api_Value) (h0 : Rep M (emb_T_api_Value d0) c0) (q0 : ∀ j v, c0[j]? = some v → M.cell? (ad0.add j) = some v) (d1 : Int) (r : Bool) (hF : rec_schema_value d0 d1 = some r), Ok Tryz.prog M 55 [.pointer (some ad0), .int .i8 d1] (fun _ v => v = .bool r)) (M : Mem) (hG : GL M) (ad0 : Addr) (c0 : List Value) (d0 : T_api_Value) (h0 : Rep M (emb_T_api_Value d0) c0) (q0 : ∀ j v, c0[j]? = some v → M.cell? (ad0.add j) = some v) (d1 : Int) (r : Bool) (hF : schema_value_b n rec_schema_value d0 d1 = some r) : Ok Tryz.prog M 55 [.pointer (some ad0), .int .i8 d1] (fun _ v => v = .bool r) := by
 unfold schema_value_b at hF
 intro M1 hM0 w0 H w p0
 replace hG := GL.mono hM0 hG
 replace h0 := Rep.mono hM0 _ _ h0
 replace q0 := fun j v h => hM0.cell (q0 j v h)
 obtain ⟨A_1, cap_1, A_2, cap_2, rfl, h_1, h_2⟩ := T_api_Value.opn h0
 refine R_enter 42 Tryz.func55 rfl rfl (by simp) fun a0 f0 => ?_
 refine R_seq (R_reg ?_)
 refine Y19 f0 1 fun _ f => ?_
 refine W_end rfl (T_n (R_seq (R_seq ?_)))
 obtain ⟨j_1, hj_1, hF_1⟩ := bS hF
 refine R_mid (fun a_10 w_2 => ∃ y_1 : Bool, j_1 = y_1 ∧ ∃ M_1 : Mem, M1.le M_1 ∧ Frm 42 [(0, .pointer (some ad0)), (1, .int .i8 d1), (17, .bool y_1)] a_10 ∧ Hp w0 M_1 (H) w_2) ?_ ?_
 ·refine R_reg ?_
  refine Y19 f 3 fun _ f => ?_
  refine Y15 f p0 q0 0 rfl fun _ f => ?_
  refine Y19 f 3 fun _ f => ?_
  rcases bE (!(decide (d0.fKind = d1))) with h_3 | h_3
  ·have k_1 : ¬ (d0.fKind = d1) := (not_iff dI).1 h_3
   have hF_2 := cnd_t h_3 hj_1
   have f := Frm.set f 11 (v := .bool (!(decide (d0.fKind = d1)))) (v' := .bool true) (by kernel_rfl) (cB h_3)
   refine Y19 f 6 fun _ f => ?_
   refine W_end rfl (T_n ?_)
   exact ⟨(true), (sI hF_2).symm, M1, (mR _), f.keep (ks := [0, 1, 17]) (by kernel_rfl), p0⟩
  ·have k_2 : ¬ (¬ (d0.fKind = d1)) := iff_f (not_iff dI) h_3
   have hF_3 := cnd_f h_3 hj_1
   have f := Frm.set f 11 (v := .bool (!(decide (d0.fKind = d1)))) (v' := .bool false) (by kernel_rfl) (cB h_3)
   refine Y19 f 2 fun _ f => ?_
   refine Y14 (v := .agg #[.int .i8 d0.fKind, .bool d0.fBool, .int .i64 d0.fNum, S d0.fText, .slice A_1 d0.fList.length cap_1, .slice A_2 d0.fKeys.length cap_2]) f (Y33 (cs := [.int .i8 d0.fKind, .bool d0.fBool, .int .i64 d0.fNum, S d0.fText, .slice A_1 d0.fList.length cap_1, .slice A_2 d0.fKeys.length cap_2]) rfl (ad := ad0) (fun j v h => p0.cell (q0 j v h))) fun _ f => ?_
   obtain ⟨x_1, hx_1, hF_4⟩ := bS hF_3
   refine Y18 f p0 (tree_Check_ok n _ hG _ d0 (T_api_Value.shutx (x := d0) h_1 h_2) x_1 hx_1) fun w_1 p_1 _ f => ?_
   refine Y19 f 2 fun _ f => ?_
   refine W_end rfl (T_n ?_)
   exact ⟨(!(decide (x_1 = 0))), (sI hF_4).symm, M1, (mR _), f.keep (ks := [0, 1, 17]) (by kernel_rfl), p_1⟩
 ·rintro a_10 w_2 ⟨y_1, hq_1, M_1, hM_1, f, p_2⟩
  subst j_1
  refine T_n ?_
  refine Y6 f (b := y_1) (fun h_4 => ?_) fun h_4 => ?_
  ·have hF_5 := cnd_t h_4 hF_1
   refine R_seq (R_reg ?_)
   refine Y19 f 1 fun _ f => ?_
   refine W_end rfl (T_n (wp_ret (T_r ?_)))
   refine E_ret1 f rfl (by kernel_rfl : Vc.look _ 4 = some (.bool false)) ?_
   obtain rfl := sI hF_5
   exact ⟨_, rfl, M_1, hM_1, p_2, rfl⟩
  ·have hF_6 := cnd_f h_4 hF_1
   refine wp_skip (T_n (R_seq (R_seq (R_reg ?_))))
   refine Y19 f 1 fun _ f => ?_
   refine W_end rfl (T_n (wp_block (R_seq (R_reg ?_))))
   refine Y19 f 2 fun _ f => ?_
   refine W_end rfl (T_n ?_)
   refine Y6 f (b := decide (d1 = 3)) (fun h_5 => ?_) fun h_5 => ?_
   ·have k_5 : d1 = 3 := dI.1 h_5
    have hF_7 := cnd_t h_5 hF_6
    refine R_seq (R_reg ?_)
    refine Y19 f 3 fun _ f => ?_
    refine Y15 f p_2 (fzu hM_1 q0) 3 rfl fun _ f => ?_
    obtain ⟨x_2, hx_2, hF_8⟩ := bS hF_7
    refine Y18 f p_2 (print_Word_ok n _ (GL.mono hM_1 hG) d0.fText x_2 hx_2) fun w_3 p_3 _ f => ?_
    refine Y19 f 1 fun _ f => ?_
    refine W_end rfl (T_n (wp_ret (B_r (T_r ?_))))
    refine E_ret1 f rfl (by kernel_rfl : Vc.look _ 4 = some (.bool x_2)) ?_
    obtain rfl := sI hF_8
    exact ⟨_, rfl, M_1, hM_1, p_3, rfl⟩
   ·have k_6 : ¬ (d1 = 3) := iff_f dI h_5
    have hF_9 := cnd_f h_5 hF_6
    refine R_seq (R_reg ?_)
    refine Y19 f 2 fun _ f => ?_
    refine W_end rfl (T_n ?_)
    refine Y6 f (b := decide (d1 = 4)) (fun h_6 => ?_) fun h_6 => ?_
    ·have k_7 : d1 = 4 := dI.1 h_6
     have hF_10 := cnd_t h_6 hF_9
     refine R_seq (R_reg ?_)
     refine Y19 f 3 fun _ f => ?_
     refine Y15 f p_2 (fzu hM_1 q0) 4 rfl fun _ f => ?_
     refine Y19 f 3 fun _ f => ?_
     rcases bE (decide (((d0.fList.length : Nat) : Int) ≤ 8)) with h_7 | h_7
     ·have k_8 : ((d0.fList.length : Nat) : Int) ≤ 8 := dI.1 h_7
      have hF_11 := cnd_t h_7 hF_10
      have f := Frm.set f 34 (v := .bool (decide (((d0.fList.length : Nat) : Int) ≤ 8))) (v' := .bool true) (by kernel_rfl) (cB h_7)
      refine Y19 f 3 fun _ f => ?_
      refine Y15 f p_2 (fzu hM_1 q0) 4 rfl fun _ f => ?_
      obtain ⟨x_3, hx_3, hF_12⟩ := bS hF_11
      refine Y18 f p_2 (slices_ContainsFuncapi_Value_api_Value_2_ok n rec_schema_value hrec_schema_value _ (GL.mono hM_1 hG) A_1 cap_1 d0.fList (h_1.mono hM_1) x_3 hx_3) fun w_4 p_4 _ f => ?_
      refine Y19 f 3 fun _ f => ?_
      refine W_end rfl (T_n (wp_ret (B_r (T_r ?_))))
      refine E_ret1 f rfl (by kernel_rfl : Vc.look _ 4 = some (.bool !x_3)) ?_
      obtain rfl := sI hF_12
      exact ⟨_, rfl, M_1, hM_1, p_4, rfl⟩
     ·have k_9 : ¬ (((d0.fList.length : Nat) : Int) ≤ 8) := iff_f dI h_7
      have hF_13 := cnd_f h_7 hF_10
      have f := Frm.set f 34 (v := .bool (decide (((d0.fList.length : Nat) : Int) ≤ 8))) (v' := .bool false) (by kernel_rfl) (cB h_7)
      refine Y19 f 8 fun _ f => ?_
      refine W_end rfl (T_n (wp_ret (B_r (T_r ?_))))
      refine E_ret1 f rfl (by kernel_rfl : Vc.look _ 4 = some (.bool false)) ?_
      obtain rfl := sI hF_13
      exact ⟨_, rfl, M_1, hM_1, p_2, rfl⟩
    ·have k_10 : ¬ (d1 = 4) := iff_f dI h_6
     have hF_14 := cnd_f h_6 hF_9
     refine wp_skip (B_n (T_n (R_seq (R_reg ?_))))
     refine Y19 f 1 fun _ f => ?_
     refine W_end rfl (T_n (wp_ret ?_))
     refine E_ret1 f rfl (by kernel_rfl : Vc.look _ 4 = some (.bool true)) ?_
     obtain rfl := sI hF_14
     exact ⟨_, rfl, M_1, hM_1, p_2, rfl⟩
def schema_value_k (n : Nat) : Nat → T_api_Value → Int → Option Bool
  | 0 => fun _ _ => none
  | k + 1 => schema_value_b n (schema_value_k n k)
def schema_value (n : Nat) (d0 : T_api_Value) (d1 : Int) : Option Bool := schema_value_k n n d0 d1
theorem schema_value_ok (n : Nat) (M : Mem) (hG : GL M) (ad0 : Addr) (c0 : List Value) (d0 : T_api_Value) (h0 : Rep M (emb_T_api_Value d0) c0) (q0 : ∀ j v, c0[j]? = some v → M.cell? (ad0.add j) = some v) (d1 : Int) (r : Bool) (hF : schema_value n d0 d1 = some r) : Ok Tryz.prog M 55 [.pointer (some ad0), .int .i8 d1] (fun _ v => v = .bool r) := by
 have key : ∀ (k : Nat) (M : Mem) (hG : GL M) (ad0 : Addr) (c0 : List Value) (d0 : T_api_Value) (h0 : Rep M (emb_T_api_Value d0) c0) (q0 : ∀ j v, c0[j]? = some v → M.cell? (ad0.add j) = some v) (d1 : Int) (r : Bool) (hF : schema_value_k n k d0 d1 = some r), Ok Tryz.prog M 55 [.pointer (some ad0), .int .i8 d1] (fun _ v => v = .bool r) := by
  intro k
  induction k with
  | zero => intro M hG ad0 c0 d0 h0 q0 d1 r hF; simp [schema_value_k] at hF
  | succ k ih => intro M hG ad0 c0 d0 h0 q0 d1 r hF; exact schema_value_b_ok n (schema_value_k n k) ih M hG ad0 c0 d0 h0 q0 d1 r hF
 exact key n M hG ad0 c0 d0 h0 q0 d1 r hF
def schema_empty (n : Nat) (d0 : T_api_Value) : Option Bool :=
  bif (decide (d0.fKind = 0)) then
    ((tree_Check n d0).bind fun x_1 =>
    some ((decide (x_1 = 0))))
  else
    some ((false))
set_option maxHeartbeats 2000000 in
theorem schema_empty_ok (n : Nat) (M : Mem) (hG : GL M) (ad0 : Addr) (c0 : List Value) (d0 : T_api_Value) (h0 : Rep M (emb_T_api_Value d0) c0) (q0 : ∀ j v, c0[j]? = some v → M.cell? (ad0.add j) = some v) (r : Bool) (hF : schema_empty n d0 = some r) : Ok Tryz.prog M 56 [.pointer (some ad0)] (fun _ v => v = .bool r) := by
 unfold schema_empty at hF
 intro M1 hM0 w0 H w p0
 replace hG := GL.mono hM0 hG
 replace h0 := Rep.mono hM0 _ _ h0
 replace q0 := fun j v h => hM0.cell (q0 j v h)
 obtain ⟨A_1, cap_1, A_2, cap_2, rfl, h_1, h_2⟩ := T_api_Value.opn h0
 refine R_enter 15 Tryz.func56 rfl rfl (by simp) fun a0 f0 => ?_
 refine R_seq (R_reg ?_)
 refine Y19 f0 1 fun _ f => ?_
 refine W_end rfl (T_n (R_seq (R_reg ?_)))
 refine Y19 f 3 fun _ f => ?_
 refine Y15 f p0 q0 0 rfl fun _ f => ?_
 refine Y19 f 2 fun _ f => ?_
 rcases bE (decide (d0.fKind = 0)) with h_3 | h_3
 ·have k_1 : d0.fKind = 0 := dI.1 h_3
  have hF_1 := cnd_t h_3 hF
  have f := Frm.set f 8 (v := .bool (decide (d0.fKind = 0))) (v' := .bool true) (by kernel_rfl) (cB h_3)
  refine Y19 f 2 fun _ f => ?_
  refine Y14 (v := .agg #[.int .i8 d0.fKind, .bool d0.fBool, .int .i64 d0.fNum, S d0.fText, .slice A_1 d0.fList.length cap_1, .slice A_2 d0.fKeys.length cap_2]) f (Y33 (cs := [.int .i8 d0.fKind, .bool d0.fBool, .int .i64 d0.fNum, S d0.fText, .slice A_1 d0.fList.length cap_1, .slice A_2 d0.fKeys.length cap_2]) rfl (ad := ad0) (fun j v h => p0.cell (q0 j v h))) fun _ f => ?_
  obtain ⟨x_1, hx_1, hF_2⟩ := bS hF_1
  refine Y18 f p0 (tree_Check_ok n _ hG _ d0 (T_api_Value.shutx (x := d0) h_1 h_2) x_1 hx_1) fun w_1 p_1 _ f => ?_
  refine Y19 f 3 fun _ f => ?_
  refine W_end rfl (T_n (wp_ret ?_))
  refine E_ret1 f rfl (by kernel_rfl : Vc.look _ 2 = some (.bool (decide (x_1 = 0)))) ?_
  obtain rfl := sI hF_2
  exact ⟨_, rfl, M1, (mR _), p_1, rfl⟩
 ·have k_2 : ¬ (d0.fKind = 0) := iff_f dI h_3
  have hF_3 := cnd_f h_3 hF
  have f := Frm.set f 8 (v := .bool (decide (d0.fKind = 0))) (v' := .bool false) (by kernel_rfl) (cB h_3)
  refine Y19 f 7 fun _ f => ?_
  refine W_end rfl (T_n (wp_ret ?_))
  refine E_ret1 f rfl (by kernel_rfl : Vc.look _ 2 = some (.bool false)) ?_
  obtain rfl := sI hF_3
  exact ⟨_, rfl, M1, (mR _), p0, rfl⟩
def schema_Check_s1 (n : Nat) (d0 : List UInt8) (d1 : List T_api_Given) (s_1 : Int) : Option (Lp Int (Sum Unit Unit)) :=
    bif (decide (s_1 < ((d1.length : Nat) : Int))) then
      ((getI d1 s_1).bind fun x_1 =>
      (schema_Find n d0 x_1.fName).bind fun x_2 =>
      (schema_value n x_1.fV x_2.1.fKind).bind fun x_3 =>
      ((bif x_1.fUnknown then
          (bif (!(decide (x_2.1.fKind = 2))) then
            ((schema_empty n x_1.fV).bind fun x_4 =>
            some ((x_4)))
          else
            some ((false)))
        else
          some ((x_3)) : Option Bool)).bind fun y_1 =>
      bif !x_2.2 then
        (some (.br (.inl ())))
      else
        bif !y_1 then
          (some (.br (.inl ())))
        else
          bif (decide ((0 : Int) < s_1)) then
            (need (inR .i64 (s_1 - 1)) <|
            (getI d1 (s_1 - 1)).bind fun x_5 =>
            bif (Op.bytesLess x_1.fName x_5.fName || x_1.fName == x_5.fName) then
              (some (.br (.inl ())))
            else
              need (inR .i64 (s_1 + 1)) <|
              some (.nx (s_1 + 1)))
          else
            need (inR .i64 (s_1 + 1)) <|
            some (.nx (s_1 + 1)))
    else
      some (.br (.inr ()))
def schema_Check (n : Nat) (d0 : List UInt8) (d1 : List T_api_Given) : Option Int :=
  bif (!(kindIn d0)) then
    (some ((90 : Int)))
  else
    (loopF (schema_Check_s1 n d0 d1) n (0 : Int)).bind fun b_6 =>
    (match b_6 with 
    | .inl y_2 => some ((91 : Int)) 
    | .inr y_3 => some ((0 : Int)))
set_option maxHeartbeats 2000000 in
theorem schema_Check_ok (n : Nat) (M : Mem) (hG : GL M) (d0 : List UInt8) (A1 : Option Addr) (cap1 : Nat) (d1 : List T_api_Given) (h1 : Sli M 8 emb_T_api_Given A1 cap1 d1) (r : Int) (hF : schema_Check n d0 d1 = some r) : Ok Tryz.prog M 32 [S d0, .slice A1 d1.length cap1] (fun _ v => v = .int .i64 r) := by
 unfold schema_Check at hF
 intro M1 hM0 w0 H w p0
 replace hG := GL.mono hM0 hG
 replace h1 := h1.mono hM0
 refine R_enter 69 Tryz.func32 rfl rfl (by simp) fun a0 f0 => ?_
 refine R_seq (R_reg ?_)
 refine Y19 f0 1 fun _ f => ?_
 refine W_end rfl (T_n (R_seq (R_seq (R_reg ?_))))
 refine Y16 f p0 (all_ok _) fun _ M_1 w_1 hM_1 p_1 q_1 _ f => ?_
 obtain ⟨b_1, b_2, b_3, b_4, b_5, rfl, hA_1⟩ := q_1
 refine Y19 f 1 fun _ f => ?_
 refine Y14 (v := .tuple #[.map (blkOf b_2 b_3 b_4 b_5 d0), .bool (kindIn d0)]) f (X_all2 (k := d0) (kt := 9) (et := 90) hA_1 p_1 rfl (by kernel_rfl) (by kernel_rfl) (by kernel_rfl) (strKey (by kernel_rfl)) (by kernel_rfl)) fun _ f => ?_
 refine Y19 f 5 fun _ f => ?_
 refine W_end rfl (T_n (R_seq (R_reg ?_)))
 refine Y19 f 2 fun _ f => ?_
 refine W_end rfl (T_n ?_)
 refine Y6 f (b := !(kindIn d0)) (fun h_1 => ?_) fun h_1 => ?_
 ·have k_1 : (kindIn d0) = false := by simpa using h_1
  have hF_1 := cnd_t h_1 hF
  refine R_seq (R_reg ?_)
  refine Y19 f 1 fun _ f => ?_
  refine W_end rfl (T_n (wp_ret (T_r ?_)))
  refine E_ret1 f rfl (by kernel_rfl : Vc.look _ 4 = some (.int .i64 90)) ?_
  obtain rfl := sI hF_1
  exact ⟨_, rfl, M_1, hM_1, p_1, rfl⟩
 ·have k_2 : (kindIn d0) = true := by simpa using h_1
  have hF_2 := cnd_f h_1 hF
  refine wp_skip (T_n (R_seq (R_seq (R_reg ?_))))
  refine Y19 f 3 fun _ f => ?_
  refine W_end rfl (T_n (wp_block ?_))
  obtain ⟨b_6, hL_1, hF_3⟩ := bS hF_2
  refine wp_mono (Q := fun e a w => (e = .ret ∧ (∃ y_2 : Unit, b_6 = .inl y_2 ∧ ∃ M_6 : Mem, M_1.le M_6 ∧ Frm 69 [(4, .int .i64 91)] a ∧ Hp w0 M_6 (H) w)) ∨ (e = .exit 0 ∧ (∃ y_3 : Unit, b_6 = .inr y_3 ∧ ∃ M_7 : Mem, M_1.le M_7 ∧ Frm 69 [] a ∧ Hp w0 M_7 (H) w))) (R_loop (n := 69) (w0 := w0) (M := M_1) (fun (x : Nat × Int) => match x with | (m_1, s_1) => [(0, S d0), (1, .slice A1 d1.length cap1), (20, .slice A1 d1.length cap1), (21, .int .i64 ((d1.length : Nat) : Int)), (22, .int .i64 s_1)]) (fun (x : Nat × Int) => match x with | (m_1, s_1) => (H)) (fun (x : Nat × Int) (MM : Mem) => match x with | (m_1, s_1) => loopF (schema_Check_s1 n d0 d1) m_1 s_1 = some b_6) (fun (x : Nat × Int) => match x with | (m_1, s_1) => m_1) (n, (0 : Int)) (f.keep (ks := [0, 1, 20, 21, 22]) (by kernel_rfl)) p_1 hL_1 ?_) ?_
  ·rintro ⟨m_1, s_1⟩ M_2 _ w_2 hM_2 I_1 f p_2
   have I_1L := I_1
   obtain ⟨m_2, r_1, rfl, hs_1, hn_1⟩ := loop_step I_1L
   unfold schema_Check_s1 at hs_1
   refine R_seq (R_reg ?_)
   refine Y19 f 1 fun _ f => ?_
   refine W_end rfl (T_n (R_seq ?_))
   refine Y6 f (b := decide (s_1 < ((d1.length : Nat) : Int))) (fun h_2 => ?_) fun h_2 => ?_
   ·have k_3 : s_1 < ((d1.length : Nat) : Int) := dI.1 h_2
    have hF_4 := cnd_t h_2 hs_1
    refine wp_skip (T_n (R_seq (wp_block (R_seq (R_reg ?_)))))
    refine Y19 f 1 fun _ f => ?_
    obtain ⟨x_1, hx_1, hF_5⟩ := bS hF_4
    obtain ⟨ad_1, c_1, e_1, hl_1, hr_1, hc_1⟩ := Sli.at_ (h1.mono (hM_1.trans hM_2)) hx_1
    clear hl_1
    obtain ⟨A_1, cap_1, A_2, cap_2, rfl, h_3, h_4⟩ := T_api_Given.opn hr_1
    refine Y14 (v := .pointer (some (ad_1.add (s_1.toNat * 8)))) f (Y31 e_1 rfl (len := d1.length) (cap := cap1) (k := .i64) (i := s_1) (e := 78) (sz := 8) (getI_nn hx_1) (getI_lt hx_1)) fun _ f => ?_
    refine Y14 (v := .agg #[S x_1.fName, .bool x_1.fUnknown, .int .i8 x_1.fV.fKind, .bool x_1.fV.fBool, .int .i64 x_1.fV.fNum, S x_1.fV.fText, .slice A_1 x_1.fV.fList.length cap_1, .slice A_2 x_1.fV.fKeys.length cap_2]) f (Y33 (cs := [S x_1.fName, .bool x_1.fUnknown, .int .i8 x_1.fV.fKind, .bool x_1.fV.fBool, .int .i64 x_1.fV.fNum, S x_1.fV.fText, .slice A_1 x_1.fV.fList.length cap_1, .slice A_2 x_1.fV.fKeys.length cap_2]) rfl (ad := ad_1.add (s_1.toNat * 8)) (fun j v h => p_2.cell (hc_1 j v h))) fun _ f => ?_
    refine Y12 f p_2 (.cells #[S [], .bool false, .int .i8 0, .bool false, .int .i64 0, S [], .slice none 0 0, .slice none 0 0] 78 (0, 0)) fun b_7 w_3 p_3 _ f => ?_
    refine Y19 f 1 fun _ f => ?_
    refine Y27 (vs := [S x_1.fName, .bool x_1.fUnknown, .int .i8 x_1.fV.fKind, .bool x_1.fV.fBool, .int .i64 x_1.fV.fNum, S x_1.fV.fText, .slice A_1 x_1.fV.fList.length cap_1, .slice A_2 x_1.fV.fKeys.length cap_2]) (j := 0) f p_3 rfl rfl (by simp [Value.oneCell', S]) (by simp) (by decide) (cs' := #[S x_1.fName, .bool x_1.fUnknown, .int .i8 x_1.fV.fKind, .bool x_1.fV.fBool, .int .i64 x_1.fV.fNum, S x_1.fV.fText, .slice A_1 x_1.fV.fList.length cap_1, .slice A_2 x_1.fV.fKeys.length cap_2]) fun w_4 p_4 _ f => ?_
    refine W_end rfl (T_n (R_seq (R_reg ?_)))
    refine Y19 f 2 fun _ f => ?_
    refine Y14 (v := S x_1.fName) f (Y32 (v := S x_1.fName) rfl (ad := ⟨b_7, 0, none⟩) (p_4.ownCell 0 rfl 0)) fun _ f => ?_
    obtain ⟨x_2, hx_2, hF_6⟩ := bS hF_5
    refine Y16 f p_4 (schema_Find_ok n _ (GL.mono (hM_1.trans hM_2) hG) d0 x_1.fName x_2 hx_2) fun _ M_3 w_5 hM_3 p_5 q_2 _ f => ?_
    obtain ⟨c_2, rfl, hr_2⟩ := q_2
    obtain rfl := T_api_Spec.opn hr_2
    refine Y19 f 3 fun _ f => ?_
    refine Y12 f p_5 (.cells #[S [], .int .i8 0, .bool false] 64 (0, 0)) fun b_8 w_6 p_6 _ f => ?_
    refine Y27 (vs := [S x_2.1.fName, .int .i8 x_2.1.fKind, .bool x_2.1.fReplace]) (j := 0) f p_6 rfl rfl (by simp [Value.oneCell', S]) (by simp) (by decide) (cs' := #[S x_2.1.fName, .int .i8 x_2.1.fKind, .bool x_2.1.fReplace]) fun w_7 p_7 _ f => ?_
    refine Y19 f 1 fun _ f => ?_
    refine W_end rfl (T_n (R_seq (R_reg ?_)))
    refine Y19 f 2 fun _ f => ?_
    refine Y14 (v := .int .i8 x_2.1.fKind) f (Y32 (v := .int .i8 x_2.1.fKind) rfl (ad := ⟨b_8, 1, none⟩) (p_7.ownCell 0 rfl 1)) fun _ f => ?_
    have p_8 := p_7.pl [1]
    obtain ⟨M_4, hM_4, p_9, hc_2⟩ := p_8.fzOwn
    obtain ⟨x_3, hx_3, hF_7⟩ := bS hF_6
    refine Y18 f p_9 (schema_value_ok n _ (GL.mono (((hM_1.trans hM_2).trans hM_3).trans hM_4) hG) (⟨b_7, 2, none⟩) [.int .i8 x_1.fV.fKind, .bool x_1.fV.fBool, .int .i64 x_1.fV.fNum, S x_1.fV.fText, .slice A_1 x_1.fV.fList.length cap_1, .slice A_2 x_1.fV.fKeys.length cap_2] x_1.fV (T_api_Value.shutx (x := x_1.fV) (h_3.mono (hM_3.trans hM_4)) (h_4.mono (hM_3.trans hM_4))) (fz_at (hc_2) 2 rfl) x_2.1.fKind x_3 hx_3) fun w_8 p_10 _ f => ?_
    refine Y19 f 1 fun _ f => ?_
    refine W_end rfl (T_n (R_seq (R_seq (R_reg ?_))))
    refine Y19 f 1 fun _ f => ?_
    refine Y15 f p_10 hc_2 1 rfl fun _ f => ?_
    refine W_end rfl (T_n ?_)
    obtain ⟨j_1, hj_1, hF_8⟩ := bS hF_7
    refine R_mid (fun a_37 w_10 => ∃ y_1 : Bool, j_1 = y_1 ∧ ∃ M_5 : Mem, M_4.le M_5 ∧ Frm 69 [(0, S d0), (1, .slice A1 d1.length cap1), (7, .int .i64 s_1), (8, .pointer (some (⟨b_7, 0, none⟩))), (10, .bool x_2.2), (11, .bool y_1), (20, .slice A1 d1.length cap1), (21, .int .i64 ((d1.length : Nat) : Int)), (22, .int .i64 s_1)] a_37 ∧ Hp w0 M_5 ((Ent.obj b_8 (.cells #[S x_2.1.fName, .int .i8 x_2.1.fKind, .bool x_2.1.fReplace] 64 (0, 0))) :: H) w_10) ?_ ?_
    ·refine Y6 f (b := x_1.fUnknown) (fun h_5 => ?_) fun h_5 => ?_
     ·have hF_9 := cnd_t h_5 hj_1
      refine R_reg ?_
      refine Y19 f 1 fun _ f => ?_
      refine Y14 (v := .int .i8 x_2.1.fKind) f (Y32 (v := .int .i8 x_2.1.fKind) rfl (ad := ⟨b_8, 1, none⟩) (p_10.ownCell 0 rfl 1)) fun _ f => ?_
      refine Y19 f 2 fun _ f => ?_
      rcases bE (!(decide (x_2.1.fKind = 2))) with h_6 | h_6
      ·have k_5 : ¬ (x_2.1.fKind = 2) := (not_iff dI).1 h_6
       have hF_10 := cnd_t h_6 hF_9
       have f := Frm.set f 43 (v := .bool (!(decide (x_2.1.fKind = 2)))) (v' := .bool true) (by kernel_rfl) (cB h_6)
       refine Y19 f 1 fun _ f => ?_
       obtain ⟨x_4, hx_4, hF_11⟩ := bS hF_10
       refine Y18 f p_10 (schema_empty_ok n _ (GL.mono (((hM_1.trans hM_2).trans hM_3).trans hM_4) hG) ((⟨b_7, 0, none⟩ : Addr).add 2) [.int .i8 x_1.fV.fKind, .bool x_1.fV.fBool, .int .i64 x_1.fV.fNum, S x_1.fV.fText, .slice A_1 x_1.fV.fList.length cap_1, .slice A_2 x_1.fV.fKeys.length cap_2] x_1.fV (T_api_Value.shutx (x := x_1.fV) (h_3.mono (hM_3.trans hM_4)) (h_4.mono (hM_3.trans hM_4))) (fz_at (hc_2) 2 rfl) x_4 hx_4) fun w_9 p_11 _ f => ?_
       refine Y19 f 2 fun _ f => ?_
       refine W_end rfl (T_n ?_)
       exact ⟨(x_4), (sI hF_11).symm, M_4, (mR _), f.keep (ks := [0, 1, 7, 8, 10, 11, 20, 21, 22]) (by kernel_rfl), p_11⟩
      ·have k_6 : ¬ (¬ (x_2.1.fKind = 2)) := iff_f (not_iff dI) h_6
       have hF_12 := cnd_f h_6 hF_9
       have f := Frm.set f 43 (v := .bool (!(decide (x_2.1.fKind = 2)))) (v' := .bool false) (by kernel_rfl) (cB h_6)
       refine Y19 f 4 fun _ f => ?_
       refine W_end rfl (T_n ?_)
       exact ⟨(false), (sI hF_12).symm, M_4, (mR _), f.keep (ks := [0, 1, 7, 8, 10, 11, 20, 21, 22]) (by kernel_rfl), p_10⟩
     ·have hF_13 := cnd_f h_5 hj_1
      refine wp_skip (T_n ?_)
      exact ⟨(x_3), (sI hF_13).symm, M_4, (mR _), f.keep (ks := [0, 1, 7, 8, 10, 11, 20, 21, 22]) (by kernel_rfl), p_10⟩
    ·rintro a_37 w_10 ⟨y_1, hq_1, M_5, hM_5, f, p_12⟩
     subst j_1
     refine T_n (R_seq ?_)
     refine R_draw p_12 (by kernel_rfl) (by kernel_rfl) ?_
     refine Y5 default f 3 fun _ f => ?_
     rcases bE (!x_2.2) with h_7 | h_7
     ·have k_8 : (x_2.2) = false := by simpa using h_7
      have hF_14 := cnd_t h_7 hF_8
      have f := Frm.set f 49 (v := .bool !x_2.2) (v' := .bool true) (by kernel_rfl) (cB h_7)
      refine Y5 default f 18 fun _ f => ?_
      refine Q_end rfl ?_
      intro w_11 p_13
      refine T_n ?_
      refine Y8 f ?_
      refine R_seq (R_reg ?_)
      refine Y19 f 1 fun _ f => ?_
      refine W_end rfl (T_n (wp_ret (B_r (T_r (T_r ?_)))))
      obtain rfl := sI hF_14
      exact .inl ⟨rfl, (), (sI hn_1).symm, M_5, (((hM_2.trans hM_3).trans hM_4).trans hM_5), f.keep (ks := [4]) (by kernel_rfl), (p_13.dropN 1)⟩
     ·have k_9 : (x_2.2) = true := by simpa using h_7
      have hF_15 := cnd_f h_7 hF_8
      have f := Frm.set f 49 (v := .bool !x_2.2) (v' := .bool false) (by kernel_rfl) (cB h_7)
      refine Y5 default f 4 fun _ f => ?_
      rcases bE (!y_1) with h_8 | h_8
      ·have k_10 : (y_1) = false := by simpa using h_8
       have hF_16 := cnd_t h_8 hF_15
       have f := Frm.set f 53 (v := .bool !y_1) (v' := .bool true) (by kernel_rfl) (cB h_8)
       refine Y5 default f 14 fun _ f => ?_
       refine Q_end rfl ?_
       intro w_12 p_14
       refine T_n ?_
       refine Y8 f ?_
       refine R_seq (R_reg ?_)
       refine Y19 f 1 fun _ f => ?_
       refine W_end rfl (T_n (wp_ret (B_r (T_r (T_r ?_)))))
       obtain rfl := sI hF_16
       exact .inl ⟨rfl, (), (sI hn_1).symm, M_5, (((hM_2.trans hM_3).trans hM_4).trans hM_5), f.keep (ks := [4]) (by kernel_rfl), (p_14.dropN 1)⟩
      ·have k_11 : (y_1) = true := by simpa using h_8
       have hF_17 := cnd_f h_8 hF_15
       have f := Frm.set f 53 (v := .bool !y_1) (v' := .bool false) (by kernel_rfl) (cB h_8)
       refine Y5 default f 3 fun _ f => ?_
       rcases bE (decide ((0 : Int) < s_1)) with h_9 | h_9
       ·have k_12 : (0 : Int) < s_1 := dI.1 h_9
        have hF_18 := cnd_t h_9 hF_17
        have f := Frm.set f 56 (v := .bool (decide ((0 : Int) < s_1))) (v' := .bool true) (by kernel_rfl) (cB h_9)
        refine Y5 default f 1 fun _ f => ?_
        refine Y4 f (fzu hM_5 hc_2) 0 rfl fun _ f => ?_
        refine Y5 default f 2 fun _ f => ?_
        obtain ⟨g_1, hF_19⟩ := nS hF_18
        refine Y2 (v := .int .i64 (IntKind.wrap .i64 (s_1 - 1))) f (fun _ pq => by kernel_rfl) fun _ f => ?_
        have f := Frm.set f 61 (v := .int .i64 (IntKind.wrap .i64 (s_1 - 1))) (v' := .int .i64 (s_1 - 1)) (by kernel_rfl) (congrArg (Value.int .i64) (inR_wrap g_1))
        obtain ⟨x_5, hx_5, hF_20⟩ := bS hF_19
        obtain ⟨ad_2, c_3, e_2, hl_2, hr_3, hc_3⟩ := Sli.at_ (h1.mono ((((hM_1.trans hM_2).trans hM_3).trans hM_4).trans hM_5)) hx_5
        clear hl_2
        obtain ⟨A_3, cap_3, A_4, cap_4, rfl, h_10, h_11⟩ := T_api_Given.opn hr_3
        refine Y2 (v := .pointer (some (ad_2.add ((s_1 - 1).toNat * 8)))) f (fun _ pq => Y31 e_2 rfl (len := d1.length) (cap := cap1) (k := .i64) (i := s_1 - 1) (e := 78) (sz := 8) (getI_nn hx_5) (getI_lt hx_5)) fun _ f => ?_
        refine Y5 default f 1 fun _ f => ?_
        refine Y4 f hc_3 0 rfl fun _ f => ?_
        refine Y2 (v := .bool (Op.bytesLess x_1.fName x_5.fName || x_1.fName == x_5.fName)) f (fun _ pq => X_strle rfl (l := x_1.fName) (m := x_5.fName) (by kernel_rfl) (by kernel_rfl)) fun _ f => ?_
        refine Y5 default f 2 fun _ f => ?_
        refine Q_end rfl ?_
        intro w_13 p_15
        refine T_n ?_
        refine Y6 f (b := Op.bytesLess x_1.fName x_5.fName || x_1.fName == x_5.fName) (fun h_12 => ?_) fun h_12 => ?_
        ·have hF_21 := cnd_t h_12 hF_20
         refine R_seq (R_reg ?_)
         refine Y19 f 1 fun _ f => ?_
         refine W_end rfl (T_n (wp_ret (B_r (T_r (T_r ?_)))))
         obtain rfl := sI hF_21
         exact .inl ⟨rfl, (), (sI hn_1).symm, M_5, (((hM_2.trans hM_3).trans hM_4).trans hM_5), f.keep (ks := [4]) (by kernel_rfl), (p_15.dropN 1)⟩
        ·have hF_22 := cnd_f h_12 hF_20
         refine wp_skip (B_n (T_n (R_reg ?_)))
         obtain ⟨g_2, hF_23⟩ := nS hF_22
         refine Y19 f 1 fun _ f => ?_
         have f := Frm.set f 68 (v := .int .i64 (IntKind.wrap .i64 (s_1 + 1))) (v' := .int .i64 (s_1 + 1)) (by kernel_rfl) (congrArg (Value.int .i64) (inR_wrap g_2))
         refine Y19 f 1 fun _ f => ?_
         refine W_end rfl (T_n ?_)
         obtain rfl := sI hF_23
         exact ⟨⟨m_2, s_1 + 1⟩, Nat.lt_succ_self _, M_5, (((hM_2.trans hM_3).trans hM_4).trans hM_5), hn_1, f.keep (ks := [0, 1, 20, 21, 22]) (by kernel_rfl), (p_15.dropN 1)⟩
       ·have k_15 : ¬ ((0 : Int) < s_1) := iff_f dI h_9
        have hF_24 := cnd_f h_9 hF_17
        have f := Frm.set f 56 (v := .bool (decide ((0 : Int) < s_1))) (v' := .bool false) (by kernel_rfl) (cB h_9)
        refine Y5 default f 11 fun _ f => ?_
        refine Q_end rfl ?_
        intro w_14 p_16
        refine T_n ?_
        refine Y7 f ?_
        refine wp_skip (B_n (T_n (R_reg ?_)))
        obtain ⟨g_3, hF_25⟩ := nS hF_24
        refine Y19 f 1 fun _ f => ?_
        have f := Frm.set f 68 (v := .int .i64 (IntKind.wrap .i64 (s_1 + 1))) (v' := .int .i64 (s_1 + 1)) (by kernel_rfl) (congrArg (Value.int .i64) (inR_wrap g_3))
        refine Y19 f 1 fun _ f => ?_
        refine W_end rfl (T_n ?_)
        obtain rfl := sI hF_25
        exact ⟨⟨m_2, s_1 + 1⟩, Nat.lt_succ_self _, M_5, (((hM_2.trans hM_3).trans hM_4).trans hM_5), hn_1, f.keep (ks := [0, 1, 20, 21, 22]) (by kernel_rfl), (p_16.dropN 1)⟩
   ·have k_16 : ¬ (s_1 < ((d1.length : Nat) : Int)) := iff_f dI h_2
    have hF_26 := cnd_f h_2 hs_1
    refine wp_exit (T_x (T_x ?_))
    obtain rfl := sI hF_26
    exact .inr ⟨rfl, (), (sI hn_1).symm, M_2, hM_2, f.keep (ks := []) (by kernel_rfl), p_2⟩
  ·rintro _ _ w_17 (⟨rfl, y_2, rfl, M_6, hM_6, f, p_17⟩ | ⟨rfl, y_3, rfl, M_7, hM_7, f, p_18⟩)
   ·refine B_r (T_r ?_)
    refine E_ret1 f rfl (by kernel_rfl : Vc.look _ 4 = some (.int .i64 91)) ?_
    obtain rfl := sI hF_3
    exact ⟨_, rfl, M_6, (hM_1.trans hM_6), p_17, rfl⟩
   ·refine B_x (T_n (R_seq (R_reg ?_)))
    refine Y19 f 1 fun _ f => ?_
    refine W_end rfl (T_n (wp_ret ?_))
    refine E_ret1 f rfl (by kernel_rfl : Vc.look _ 4 = some (.int .i64 0)) ?_
    obtain rfl := sI hF_3
    exact ⟨_, rfl, M_7, (hM_1.trans hM_7), p_18, rfl⟩
end Go.Proofs.YtalifkcchfkgmaaGreatDoor
end

section
set_option linter.unusedVariables false
set_option linter.unusedSimpArgs false
namespace Go.Proofs.YtalifkcchfkgmaaGreatDoor
open Go Go.Vc Go.RowKit
def cmp_isNaN (n : Nat) (d0 : Int) : Option Bool :=
  some ((false))
theorem cmp_isNaN_ok (n : Nat) (M : Mem) (d0 : Int) (r : Bool) (hF : cmp_isNaN n d0 = some r) : Ok Tryz.prog M 144 [.int .i8 d0] (fun _ v => v = .bool r) := by
 unfold cmp_isNaN at hF
 intro M1 hM0 w0 H w p0
 refine R_enter 6 Tryz.func144 rfl rfl (by simp) fun a0 f0 => ?_
 refine R_seq (R_reg ?_)
 refine Y19 f0 1 fun _ f => ?_
 refine W_end rfl (T_n (R_seq (R_reg ?_)))
 refine Y19 f 2 fun _ f => ?_
 refine Y19 f 1 fun _ f => ?_
 have f := Frm.set f 5 (v := .bool (!(decide (d0 = d0)))) (v' := .bool false) (by kernel_rfl) (cB (congrArg (!·) (decide_eq_true rfl)))
 refine Y19 f 1 fun _ f => ?_
 refine W_end rfl (T_n (wp_ret ?_))
 refine E_ret1 f rfl (by kernel_rfl : Vc.look _ 2 = some (.bool false)) ?_
 obtain rfl := sI hF
 exact ⟨_, rfl, M1, (mR _), p0, rfl⟩
def cmp_Compare (n : Nat) (d0 : Int) (d1 : Int) : Option Int :=
  (cmp_isNaN n d0).bind fun x_1 =>
  (cmp_isNaN n d1).bind fun x_2 =>
  bif x_1 then
    (bif x_2 then
      (some ((0 : Int)))
    else
      some ((-1 : Int)))
  else
    bif x_2 then
      (some ((1 : Int)))
    else
      bif (decide (d0 < d1)) then
        (some ((-1 : Int)))
      else
        bif (decide (d1 < d0)) then
          (some ((1 : Int)))
        else
          some ((0 : Int))
set_option maxHeartbeats 2000000 in
theorem cmp_Compare_ok (n : Nat) (M : Mem) (d0 : Int) (d1 : Int) (r : Int) (hF : cmp_Compare n d0 d1 = some r) : Ok Tryz.prog M 124 [.int .i8 d0, .int .i8 d1] (fun _ v => v = .int .i64 r) := by
 unfold cmp_Compare at hF
 intro M1 hM0 w0 H w p0
 refine R_enter 20 Tryz.func124 rfl rfl (by simp) fun a0 f0 => ?_
 refine R_seq (R_reg ?_)
 refine Y19 f0 1 fun _ f => ?_
 refine W_end rfl (T_n (R_seq (R_reg ?_)))
 refine Y19 f 1 fun _ f => ?_
 obtain ⟨x_1, hx_1, hF_1⟩ := bS hF
 refine Y18 f p0 (cmp_isNaN_ok n _ d0 x_1 hx_1) fun w_1 p_1 _ f => ?_
 refine Y19 f 1 fun _ f => ?_
 refine W_end rfl (T_n (R_seq (R_reg ?_)))
 refine Y19 f 1 fun _ f => ?_
 obtain ⟨x_2, hx_2, hF_2⟩ := bS hF_1
 refine Y18 f p_1 (cmp_isNaN_ok n _ d1 x_2 hx_2) fun w_2 p_2 _ f => ?_
 refine Y19 f 1 fun _ f => ?_
 refine W_end rfl (T_n (R_seq (R_seq (R_reg ?_))))
 refine Y19 f 1 fun _ f => ?_
 refine W_end rfl (T_n ?_)
 refine Y6 f (b := x_1) (fun h_1 => ?_) fun h_1 => ?_
 ·have hF_3 := cnd_t h_1 hF_2
  refine R_seq (R_seq (R_reg ?_))
  refine Y19 f 1 fun _ f => ?_
  refine W_end rfl (T_n ?_)
  refine Y6 f (b := x_2) (fun h_2 => ?_) fun h_2 => ?_
  ·have hF_4 := cnd_t h_2 hF_3
   refine R_seq (R_reg ?_)
   refine Y19 f 1 fun _ f => ?_
   refine W_end rfl (T_n (wp_ret (T_r (T_r ?_))))
   refine E_ret1 f rfl (by kernel_rfl : Vc.look _ 4 = some (.int .i64 0)) ?_
   obtain rfl := sI hF_4
   exact ⟨_, rfl, M1, (mR _), p_2, rfl⟩
  ·have hF_5 := cnd_f h_2 hF_3
   refine wp_skip (T_n (R_seq (R_reg ?_)))
   refine Y19 f 1 fun _ f => ?_
   refine W_end rfl (T_n (wp_ret (T_r ?_)))
   refine E_ret1 f rfl (by kernel_rfl : Vc.look _ 4 = some (.int .i64 (-1))) ?_
   obtain rfl := sI hF_5
   exact ⟨_, rfl, M1, (mR _), p_2, rfl⟩
 ·have hF_6 := cnd_f h_1 hF_2
  refine wp_skip (T_n (R_seq (R_seq (R_reg ?_))))
  refine Y19 f 1 fun _ f => ?_
  refine W_end rfl (T_n ?_)
  refine Y6 f (b := x_2) (fun h_3 => ?_) fun h_3 => ?_
  ·have hF_7 := cnd_t h_3 hF_6
   refine R_seq (R_reg ?_)
   refine Y19 f 1 fun _ f => ?_
   refine W_end rfl (T_n (wp_ret (T_r ?_)))
   refine E_ret1 f rfl (by kernel_rfl : Vc.look _ 4 = some (.int .i64 1)) ?_
   obtain rfl := sI hF_7
   exact ⟨_, rfl, M1, (mR _), p_2, rfl⟩
  ·have hF_8 := cnd_f h_3 hF_6
   refine wp_skip (T_n (R_seq (R_seq (R_reg ?_))))
   refine Y19 f 3 fun _ f => ?_
   refine W_end rfl (T_n ?_)
   refine Y6 f (b := decide (d0 < d1)) (fun h_4 => ?_) fun h_4 => ?_
   ·have k_7 : d0 < d1 := dI.1 h_4
    have hF_9 := cnd_t h_4 hF_8
    refine R_seq (R_reg ?_)
    refine Y19 f 1 fun _ f => ?_
    refine W_end rfl (T_n (wp_ret (T_r ?_)))
    refine E_ret1 f rfl (by kernel_rfl : Vc.look _ 4 = some (.int .i64 (-1))) ?_
    obtain rfl := sI hF_9
    exact ⟨_, rfl, M1, (mR _), p_2, rfl⟩
   ·have k_8 : ¬ (d0 < d1) := iff_f dI h_4
    have hF_10 := cnd_f h_4 hF_8
    refine wp_skip (T_n (R_seq (R_seq (R_reg ?_))))
    refine Y19 f 3 fun _ f => ?_
    refine W_end rfl (T_n ?_)
    refine Y6 f (b := decide (d1 < d0)) (fun h_5 => ?_) fun h_5 => ?_
    ·have k_9 : d1 < d0 := dI.1 h_5
     have hF_11 := cnd_t h_5 hF_10
     refine R_seq (R_reg ?_)
     refine Y19 f 1 fun _ f => ?_
     refine W_end rfl (T_n (wp_ret (T_r ?_)))
     refine E_ret1 f rfl (by kernel_rfl : Vc.look _ 4 = some (.int .i64 1)) ?_
     obtain rfl := sI hF_11
     exact ⟨_, rfl, M1, (mR _), p_2, rfl⟩
    ·have k_10 : ¬ (d1 < d0) := iff_f dI h_5
     have hF_12 := cnd_f h_5 hF_10
     refine wp_skip (T_n (R_seq (R_reg ?_)))
     refine Y19 f 1 fun _ f => ?_
     refine W_end rfl (T_n (wp_ret ?_))
     refine E_ret1 f rfl (by kernel_rfl : Vc.look _ 4 = some (.int .i64 0)) ?_
     obtain rfl := sI hF_12
     exact ⟨_, rfl, M1, (mR _), p_2, rfl⟩
end Go.Proofs.YtalifkcchfkgmaaGreatDoor
end

section
set_option linter.unusedVariables false
set_option linter.unusedSimpArgs false
namespace Go.Proofs.YtalifkcchfkgmaaGreatDoor
open Go Go.Vc Go.RowKit
def tree_bit (n : Nat) (d0 : Bool) : Option Int :=
  bif d0 then
    (some ((1 : Int)))
  else
    some ((0 : Int))
theorem tree_bit_ok (n : Nat) (M : Mem) (hG : GL M) (d0 : Bool) (r : Int) (hF : tree_bit n d0 = some r) : Ok Tryz.prog M 125 [.bool d0] (fun _ v => v = .int .i64 r) := by
 unfold tree_bit at hF
 intro M1 hM0 w0 H w p0
 replace hG := GL.mono hM0 hG
 refine R_enter 4 Tryz.func125 rfl rfl (by simp) fun a0 f0 => ?_
 refine R_seq (R_reg ?_)
 refine Y19 f0 1 fun _ f => ?_
 refine W_end rfl (T_n (R_seq (R_seq (R_reg ?_))))
 refine Y19 f 1 fun _ f => ?_
 refine W_end rfl (T_n ?_)
 refine Y6 f (b := d0) (fun h_1 => ?_) fun h_1 => ?_
 ·have hF_1 := cnd_t h_1 hF
  refine R_seq (R_reg ?_)
  refine Y19 f 1 fun _ f => ?_
  refine W_end rfl (T_n (wp_ret (T_r ?_)))
  refine E_ret1 f rfl (by kernel_rfl : Vc.look _ 2 = some (.int .i64 1)) ?_
  obtain rfl := sI hF_1
  exact ⟨_, rfl, M1, (mR _), p0, rfl⟩
 ·have hF_2 := cnd_f h_1 hF
  refine wp_skip (T_n (R_seq (R_reg ?_)))
  refine Y19 f 1 fun _ f => ?_
  refine W_end rfl (T_n (wp_ret ?_))
  refine E_ret1 f rfl (by kernel_rfl : Vc.look _ 2 = some (.int .i64 0)) ?_
  obtain rfl := sI hF_2
  exact ⟨_, rfl, M1, (mR _), p0, rfl⟩
def cmp_isNaN_2 (n : Nat) (d0 : Int) : Option Bool :=
  some ((false))
theorem cmp_isNaN_2_ok (n : Nat) (M : Mem) (hG : GL M) (d0 : Int) (r : Bool) (hF : cmp_isNaN_2 n d0 = some r) : Ok Tryz.prog M 145 [.int .i64 d0] (fun _ v => v = .bool r) := by
 unfold cmp_isNaN_2 at hF
 intro M1 hM0 w0 H w p0
 replace hG := GL.mono hM0 hG
 refine R_enter 6 Tryz.func145 rfl rfl (by simp) fun a0 f0 => ?_
 refine R_seq (R_reg ?_)
 refine Y19 f0 1 fun _ f => ?_
 refine W_end rfl (T_n (R_seq (R_reg ?_)))
 refine Y19 f 2 fun _ f => ?_
 refine Y19 f 1 fun _ f => ?_
 have f := Frm.set f 5 (v := .bool (!(decide (d0 = d0)))) (v' := .bool false) (by kernel_rfl) (cB (congrArg (!·) (decide_eq_true rfl)))
 refine Y19 f 1 fun _ f => ?_
 refine W_end rfl (T_n (wp_ret ?_))
 refine E_ret1 f rfl (by kernel_rfl : Vc.look _ 2 = some (.bool false)) ?_
 obtain rfl := sI hF
 exact ⟨_, rfl, M1, (mR _), p0, rfl⟩
def cmp_Compare_2 (n : Nat) (d0 : Int) (d1 : Int) : Option Int :=
  (cmp_isNaN_2 n d0).bind fun x_1 =>
  (cmp_isNaN_2 n d1).bind fun x_2 =>
  bif x_1 then
    (bif x_2 then
      (some ((0 : Int)))
    else
      some ((-1 : Int)))
  else
    bif x_2 then
      (some ((1 : Int)))
    else
      bif (decide (d0 < d1)) then
        (some ((-1 : Int)))
      else
        bif (decide (d1 < d0)) then
          (some ((1 : Int)))
        else
          some ((0 : Int))
set_option maxHeartbeats 2000000 in
theorem cmp_Compare_2_ok (n : Nat) (M : Mem) (hG : GL M) (d0 : Int) (d1 : Int) (r : Int) (hF : cmp_Compare_2 n d0 d1 = some r) : Ok Tryz.prog M 126 [.int .i64 d0, .int .i64 d1] (fun _ v => v = .int .i64 r) := by
 unfold cmp_Compare_2 at hF
 intro M1 hM0 w0 H w p0
 replace hG := GL.mono hM0 hG
 refine R_enter 20 Tryz.func126 rfl rfl (by simp) fun a0 f0 => ?_
 refine R_seq (R_reg ?_)
 refine Y19 f0 1 fun _ f => ?_
 refine W_end rfl (T_n (R_seq (R_reg ?_)))
 refine Y19 f 1 fun _ f => ?_
 obtain ⟨x_1, hx_1, hF_1⟩ := bS hF
 refine Y18 f p0 (cmp_isNaN_2_ok n _ hG d0 x_1 hx_1) fun w_1 p_1 _ f => ?_
 refine Y19 f 1 fun _ f => ?_
 refine W_end rfl (T_n (R_seq (R_reg ?_)))
 refine Y19 f 1 fun _ f => ?_
 obtain ⟨x_2, hx_2, hF_2⟩ := bS hF_1
 refine Y18 f p_1 (cmp_isNaN_2_ok n _ hG d1 x_2 hx_2) fun w_2 p_2 _ f => ?_
 refine Y19 f 1 fun _ f => ?_
 refine W_end rfl (T_n (R_seq (R_seq (R_reg ?_))))
 refine Y19 f 1 fun _ f => ?_
 refine W_end rfl (T_n ?_)
 refine Y6 f (b := x_1) (fun h_1 => ?_) fun h_1 => ?_
 ·have hF_3 := cnd_t h_1 hF_2
  refine R_seq (R_seq (R_reg ?_))
  refine Y19 f 1 fun _ f => ?_
  refine W_end rfl (T_n ?_)
  refine Y6 f (b := x_2) (fun h_2 => ?_) fun h_2 => ?_
  ·have hF_4 := cnd_t h_2 hF_3
   refine R_seq (R_reg ?_)
   refine Y19 f 1 fun _ f => ?_
   refine W_end rfl (T_n (wp_ret (T_r (T_r ?_))))
   refine E_ret1 f rfl (by kernel_rfl : Vc.look _ 4 = some (.int .i64 0)) ?_
   obtain rfl := sI hF_4
   exact ⟨_, rfl, M1, (mR _), p_2, rfl⟩
  ·have hF_5 := cnd_f h_2 hF_3
   refine wp_skip (T_n (R_seq (R_reg ?_)))
   refine Y19 f 1 fun _ f => ?_
   refine W_end rfl (T_n (wp_ret (T_r ?_)))
   refine E_ret1 f rfl (by kernel_rfl : Vc.look _ 4 = some (.int .i64 (-1))) ?_
   obtain rfl := sI hF_5
   exact ⟨_, rfl, M1, (mR _), p_2, rfl⟩
 ·have hF_6 := cnd_f h_1 hF_2
  refine wp_skip (T_n (R_seq (R_seq (R_reg ?_))))
  refine Y19 f 1 fun _ f => ?_
  refine W_end rfl (T_n ?_)
  refine Y6 f (b := x_2) (fun h_3 => ?_) fun h_3 => ?_
  ·have hF_7 := cnd_t h_3 hF_6
   refine R_seq (R_reg ?_)
   refine Y19 f 1 fun _ f => ?_
   refine W_end rfl (T_n (wp_ret (T_r ?_)))
   refine E_ret1 f rfl (by kernel_rfl : Vc.look _ 4 = some (.int .i64 1)) ?_
   obtain rfl := sI hF_7
   exact ⟨_, rfl, M1, (mR _), p_2, rfl⟩
  ·have hF_8 := cnd_f h_3 hF_6
   refine wp_skip (T_n (R_seq (R_seq (R_reg ?_))))
   refine Y19 f 3 fun _ f => ?_
   refine W_end rfl (T_n ?_)
   refine Y6 f (b := decide (d0 < d1)) (fun h_4 => ?_) fun h_4 => ?_
   ·have k_7 : d0 < d1 := dI.1 h_4
    have hF_9 := cnd_t h_4 hF_8
    refine R_seq (R_reg ?_)
    refine Y19 f 1 fun _ f => ?_
    refine W_end rfl (T_n (wp_ret (T_r ?_)))
    refine E_ret1 f rfl (by kernel_rfl : Vc.look _ 4 = some (.int .i64 (-1))) ?_
    obtain rfl := sI hF_9
    exact ⟨_, rfl, M1, (mR _), p_2, rfl⟩
   ·have k_8 : ¬ (d0 < d1) := iff_f dI h_4
    have hF_10 := cnd_f h_4 hF_8
    refine wp_skip (T_n (R_seq (R_seq (R_reg ?_))))
    refine Y19 f 3 fun _ f => ?_
    refine W_end rfl (T_n ?_)
    refine Y6 f (b := decide (d1 < d0)) (fun h_5 => ?_) fun h_5 => ?_
    ·have k_9 : d1 < d0 := dI.1 h_5
     have hF_11 := cnd_t h_5 hF_10
     refine R_seq (R_reg ?_)
     refine Y19 f 1 fun _ f => ?_
     refine W_end rfl (T_n (wp_ret (T_r ?_)))
     refine E_ret1 f rfl (by kernel_rfl : Vc.look _ 4 = some (.int .i64 1)) ?_
     obtain rfl := sI hF_11
     exact ⟨_, rfl, M1, (mR _), p_2, rfl⟩
    ·have k_10 : ¬ (d1 < d0) := iff_f dI h_5
     have hF_12 := cnd_f h_5 hF_10
     refine wp_skip (T_n (R_seq (R_reg ?_)))
     refine Y19 f 1 fun _ f => ?_
     refine W_end rfl (T_n (wp_ret ?_))
     refine E_ret1 f rfl (by kernel_rfl : Vc.look _ 4 = some (.int .i64 0)) ?_
     obtain rfl := sI hF_12
     exact ⟨_, rfl, M1, (mR _), p_2, rfl⟩
def cmp_Or_s1 (n : Nat) (d0 : List Int) (s_1 : Int) : Option (Lp Int (Sum Int Unit)) :=
    bif (decide (s_1 < ((d0.length : Nat) : Int))) then
      ((getI d0 s_1).bind fun x_1 =>
      bif (!(decide (x_1 = 0))) then
        (some (.br (.inl x_1)))
      else
        need (inR .i64 (s_1 + 1)) <|
        some (.nx (s_1 + 1)))
    else
      some (.br (.inr ()))
def cmp_Or (n : Nat) (d0 : List Int) : Option Int :=
  (loopF (cmp_Or_s1 n d0) n (0 : Int)).bind fun b_1 =>
  (match b_1 with 
  | .inl y_1 => some (y_1) 
  | .inr y_2 => some ((0 : Int)))
set_option maxHeartbeats 2000000 in
theorem cmp_Or_ok (n : Nat) (M : Mem) (hG : GL M) (A0 : Option Addr) (cap0 : Nat) (d0 : List Int) (h0 : Sli M 1 (Dat.int .i64) A0 cap0 d0) (r : Int) (hF : cmp_Or n d0 = some r) : Ok Tryz.prog M 123 [.slice A0 d0.length cap0] (fun _ v => v = .int .i64 r) := by
 unfold cmp_Or at hF
 intro M1 hM0 w0 H w p0
 replace hG := GL.mono hM0 hG
 replace h0 := h0.mono hM0
 refine R_enter 18 Tryz.func123 rfl rfl (by simp) fun a0 f0 => ?_
 refine R_seq (R_reg ?_)
 refine Y19 f0 1 fun _ f => ?_
 refine W_end rfl (T_n (R_seq (R_reg ?_)))
 refine Y19 f 1 fun _ f => ?_
 refine W_end rfl (T_n (R_seq (R_seq (R_reg ?_))))
 refine Y19 f 3 fun _ f => ?_
 refine W_end rfl (T_n (wp_block ?_))
 obtain ⟨b_1, hL_1, hF_1⟩ := bS hF
 refine wp_mono (Q := fun e a w => (e = .ret ∧ (∃ y_1 : Int, b_1 = .inl y_1 ∧ ∃ M_2 : Mem, M1.le M_2 ∧ Frm 18 [(2, .int .i64 y_1)] a ∧ Hp w0 M_2 (H) w)) ∨ (e = .exit 0 ∧ (∃ y_2 : Unit, b_1 = .inr y_2 ∧ ∃ M_3 : Mem, M1.le M_3 ∧ Frm 18 [(3, .int .i64 0)] a ∧ Hp w0 M_3 (H) w))) (R_loop (n := 18) (w0 := w0) (M := M1) (fun (x : Nat × Int) => match x with | (m_1, s_1) => [(3, .int .i64 0), (6, .slice A0 d0.length cap0), (7, .int .i64 ((d0.length : Nat) : Int)), (8, .int .i64 s_1)]) (fun (x : Nat × Int) => match x with | (m_1, s_1) => (H)) (fun (x : Nat × Int) (MM : Mem) => match x with | (m_1, s_1) => loopF (cmp_Or_s1 n d0) m_1 s_1 = some b_1) (fun (x : Nat × Int) => match x with | (m_1, s_1) => m_1) (n, (0 : Int)) (f.keep (ks := [3, 6, 7, 8]) (by kernel_rfl)) p0 hL_1 ?_) ?_
 ·rintro ⟨m_1, s_1⟩ M_1 _ w_1 hM_1 I_1 f p_1
  have I_1L := I_1
  obtain ⟨m_2, r_1, rfl, hs_1, hn_1⟩ := loop_step I_1L
  unfold cmp_Or_s1 at hs_1
  refine R_seq (R_reg ?_)
  refine Y19 f 1 fun _ f => ?_
  refine W_end rfl (T_n (R_seq ?_))
  refine Y6 f (b := decide (s_1 < ((d0.length : Nat) : Int))) (fun h_1 => ?_) fun h_1 => ?_
  ·have k_1 : s_1 < ((d0.length : Nat) : Int) := dI.1 h_1
   have hF_2 := cnd_t h_1 hs_1
   refine wp_skip (T_n (R_seq (wp_block (R_seq (R_reg ?_)))))
   obtain ⟨x_1, hx_1, hF_3⟩ := bS hF_2
   obtain ⟨ad_1, c_1, e_1, hl_1, hr_1, hc_1⟩ := Sli.at_ (h0.mono hM_1) hx_1
   clear hl_1
   obtain rfl : c_1 = [.int .i64 x_1] := hr_1
   refine Y14 (v := .pointer (some (ad_1.add (s_1.toNat * 1)))) f (Y31 e_1 rfl (len := d0.length) (cap := cap0) (k := .i64) (i := s_1) (e := 3) (sz := 1) (getI_nn hx_1) (getI_lt hx_1)) fun _ f => ?_
   refine Y15 f p_1 hc_1 0 rfl fun _ f => ?_
   refine Y19 f 1 fun _ f => ?_
   refine W_end rfl (T_n (R_seq (R_reg ?_)))
   refine Y19 f 3 fun _ f => ?_
   refine W_end rfl (T_n ?_)
   refine Y6 f (b := !(decide (x_1 = 0))) (fun h_2 => ?_) fun h_2 => ?_
   ·have k_2 : ¬ (x_1 = 0) := (not_iff dI).1 h_2
    have hF_4 := cnd_t h_2 hF_3
    refine R_seq (R_reg ?_)
    refine Y19 f 2 fun _ f => ?_
    refine W_end rfl (T_n (wp_ret (B_r (T_r (T_r ?_)))))
    obtain rfl := sI hF_4
    exact .inl ⟨rfl, x_1, (sI hn_1).symm, M_1, hM_1, f.keep (ks := [2]) (by kernel_rfl), p_1⟩
   ·have k_3 : ¬ (¬ (x_1 = 0)) := iff_f (not_iff dI) h_2
    have hF_5 := cnd_f h_2 hF_3
    refine wp_skip (B_n (T_n (R_reg ?_)))
    obtain ⟨g_1, hF_6⟩ := nS hF_5
    refine Y19 f 1 fun _ f => ?_
    have f := Frm.set f 16 (v := .int .i64 (IntKind.wrap .i64 (s_1 + 1))) (v' := .int .i64 (s_1 + 1)) (by kernel_rfl) (congrArg (Value.int .i64) (inR_wrap g_1))
    refine Y19 f 1 fun _ f => ?_
    refine W_end rfl (T_n ?_)
    obtain rfl := sI hF_6
    exact ⟨⟨m_2, s_1 + 1⟩, Nat.lt_succ_self _, M_1, hM_1, hn_1, f.keep (ks := [3, 6, 7, 8]) (by kernel_rfl), p_1⟩
  ·have k_4 : ¬ (s_1 < ((d0.length : Nat) : Int)) := iff_f dI h_1
   have hF_7 := cnd_f h_1 hs_1
   refine wp_exit (T_x (T_x ?_))
   obtain rfl := sI hF_7
   exact .inr ⟨rfl, (), (sI hn_1).symm, M_1, hM_1, f.keep (ks := [3]) (by kernel_rfl), p_1⟩
 ·rintro _ _ w_4 (⟨rfl, y_1, rfl, M_2, hM_2, f, p_2⟩ | ⟨rfl, y_2, rfl, M_3, hM_3, f, p_3⟩)
  ·refine B_r (T_r ?_)
   refine E_ret1 f rfl (by kernel_rfl : Vc.look _ 2 = some (.int .i64 y_1)) ?_
   obtain rfl := sI hF_1
   exact ⟨_, rfl, M_2, hM_2, p_2, rfl⟩
  ·refine B_x (T_n (R_seq (R_reg ?_)))
   refine Y19 f 2 fun _ f => ?_
   refine W_end rfl (T_n (wp_ret ?_))
   refine E_ret1 f rfl (by kernel_rfl : Vc.look _ 2 = some (.int .i64 0)) ?_
   obtain rfl := sI hF_1
   exact ⟨_, rfl, M_3, hM_3, p_3, rfl⟩
def tree_compare_s1 (n : Nat) (rec_tree_compare : T_api_Value → T_api_Value → Option Int) (d0 : T_api_Value) (d1 : T_api_Value) (s_1 : Int) : Option (Lp Int (Sum Int Unit)) :=
    bif (decide (s_1 < (min ((d0.fList.length : Nat) : Int) ((d1.fList.length : Nat) : Int)))) then
      (((bif (decide (d0.fKind = 5)) then
          ((getI d0.fKeys s_1).bind fun x_7 =>
          (getI d1.fKeys s_1).bind fun x_8 =>
          (h_Compare n x_7 x_8).bind fun x_9 =>
          bif (!(decide (x_9 = 0))) then
            (((some (.br (.inl x_9)) : Option (Lp Int (Sum Int Unit)))).map Lp.br)
          else
            some (.nx ()))
        else
          some (.nx ()) : Option (Lp Unit (Lp Int (Sum Int Unit))))).bind fun j => joinF j fun y_1 =>
      (getI d0.fList s_1).bind fun x_10 =>
      (getI d1.fList s_1).bind fun x_11 =>
      (rec_tree_compare x_10 x_11).bind fun x_12 =>
      bif (!(decide (x_12 = 0))) then
        (some (.br (.inl x_12)))
      else
        need (inR .i64 (s_1 + 1)) <|
        some (.nx (s_1 + 1)))
    else
      some (.br (.inr ()))
def tree_compare_b (n : Nat) (rec_tree_compare : T_api_Value → T_api_Value → Option Int) (d0 : T_api_Value) (d1 : T_api_Value) : Option Int :=
  (cmp_Compare n d0.fKind d1.fKind).bind fun x_1 =>
  (tree_bit n (d0.fBool)).bind fun x_2 =>
  (tree_bit n (d1.fBool)).bind fun x_3 =>
  need (inR .i64 (x_2 - x_3)) <|
  (cmp_Compare_2 n d0.fNum d1.fNum).bind fun x_4 =>
  (h_Compare n d0.fText d1.fText).bind fun x_5 =>
  (cmp_Or n [x_1, x_2 - x_3, x_4, x_5]).bind fun x_6 =>
  bif (!(decide (x_6 = 0))) then
    (some (x_6))
  else
    (loopF (tree_compare_s1 n rec_tree_compare d0 d1) n (0 : Int)).bind fun b_2 =>
    (match b_2 with 
    | .inl y_2 => some (y_2) 
    | .inr y_3 => (cmp_Compare_2 n ((d0.fList.length : Nat) : Int) ((d1.fList.length : Nat) : Int)).bind fun x_13 =>
      some (x_13))
set_option maxHeartbeats 2000000 in
theorem tree_compare_b_ok (n : Nat) (rec_tree_compare : T_api_Value → T_api_Value → Option Int) (hrec_tree_compare : ∀ (M : Mem) (hG : GL M) (ad0 : Addr) (c0 : List Value) (d0 : T_api_Value) (h0 : Rep M (emb_T_api_Value d0) c0) (q0 : ∀ j v, c0[j]? = some v → M.cell? (ad0.add j) = some v) (ad1 : Addr) (c1 : List Value) (d1 : T_api_Value) (h1 : Rep M (emb_T_api_Value d1) c1) (q1 : ∀ j v, c1[j]? = some v → M.cell? (ad1.add j) = some v) (r : Int) (hF : rec_tree_compare d0 d1 = some r), Ok Tryz.prog M 109 [.pointer (some ad0), .pointer (some ad1)] (fun _ v => v = .int .i64 r)) (M : Mem) (hG : GL M) (ad0 : Addr) (c0 : List Value) (d0 : T_api_Value) (h0 : Rep M (emb_T_api_Value d0) c0) (q0 : ∀ j v, c0[j]? = some v → M.cell? (ad0.add j) = some v) (ad1 : Addr) (c1 : List Value) (d1 : T_api_Value) (h1 : Rep M (emb_T_api_Value d1) c1) (q1 : ∀ j v, c1[j]? = some v → M.cell? (ad1.add j) = some v) (r : Int) (hF : tree_compare_b n rec_tree_compare d0 d1 = some r) : Ok Tryz.prog M 109 [.pointer (some ad0), .pointer (some ad1)] (fun _ v => v = .int .i64 r) := by
 unfold tree_compare_b at hF
 intro M1 hM0 w0 H w p0
 replace hG := GL.mono hM0 hG
 replace h0 := Rep.mono hM0 _ _ h0
 replace q0 := fun j v h => hM0.cell (q0 j v h)
 replace h1 := Rep.mono hM0 _ _ h1
 replace q1 := fun j v h => hM0.cell (q1 j v h)
 obtain ⟨A_1, cap_1, A_2, cap_2, rfl, h_1, h_2⟩ := T_api_Value.opn h0
 obtain ⟨A_3, cap_3, A_4, cap_4, rfl, h_3, h_4⟩ := T_api_Value.opn h1
 refine R_enter 117 Tryz.func109 rfl rfl (by simp) fun a0 f0 => ?_
 refine R_seq (R_reg ?_)
 refine Y19 f0 1 fun _ f => ?_
 refine W_end rfl (T_n (R_seq (R_seq ?_)))
 refine R_drawQ 38 p0 (by kernel_rfl) (by kernel_rfl) ?_
 refine Y5 default f 3 fun _ f => ?_
 refine Y4 f q0 0 rfl fun _ f => ?_
 refine Y5 default f 3 fun _ f => ?_
 refine Y4 f q1 0 rfl fun _ f => ?_
 obtain ⟨x_1, hx_1, hF_1⟩ := bS hF
 refine Y3 f (cmp_Compare_ok n _ d0.fKind d1.fKind x_1 hx_1) fun _ f => ?_
 refine Y5 default f 3 fun _ f => ?_
 refine Y4 f q0 1 rfl fun _ f => ?_
 obtain ⟨x_2, hx_2, hF_2⟩ := bS hF_1
 refine Y3 f (tree_bit_ok n _ hG (d0.fBool) x_2 hx_2) fun _ f => ?_
 refine Y5 default f 3 fun _ f => ?_
 refine Y4 f q1 1 rfl fun _ f => ?_
 obtain ⟨x_3, hx_3, hF_3⟩ := bS hF_2
 refine Y3 f (tree_bit_ok n _ hG (d1.fBool) x_3 hx_3) fun _ f => ?_
 obtain ⟨g_1, hF_4⟩ := nS hF_3
 refine Y2 (v := .int .i64 (IntKind.wrap .i64 (x_2 - x_3))) f (fun _ pq => by kernel_rfl) fun _ f => ?_
 have f := Frm.set f 28 (v := .int .i64 (IntKind.wrap .i64 (x_2 - x_3))) (v' := .int .i64 (x_2 - x_3)) (by kernel_rfl) (congrArg (Value.int .i64) (inR_wrap g_1))
 refine Y5 default f 3 fun _ f => ?_
 refine Y4 f q0 2 rfl fun _ f => ?_
 refine Y5 default f 3 fun _ f => ?_
 refine Y4 f q1 2 rfl fun _ f => ?_
 obtain ⟨x_4, hx_4, hF_5⟩ := bS hF_4
 refine Y3 f (cmp_Compare_2_ok n _ hG d0.fNum d1.fNum x_4 hx_4) fun _ f => ?_
 refine Y5 default f 3 fun _ f => ?_
 refine Y4 f q0 3 rfl fun _ f => ?_
 refine Y5 default f 3 fun _ f => ?_
 refine Y4 f q1 3 rfl fun _ f => ?_
 obtain ⟨x_5, hx_5, hF_6⟩ := bS hF_5
 refine Y3 f (h_Compare_ok n _ d0.fText d1.fText x_5 hx_5) fun _ f => ?_
 refine Q_end rfl ?_
 intro w_1 p_1
 refine V_allocS (k := 4) (c := 4) f p_1 (.cells #[.int .i64 x_1, .int .i64 (x_2 - x_3), .int .i64 x_4, .int .i64 x_5] 3 (0, 0)) (by kernel_rfl) (fun _ => by kernel_rfl) fun b_1 w_7 p_7 _ f => ?_
 have hr_1 : RepSeq M1 ([x_1, x_2 - x_3, x_4, x_5].map (Dat.int .i64)) [.int .i64 x_1, .int .i64 (x_2 - x_3), .int .i64 x_4, .int .i64 x_5] := ⟨_, _, rfl, rfl, ⟨_, _, rfl, rfl, ⟨_, _, rfl, rfl, ⟨_, _, rfl, rfl, rfl⟩⟩⟩⟩
 have p_8 : Hp w0 M1 ((Ent.row 3 1 (.slice (some ⟨b_1, 0, none⟩) 4 4) [x_1, x_2 - x_3, x_4, x_5].length [.int .i64 x_1, .int .i64 (x_2 - x_3), .int .i64 x_4, .int .i64 x_5]) :: H) w_7 := p_7.objRow (n := 4) (cap := 4) (size := 1) (by decide) (by decide) rfl rfl rfl
 obtain ⟨M_1, A_5, cap_5, hM_1, hv_1, p_9, h_5, hb_1⟩ := p_8.lend (f := (Dat.int .i64)) (xs := [x_1, x_2 - x_3, x_4, x_5]) (szd_int .i64) hr_1
 have f := Frm.set f 47 (v := .slice (some ⟨b_1, 0, none⟩) 4 4) (v' := .slice A_5 [x_1, x_2 - x_3, x_4, x_5].length cap_5) (by kernel_rfl) (hv_1)
 obtain ⟨x_6, hx_6, hF_7⟩ := bS hF_6
 refine Y18 f p_9 (cmp_Or_ok n _ (GL.mono hM_1 hG) A_5 cap_5 [x_1, x_2 - x_3, x_4, x_5] h_5 x_6 hx_6) fun w_8 p_10 _ f => ?_
 obtain ⟨M_2, hM_2, p_11⟩ := hb_1 _ _ _ (mR _) p_10
 have f := Frm.set f 47 (v := .slice A_5 [x_1, x_2 - x_3, x_4, x_5].length cap_5) (v' := .slice (some ⟨b_1, 0, none⟩) 4 4) (by kernel_rfl) (hv_1.symm)
 refine Y19 f 1 fun _ f => ?_
 refine W_end rfl (T_n (R_seq (R_reg ?_)))
 refine Y19 f 2 fun _ f => ?_
 refine W_end rfl (T_n ?_)
 refine Y6 f (b := !(decide (x_6 = 0))) (fun h_6 => ?_) fun h_6 => ?_
 ·have k_1 : ¬ (x_6 = 0) := (not_iff dI).1 h_6
  have hF_8 := cnd_t h_6 hF_7
  refine R_seq (R_reg ?_)
  refine Y19 f 2 fun _ f => ?_
  refine W_end rfl (T_n (wp_ret (T_r ?_)))
  refine E_ret1 f rfl (by kernel_rfl : Vc.look _ 4 = some (.int .i64 x_6)) ?_
  obtain rfl := sI hF_8
  exact ⟨_, rfl, M_2, hM_2, (p_11.dropN 1), rfl⟩
 ·have k_2 : ¬ (¬ (x_6 = 0)) := iff_f (not_iff dI) h_6
  have hF_9 := cnd_f h_6 hF_7
  refine wp_skip (T_n (R_seq (R_seq ?_)))
  refine R_draw p_11 (by kernel_rfl) (by kernel_rfl) ?_
  refine Y5 default f 3 fun _ f => ?_
  refine Y4 f (fzu hM_2 q0) 4 rfl fun _ f => ?_
  refine Y5 default f 4 fun _ f => ?_
  refine Y4 f (fzu hM_2 q1) 4 rfl fun _ f => ?_
  refine Y5 default f 1 fun _ f => ?_
  refine Y2 (v := .int .i64 (min ((d0.fList.length : Nat) : Int) ((d1.fList.length : Nat) : Int))) f (fun _ pq => X_min (k := .i64) (a := ((d0.fList.length : Nat) : Int)) (b := ((d1.fList.length : Nat) : Int)) rfl (by kernel_rfl) (by kernel_rfl)) fun _ f => ?_
  refine Y5 default f 1 fun _ f => ?_
  refine Q_end rfl ?_
  intro w_9 p_12
  refine T_n (wp_block ?_)
  obtain ⟨b_2, hL_1, hF_10⟩ := bS hF_9
  refine wp_mono (Q := fun e a w => (e = .ret ∧ (∃ y_2 : Int, b_2 = .inl y_2 ∧ ∃ M_5 : Mem, M_2.le M_5 ∧ Frm 117 [(4, .int .i64 y_2)] a ∧ Hp w0 M_5 ((Ent.row 3 1 (.slice (some ⟨b_1, 0, none⟩) 4 4) [x_1, x_2 - x_3, x_4, x_5].length [.int .i64 x_1, .int .i64 (x_2 - x_3), .int .i64 x_4, .int .i64 x_5]) :: H) w)) ∨ (e = .exit 0 ∧ (∃ y_3 : Unit, b_2 = .inr y_3 ∧ ∃ M_6 : Mem, M_2.le M_6 ∧ Frm 117 [(0, .pointer (some ad0)), (1, .pointer (some ad1))] a ∧ Hp w0 M_6 ((Ent.row 3 1 (.slice (some ⟨b_1, 0, none⟩) 4 4) [x_1, x_2 - x_3, x_4, x_5].length [.int .i64 x_1, .int .i64 (x_2 - x_3), .int .i64 x_4, .int .i64 x_5]) :: H) w))) (R_loop (n := 117) (w0 := w0) (M := M_2) (fun (x : Nat × Int) => match x with | (m_1, s_1) => [(0, .pointer (some ad0)), (1, .pointer (some ad1)), (62, .int .i64 (min ((d0.fList.length : Nat) : Int) ((d1.fList.length : Nat) : Int))), (63, .int .i64 s_1)]) (fun (x : Nat × Int) => match x with | (m_1, s_1) => ((Ent.row 3 1 (.slice (some ⟨b_1, 0, none⟩) 4 4) [x_1, x_2 - x_3, x_4, x_5].length [.int .i64 x_1, .int .i64 (x_2 - x_3), .int .i64 x_4, .int .i64 x_5]) :: H)) (fun (x : Nat × Int) (MM : Mem) => match x with | (m_1, s_1) => loopF (tree_compare_s1 n rec_tree_compare d0 d1) m_1 s_1 = some b_2) (fun (x : Nat × Int) => match x with | (m_1, s_1) => m_1) (n, (0 : Int)) (f.keep (ks := [0, 1, 62, 63]) (by kernel_rfl)) p_12 hL_1 ?_) ?_
  ·rintro ⟨m_1, s_1⟩ M_3 _ w_10 hM_3 I_1 f p_13
   have I_1L := I_1
   obtain ⟨m_2, r_1, rfl, hs_1, hn_1⟩ := loop_step I_1L
   unfold tree_compare_s1 at hs_1
   refine R_seq (R_reg ?_)
   refine Y19 f 1 fun _ f => ?_
   refine W_end rfl (T_n (R_seq ?_))
   refine Y6 f (b := decide (s_1 < (min ((d0.fList.length : Nat) : Int) ((d1.fList.length : Nat) : Int)))) (fun h_7 => ?_) fun h_7 => ?_
   ·have k_3 : s_1 < (min ((d0.fList.length : Nat) : Int) ((d1.fList.length : Nat) : Int)) := dI.1 h_7
    have hF_11 := cnd_t h_7 hs_1
    refine wp_skip (T_n (R_seq (wp_block (R_seq (R_reg ?_)))))
    refine Y19 f 2 fun _ f => ?_
    refine W_end rfl (T_n (R_seq (R_seq (R_reg ?_))))
    refine Y19 f 3 fun _ f => ?_
    refine Y15 f p_13 (fzu (hM_2.trans hM_3) q0) 0 rfl fun _ f => ?_
    refine Y19 f 1 fun _ f => ?_
    refine W_end rfl (T_n ?_)
    obtain ⟨j_1, hj_1, hF_12⟩ := bS hF_11
    refine R_mid (fun a_56 w_13 => ∃ y_1 : Unit, j_1 = .nx y_1 ∧ ∃ M_4 : Mem, M_3.le M_4 ∧ Frm 117 [(0, .pointer (some ad0)), (1, .pointer (some ad1)), (6, .int .i64 s_1), (62, .int .i64 (min ((d0.fList.length : Nat) : Int) ((d1.fList.length : Nat) : Int))), (63, .int .i64 s_1)] a_56 ∧ Hp w0 M_4 ((Ent.row 3 1 (.slice (some ⟨b_1, 0, none⟩) 4 4) [x_1, x_2 - x_3, x_4, x_5].length [.int .i64 x_1, .int .i64 (x_2 - x_3), .int .i64 x_4, .int .i64 x_5]) :: H) w_13) ?_ ?_
    ·refine Y6 f (b := decide (d0.fKind = 5)) (fun h_8 => ?_) fun h_8 => ?_
     ·have k_4 : d0.fKind = 5 := dI.1 h_8
      have hF_13 := cnd_t h_8 hj_1
      refine R_seq ?_
      refine R_draw p_13 (by kernel_rfl) (by kernel_rfl) ?_
      refine Y5 default f 3 fun _ f => ?_
      refine Y4 f (fzu (hM_2.trans hM_3) q0) 5 rfl fun _ f => ?_
      refine Y5 default f 1 fun _ f => ?_
      obtain ⟨x_7, hx_7, hF_14⟩ := bS hF_13
      obtain ⟨ad_1, c_1, e_1, hl_1, hr_2, hc_1⟩ := Sli.at_ (h_2.mono (hM_2.trans hM_3)) hx_7
      clear hl_1
      obtain rfl : c_1 = [S x_7] := hr_2
      refine Y2 (v := .pointer (some (ad_1.add (s_1.toNat * 1)))) f (fun _ pq => Y31 e_1 rfl (len := d0.fKeys.length) (cap := cap_2) (k := .i64) (i := s_1) (e := 9) (sz := 1) (getI_nn hx_7) (getI_lt hx_7)) fun _ f => ?_
      refine Y4 f hc_1 0 rfl fun _ f => ?_
      refine Y5 default f 3 fun _ f => ?_
      refine Y4 f (fzu (hM_2.trans hM_3) q1) 5 rfl fun _ f => ?_
      refine Y5 default f 1 fun _ f => ?_
      obtain ⟨x_8, hx_8, hF_15⟩ := bS hF_14
      obtain ⟨ad_2, c_2, e_2, hl_2, hr_3, hc_2⟩ := Sli.at_ (h_4.mono (hM_2.trans hM_3)) hx_8
      clear hl_2
      obtain rfl : c_2 = [S x_8] := hr_3
      refine Y2 (v := .pointer (some (ad_2.add (s_1.toNat * 1)))) f (fun _ pq => Y31 e_2 rfl (len := d1.fKeys.length) (cap := cap_4) (k := .i64) (i := s_1) (e := 9) (sz := 1) (getI_nn hx_8) (getI_lt hx_8)) fun _ f => ?_
      refine Y4 f hc_2 0 rfl fun _ f => ?_
      obtain ⟨x_9, hx_9, hF_16⟩ := bS hF_15
      refine Y3 f (h_Compare_ok n _ x_7 x_8 x_9 hx_9) fun _ f => ?_
      refine Y5 default f 1 fun _ f => ?_
      refine Q_end rfl ?_
      intro w_12 p_15
      refine T_n (R_seq (R_reg ?_))
      refine Y19 f 2 fun _ f => ?_
      refine W_end rfl (T_n ?_)
      refine Y6 f (b := !(decide (x_9 = 0))) (fun h_9 => ?_) fun h_9 => ?_
      ·have k_5 : ¬ (x_9 = 0) := (not_iff dI).1 h_9
       have hF_17 := cnd_t h_9 hF_16
       refine R_seq (R_reg ?_)
       refine Y19 f 2 fun _ f => ?_
       refine W_end rfl (T_n (wp_ret ?_))
       have hF_18 := br_elim hF_17 hF_12
       refine T_r (T_r (B_r (T_r (T_r ?_))))
       obtain rfl := sI hF_18
       exact .inl ⟨rfl, x_9, (sI hn_1).symm, M_3, hM_3, f.keep (ks := [4]) (by kernel_rfl), p_15⟩
      ·have k_6 : ¬ (¬ (x_9 = 0)) := iff_f (not_iff dI) h_9
       have hF_19 := cnd_f h_9 hF_16
       refine wp_skip (T_n ?_)
       exact ⟨(), (sI hF_19).symm, M_3, (mR _), f.keep (ks := [0, 1, 6, 62, 63]) (by kernel_rfl), p_15⟩
     ·have k_7 : ¬ (d0.fKind = 5) := iff_f dI h_8
      have hF_20 := cnd_f h_8 hj_1
      refine wp_skip (T_n ?_)
      exact ⟨(), (sI hF_20).symm, M_3, (mR _), f.keep (ks := [0, 1, 6, 62, 63]) (by kernel_rfl), p_13⟩
    ·rintro a_56 w_13 ⟨y_1, rfl, M_4, hM_4, f, p_16⟩
     refine T_n (R_seq ?_)
     refine R_draw p_16 (by kernel_rfl) (by kernel_rfl) ?_
     refine Y5 default f 3 fun _ f => ?_
     refine Y4 f (fzu ((hM_2.trans hM_3).trans hM_4) q0) 4 rfl fun _ f => ?_
     refine Y5 default f 1 fun _ f => ?_
     obtain ⟨x_10, hx_10, hF_21⟩ := bS hF_12
     obtain ⟨ad_3, c_3, e_3, hl_3, hr_4, hc_3⟩ := Sli.at_ (h_1.mono ((hM_2.trans hM_3).trans hM_4)) hx_10
     clear hl_3
     obtain ⟨A_6, cap_6, A_7, cap_7, rfl, h_10, h_11⟩ := T_api_Value.opn hr_4
     refine Y2 (v := .pointer (some (ad_3.add (s_1.toNat * 6)))) f (fun _ pq => Y31 e_3 rfl (len := d0.fList.length) (cap := cap_1) (k := .i64) (i := s_1) (e := 76) (sz := 6) (getI_nn hx_10) (getI_lt hx_10)) fun _ f => ?_
     refine Y5 default f 3 fun _ f => ?_
     refine Y4 f (fzu ((hM_2.trans hM_3).trans hM_4) q1) 4 rfl fun _ f => ?_
     refine Y5 default f 1 fun _ f => ?_
     obtain ⟨x_11, hx_11, hF_22⟩ := bS hF_21
     obtain ⟨ad_4, c_4, e_4, hl_4, hr_5, hc_4⟩ := Sli.at_ (h_3.mono ((hM_2.trans hM_3).trans hM_4)) hx_11
     clear hl_4
     obtain ⟨A_8, cap_8, A_9, cap_9, rfl, h_12, h_13⟩ := T_api_Value.opn hr_5
     refine Y2 (v := .pointer (some (ad_4.add (s_1.toNat * 6)))) f (fun _ pq => Y31 e_4 rfl (len := d1.fList.length) (cap := cap_3) (k := .i64) (i := s_1) (e := 76) (sz := 6) (getI_nn hx_11) (getI_lt hx_11)) fun _ f => ?_
     obtain ⟨x_12, hx_12, hF_23⟩ := bS hF_22
     refine Y3 f (hrec_tree_compare _ (GL.mono ((hM_2.trans hM_3).trans hM_4) hG) (ad_3.add (s_1.toNat * 6)) [.int .i8 x_10.fKind, .bool x_10.fBool, .int .i64 x_10.fNum, S x_10.fText, .slice A_6 x_10.fList.length cap_6, .slice A_7 x_10.fKeys.length cap_7] x_10 (T_api_Value.shutx (x := x_10) h_10 h_11) (fz_at (hc_3) 0 rfl) (ad_4.add (s_1.toNat * 6)) [.int .i8 x_11.fKind, .bool x_11.fBool, .int .i64 x_11.fNum, S x_11.fText, .slice A_8 x_11.fList.length cap_8, .slice A_9 x_11.fKeys.length cap_9] x_11 (T_api_Value.shutx (x := x_11) h_12 h_13) (fz_at (hc_4) 0 rfl) x_12 hx_12) fun _ f => ?_
     refine Y5 default f 1 fun _ f => ?_
     refine Q_end rfl ?_
     intro w_15 p_18
     refine T_n (R_seq (R_reg ?_))
     refine Y19 f 2 fun _ f => ?_
     refine W_end rfl (T_n ?_)
     refine Y6 f (b := !(decide (x_12 = 0))) (fun h_14 => ?_) fun h_14 => ?_
     ·have k_8 : ¬ (x_12 = 0) := (not_iff dI).1 h_14
      have hF_24 := cnd_t h_14 hF_23
      refine R_seq (R_reg ?_)
      refine Y19 f 2 fun _ f => ?_
      refine W_end rfl (T_n (wp_ret (B_r (T_r (T_r ?_)))))
      obtain rfl := sI hF_24
      exact .inl ⟨rfl, x_12, (sI hn_1).symm, M_4, (hM_3.trans hM_4), f.keep (ks := [4]) (by kernel_rfl), p_18⟩
     ·have k_9 : ¬ (¬ (x_12 = 0)) := iff_f (not_iff dI) h_14
      have hF_25 := cnd_f h_14 hF_23
      refine wp_skip (B_n (T_n (R_reg ?_)))
      obtain ⟨g_2, hF_26⟩ := nS hF_25
      refine Y19 f 1 fun _ f => ?_
      have f := Frm.set f 105 (v := .int .i64 (IntKind.wrap .i64 (s_1 + 1))) (v' := .int .i64 (s_1 + 1)) (by kernel_rfl) (congrArg (Value.int .i64) (inR_wrap g_2))
      refine Y19 f 1 fun _ f => ?_
      refine W_end rfl (T_n ?_)
      obtain rfl := sI hF_26
      exact ⟨⟨m_2, s_1 + 1⟩, Nat.lt_succ_self _, M_4, (hM_3.trans hM_4), hn_1, f.keep (ks := [0, 1, 62, 63]) (by kernel_rfl), p_18⟩
   ·have k_10 : ¬ (s_1 < (min ((d0.fList.length : Nat) : Int) ((d1.fList.length : Nat) : Int))) := iff_f dI h_7
    have hF_27 := cnd_f h_7 hs_1
    refine wp_exit (T_x (T_x ?_))
    obtain rfl := sI hF_27
    exact .inr ⟨rfl, (), (sI hn_1).symm, M_3, hM_3, f.keep (ks := [0, 1]) (by kernel_rfl), p_13⟩
  ·rintro _ _ w_18 (⟨rfl, y_2, rfl, M_5, hM_5, f, p_19⟩ | ⟨rfl, y_3, rfl, M_6, hM_6, f, p_20⟩)
   ·refine B_r (T_r ?_)
    refine E_ret1 f rfl (by kernel_rfl : Vc.look _ 4 = some (.int .i64 y_2)) ?_
    obtain rfl := sI hF_10
    exact ⟨_, rfl, M_5, (hM_2.trans hM_5), (p_19.dropN 1), rfl⟩
   ·refine B_x (T_n (R_seq ?_))
    refine R_draw p_20 (by kernel_rfl) (by kernel_rfl) ?_
    refine Y5 default f 3 fun _ f => ?_
    refine Y4 f (fzu (hM_2.trans hM_6) q0) 4 rfl fun _ f => ?_
    refine Y5 default f 4 fun _ f => ?_
    refine Y4 f (fzu (hM_2.trans hM_6) q1) 4 rfl fun _ f => ?_
    refine Y5 default f 1 fun _ f => ?_
    obtain ⟨x_13, hx_13, hF_28⟩ := bS hF_10
    refine Y3 f (cmp_Compare_2_ok n _ (GL.mono (hM_2.trans hM_6) hG) ((d0.fList.length : Nat) : Int) ((d1.fList.length : Nat) : Int) x_13 hx_13) fun _ f => ?_
    refine Y5 default f 1 fun _ f => ?_
    refine Q_end rfl ?_
    intro w_20 p_22
    refine T_n (wp_ret ?_)
    refine E_ret1 f rfl (by kernel_rfl : Vc.look _ 4 = some (.int .i64 x_13)) ?_
    obtain rfl := sI hF_28
    exact ⟨_, rfl, M_6, (hM_2.trans hM_6), (p_22.dropN 1), rfl⟩
def tree_compare_k (n : Nat) : Nat → T_api_Value → T_api_Value → Option Int
  | 0 => fun _ _ => none
  | k + 1 => tree_compare_b n (tree_compare_k n k)
def tree_compare (n : Nat) (d0 : T_api_Value) (d1 : T_api_Value) : Option Int := tree_compare_k n n d0 d1
theorem tree_compare_ok (n : Nat) (M : Mem) (hG : GL M) (ad0 : Addr) (c0 : List Value) (d0 : T_api_Value) (h0 : Rep M (emb_T_api_Value d0) c0) (q0 : ∀ j v, c0[j]? = some v → M.cell? (ad0.add j) = some v) (ad1 : Addr) (c1 : List Value) (d1 : T_api_Value) (h1 : Rep M (emb_T_api_Value d1) c1) (q1 : ∀ j v, c1[j]? = some v → M.cell? (ad1.add j) = some v) (r : Int) (hF : tree_compare n d0 d1 = some r) : Ok Tryz.prog M 109 [.pointer (some ad0), .pointer (some ad1)] (fun _ v => v = .int .i64 r) := by
 have key : ∀ (k : Nat) (M : Mem) (hG : GL M) (ad0 : Addr) (c0 : List Value) (d0 : T_api_Value) (h0 : Rep M (emb_T_api_Value d0) c0) (q0 : ∀ j v, c0[j]? = some v → M.cell? (ad0.add j) = some v) (ad1 : Addr) (c1 : List Value) (d1 : T_api_Value) (h1 : Rep M (emb_T_api_Value d1) c1) (q1 : ∀ j v, c1[j]? = some v → M.cell? (ad1.add j) = some v) (r : Int) (hF : tree_compare_k n k d0 d1 = some r), Ok Tryz.prog M 109 [.pointer (some ad0), .pointer (some ad1)] (fun _ v => v = .int .i64 r) := by
  intro k
  induction k with
  | zero => intro M hG ad0 c0 d0 h0 q0 ad1 c1 d1 h1 q1 r hF; simp [tree_compare_k] at hF
  | succ k ih => intro M hG ad0 c0 d0 h0 q0 ad1 c1 d1 h1 q1 r hF; exact tree_compare_b_ok n (tree_compare_k n k) ih M hG ad0 c0 d0 h0 q0 ad1 c1 d1 h1 q1 r hF
 exact key n M hG ad0 c0 d0 h0 q0 ad1 c1 d1 h1 q1 r hF
end Go.Proofs.YtalifkcchfkgmaaGreatDoor
end

section
namespace Go.Proofs.YtalifkcchfkgmaaGreatDoor
open Go Go.Vc Go.RowKit
/-! ### compareBytes -/
theorem cb_self : ∀ a : List UInt8, Lib.compareBytes a a = 0
  | [] => rfl
  | x :: r => by simp [Lib.compareBytes, cb_self r]
theorem cb_eq : ∀ a b : List UInt8, Lib.compareBytes a b = 0 → a = b
  | [], [], _ => rfl
  | [], _ :: _, h => by simp [Lib.compareBytes] at h
  | _ :: _, [], h => by simp [Lib.compareBytes] at h
  | x :: r, y :: s, h => by
    unfold Lib.compareBytes at h
    by_cases h1 : x < y
    · simp [h1] at h
    · by_cases h2 : y < x
      · simp [h1, h2] at h
      · simp only [h1, h2, if_false] at h
        have hxy : x = y := UInt8.toNat_inj.1 (by rw [UInt8.lt_iff_toNat_lt] at h1 h2; omega)
        rw [hxy, cb_eq r s h]
theorem cb_anti : ∀ a b : List UInt8, Lib.compareBytes b a = - Lib.compareBytes a b
  | [], [] => rfl
  | [], _ :: _ => rfl
  | _ :: _, [] => rfl
  | x :: r, y :: s => by
    unfold Lib.compareBytes
    by_cases h1 : x < y
    · have h2 : ¬ y < x := by rw [UInt8.lt_iff_toNat_lt] at h1 ⊢; omega
      simp [h1, h2]
    · by_cases h2 : y < x
      · simp [h1, h2]
      · simp [h1, h2, cb_anti r s]
theorem cb_trans : ∀ a b c : List UInt8, Lib.compareBytes a b ≤ 0 → Lib.compareBytes b c ≤ 0 → Lib.compareBytes a c ≤ 0 ∧ (Lib.compareBytes a b < 0 ∨ Lib.compareBytes b c < 0 → Lib.compareBytes a c < 0)
  | [], [], c, h1, h2 => ⟨h2, fun h => h.elim (fun h => absurd h (by simp [Lib.compareBytes])) id⟩
  | [], _ :: _, [], h1, h2 => absurd h2 (by simp [Lib.compareBytes])
  | [], _ :: _, _ :: _, h1, h2 => by simp [Lib.compareBytes]
  | _ :: _, [], _, h1, h2 => absurd h1 (by simp [Lib.compareBytes])
  | _ :: _, _ :: _, [], h1, h2 => absurd h2 (by simp [Lib.compareBytes])
  | x :: r, y :: s, z :: t, h1, h2 => by
    have ih := cb_trans r s t
    unfold Lib.compareBytes at h1 h2 ⊢
    by_cases a1 : x < y
    · by_cases b1 : y < z
      · have : x < z := by rw [UInt8.lt_iff_toNat_lt] at *; omega
        simp [this]
      · by_cases b2 : z < y
        · simp [b1, b2] at h2
        · have : x < z := by rw [UInt8.lt_iff_toNat_lt] at *; omega
          simp [this]
    · by_cases a2 : y < x
      · simp [a1, a2] at h1
      · have hxy : x = y := UInt8.toNat_inj.1 (by rw [UInt8.lt_iff_toNat_lt] at a1 a2; omega)
        subst hxy
        by_cases b1 : x < z
        · simp [b1]
        · by_cases b2 : z < x
          · simp [b1, b2] at h2
          · simp only [a1, b1, b2, if_false] at h1 h2 ⊢
            exact ih h1 h2
theorem repInts {M : Mem} {k : IntKind} : ∀ {d : List Int} {cs : List Value}, RepSeq M (d.map (Dat.int k)) cs → cs = d.map (Value.int k)
  | [], cs, h => h
  | x :: r, cs, h => by
    obtain ⟨c1, c2, rfl, h1, h2⟩ := h
    have h1' : c1 = [.int k x] := h1
    rw [h1', repInts h2]
    rfl
theorem intsRep {M : Mem} {k : IntKind} : ∀ d : List Int, RepSeq M (d.map (Dat.int k)) (d.map (Value.int k))
  | [] => rfl
  | x :: r => ⟨[.int k x], r.map (Value.int k), rfl, rfl, intsRep r⟩
section
variable {P : Program} {ops : Array Oper} {K : Act → Prop} {C : World → Prop} {L : Fr} {n : Nat} {dd : List Deferred} {a : Act}
/-- A call that leaves the world as it was, in a region that draws. -/
theorem Q_pure {o : Oper} {rest : List Oper} {d : Nat} {f : FuncId} {args : List Value} {v : Value} (hf : Frm n L a dd) (hw : wantedL ops L o = some true) (hr : readyL L o = true)
    (hd : o.dst = some d) (hdn : Nat.blt d n = true) (hx : ∀ w, (execOp (ev L) o).run P w = .ok (.enter f args.toArray) w) (hc : ∀ w, Calls P f args.toArray w fun e w' => e = .returned v ∧ w' = w)
    (hk : ∀ a', Frm n ((d, v) :: L) a' dd → wpQuiet P ops C K rest a') : wpQuiet P ops C K (o :: rest) a := by
  simp only [wpQuiet]
  rw [hf.wanted hw, if_pos rfl]
  refine ⟨v, fun w hC => ?_, ?_⟩
  · unfold Oper.quietAt
    rw [hf.exec hr, hx w]
    exact ⟨rfl, (hc w).mono fun e w' ⟨he, hw'⟩ => ⟨he, hw' ▸ hC⟩⟩
  · rw [hd]; exact hk _ (hf.put (by simpa [Nat.blt_eq] using hdn) v)
end
set_option maxRecDepth 100000 in
theorem order1_calls {w0 : World} {M : Mem} {H : List Ent} {W : World} (hp : Hp w0 M H W) {bA ad0 : Addr} {v : T_api_Value} {c0 : List Value} (h0 : Rep M (emb_T_api_Value v) c0) (q0 : ∀ j u, c0[j]? = some u → M.cell? (ad0.add j) = some u)
    (hb : M.cell? bA = some (.pointer (some ad0))) (x y : Int) (kx ky : List UInt8) (hx : getI v.fKeys x = some kx) (hy : getI v.fKeys y = some ky) :
    Calls Tryz.prog 143 [.int .i64 x, .int .i64 y, .pointer (some bA)].toArray W fun e w' => e = .returned (.int .i64 (Lib.compareBytes kx ky)) ∧ ∃ q, w' = W.drewN q := by
  obtain ⟨A_1, cap_1, A_2, cap_2, rfl, h_1, h_2⟩ := T_api_Value.opn h0
  refine R_enter 21 Tryz.func143 rfl rfl (by simp) (fun a0 f0 => ?_)
  replace f0 : Frm 21 [(0, .int .i64 x), (1, .int .i64 y), (2, .pointer (some bA))] a0 := f0
  refine R_seq ?_
  refine R_reg ?_
  refine W_run (L' := [(0, .int .i64 x), (1, .int .i64 y), (2, .pointer (some bA)), (5, .int .i64 0)]) (w' := W) f0 1 [0, 1, 2, 5] (by kernel_rfl) (fun a_1 f_1 => ?_)
  refine W_end rfl ?_
  refine T_n ?_
  refine R_seq ?_
  refine wp_region_quiet (C := fun w' => ∃ n, w' = W.drewN n) (by kernel_rfl) (by kernel_rfl) ⟨1, rfl⟩ ?_
  refine Q_eq (v := .pointer (some ad0)) f_1 (by kernel_rfl) (by kernel_rfl) rfl rfl (fun _ pq => by obtain ⟨n, rfl⟩ := pq; exact X_load1 (v := .pointer (some ad0)) rfl (ad := bA) (by kernel_rfl) (by kernel_rfl) ((hp.drewN n).cell hb)) (fun a_2 f_2 => ?_)
  refine Q_eq (v := .pointer (some ad0)) f_2 (by kernel_rfl) (by kernel_rfl) rfl rfl (fun _ _ => by kernel_rfl) (fun a_3 f_3 => ?_)
  refine Q_eq (v := .pointer (some (ad0.add 5))) f_3 (by kernel_rfl) (by kernel_rfl) rfl rfl (fun _ _ => by kernel_rfl) (fun a_4 f_4 => ?_)
  refine Q_eq (v := .slice A_2 v.fKeys.length cap_2) f_4 (by kernel_rfl) (by kernel_rfl) rfl rfl (fun _ pq => by obtain ⟨n, rfl⟩ := pq; exact X_load1 (v := .slice A_2 v.fKeys.length cap_2) rfl (ad := ad0.add 5) (by kernel_rfl) (by kernel_rfl) ((hp.drewN n).cell (q0 5 _ rfl))) (fun a_5 f_5 => ?_)
  refine Q_eq (v := .int .i64 x) f_5 (by kernel_rfl) (by kernel_rfl) rfl rfl (fun _ _ => by kernel_rfl) (fun a_6 f_6 => ?_)
  obtain ⟨ad_1, c_1, e_1, hl_1, hr_1, hc_1⟩ := Sli.at_ h_2 hx
  obtain rfl : c_1 = [S kx] := hr_1
  refine Q_eq (v := .pointer (some (ad_1.add (x.toNat * 1)))) f_6 (by kernel_rfl) (by kernel_rfl) rfl rfl (fun _ pq => X_indexAddrA e_1 rfl (len := v.fKeys.length) (cap := cap_2) (k := .i64) (i := x) (by kernel_rfl) (by kernel_rfl) (e := 9) (by kernel_rfl) (sz := 1) (by kernel_rfl) (getI_nn hx) (getI_lt hx)) (fun a_7 f_7 => ?_)
  refine Q_eq (v := S kx) f_7 (by kernel_rfl) (by kernel_rfl) rfl rfl (fun _ pq => by obtain ⟨n, rfl⟩ := pq; exact X_load1 (v := S kx) rfl (ad := ad_1.add (x.toNat * 1)) (by kernel_rfl) (by kernel_rfl) ((hp.drewN n).cell (hc_1 0 _ rfl))) (fun a_8 f_8 => ?_)
  refine Q_eq (v := .pointer (some ad0)) f_8 (by kernel_rfl) (by kernel_rfl) rfl rfl (fun _ pq => by obtain ⟨n, rfl⟩ := pq; exact X_load1 (v := .pointer (some ad0)) rfl (ad := bA) (by kernel_rfl) (by kernel_rfl) ((hp.drewN n).cell hb)) (fun a_9 f_9 => ?_)
  refine Q_eq (v := .pointer (some ad0)) f_9 (by kernel_rfl) (by kernel_rfl) rfl rfl (fun _ _ => by kernel_rfl) (fun a_10 f_10 => ?_)
  refine Q_eq (v := .pointer (some (ad0.add 5))) f_10 (by kernel_rfl) (by kernel_rfl) rfl rfl (fun _ _ => by kernel_rfl) (fun a_11 f_11 => ?_)
  refine Q_eq (v := .slice A_2 v.fKeys.length cap_2) f_11 (by kernel_rfl) (by kernel_rfl) rfl rfl (fun _ pq => by obtain ⟨n, rfl⟩ := pq; exact X_load1 (v := .slice A_2 v.fKeys.length cap_2) rfl (ad := ad0.add 5) (by kernel_rfl) (by kernel_rfl) ((hp.drewN n).cell (q0 5 _ rfl))) (fun a_12 f_12 => ?_)
  refine Q_eq (v := .int .i64 y) f_12 (by kernel_rfl) (by kernel_rfl) rfl rfl (fun _ _ => by kernel_rfl) (fun a_13 f_13 => ?_)
  obtain ⟨ad_2, c_2, e_2, hl_2, hr_2, hc_2⟩ := Sli.at_ h_2 hy
  obtain rfl : c_2 = [S ky] := hr_2
  refine Q_eq (v := .pointer (some (ad_2.add (y.toNat * 1)))) f_13 (by kernel_rfl) (by kernel_rfl) rfl rfl (fun _ pq => X_indexAddrA e_2 rfl (len := v.fKeys.length) (cap := cap_2) (k := .i64) (i := y) (by kernel_rfl) (by kernel_rfl) (e := 9) (by kernel_rfl) (sz := 1) (by kernel_rfl) (getI_nn hy) (getI_lt hy)) (fun a_14 f_14 => ?_)
  refine Q_eq (v := S ky) f_14 (by kernel_rfl) (by kernel_rfl) rfl rfl (fun _ pq => by obtain ⟨n, rfl⟩ := pq; exact X_load1 (v := S ky) rfl (ad := ad_2.add (y.toNat * 1)) (by kernel_rfl) (by kernel_rfl) ((hp.drewN n).cell (hc_2 0 _ rfl))) (fun a_15 f_15 => ?_)
  refine Q_pure (v := .int .i64 (Lib.compareBytes kx ky)) (args := [S kx, S ky]) f_15 (by kernel_rfl) (by kernel_rfl) rfl rfl (fun _ => by kernel_rfl) (fun w => Tryz.strings_Compare (mkS kx) (mkS ky) w) (fun a_16 f_16 => ?_)
  refine Q_eq (v := .int .i64 (Lib.compareBytes kx ky)) f_16 (by kernel_rfl) (by kernel_rfl) rfl rfl (fun _ _ => by kernel_rfl) (fun a_17 f_17 => ?_)
  refine Q_end rfl ?_
  rintro w' ⟨q, rfl⟩
  refine T_n ?_
  refine wp_ret ?_
  refine E_ret1 f_17 rfl (by kernel_rfl : Vc.look _ 5 = some (.int .i64 (Lib.compareBytes kx ky))) ?_
  exact ⟨rfl, q, rfl⟩
end Go.Proofs.YtalifkcchfkgmaaGreatDoor
end

section
namespace Go.Proofs
open Go Go.Shelf
def Tryz.laysS_ren : Go.Shelf.Ren := ⟨fun | 6 => 142 | 14 => 153 | 15 => 115 | 20 => 156 | 21 => 157 | 22 => 158 | 23 => 159 | 24 => 160 | 25 => 161 | 26 => 162 | 27 => 163 | 28 => 138 | 29 => 139 | 46 => 164 | 47 => 148 | 48 => 149 | 49 => 165 | 50 => 166 | 57 => 167 | n => n, fun | 22 => 153 | 24 => 3 | 25 => 158 | 39 => 148 | 45 => 161 | 46 => 162 | 50 => 49 | 53 => 169 | 55 => 171 | 66 => 180 | 70 => 184 | 76 => 187 | 77 => 151 | n => n, fun | n => n⟩
theorem Tryz.laysS : Go.Proofs.SlLaysF.n6 Tryz.prog Tryz.laysS_ren := {
  mixed := by kernel_rfl
  f6 := ⟨ "slices.SortFunc[[]int,int]", by decide, Tryz.func142.trans (congrArg some (by kernel_rfl))⟩
  f14 := ⟨ "slices.pdqsortCmpFunc[int]", by decide, Tryz.func153.trans (congrArg some (by kernel_rfl))⟩
  f15 := Tryz.func115.trans (congrArg some (by kernel_rfl))
  f20 := ⟨ "slices.insertionSortCmpFunc[int]", by decide, Tryz.func156.trans (congrArg some (by kernel_rfl))⟩
  f21 := ⟨ "slices.heapSortCmpFunc[int]", by decide, Tryz.func157.trans (congrArg some (by kernel_rfl))⟩
  f22 := ⟨ "slices.breakPatternsCmpFunc[int]", by decide, Tryz.func158.trans (congrArg some (by kernel_rfl))⟩
  f23 := ⟨ "slices.choosePivotCmpFunc[int]", by decide, Tryz.func159.trans (congrArg some (by kernel_rfl))⟩
  f24 := ⟨ "slices.reverseRangeCmpFunc[int]", by decide, Tryz.func160.trans (congrArg some (by kernel_rfl))⟩
  f25 := ⟨ "slices.partialInsertionSortCmpFunc[int]", by decide, Tryz.func161.trans (congrArg some (by kernel_rfl))⟩
  f26 := ⟨ "slices.partitionEqualCmpFunc[int]", by decide, Tryz.func162.trans (congrArg some (by kernel_rfl))⟩
  f27 := ⟨ "slices.partitionCmpFunc[int]", by decide, Tryz.func163.trans (congrArg some (by kernel_rfl))⟩
  f28 := Tryz.func138.trans (congrArg some (by kernel_rfl))
  f29 := Tryz.func139.trans (congrArg some (by kernel_rfl))
  f46 := ⟨ "slices.siftDownCmpFunc[int]", by decide, Tryz.func164.trans (congrArg some (by kernel_rfl))⟩
  f47 := Tryz.func148.trans (congrArg some (by kernel_rfl))
  f48 := Tryz.func149.trans (congrArg some (by kernel_rfl))
  f49 := ⟨ "slices.medianAdjacentCmpFunc[int]", by decide, Tryz.func165.trans (congrArg some (by kernel_rfl))⟩
  f50 := ⟨ "slices.medianCmpFunc[int]", by decide, Tryz.func166.trans (congrArg some (by kernel_rfl))⟩
  f57 := ⟨ "slices.order2CmpFunc[int]", by decide, Tryz.func167.trans (congrArg some (by kernel_rfl))⟩
  t0 := Tryz.underlying0
  a0 := Tryz.isAgg0
  z0 := Tryz.sizeOf0
  v0 := Tryz.zeroValue0
  t3 := Tryz.underlying3
  a3 := Tryz.isAgg3
  z3 := Tryz.sizeOf3
  v3 := Tryz.zeroValue3
  t4 := Tryz.underlying4
  a4 := Tryz.isAgg4
  z4 := Tryz.sizeOf4
  v4 := Tryz.zeroValue4
  t5 := Tryz.underlying5
  a5 := Tryz.isAgg5
  z5 := Tryz.sizeOf5
  v5 := Tryz.zeroValue5
  t9 := Tryz.underlying9
  a9 := Tryz.isAgg9
  z9 := Tryz.sizeOf9
  v9 := Tryz.zeroValue9
  t22 := Tryz.underlying153
  a22 := Tryz.isAgg153
  z22 := Tryz.sizeOf153
  v22 := Tryz.zeroValue153
  a24 := Tryz.isAgg3
  z24 := Tryz.sizeOf3
  t25 := Tryz.underlying158
  a25 := Tryz.isAgg158
  z25 := Tryz.sizeOf158
  v25 := Tryz.zeroValue158
  t39 := Tryz.underlying148
  a39 := Tryz.isAgg148
  z39 := Tryz.sizeOf148
  v39 := Tryz.zeroValue148
  t45 := Tryz.underlying161
  a45 := Tryz.isAgg161
  z45 := Tryz.sizeOf161
  v45 := Tryz.zeroValue161
  t46 := Tryz.underlying162
  a46 := Tryz.isAgg162
  z46 := Tryz.sizeOf162
  v46 := Tryz.zeroValue162
  t50 := Tryz.underlying49
  a50 := Tryz.isAgg49
  z50 := Tryz.sizeOf49
  v50 := Tryz.zeroValue49
  t53 := Tryz.underlying169
  a53 := Tryz.isAgg169
  z53 := Tryz.sizeOf169
  v53 := Tryz.zeroValue169
  t55 := Tryz.underlying171
  a55 := Tryz.isAgg171
  z55 := Tryz.sizeOf171
  v55 := Tryz.zeroValue171
  t66 := Tryz.underlying180
  a66 := Tryz.isAgg180
  z66 := Tryz.sizeOf180
  v66 := Tryz.zeroValue180
  t70 := Tryz.underlying184
  a70 := Tryz.isAgg184
  z70 := Tryz.sizeOf184
  v70 := Tryz.zeroValue184
  t76 := Tryz.underlying187
  a76 := Tryz.isAgg187
  z76 := Tryz.sizeOf187
  v76 := Tryz.zeroValue187
  t77 := Tryz.underlying151
  a77 := Tryz.isAgg151
  z77 := Tryz.sizeOf151
  v77 := Tryz.zeroValue151 }
end Go.Proofs
end

section
namespace Go.Proofs.YtalifkcchfkgmaaGreatDoor
open Go Go.Vc Go.RowKit Go.Sort
def keyLe (keys : List (List UInt8)) (x y : Int) : Bool := !(decide (Lib.compareBytes (keys.getD y.toNat []) (keys.getD x.toNat []) < 0))
theorem keyLe_iff {keys : List (List UInt8)} {x y : Int} : keyLe keys x y = true ↔ Lib.compareBytes (keys.getD x.toNat []) (keys.getD y.toNat []) ≤ 0 := by
  have := cb_anti (keys.getD x.toNat []) (keys.getD y.toNat [])
  simp only [keyLe, Bool.not_eq_true', decide_eq_false_iff_not]
  omega
def ins (le : Int → Int → Bool) (x : Int) : List Int → List Int
  | [] => [x]
  | y :: r => bif le x y then x :: y :: r else y :: ins le x r
def isort (le : Int → Int → Bool) : List Int → List Int
  | [] => []
  | x :: r => ins le x (isort le r)
theorem ins_perm (le : Int → Int → Bool) (x : Int) : ∀ l, (ins le x l).Perm (x :: l)
  | [] => List.Perm.refl _
  | y :: r => by
    unfold ins
    cases le x y with
    | true => exact List.Perm.refl _
    | false => exact ((ins_perm le x r).cons y).trans (List.Perm.swap x y r)
theorem isort_perm (le : Int → Int → Bool) : ∀ l, (isort le l).Perm l
  | [] => List.Perm.refl _
  | x :: r => (ins_perm le x _).trans ((isort_perm le r).cons x)
theorem ins_sorted {le : Int → Int → Bool} (ht : ∀ a b c, le a b = true → le b c = true → le a c = true) (hn : ∀ a b, le a b = true ∨ le b a = true) (x : Int) : ∀ l, l.Pairwise (fun a b => le a b = true) → (ins le x l).Pairwise (fun a b => le a b = true)
  | [], _ => by simp [ins]
  | y :: r, h => by
    obtain ⟨h1, h2⟩ := List.pairwise_cons.1 h
    unfold ins
    cases hxy : le x y with
    | true => exact List.pairwise_cons.2 ⟨fun z hz => by
        rcases List.mem_cons.1 hz with rfl | hz
        · exact hxy
        · exact ht _ _ _ hxy (h1 z hz), h⟩
    | false =>
      refine List.pairwise_cons.2 ⟨fun z hz => ?_, ins_sorted ht hn x r h2⟩
      rcases List.mem_cons.1 ((ins_perm le x r).mem_iff.1 hz) with rfl | hz
      · exact (hn z y).resolve_left (by simp [hxy])
      · exact h1 z hz
theorem isort_sorted {le : Int → Int → Bool} (ht : ∀ a b c, le a b = true → le b c = true → le a c = true) (hn : ∀ a b, le a b = true ∨ le b a = true) : ∀ l, (isort le l).Pairwise (fun a b => le a b = true)
  | [] => List.Pairwise.nil
  | x :: r => ins_sorted ht hn x _ (isort_sorted ht hn r)
theorem keyLe_trans (keys : List (List UInt8)) (a b c : Int) (h1 : keyLe keys a b = true) (h2 : keyLe keys b c = true) : keyLe keys a c = true :=
  keyLe_iff.2 (cb_trans _ _ _ (keyLe_iff.1 h1) (keyLe_iff.1 h2)).1
theorem keyLe_total (keys : List (List UInt8)) (a b : Int) : keyLe keys a b = true ∨ keyLe keys b a = true := by
  rw [keyLe_iff, keyLe_iff]
  have := cb_anti (keys.getD a.toNat []) (keys.getD b.toNat [])
  omega
theorem sort_eq {keys : List (List UInt8)} {d : List Int} (hnd : keys.Nodup) (hin : ∀ i ∈ d, 0 ≤ i ∧ i < (keys.length : Int)) : d.mergeSort (keyLe keys) = isort (keyLe keys) d := by
  refine List.Perm.eq_of_pairwise (le := fun a b => keyLe keys a b = true) (fun a b ha hb h1 h2 => ?_) (List.pairwise_mergeSort (keyLe_trans keys) (fun a b => by simpa using keyLe_total keys a b) d) (isort_sorted (keyLe_trans keys) (keyLe_total keys) d) ((List.mergeSort_perm d _).trans (isort_perm _ d).symm)
  have ia := hin a ((List.mergeSort_perm d _).mem_iff.1 ha)
  have ib := hin b ((isort_perm _ d).mem_iff.1 hb)
  have e1 := keyLe_iff.1 h1
  have e2 := keyLe_iff.1 h2
  have e3 := cb_anti (keys.getD a.toNat []) (keys.getD b.toNat [])
  have e4 := cb_eq _ _ (by omega : Lib.compareBytes (keys.getD a.toNat []) (keys.getD b.toNat []) = 0)
  have la : a.toNat < keys.length := by omega
  have lb : b.toNat < keys.length := by omega
  have e5 : keys[a.toNat] = keys[b.toNat] := by simpa [la, lb] using e4
  have := (List.getElem_inj hnd).1 e5
  omega
def h_sortKeys (_ : Nat) (v : T_api_Value) (d : List Int) : Option (List Int) :=
  need (v.fKeys.Nodup ∧ ∀ i ∈ d, 0 ≤ i ∧ i < (v.fKeys.length : Int)) (need (d.length < 4611686018427387904) (some (isort (keyLe v.fKeys) d)))
theorem finOf {n : Nat} : ∀ (d : List Int), (∀ i ∈ d, 0 ≤ i ∧ i < (n : Int)) → ∃ l : List (Fin n), l.map (fun x => (x.val : Int)) = d
  | [], _ => ⟨[], rfl⟩
  | i :: r, h => by
    obtain ⟨l, hl⟩ := finOf r fun j hj => h j (List.mem_cons_of_mem _ hj)
    have hi := h i List.mem_cons_self
    refine ⟨⟨i.toNat, by omega⟩ :: l, ?_⟩
    simp [hl]
    omega
theorem keys_swo {n : Nat} (k : Fin n → List UInt8) : SWO (ltOf fun x y : Fin n => Lib.compareBytes (k x) (k y)) := by
  refine ⟨fun x => by simp [ltOf, cb_self], fun x y z h1 h2 => ?_, fun x y z h1 h2 => ?_⟩
  · simp only [ltOf, decide_eq_true_eq] at *
    exact (cb_trans _ _ _ (by omega) (by omega)).2 (.inl h1)
  · simp only [ltOf, decide_eq_false_iff_not] at *
    have a1 := cb_anti (k x) (k y)
    have a2 := cb_anti (k y) (k z)
    have a3 := cb_anti (k x) (k z)
    have := (cb_trans (k z) (k y) (k x) (by omega) (by omega)).1
    omega
theorem sortKeys_ok (n : Nat) {M : Mem} {bA ad0 : Addr} {v : T_api_Value} {c0 : List Value} (h0 : Rep M (emb_T_api_Value v) c0) (q0 : ∀ j u, c0[j]? = some u → M.cell? (ad0.add j) = some u)
    (hb : M.cell? bA = some (.pointer (some ad0))) (u : Value) (d : List Int) (cs : List Value) (hr : RepSeq M (d.map (Dat.int .i64)) cs) (r : List Int) (hF : h_sortKeys n v d = some r) :
    OkH Tryz.prog M [.row 3 1 u d.length cs] 142 [u, .func (.func 143) #[] #[.pointer (some bA)]] (fun M' E' z => ∃ cs', z = .tuple #[] ∧ E' = [.row 3 1 u r.length cs'] ∧ RepSeq M' (r.map (Dat.int .i64)) cs' ∧ r.length = d.length) := by
  unfold h_sortKeys at hF
  obtain ⟨⟨hnd, hin⟩, hF⟩ := need_some hF
  obtain ⟨hlen, hF⟩ := need_some hF
  obtain rfl := Option.some.inj hF
  rw [← sort_eq hnd hin]
  obtain rfl := repInts hr
  clear hF
  obtain ⟨zs, rfl⟩ := finOf d hin
  clear hr hin
  intro M2 hM w0 H w hp
  have hmap : (zs.mergeSort fun x y => !(ltOf (fun x y : Fin v.fKeys.length => Lib.compareBytes v.fKeys[x] v.fKeys[y])) y x).map (fun x => (x.val : Int)) = (zs.map (fun x => (x.val : Int))).mergeSort (keyLe v.fKeys) := by
    refine List.map_mergeSort fun a _ b _ => ?_
    simp [keyLe, ltOf]
  rw [← hmap]
  have hls : (zs.mergeSort fun x y => !(ltOf (fun x y : Fin v.fKeys.length => Lib.compareBytes v.fKeys[x] v.fKeys[y])) y x).length = zs.length := List.length_mergeSort _
  clear hmap
  by_cases hd : zs = []
  · subst hd
    have key : ∀ p cap, u = .slice p 0 cap → Calls Tryz.prog 142 [u, .func (.func 143) #[] #[.pointer (some bA)]].toArray w fun e w' => e = .returned (.tuple #[]) ∧ w' = w := fun p cap e => by
      subst e
      exact AnyF.slices_SortFunc_none { Tryz.laysS with } p cap _ w
    have hv : ∃ p cap, u = .slice p 0 cap := by
      rcases hp.rowObj with ⟨h1, _⟩ | ⟨g, cap, cur, h1, _⟩
      · exact ⟨_, _, h1⟩
      · exact ⟨_, _, h1⟩
    obtain ⟨p, cap, hv⟩ := hv
    refine (key p cap hv).mono fun e w' ⟨he, hw⟩ => ⟨_, he, M2, _, Mem.le_refl _, ?_, [], rfl, rfl, ?_, by simp⟩
    · subst hw
      simpa using hp
    · simp [RepSeq]
  · have hpos : 0 < v.fKeys.length := by
      cases zs with
      | nil => exact absurd rfl hd
      | cons x _ => exact Nat.lt_of_le_of_lt (Nat.zero_le _) x.isLt
    haveI : Inhabited (Fin v.fKeys.length) := ⟨⟨0, hpos⟩⟩
    rcases hp.rowObj with ⟨h1, h2, h3, h4⟩ | ⟨g, cap, cur, h1, h2, h3, h4, h5, h6, h7⟩
    · simp at h2
      exact absurd h2 hd
    · simp only [List.length_map, List.map_map] at h1 h2 h4 h5 h6
      subst h1
      obtain ⟨enc, henc⟩ : ∃ enc : Fin v.fKeys.length → Value, enc = fun x => .int .i64 (x.val : Int) := ⟨_, rfl⟩
      have he0 : (Value.int IntKind.i64 ∘ fun x : Fin v.fKeys.length => (x.val : Int)) = enc := by rw [henc]; rfl
      rw [he0] at h5
      obtain ⟨cf, hcf⟩ : ∃ cf : Fin v.fKeys.length → Fin v.fKeys.length → Int, cf = fun x y => Lib.compareBytes v.fKeys[x] v.fKeys[y] := ⟨_, rfl⟩
      have hO : SWO (ltOf cf) := by rw [hcf]; exact keys_swo fun x => v.fKeys[x]
      have hT : ∀ x y, (ltOf cf) x y = false → (ltOf cf) y x = false → x = y := fun x y g1 g2 => by
        rw [hcf] at g1 g2
        simp only [ltOf, decide_eq_false_iff_not] at g1 g2
        have a1 := cb_anti v.fKeys[x] v.fKeys[y]
        have := cb_eq _ _ (by omega : Lib.compareBytes v.fKeys[x] v.fKeys[y] = 0)
        exact Fin.ext ((List.getElem_inj hnd).1 this)
      have hcell : ∀ j, j < zs.length → cur[j]? = (zs.map enc)[j]? := fun j hj => by
        rw [← h5, List.getElem?_take_of_lt (by omega), Array.getElem?_toList]
      have hH : Holds enc w g 0 zs.toArray := fun j hj => by
        have hj' : j < zs.length := by simpa using hj
        refine ⟨?_, ?_⟩
        · rw [Nat.zero_add, h7.ownCell 0 rfl, hcell j hj']
          simp [hj']
        · rw [Nat.zero_add]
          exact h7.ownFrozen 0 rfl j (by omega)
      have hg : g < w.heap.size := lt_of_get (h7.own _ List.mem_cons_self).2
      have eg : ∀ args w, (callFunc 143 args).run Tryz.prog w = .ok (.enter 143 args) w := Go.Proofs.enters_of Tryz.func143 (by kernel_rfl) rfl
      have hget : ∀ x : Fin v.fKeys.length, getI v.fKeys (x.val : Int) = some v.fKeys[x] := fun x => by simp [getI]
      have hcmp : CmpLays1 Tryz.prog 143 #[.pointer (some bA)] enc cf g 0 zs.toArray.size w := by
        intro m os dk hs x y
        have hpW : Hp w0 M2 (.obj g (.cells (putCells enc 0 dk cur) 3 (0, 0)) :: H) (sortWorld enc w g 0 m dk os) := ((h7.sameHeap rfl rfl rfl rfl : Hp w0 M2 _ (Sort.ahead w m)).mapCells (putCells enc 0 dk)).grow_ os
        have hc := order1_calls hpW (Rep.mono hM _ _ h0) (fun j u h => hM.cell (q0 j u h)) (hM.cell hb) (x.val : Int) (y.val : Int) v.fKeys[x] v.fKeys[y] (hget x) (hget y)
        have ea : (#[enc x, enc y] ++ #[.pointer (some bA)] : Array Value) = [.int .i64 (x.val : Int), .int .i64 (y.val : Int), .pointer (some bA)].toArray := by rw [henc]; rfl
        rw [ea]
        exact hc.mono fun e w' ⟨he, q, hw⟩ => ⟨by rw [he, hcf], q, #[], by rw [hw, grow_empty]⟩
      have hcall : Calls Tryz.prog 142 #[.slice (some ⟨g, 0, none⟩) zs.length cap, .func (.func 143) #[] #[.pointer (some bA)]] w fun e w' =>
          e = .returned (.tuple #[]) ∧ ∃ n os, w' = sortWorld enc w g 0 n (zs.mergeSort fun x y => !(ltOf cf) y x).toArray os :=
        Any.slices_SortFunc_total Tryz.laysS enc (fun x => by rw [henc]; rfl) cf hO 143 #[.pointer (some bA)] g 0 cap zs.toArray w eg hcmp hH hg (by simpa using hlen) hT
      simp only [List.length_map]
      rw [hcf] at hcall
      refine hcall.mono fun e w' ⟨he, k, os, hw⟩ => ⟨_, he, M2, _, Mem.le_refl _, ?_, _, rfl, rfl, intsRep _, by simp⟩
      subst hw
      have h9 := ((h7.sameHeap rfl rfl rfl rfl : Hp w0 M2 _ (Sort.ahead w k)).mapCells (putCells enc 0 (zs.mergeSort fun x y => !(ltOf (fun x y : Fin v.fKeys.length => Lib.compareBytes v.fKeys[x] v.fKeys[y])) y x).toArray)).grow_ os
      have hcs : cur.size = cap := by omega
      have hlen' : zs.length ≤ cap := h2
      rw [hls]
      refine h9.objRow h2 h3 (by simp [putCells, h4]) ?_ (by simp)
      rw [List.map_map, he0]
      generalize (zs.mergeSort fun x y => !(ltOf (fun x y : Fin v.fKeys.length => Lib.compareBytes v.fKeys[x] v.fKeys[y])) y x) = ys at hls ⊢
      apply List.ext_getElem?
      intro j
      by_cases hj : j < zs.length
      · rw [List.getElem?_take_of_lt (by omega), Array.getElem?_toList]
        have hjc : j < cur.size := by omega
        have hjy : j < ys.length := by omega
        simp [putCells, hjc, hjy]
      · rw [List.getElem?_eq_none (by simp; omega), List.getElem?_eq_none (by simp; omega)]
end Go.Proofs.YtalifkcchfkgmaaGreatDoor
end

section
set_option linter.unusedVariables false
set_option linter.unusedSimpArgs false
namespace Go.Proofs.YtalifkcchfkgmaaGreatDoor
open Go Go.Vc Go.RowKit
def tree_order_s1 (n : Nat) (d0 : T_api_Value) (s_1 : List Int × Int) : Option (Lp (List Int × Int) (List Int)) :=
    bif (decide (s_1.2 < (((List.replicate ((d0.fKeys.length : Nat) : Int).toNat (0 : Int)).length : Nat) : Int))) then
      ((getI s_1.1 s_1.2).bind fun x_1 =>
      need (inR .i64 (s_1.2 + 1)) <|
      some (.nx (s_1.1.set s_1.2.toNat s_1.2, s_1.2 + 1)))
    else
      some (.br s_1.1)
def tree_order (n : Nat) (d0 : T_api_Value) : Option (List Int) :=
  need (0 ≤ ((d0.fKeys.length : Nat) : Int) ∧ ((d0.fKeys.length : Nat) : Int) * 8 ≤ 140737488355328 ∧ ((d0.fKeys.length : Nat) : Int) ≤ 140737488355328) <|
  (loopF (tree_order_s1 n d0) n (List.replicate ((d0.fKeys.length : Nat) : Int).toNat (0 : Int), (0 : Int))).bind fun y_1 =>
  (h_sortKeys n d0 y_1).bind fun x_2 =>
  some (x_2)
set_option maxHeartbeats 2000000 in
theorem tree_order_ok (n : Nat) (M : Mem) (hG : GL M) (ad0 : Addr) (c0 : List Value) (d0 : T_api_Value) (h0 : Rep M (emb_T_api_Value d0) c0) (q0 : ∀ j v, c0[j]? = some v → M.cell? (ad0.add j) = some v) (r : List Int) (hF : tree_order n d0 = some r) : OkH Tryz.prog M [] 122 [.pointer (some ad0)] (fun M' E' v => ∃ (A0 : Option Addr) (k0 : Nat) (s0 : List Value), v = .slice A0 r.length k0 ∧ E' = [.row 3 1 (.slice A0 r.length k0) r.length s0] ∧ RepSeq M' (r.map (Dat.int .i64)) s0) := by
 unfold tree_order at hF
 intro M1 hM0 w0 H w p0
 replace hG := GL.mono hM0 hG
 replace h0 := Rep.mono hM0 _ _ h0
 replace q0 := fun j v h => hM0.cell (q0 j v h)
 obtain ⟨A_1, cap_1, A_2, cap_2, rfl, h_1, h_2⟩ := T_api_Value.opn h0
 refine R_enter 25 Tryz.func122 rfl rfl (by simp) fun a0 f0 => ?_
 refine R_seq (R_reg ?_)
 refine Y13 (cs := #[.pointer (some ad0)]) (T := 96) f0 p0 fun b_1 M_1 w_1 hM_1 hc_1 p_1 _ f => ?_
 have hc_2 := fz_box hc_1
 refine Y19 f 1 fun _ f => ?_
 refine W_end rfl (T_n (R_seq (R_reg ?_)))
 refine Y15 f p_1 hc_2 0 rfl fun _ f => ?_
 refine Y19 f 2 fun _ f => ?_
 refine Y15 f p_1 (fzu hM_1 q0) 5 rfl fun _ f => ?_
 refine Y19 f 1 fun _ f => ?_
 obtain ⟨g_1, hF_1⟩ := nS hF
 refine Y23 (f := (Dat.int .i64)) (x := (0 : Int)) (z := .int .i64 0) (m := ((d0.fKeys.length : Nat) : Int)) (bytes := 8) (e := 3) f p_1 (by exact rfl) rfl rfl rfl rfl g_1 fun A_3 cap_3 cs_1 w_2 p_2 hr_1 _ f => ?_
 refine Y19 f 1 fun _ f => ?_
 refine W_end rfl (T_n (R_seq (R_seq (R_reg ?_))))
 refine Y19 f 3 fun _ f => ?_
 refine W_end rfl (T_n (wp_block ?_))
 obtain ⟨b_2, hL_1, hF_2⟩ := bS hF_1
 refine wp_mono (Q := fun e a w => (e = .exit 0 ∧ (∃ y_1 : List Int, b_2 = y_1 ∧ ∃ M_3 : Mem, M_1.le M_3 ∧ ∃ (A_5 : Option Addr), ∃ (cap_6 : Nat), ∃ (cs_3 : List Value), RepSeq M_3 (y_1.map (Dat.int .i64)) cs_3 ∧ Frm 25 [(1, .pointer (some (⟨b_1, 0, none⟩))), (3, .slice A_5 y_1.length cap_6)] a ∧ Hp w0 M_3 ((Ent.row 3 1 (.slice A_5 y_1.length cap_6) y_1.length cs_3) :: H) w))) (R_loop (n := 25) (w0 := w0) (M := M_1) (fun (x : Nat × (List Int × Int) × (Option Addr) × Nat × (List Value)) => match x with | (m_1, s_1, A_4, cap_4, cs_2) => [(1, .pointer (some (⟨b_1, 0, none⟩))), (3, .slice A_4 s_1.1.length cap_4), (12, .int .i64 (((List.replicate ((d0.fKeys.length : Nat) : Int).toNat (0 : Int)).length : Nat) : Int)), (13, .int .i64 s_1.2)]) (fun (x : Nat × (List Int × Int) × (Option Addr) × Nat × (List Value)) => match x with | (m_1, s_1, A_4, cap_4, cs_2) => ((Ent.row 3 1 (.slice A_4 s_1.1.length cap_4) s_1.1.length cs_2) :: H)) (fun (x : Nat × (List Int × Int) × (Option Addr) × Nat × (List Value)) (MM : Mem) => match x with | (m_1, s_1, A_4, cap_4, cs_2) => loopF (tree_order_s1 n d0) m_1 s_1 = some b_2 ∧ RepSeq MM (s_1.1.map (Dat.int .i64)) cs_2) (fun (x : Nat × (List Int × Int) × (Option Addr) × Nat × (List Value)) => match x with | (m_1, s_1, A_4, cap_4, cs_2) => m_1) (n, (List.replicate ((d0.fKeys.length : Nat) : Int).toNat (0 : Int), (0 : Int)), A_3, cap_3, cs_1) (f.keep (ks := [1, 3, 12, 13]) (by kernel_rfl)) p_2 ⟨hL_1, hr_1⟩ ?_) ?_
 ·rintro ⟨m_1, s_1, A_4, cap_4, cs_2⟩ M_2 _ w_3 hM_2 I_1 f p_3
  obtain ⟨I_1L, hr_2⟩ := I_1
  obtain ⟨m_2, r_1, rfl, hs_1, hn_1⟩ := loop_step I_1L
  unfold tree_order_s1 at hs_1
  refine R_seq (R_reg ?_)
  refine Y19 f 1 fun _ f => ?_
  refine W_end rfl (T_n (R_seq ?_))
  refine Y6 f (b := decide (s_1.2 < (((List.replicate ((d0.fKeys.length : Nat) : Int).toNat (0 : Int)).length : Nat) : Int))) (fun h_3 => ?_) fun h_3 => ?_
  ·have k_1 : s_1.2 < (((List.replicate ((d0.fKeys.length : Nat) : Int).toNat (0 : Int)).length : Nat) : Int) := dI.1 h_3
   have hF_3 := cnd_t h_3 hs_1
   refine wp_skip (T_n (R_seq (wp_block (R_seq (R_reg ?_)))))
   refine Y19 f 2 fun _ f => ?_
   refine W_end rfl (T_n (R_reg ?_))
   refine Y19 f 3 fun _ f => ?_
   obtain ⟨x_1, hx_1, hF_4⟩ := bS hF_3
   obtain ⟨b_3, cap_5, hv_1, hcap_1⟩ := p_3.rowAddr 0 rfl (getI_pos hx_1)
   have f := Frm.set f 16 (v := .slice A_4 s_1.1.length cap_4) (v' := .slice (some ⟨b_3, 0, none⟩) s_1.1.length cap_5) (by kernel_rfl) (hv_1)
   refine Y14 (v := .pointer (some ((⟨b_3, 0, none⟩ : Addr).add (s_1.2.toNat * 1)))) f (Y30 rfl (ad := ⟨b_3, 0, none⟩) (len := s_1.1.length) (cap := cap_5) (k := .i64) (i := s_1.2) (e := 3) (sz := 1) (getI_nn hx_1) (getI_lt hx_1)) fun _ f => ?_
   have f := Frm.set f 16 (v := .slice (some ⟨b_3, 0, none⟩) s_1.1.length cap_5) (v' := .slice A_4 s_1.1.length cap_4) (by kernel_rfl) (hv_1.symm)
   refine Y25 (it := s_1.2) (d := s_1.1) (f := (Dat.int .i64)) (xv := s_1.2) (v := .int .i64 s_1.2) f p_3 hv_1 rfl rfl (by exact rfl) (szd_int .i64) hx_1 hr_2 fun w_4 p_4 hr_3 _ f => ?_
   have p_5 : Hp w0 M_2 ((Ent.row 3 1 (.slice A_4 (s_1.1.set s_1.2.toNat s_1.2).length cap_4) (s_1.1.set s_1.2.toNat s_1.2).length (cs_2.set s_1.2.toNat (.int .i64 s_1.2))) :: H) w_4 := p_4.rowVal (by rw [List.length_set])
   have f := Frm.set f 3 (v := .slice A_4 s_1.1.length cap_4) (v' := .slice A_4 (s_1.1.set s_1.2.toNat s_1.2).length cap_4) (by kernel_rfl) (by rw [List.length_set])
   have f := Frm.set f 16 (v := .slice A_4 s_1.1.length cap_4) (v' := .slice A_4 (s_1.1.set s_1.2.toNat s_1.2).length cap_4) (by kernel_rfl) (by rw [List.length_set])
   refine W_end rfl (B_n (T_n (R_reg ?_)))
   obtain ⟨g_2, hF_5⟩ := nS hF_4
   refine Y19 f 1 fun _ f => ?_
   have f := Frm.set f 20 (v := .int .i64 (IntKind.wrap .i64 (s_1.2 + 1))) (v' := .int .i64 (s_1.2 + 1)) (by kernel_rfl) (congrArg (Value.int .i64) (inR_wrap g_2))
   refine Y19 f 1 fun _ f => ?_
   refine W_end rfl (T_n ?_)
   obtain rfl := sI hF_5
   exact ⟨⟨m_2, (s_1.1.set s_1.2.toNat s_1.2, s_1.2 + 1), A_4, cap_4, cs_2.set s_1.2.toNat (.int .i64 s_1.2)⟩, Nat.lt_succ_self _, M_2, hM_2, ⟨hn_1, hr_3⟩, f.keep (ks := [1, 3, 12, 13]) (by kernel_rfl), p_5⟩
  ·have k_2 : ¬ (s_1.2 < (((List.replicate ((d0.fKeys.length : Nat) : Int).toNat (0 : Int)).length : Nat) : Int)) := iff_f dI h_3
   have hF_6 := cnd_f h_3 hs_1
   refine wp_exit (T_x (T_x ?_))
   obtain rfl := sI hF_6
   exact ⟨rfl, s_1.1, (sI hn_1).symm, M_2, hM_2, A_4, cap_4, cs_2, hr_2, f.keep (ks := [1, 3]) (by kernel_rfl), p_3⟩
 ·rintro _ _ w_6 ⟨rfl, y_1, hq_, M_3, hM_3, A_5, cap_6, cs_3, hr_4, f, p_6⟩
  subst b_2
  refine B_x (T_n (R_seq (R_reg ?_)))
  refine Y19 f 2 fun _ f => ?_
  obtain ⟨x_2, hx_2, hF_7⟩ := bS hF_2
  refine Y17 (E := [Ent.row 3 1 (.slice A_5 y_1.length cap_6) y_1.length cs_3]) (H := (H)) f p_6 (sortKeys_ok n (c0 := [.int .i8 d0.fKind, .bool d0.fBool, .int .i64 d0.fNum, S d0.fText, .slice A_1 d0.fList.length cap_1, .slice A_2 d0.fKeys.length cap_2]) (T_api_Value.shutx (x := d0) (h_1.mono (hM_1.trans hM_3)) (h_2.mono (hM_1.trans hM_3))) (fzu (hM_1.trans hM_3) q0) ((fzu hM_3 hc_2) 0 _ rfl) _ _ _ hr_4 _ hx_2) fun _ M_4 E_1 w_7 hM_4 p_7 q_1 _ f => ?_
  obtain ⟨cs_4, rfl, rfl, hr_5, hl_1⟩ := q_1
  have hv_2 : (.slice A_5 y_1.length cap_6 : Value) = .slice A_5 x_2.length cap_6 := by rw [hl_1]
  have p_8 : Hp w0 M_4 ((Ent.row 3 1 (.slice A_5 x_2.length cap_6) x_2.length cs_4) :: H) w_7 := by rw [← hv_2]; exact p_7
  have f := Frm.set f 3 (v := .slice A_5 y_1.length cap_6) (v' := .slice A_5 x_2.length cap_6) (by kernel_rfl) (hv_2)
  have f := Frm.set f 21 (v := .slice A_5 y_1.length cap_6) (v' := .slice A_5 x_2.length cap_6) (by kernel_rfl) (hv_2)
  refine W_end rfl (T_n (R_seq (R_reg ?_)))
  refine Y19 f 2 fun _ f => ?_
  refine W_end rfl (T_n (wp_ret ?_))
  refine E_ret1 f rfl (by kernel_rfl : Vc.look _ 2 = some (.slice A_5 x_2.length cap_6)) ?_
  obtain rfl := sI hF_7
  exact ⟨_, rfl, M_4, _, ((hM_1.trans hM_3).trans hM_4), p_8, ⟨A_5, cap_6, cs_4, rfl, rfl, hr_5⟩⟩
def tree_sorted_s1 (n : Nat) (rec_tree_sorted : T_api_Value → Option T_api_Value) (d0 : T_api_Value) (x_1 : List Int) (s_1 : Int × List T_api_Value × List (List UInt8)) : Option (Lp (Int × List T_api_Value × List (List UInt8)) (List T_api_Value × List (List UInt8))) :=
    bif (decide (s_1.1 < ((x_1.length : Nat) : Int))) then
      ((getI x_1 s_1.1).bind fun x_2 =>
      (((getI d0.fKeys x_2).bind fun x_3 =>
        need ((s_1.2.2.length + 1) * 16 ≤ 140737488355328) <|
        some (s_1.2.2 ++ [x_3]) : Option (List (List UInt8)))).bind fun y_1 =>
      (((getI d0.fList x_2).bind fun x_5 =>
        (rec_tree_sorted x_5).bind fun x_6 =>
        need ((s_1.2.1.length + 1) * 80 ≤ 140737488355328) <|
        some (s_1.2.1 ++ [(⟨x_6.fKind, (x_6.fBool), x_6.fNum, x_6.fText, x_6.fList, x_6.fKeys⟩ : T_api_Value)]) : Option (List T_api_Value))).bind fun y_2 =>
      need (inR .i64 (s_1.1 + 1)) <|
      some (.nx (s_1.1 + 1, y_2, y_1)))
    else
      some (.br (s_1.2.1, s_1.2.2))
def tree_sorted_s2 (n : Nat) (rec_tree_sorted : T_api_Value → Option T_api_Value) (d0 : T_api_Value) (s_2 : Int × List T_api_Value) : Option (Lp (Int × List T_api_Value) (List T_api_Value)) :=
    bif (decide (s_2.1 < ((d0.fList.length : Nat) : Int))) then
      ((((getI d0.fList s_2.1).bind fun x_9 =>
        (rec_tree_sorted x_9).bind fun x_10 =>
        need ((s_2.2.length + 1) * 80 ≤ 140737488355328) <|
        some (s_2.2 ++ [(⟨x_10.fKind, (x_10.fBool), x_10.fNum, x_10.fText, x_10.fList, x_10.fKeys⟩ : T_api_Value)]) : Option (List T_api_Value))).bind fun y_4 =>
      need (inR .i64 (s_2.1 + 1)) <|
      some (.nx (s_2.1 + 1, y_4)))
    else
      some (.br s_2.2)
def tree_sorted_b (n : Nat) (rec_tree_sorted : T_api_Value → Option T_api_Value) (d0 : T_api_Value) : Option T_api_Value :=
  bif (decide (d0.fKind = 5)) then
    ((tree_order n d0).bind fun x_1 =>
    (loopF (tree_sorted_s1 n rec_tree_sorted d0 x_1) n ((0 : Int), ([] : List T_api_Value), ([] : List (List UInt8)))).bind fun y_3 =>
    some ((⟨d0.fKind, (d0.fBool), d0.fNum, d0.fText, y_3.1, y_3.2⟩ : T_api_Value)))
  else
    (loopF (tree_sorted_s2 n rec_tree_sorted d0) n ((0 : Int), ([] : List T_api_Value))).bind fun y_5 =>
    some ((⟨d0.fKind, (d0.fBool), d0.fNum, d0.fText, y_5, ([] : List (List UInt8))⟩ : T_api_Value))
set_option maxHeartbeats 2000000 in
theorem tree_sorted_b_ok (n : Nat) (rec_tree_sorted : T_api_Value → Option T_api_Value) (hrec_tree_sorted : ∀ (M : Mem) (hG : GL M) (ad0 : Addr) (c0 : List Value) (d0 : T_api_Value) (h0 : Rep M (emb_T_api_Value d0) c0) (q0 : ∀ j v, c0[j]? = some v → M.cell? (ad0.add j) = some v) (r : T_api_Value) (hF : rec_tree_sorted d0 = some r), Ok Tryz.prog M 108 [.pointer (some ad0)] (fun M' v => ∃ (c0 : List Value), v = .agg c0.toArray ∧ Rep M' (emb_T_api_Value r) c0)) (M : Mem) (hG : GL M) (ad0 : Addr) (c0 : List Value) (d0 : T_api_Value) (h0 : Rep M (emb_T_api_Value d0) c0) (q0 : ∀ j v, c0[j]? = some v → M.cell? (ad0.add j) = some v) (r : T_api_Value) (hF : tree_sorted_b n rec_tree_sorted d0 = some r) : Ok Tryz.prog M 108 [.pointer (some ad0)] (fun M' v => ∃ (c0 : List Value), v = .agg c0.toArray ∧ Rep M' (emb_T_api_Value r) c0) := by
 unfold tree_sorted_b at hF
 intro M1 hM0 w0 H w p0
 replace hG := GL.mono hM0 hG
 replace h0 := Rep.mono hM0 _ _ h0
 replace q0 := fun j v h => hM0.cell (q0 j v h)
 obtain ⟨A_1, cap_1, A_2, cap_2, rfl, h_1, h_2⟩ := T_api_Value.opn h0
 refine R_enter 84 Tryz.func108 rfl rfl (by simp) fun a0 f0 => ?_
 refine R_seq (R_reg ?_)
 refine Y12 f0 p0 (.cells #[.int .i8 0, .bool false, .int .i64 0, S [], .slice none 0 0, .slice none 0 0] 76 (0, 0)) fun b_1 w_1 p_1 _ f => ?_
 refine W_end rfl (T_n (R_seq ?_))
 refine R_mix (E := []) (Hr := ((Ent.obj b_1 (.cells #[.int .i8 0, .bool false, .int .i64 0, S [], .slice none 0 0, .slice none 0 0] 76 (0, 0))) :: H)) [(0, true), (1, true), (2, true), (3, true), (4, true), (5, true), (6, true), (7, true), (8, true), (9, true), (10, true), (11, true), (12, true), (13, true), (14, true), (15, true), (16, true), (17, false), (18, false)] p_1 (by kernel_rfl) (by kernel_rfl) rfl (by kernel_rfl) ?_
 refine Y0 default f 3 fun _ f => ?_
 refine M_eq (v := .int .i8 d0.fKind) f (by kernel_rfl) (by kernel_rfl) rfl rfl (fun _ pq => Y32 (v := .int .i8 d0.fKind) rfl (ad := ad0.add 0) (pq.cell (q0 0 _ rfl))) fun _ f => ?_
 refine Y0 default f 3 fun _ f => ?_
 refine M_eq (v := .bool d0.fBool) f (by kernel_rfl) (by kernel_rfl) rfl rfl (fun _ pq => Y32 (v := .bool d0.fBool) rfl (ad := ad0.add 1) (pq.cell (q0 1 _ rfl))) fun _ f => ?_
 refine Y0 default f 3 fun _ f => ?_
 refine M_eq (v := .int .i64 d0.fNum) f (by kernel_rfl) (by kernel_rfl) rfl rfl (fun _ pq => Y32 (v := .int .i64 d0.fNum) rfl (ad := ad0.add 2) (pq.cell (q0 2 _ rfl))) fun _ f => ?_
 refine Y0 default f 3 fun _ f => ?_
 refine M_eq (v := S d0.fText) f (by kernel_rfl) (by kernel_rfl) rfl rfl (fun _ pq => Y32 (v := S d0.fText) rfl (ad := ad0.add 3) (pq.cell (q0 3 _ rfl))) fun _ f => ?_
 refine Y0 default f 1 fun _ f => ?_
 refine M_fix (E := []) fun w_2 p_2 => ?_
 refine Y12 f p_2 (.cells #[.int .i8 0, .bool false, .int .i64 0, S [], .slice none 0 0, .slice none 0 0] 76 (0, 0)) fun b_2 w_3 p_3 _ f => ?_
 refine W_end rfl ?_
 refine M_go (M1 := M1) (E := [Ent.obj b_2 (.cells #[.int .i8 0, .bool false, .int .i64 0, S [], .slice none 0 0, .slice none 0 0] 76 (0, 0))]) (mR _) p_3 ?_
 refine M_fix (E := [Ent.obj b_2 (.cells #[.int .i8 0, .bool false, .int .i64 0, S [], .slice none 0 0, .slice none 0 0] 76 (0, 0))]) fun w_4 p_4 => ?_
 refine Y27 (vs := [.int .i8 d0.fKind, .bool d0.fBool, .int .i64 d0.fNum, S d0.fText, .slice none 0 0, .slice none 0 0]) (j := 0) f p_4 rfl rfl (by simp [Value.oneCell', S]) (by simp) (by decide) (cs' := #[.int .i8 d0.fKind, .bool d0.fBool, .int .i64 d0.fNum, S d0.fText, .slice none 0 0, .slice none 0 0]) fun w_5 p_5 _ f => ?_
 refine W_end rfl ?_
 refine M_go (M1 := M1) (E := [Ent.obj b_2 (.cells #[.int .i8 d0.fKind, .bool d0.fBool, .int .i64 d0.fNum, S d0.fText, .slice none 0 0, .slice none 0 0] 76 (0, 0))]) (mR _) p_5 ?_
 refine M_end rfl fun w_6 p_6 => ?_
 refine T_n (R_seq (R_seq (R_reg ?_)))
 refine Y19 f 3 fun _ f => ?_
 refine Y15 f p_6 q0 0 rfl fun _ f => ?_
 refine Y19 f 1 fun _ f => ?_
 refine W_end rfl (T_n ?_)
 refine Y6 f (b := decide (d0.fKind = 5)) (fun h_3 => ?_) fun h_3 => ?_
 ·have k_1 : d0.fKind = 5 := dI.1 h_3
  have hF_1 := cnd_t h_3 hF
  refine R_seq (R_seq (R_reg ?_))
  refine Y19 f 1 fun _ f => ?_
  obtain ⟨x_1, hx_1, hF_2⟩ := bS hF_1
  refine Y17 (E := []) (H := ((Ent.obj b_2 (.cells #[.int .i8 d0.fKind, .bool d0.fBool, .int .i64 d0.fNum, S d0.fText, .slice none 0 0, .slice none 0 0] 76 (0, 0))) :: (Ent.obj b_1 (.cells #[.int .i8 0, .bool false, .int .i64 0, S [], .slice none 0 0, .slice none 0 0] 76 (0, 0))) :: H)) f p_6 (tree_order_ok n _ hG ad0 [.int .i8 d0.fKind, .bool d0.fBool, .int .i64 d0.fNum, S d0.fText, .slice A_1 d0.fList.length cap_1, .slice A_2 d0.fKeys.length cap_2] d0 (T_api_Value.shutx (x := d0) h_1 h_2) (fz_at (q0) 0 rfl) x_1 hx_1) fun _ M_1 E_1 w_7 hM_1 p_7 q_1 _ f => ?_
  obtain ⟨A_3, cap_3, cs_1, rfl, rfl, hr_1⟩ := q_1
  refine Y19 f 2 fun _ f => ?_
  refine W_end rfl (T_n (wp_block ?_))
  obtain ⟨A_4, cap_4, hv_1⟩ : ∃ A cap, Value.slice none 0 0 = .slice A ([] : List T_api_Value).length cap := ⟨none, 0, rfl⟩
  have p_8 : Hp w0 M_1 ((Ent.row 76 6 (.slice A_4 ([] : List T_api_Value).length cap_4) ([] : List T_api_Value).length []) :: (Ent.row 3 1 (.slice A_3 x_1.length cap_3) x_1.length cs_1) :: (Ent.obj b_2 (.cells #[.int .i8 d0.fKind, .bool d0.fBool, .int .i64 d0.fNum, S d0.fText, .slice A_4 ([] : List T_api_Value).length cap_4, .slice none 0 0] 76 (0, 0))) :: (Ent.obj b_1 (.cells #[.int .i8 0, .bool false, .int .i64 0, S [], .slice none 0 0, .slice none 0 0] 76 (0, 0))) :: H) w_7 := by rw [← hv_1]; exact p_7.nilRow 76 6
  have hr_2 : RepSeq M_1 (([] : List T_api_Value).map emb_T_api_Value) [] := rfl
  obtain ⟨A_5, cap_5, hv_2⟩ : ∃ A cap, Value.slice none 0 0 = .slice A ([] : List (List UInt8)).length cap := ⟨none, 0, rfl⟩
  have p_9 : Hp w0 M_1 ((Ent.row 9 1 (.slice A_5 ([] : List (List UInt8)).length cap_5) ([] : List (List UInt8)).length []) :: (Ent.row 76 6 (.slice A_4 ([] : List T_api_Value).length cap_4) ([] : List T_api_Value).length []) :: (Ent.row 3 1 (.slice A_3 x_1.length cap_3) x_1.length cs_1) :: (Ent.obj b_2 (.cells #[.int .i8 d0.fKind, .bool d0.fBool, .int .i64 d0.fNum, S d0.fText, .slice A_4 ([] : List T_api_Value).length cap_4, .slice A_5 ([] : List (List UInt8)).length cap_5] 76 (0, 0))) :: (Ent.obj b_1 (.cells #[.int .i8 0, .bool false, .int .i64 0, S [], .slice none 0 0, .slice none 0 0] 76 (0, 0))) :: H) w_7 := by rw [← hv_2]; exact p_8.nilRow 9 1
  have hr_3 : RepSeq M_1 (([] : List (List UInt8)).map Dat.str) [] := rfl
  have p_14 := p_9.pl [4, 4, 4, 3, 4]
  obtain ⟨b_3, hL_1, hF_3⟩ := bS hF_2
  refine wp_mono (Q := fun e a w => (e = .exit 0 ∧ (∃ y_3 : List T_api_Value × List (List UInt8), b_3 = y_3 ∧ ∃ M_7 : Mem, M_1.le M_7 ∧ ∃ (A_22 : Option Addr), ∃ (cap_23 : Nat), ∃ (cs_10 : List Value), ∃ (A_23 : Option Addr), ∃ (cap_24 : Nat), ∃ (cs_11 : List Value), RepSeq M_7 (y_3.1.map emb_T_api_Value) cs_10 ∧ RepSeq M_7 (y_3.2.map Dat.str) cs_11 ∧ Frm 84 [(2, .pointer (some (⟨b_1, 0, none⟩))), (3, .pointer (some (⟨b_2, 0, none⟩)))] a ∧ Hp w0 M_7 ((Ent.row 76 6 (.slice A_22 y_3.1.length cap_23) y_3.1.length cs_10) :: (Ent.row 9 1 (.slice A_23 y_3.2.length cap_24) y_3.2.length cs_11) :: (Ent.row 3 1 (.slice A_3 x_1.length cap_3) x_1.length cs_1) :: (Ent.obj b_2 (.cells #[.int .i8 d0.fKind, .bool d0.fBool, .int .i64 d0.fNum, S d0.fText, .slice A_22 y_3.1.length cap_23, .slice A_23 y_3.2.length cap_24] 76 (0, 0))) :: (Ent.obj b_1 (.cells #[.int .i8 0, .bool false, .int .i64 0, S [], .slice none 0 0, .slice none 0 0] 76 (0, 0))) :: H) w))) (R_loop (n := 84) (w0 := w0) (M := M_1) (fun (x : Nat × (Int × List T_api_Value × List (List UInt8)) × (Option Addr) × Nat × (List Value) × (Option Addr) × Nat × (List Value)) => match x with | (m_1, s_1, A_6, cap_6, cs_2, A_7, cap_7, cs_3) => [(0, .pointer (some ad0)), (2, .pointer (some (⟨b_1, 0, none⟩))), (3, .pointer (some (⟨b_2, 0, none⟩))), (30, .slice A_3 x_1.length cap_3), (31, .int .i64 ((x_1.length : Nat) : Int)), (32, .int .i64 s_1.1)]) (fun (x : Nat × (Int × List T_api_Value × List (List UInt8)) × (Option Addr) × Nat × (List Value) × (Option Addr) × Nat × (List Value)) => match x with | (m_1, s_1, A_6, cap_6, cs_2, A_7, cap_7, cs_3) => ((Ent.row 76 6 (.slice A_6 s_1.2.1.length cap_6) s_1.2.1.length cs_2) :: (Ent.row 9 1 (.slice A_7 s_1.2.2.length cap_7) s_1.2.2.length cs_3) :: (Ent.row 3 1 (.slice A_3 x_1.length cap_3) x_1.length cs_1) :: (Ent.obj b_2 (.cells #[.int .i8 d0.fKind, .bool d0.fBool, .int .i64 d0.fNum, S d0.fText, .slice A_6 s_1.2.1.length cap_6, .slice A_7 s_1.2.2.length cap_7] 76 (0, 0))) :: (Ent.obj b_1 (.cells #[.int .i8 0, .bool false, .int .i64 0, S [], .slice none 0 0, .slice none 0 0] 76 (0, 0))) :: H)) (fun (x : Nat × (Int × List T_api_Value × List (List UInt8)) × (Option Addr) × Nat × (List Value) × (Option Addr) × Nat × (List Value)) (MM : Mem) => match x with | (m_1, s_1, A_6, cap_6, cs_2, A_7, cap_7, cs_3) => loopF (tree_sorted_s1 n rec_tree_sorted d0 x_1) m_1 s_1 = some b_3 ∧ RepSeq MM (s_1.2.1.map emb_T_api_Value) cs_2 ∧ RepSeq MM (s_1.2.2.map Dat.str) cs_3) (fun (x : Nat × (Int × List T_api_Value × List (List UInt8)) × (Option Addr) × Nat × (List Value) × (Option Addr) × Nat × (List Value)) => match x with | (m_1, s_1, A_6, cap_6, cs_2, A_7, cap_7, cs_3) => m_1) (n, ((0 : Int), ([] : List T_api_Value), ([] : List (List UInt8))), A_4, cap_4, [], A_5, cap_5, []) (f.keep (ks := [0, 2, 3, 30, 31, 32]) (by kernel_rfl)) p_14 ⟨hL_1, hr_2, hr_3⟩ ?_) ?_
  ·rintro ⟨m_1, s_1, A_6, cap_6, cs_2, A_7, cap_7, cs_3⟩ M_2 _ w_8 hM_2 I_1 f p_15
   obtain ⟨I_1L, hr_4, hr_5⟩ := I_1
   obtain ⟨m_2, r_1, rfl, hs_1, hn_1⟩ := loop_step I_1L
   unfold tree_sorted_s1 at hs_1
   refine R_seq (R_reg ?_)
   refine Y19 f 1 fun _ f => ?_
   refine W_end rfl (T_n (R_seq ?_))
   refine Y6 f (b := decide (s_1.1 < ((x_1.length : Nat) : Int))) (fun h_4 => ?_) fun h_4 => ?_
   ·have k_2 : s_1.1 < ((x_1.length : Nat) : Int) := dI.1 h_4
    have hF_4 := cnd_t h_4 hs_1
    refine wp_skip (T_n (R_seq (wp_block (R_seq (R_reg ?_)))))
    obtain ⟨x_2, hx_2, hF_5⟩ := bS hF_4
    obtain ⟨b_4, cap_8, hv_3, hcap_1⟩ := p_15.rowAddr 2 rfl (getI_pos hx_2)
    have f := Frm.set f 30 (v := .slice A_3 x_1.length cap_3) (v' := .slice (some ⟨b_4, 0, none⟩) x_1.length cap_8) (by kernel_rfl) (hv_3)
    refine Y14 (v := .pointer (some ((⟨b_4, 0, none⟩ : Addr).add (s_1.1.toNat * 1)))) f (Y30 rfl (ad := ⟨b_4, 0, none⟩) (len := x_1.length) (cap := cap_8) (k := .i64) (i := s_1.1) (e := 3) (sz := 1) (getI_nn hx_2) (getI_lt hx_2)) fun _ f => ?_
    have f := Frm.set f 30 (v := .slice (some ⟨b_4, 0, none⟩) x_1.length cap_8) (v' := .slice A_3 x_1.length cap_3) (by kernel_rfl) (hv_3.symm)
    obtain ⟨c_1, hl_1, hr_6, hc_1⟩ := RepSeq.get s_1.1.toNat (szd_all (szd_int .i64)) (RepSeq.mono hM_2 _ _ hr_1) (getI_map hx_2)
    clear hl_1
    obtain rfl : c_1 = [.int .i64 x_2] := hr_6
    refine Y14 (v := .int .i64 x_2) f (Y32 (v := .int .i64 x_2) rfl (ad := (⟨b_4, 0, none⟩ : Addr).add (s_1.1.toNat * 1)) (by simpa [Addr.add] using (fun j v h => row_at (p_15.rowCell 2 rfl hv_3) hc_1 j v h) 0 _ rfl)) fun _ f => ?_
    refine Y19 f 1 fun _ f => ?_
    refine W_end rfl (T_n (R_seq ?_))
    obtain ⟨j_1, hj_1, hF_6⟩ := bS hF_5
    refine R_mid (fun a_46 w_17 => ∃ y_1 : List (List UInt8), j_1 = y_1 ∧ ∃ M_3 : Mem, M_2.le M_3 ∧ ∃ (A_10 : Option Addr), ∃ (cap_11 : Nat), ∃ (cs_6 : List Value), RepSeq M_3 (y_1.map Dat.str) cs_6 ∧ Frm 84 [(0, .pointer (some ad0)), (2, .pointer (some (⟨b_1, 0, none⟩))), (3, .pointer (some (⟨b_2, 0, none⟩))), (5, .int .i64 x_2), (30, .slice A_3 x_1.length cap_3), (31, .int .i64 ((x_1.length : Nat) : Int)), (32, .int .i64 s_1.1)] a_46 ∧ Hp w0 M_3 ((Ent.row 9 1 (.slice A_10 y_1.length cap_11) y_1.length cs_6) :: (Ent.row 76 6 (.slice A_6 s_1.2.1.length cap_6) s_1.2.1.length cs_2) :: (Ent.row 3 1 (.slice A_3 x_1.length cap_3) x_1.length cs_1) :: (Ent.obj b_2 (.cells #[.int .i8 d0.fKind, .bool d0.fBool, .int .i64 d0.fNum, S d0.fText, .slice A_6 s_1.2.1.length cap_6, .slice A_10 y_1.length cap_11] 76 (0, 0))) :: (Ent.obj b_1 (.cells #[.int .i8 0, .bool false, .int .i64 0, S [], .slice none 0 0, .slice none 0 0] 76 (0, 0))) :: H) w_17) ?_ ?_
    ·have p_25 := p_15.pl [4, 4, 4, 3, 4]
     obtain ⟨x_3, hx_3, hF_7⟩ := bS hj_1
     obtain ⟨g_1, hF_8⟩ := nS hF_7
     refine R_plan (ks := [11, 12]) (E := [Ent.row 9 1 (.slice A_7 s_1.2.2.length cap_7) s_1.2.2.length cs_3]) (Hr := ((Ent.row 76 6 (.slice A_6 s_1.2.1.length cap_6) s_1.2.1.length cs_2) :: (Ent.row 3 1 (.slice A_3 x_1.length cap_3) x_1.length cs_1) :: (Ent.obj b_2 (.cells #[.int .i8 d0.fKind, .bool d0.fBool, .int .i64 d0.fNum, S d0.fText, .slice A_6 s_1.2.1.length cap_6, .slice A_7 s_1.2.2.length cap_7] 76 (0, 0))) :: (Ent.obj b_1 (.cells #[.int .i8 0, .bool false, .int .i64 0, S [], .slice none 0 0, .slice none 0 0] 76 (0, 0))) :: H)) (.quiet 0 (.quiet 1 (.quiet 2 (.quiet 3 (.quiet 4 (.quiet 5 (.quiet 6 (.quiet 7 (.quiet 8 (.alt 9 (.alt 10 .done .none) .none)))))))))) p_25 (by kernel_rfl) (by kernel_rfl) (by kernel_rfl) ?_
     refine Y1 (v := .pointer (some (⟨b_2, 5, none⟩))) rfl f rfl rfl (fun _ _ => by kernel_rfl) fun _ f => ?_
     refine Y1 (v := .slice A_7 s_1.2.2.length cap_7) rfl f rfl rfl (fun _ pq => Y32 (v := .slice A_7 s_1.2.2.length cap_7) rfl (ad := ⟨b_2, 5, none⟩) (pq.ownCell 2 rfl 5)) fun _ f => ?_
     refine Y1 (v := .pointer (some ad0)) rfl f rfl rfl (fun _ _ => by kernel_rfl) fun _ f => ?_
     refine Y1 (v := .pointer (some ad0)) rfl f rfl rfl (fun _ _ => by kernel_rfl) fun _ f => ?_
     refine Y1 (v := .pointer (some (ad0.add 5))) rfl f rfl rfl (fun _ _ => by kernel_rfl) fun _ f => ?_
     refine Y1 (v := .slice A_2 d0.fKeys.length cap_2) rfl f rfl rfl (fun _ pq => Y32 (v := .slice A_2 d0.fKeys.length cap_2) rfl (ad := ad0.add 5) (pq.cell ((fzu (hM_1.trans hM_2) q0) 5 _ rfl))) fun _ f => ?_
     refine Y1 (v := .int .i64 x_2) rfl f rfl rfl (fun _ _ => by kernel_rfl) fun _ f => ?_
     obtain ⟨ad_2, c_3, e_2, hl_3, hr_9, hc_3⟩ := Sli.at_ (h_2.mono (hM_1.trans hM_2)) hx_3
     clear hl_3
     obtain rfl : c_3 = [S x_3] := hr_9
     refine Y1 (v := .pointer (some (ad_2.add (x_2.toNat * 1)))) rfl f rfl rfl (fun _ pq => Y31 e_2 rfl (len := d0.fKeys.length) (cap := cap_2) (k := .i64) (i := x_2) (e := 9) (sz := 1) (getI_nn hx_3) (getI_lt hx_3)) fun _ f => ?_
     refine Y1 (v := S x_3) rfl f rfl rfl (fun _ pq => Y32 (v := S x_3) rfl (ad := ad_2.add (x_2.toNat * 1)) (pq.cell (hc_3 0 _ rfl))) fun _ f => ?_
     refine N_alt rfl (fun w_11 p_26 => ?_) ?_
     ·refine V_allocS (k := 1) (c := 1) f p_26 (.cells #[S x_3] 9 (0, 0)) (by kernel_rfl) (fun _ => by kernel_rfl) fun b_6 w_12 p_27 _ f => ?_
      refine W_end rfl ?_
      refine N_goN 2 (mR _) p_27 rfl ?_
      refine N_alt rfl (fun w_13 p_28 => ?_) ?_
      ·have p_29 := p_28.pl [1]
       refine Y20 (z := S []) (f := Dat.str) (xs := s_1.2.2) (ys := [x_3]) (news := [S x_3]) (ad := ⟨b_6, 0, none⟩) (m := 1) (c := 1) f p_29 hr_5 (by exact ⟨_, _, rfl, rfl, rfl⟩) rfl rfl rfl rfl (own_cells (p_29.ownCell 1 rfl) 0 rfl) (by exact g_1) (by have hg_ := g_1; first | omega | (simp only [List.length_cons, List.length_nil] at *; omega)) fun A_9 cap_10 cs_5 w_14 p_30 hr_10 _ f => ?_
       have p_31 := p_30.pl [1]
       have p_32 := p_31.drop
       refine W_end rfl ?_
       refine N_goN 1 (mR _) p_32 rfl ?_
       refine N_tail fun w_15 p_33 => ?_
       refine Y19 f 1 fun _ f => ?_
       refine Y26 f p_33 3 rfl rfl (b := b_2) (j := 5) (v := .slice A_9 (s_1.2.2 ++ [x_3]).length cap_10) rfl (by exact rfl) (by simp) (by simp) ((Ent.row 9 1 (.slice A_9 (s_1.2.2 ++ [x_3]).length cap_10) (s_1.2.2 ++ [x_3]).length cs_5) :: (Ent.row 76 6 (.slice A_6 s_1.2.1.length cap_6) s_1.2.1.length cs_2) :: (Ent.row 3 1 (.slice A_3 x_1.length cap_3) x_1.length cs_1) :: (Ent.obj b_2 (.cells #[.int .i8 d0.fKind, .bool d0.fBool, .int .i64 d0.fNum, S d0.fText, .slice A_6 s_1.2.1.length cap_6, .slice A_9 (s_1.2.2 ++ [x_3]).length cap_10] 76 (0, 0))) :: (Ent.obj b_1 (.cells #[.int .i8 0, .bool false, .int .i64 0, S [], .slice none 0 0, .slice none 0 0] 76 (0, 0))) :: H) rfl fun w_16 p_34 _ f => ?_
       refine W_end rfl ?_
       refine N_te ?_
       refine T_n ?_
       exact ⟨s_1.2.2 ++ [x_3], (sI hF_8).symm, M_2, (mR _), A_9, cap_10, cs_5, hr_10, f.keep (ks := [0, 2, 3, 5, 30, 31, 32]) (by kernel_rfl), p_34⟩
      exact N_none
     exact N_none
    ·rintro a_46 w_17 ⟨y_1, hq_1, M_3, hM_3, A_10, cap_11, cs_6, hr_11, f, p_35⟩
     subst j_1
     refine T_n ?_
     obtain ⟨j_2, hj_2, hF_9⟩ := bS hF_6
     refine R_mid (fun a_69 w_29 => ∃ y_2 : List T_api_Value, j_2 = y_2 ∧ ∃ M_6 : Mem, M_3.le M_6 ∧ ∃ (A_21 : Option Addr), ∃ (cap_22 : Nat), ∃ (cs_9 : List Value), RepSeq M_6 (y_2.map emb_T_api_Value) cs_9 ∧ Frm 84 [(0, .pointer (some ad0)), (2, .pointer (some (⟨b_1, 0, none⟩))), (3, .pointer (some (⟨b_2, 0, none⟩))), (30, .slice A_3 x_1.length cap_3), (31, .int .i64 ((x_1.length : Nat) : Int)), (32, .int .i64 s_1.1)] a_69 ∧ Hp w0 M_6 ((Ent.row 76 6 (.slice A_21 y_2.length cap_22) y_2.length cs_9) :: (Ent.row 9 1 (.slice A_10 y_1.length cap_11) y_1.length cs_6) :: (Ent.row 3 1 (.slice A_3 x_1.length cap_3) x_1.length cs_1) :: (Ent.obj b_2 (.cells #[.int .i8 d0.fKind, .bool d0.fBool, .int .i64 d0.fNum, S d0.fText, .slice A_21 y_2.length cap_22, .slice A_10 y_1.length cap_11] 76 (0, 0))) :: (Ent.obj b_1 (.cells #[.int .i8 0, .bool false, .int .i64 0, S [], .slice none 0 0, .slice none 0 0] 76 (0, 0))) :: H) w_29) ?_ ?_
     ·have p_46 := p_35.pl [4, 4, 4, 3, 4]
      obtain ⟨x_5, hx_4, hF_10⟩ := bS hj_2
      obtain ⟨x_6, hx_5, hF_11⟩ := bS hF_10
      obtain ⟨g_2, hF_12⟩ := nS hF_11
      refine R_plan (ks := [11, 12]) (E := [Ent.row 76 6 (.slice A_6 s_1.2.1.length cap_6) s_1.2.1.length cs_2]) (Hr := ((Ent.row 9 1 (.slice A_10 y_1.length cap_11) y_1.length cs_6) :: (Ent.row 3 1 (.slice A_3 x_1.length cap_3) x_1.length cs_1) :: (Ent.obj b_2 (.cells #[.int .i8 d0.fKind, .bool d0.fBool, .int .i64 d0.fNum, S d0.fText, .slice A_6 s_1.2.1.length cap_6, .slice A_10 y_1.length cap_11] 76 (0, 0))) :: (Ent.obj b_1 (.cells #[.int .i8 0, .bool false, .int .i64 0, S [], .slice none 0 0, .slice none 0 0] 76 (0, 0))) :: H)) (.quiet 0 (.quiet 1 (.quiet 2 (.quiet 3 (.quiet 4 (.quiet 5 (.quiet 6 (.quiet 7 (.alt 8 (.alt 9 (.alt 10 .done .none) .none) .none))))))))) p_46 (by kernel_rfl) (by kernel_rfl) (by kernel_rfl) ?_
      refine Y1 (v := .pointer (some (⟨b_2, 4, none⟩))) rfl f rfl rfl (fun _ _ => by kernel_rfl) fun _ f => ?_
      refine Y1 (v := .slice A_6 s_1.2.1.length cap_6) rfl f rfl rfl (fun _ pq => Y32 (v := .slice A_6 s_1.2.1.length cap_6) rfl (ad := ⟨b_2, 4, none⟩) (pq.ownCell 2 rfl 4)) fun _ f => ?_
      refine Y1 (v := .pointer (some ad0)) rfl f rfl rfl (fun _ _ => by kernel_rfl) fun _ f => ?_
      refine Y1 (v := .pointer (some ad0)) rfl f rfl rfl (fun _ _ => by kernel_rfl) fun _ f => ?_
      refine Y1 (v := .pointer (some (ad0.add 4))) rfl f rfl rfl (fun _ _ => by kernel_rfl) fun _ f => ?_
      refine Y1 (v := .slice A_1 d0.fList.length cap_1) rfl f rfl rfl (fun _ pq => Y32 (v := .slice A_1 d0.fList.length cap_1) rfl (ad := ad0.add 4) (pq.cell ((fzu ((hM_1.trans hM_2).trans hM_3) q0) 4 _ rfl))) fun _ f => ?_
      refine Y1 (v := .int .i64 x_2) rfl f rfl rfl (fun _ _ => by kernel_rfl) fun _ f => ?_
      obtain ⟨ad_4, c_6, e_4, hl_5, hr_15, hc_5⟩ := Sli.at_ (h_1.mono ((hM_1.trans hM_2).trans hM_3)) hx_4
      clear hl_5
      obtain ⟨A_16, cap_17, A_17, cap_18, rfl, h_9, h_10⟩ := T_api_Value.opn hr_15
      refine Y1 (v := .pointer (some (ad_4.add (x_2.toNat * 6)))) rfl f rfl rfl (fun _ pq => Y31 e_4 rfl (len := d0.fList.length) (cap := cap_1) (k := .i64) (i := x_2) (e := 76) (sz := 6) (getI_nn hx_4) (getI_lt hx_4)) fun _ f => ?_
      refine N_alt rfl (fun w_21 p_47 => ?_) ?_
      ·refine Y16 f p_47 (hrec_tree_sorted _ (GL.mono ((hM_1.trans hM_2).trans hM_3) hG) (ad_4.add (x_2.toNat * 6)) [.int .i8 x_5.fKind, .bool x_5.fBool, .int .i64 x_5.fNum, S x_5.fText, .slice A_16 x_5.fList.length cap_17, .slice A_17 x_5.fKeys.length cap_18] x_5 (T_api_Value.shutx (x := x_5) h_9 h_10) (fz_at (hc_5) 0 rfl) x_6 hx_5) fun _ M_5 w_22 hM_5 p_48 q_3 _ f => ?_
       obtain ⟨c_7, rfl, hr_16⟩ := q_3
       obtain ⟨A_18, cap_19, A_19, cap_20, rfl, h_11, h_12⟩ := T_api_Value.opn hr_16
       refine W_end rfl ?_
       refine N_goN 1 hM_5 p_48 rfl ?_
       refine N_alt rfl (fun w_23 p_49 => ?_) ?_
       ·refine V_allocS (k := 1) (c := 1) f p_49 (.cells #[.int .i8 x_6.fKind, .bool x_6.fBool, .int .i64 x_6.fNum, S x_6.fText, .slice A_18 x_6.fList.length cap_19, .slice A_19 x_6.fKeys.length cap_20] 76 (0, 0)) (by kernel_rfl) (fun _ => by kernel_rfl) fun b_8 w_24 p_50 _ f => ?_
        refine W_end rfl ?_
        refine N_goN 2 hM_5 p_50 rfl ?_
        refine N_alt rfl (fun w_25 p_51 => ?_) ?_
        ·have p_52 := p_51.pl [1]
         refine Y20 (z := .agg #[.int .i8 0, .bool false, .int .i64 0, S [], .slice none 0 0, .slice none 0 0]) (f := emb_T_api_Value) (xs := s_1.2.1) (ys := [(⟨x_6.fKind, (x_6.fBool), x_6.fNum, x_6.fText, x_6.fList, x_6.fKeys⟩ : T_api_Value)]) (news := [.int .i8 x_6.fKind, .bool x_6.fBool, .int .i64 x_6.fNum, S x_6.fText, .slice A_18 x_6.fList.length cap_19, .slice A_19 x_6.fKeys.length cap_20]) (ad := ⟨b_8, 0, none⟩) (m := 1) (c := 1) f p_52 (RepSeq.mono (hM_3.trans hM_5) _ _ hr_4) (by exact ⟨_, _, rfl, T_api_Value.shut h_11 h_12, rfl⟩) rfl rfl rfl rfl (own_cells (p_52.ownCell 1 rfl) 0 rfl) (by exact g_2) (by have hg_ := g_2; first | omega | (simp only [List.length_cons, List.length_nil] at *; omega)) fun A_20 cap_21 cs_8 w_26 p_53 hr_17 _ f => ?_
         have p_54 := p_53.pl [1]
         have p_55 := p_54.drop
         refine W_end rfl ?_
         refine N_goN 1 hM_5 p_55 rfl ?_
         refine N_tail fun w_27 p_56 => ?_
         refine Y19 f 1 fun _ f => ?_
         refine Y26 f p_56 3 rfl rfl (b := b_2) (j := 4) (v := .slice A_20 (s_1.2.1 ++ [(⟨x_6.fKind, (x_6.fBool), x_6.fNum, x_6.fText, x_6.fList, x_6.fKeys⟩ : T_api_Value)]).length cap_21) rfl (by exact rfl) (by simp) (by simp) ((Ent.row 76 6 (.slice A_20 (s_1.2.1 ++ [(⟨x_6.fKind, (x_6.fBool), x_6.fNum, x_6.fText, x_6.fList, x_6.fKeys⟩ : T_api_Value)]).length cap_21) (s_1.2.1 ++ [(⟨x_6.fKind, (x_6.fBool), x_6.fNum, x_6.fText, x_6.fList, x_6.fKeys⟩ : T_api_Value)]).length cs_8) :: (Ent.row 9 1 (.slice A_10 y_1.length cap_11) y_1.length cs_6) :: (Ent.row 3 1 (.slice A_3 x_1.length cap_3) x_1.length cs_1) :: (Ent.obj b_2 (.cells #[.int .i8 d0.fKind, .bool d0.fBool, .int .i64 d0.fNum, S d0.fText, .slice A_20 (s_1.2.1 ++ [(⟨x_6.fKind, (x_6.fBool), x_6.fNum, x_6.fText, x_6.fList, x_6.fKeys⟩ : T_api_Value)]).length cap_21, .slice A_10 y_1.length cap_11] 76 (0, 0))) :: (Ent.obj b_1 (.cells #[.int .i8 0, .bool false, .int .i64 0, S [], .slice none 0 0, .slice none 0 0] 76 (0, 0))) :: H) rfl fun w_28 p_57 _ f => ?_
         refine W_end rfl ?_
         refine N_te ?_
         refine T_n ?_
         exact ⟨s_1.2.1 ++ [(⟨x_6.fKind, (x_6.fBool), x_6.fNum, x_6.fText, x_6.fList, x_6.fKeys⟩ : T_api_Value)], (sI hF_12).symm, M_5, hM_5, A_20, cap_21, cs_8, hr_17, f.keep (ks := [0, 2, 3, 30, 31, 32]) (by kernel_rfl), p_57⟩
        exact N_none
       exact N_none
      exact N_none
     ·rintro a_69 w_29 ⟨y_2, hq_2, M_6, hM_6, A_21, cap_22, cs_9, hr_18, f, p_58⟩
      subst j_2
      refine B_n (T_n (R_reg ?_))
      obtain ⟨g_3, hF_13⟩ := nS hF_9
      refine Y19 f 1 fun _ f => ?_
      have f := Frm.set f 60 (v := .int .i64 (IntKind.wrap .i64 (s_1.1 + 1))) (v' := .int .i64 (s_1.1 + 1)) (by kernel_rfl) (congrArg (Value.int .i64) (inR_wrap g_3))
      refine Y19 f 1 fun _ f => ?_
      refine W_end rfl (T_n ?_)
      obtain rfl := sI hF_13
      exact ⟨⟨m_2, (s_1.1 + 1, y_2, y_1), A_21, cap_22, cs_9, A_10, cap_11, cs_6⟩, Nat.lt_succ_self _, M_6, ((hM_2.trans hM_3).trans hM_6), ⟨hn_1, hr_18, (RepSeq.mono hM_6 _ _ hr_11)⟩, f.keep (ks := [0, 2, 3, 30, 31, 32]) (by kernel_rfl), p_58⟩
   ·have k_3 : ¬ (s_1.1 < ((x_1.length : Nat) : Int)) := iff_f dI h_4
    have hF_14 := cnd_f h_4 hs_1
    refine wp_exit (T_x (T_x ?_))
    obtain rfl := sI hF_14
    exact ⟨rfl, (s_1.2.1, s_1.2.2), (sI hn_1).symm, M_2, hM_2, A_6, cap_6, cs_2, A_7, cap_7, cs_3, hr_4, hr_5, f.keep (ks := [2, 3]) (by kernel_rfl), p_15⟩
  ·rintro _ _ w_31 ⟨rfl, y_3, hq_, M_7, hM_7, A_22, cap_23, cs_10, A_23, cap_24, cs_11, hr_19, hr_20, f, p_59⟩
   subst b_3
   refine B_x (T_n (R_seq (R_reg ?_)))
   refine Y14 (v := .agg #[.int .i8 d0.fKind, .bool d0.fBool, .int .i64 d0.fNum, S d0.fText, .slice A_22 y_3.1.length cap_23, .slice A_23 y_3.2.length cap_24]) f (Y33 (cs := [.int .i8 d0.fKind, .bool d0.fBool, .int .i64 d0.fNum, S d0.fText, .slice A_22 y_3.1.length cap_23, .slice A_23 y_3.2.length cap_24]) rfl (ad := ⟨b_2, 0, none⟩) (own_cells (p_59.ownCell 3 rfl) 0 rfl)) fun _ f => ?_
   obtain ⟨A_24, cap_25, M_8, hv_4, hM_8, p_60, h_13⟩ := p_59.rowSli (f := emb_T_api_Value) (xs := y_3.1) szd_T_api_Value hr_19
   have f := Frm.set f 61 (v := .agg #[.int .i8 d0.fKind, .bool d0.fBool, .int .i64 d0.fNum, S d0.fText, .slice A_22 y_3.1.length cap_23, .slice A_23 y_3.2.length cap_24]) (v' := .agg #[.int .i8 d0.fKind, .bool d0.fBool, .int .i64 d0.fNum, S d0.fText, .slice A_24 y_3.1.length cap_25, .slice A_23 y_3.2.length cap_24]) (by kernel_rfl) (by rw [hv_4])
   have p_61 : Hp w0 M_8 ((Ent.row 9 1 (.slice A_23 y_3.2.length cap_24) y_3.2.length cs_11) :: (Ent.row 3 1 (.slice A_3 x_1.length cap_3) x_1.length cs_1) :: (Ent.obj b_2 (.cells #[.int .i8 d0.fKind, .bool d0.fBool, .int .i64 d0.fNum, S d0.fText, .slice A_24 y_3.1.length cap_25, .slice A_23 y_3.2.length cap_24] 76 (0, 0))) :: (Ent.obj b_1 (.cells #[.int .i8 0, .bool false, .int .i64 0, S [], .slice none 0 0, .slice none 0 0] 76 (0, 0))) :: H) w_31 := by rw [hv_4] at p_60; exact p_60
   obtain ⟨A_25, cap_26, M_9, hv_5, hM_9, p_62, h_14⟩ := p_61.rowSli (f := Dat.str) (xs := y_3.2) szd_str (RepSeq.mono hM_8 _ _ hr_20)
   have f := Frm.set f 61 (v := .agg #[.int .i8 d0.fKind, .bool d0.fBool, .int .i64 d0.fNum, S d0.fText, .slice A_24 y_3.1.length cap_25, .slice A_23 y_3.2.length cap_24]) (v' := .agg #[.int .i8 d0.fKind, .bool d0.fBool, .int .i64 d0.fNum, S d0.fText, .slice A_24 y_3.1.length cap_25, .slice A_25 y_3.2.length cap_26]) (by kernel_rfl) (by rw [hv_5])
   have p_63 : Hp w0 M_9 ((Ent.row 3 1 (.slice A_3 x_1.length cap_3) x_1.length cs_1) :: (Ent.obj b_2 (.cells #[.int .i8 d0.fKind, .bool d0.fBool, .int .i64 d0.fNum, S d0.fText, .slice A_24 y_3.1.length cap_25, .slice A_25 y_3.2.length cap_26] 76 (0, 0))) :: (Ent.obj b_1 (.cells #[.int .i8 0, .bool false, .int .i64 0, S [], .slice none 0 0, .slice none 0 0] 76 (0, 0))) :: H) w_31 := by rw [hv_5] at p_62; exact p_62
   have p_64 := p_63.pl [2]
   refine Y27 (vs := [.int .i8 d0.fKind, .bool d0.fBool, .int .i64 d0.fNum, S d0.fText, .slice A_24 y_3.1.length cap_25, .slice A_25 y_3.2.length cap_26]) (j := 0) f p_64 rfl rfl (by simp [Value.oneCell', S]) (by simp) (by decide) (cs' := #[.int .i8 d0.fKind, .bool d0.fBool, .int .i64 d0.fNum, S d0.fText, .slice A_24 y_3.1.length cap_25, .slice A_25 y_3.2.length cap_26]) fun w_32 p_65 _ f => ?_
   refine W_end rfl (T_n (wp_ret (T_r ?_)))
   refine E_rv1 f rfl (Y10 (cs := [.int .i8 d0.fKind, .bool d0.fBool, .int .i64 d0.fNum, S d0.fText, .slice A_24 y_3.1.length cap_25, .slice A_25 y_3.2.length cap_26]) (ad := ⟨b_1, 0, none⟩) f (own_cells (p_65.ownCell 0 rfl) 0 rfl)) ?_
   obtain rfl := sI hF_3
   exact ⟨_, rfl, M_9, (((hM_1.trans hM_7).trans hM_8).trans hM_9), (p_65.dropN 3), ⟨[.int .i8 d0.fKind, .bool d0.fBool, .int .i64 d0.fNum, S d0.fText, .slice A_24 y_3.1.length cap_25, .slice A_25 y_3.2.length cap_26], rfl, (T_api_Value.shut (h_13.mono hM_9) h_14)⟩⟩
 ·have k_4 : ¬ (d0.fKind = 5) := iff_f dI h_3
  have hF_15 := cnd_f h_3 hF
  refine wp_skip (T_n (R_seq (R_seq (R_reg ?_))))
  refine Y19 f 3 fun _ f => ?_
  refine Y15 f p_6 q0 4 rfl fun _ f => ?_
  refine Y19 f 2 fun _ f => ?_
  refine W_end rfl (T_n (wp_block ?_))
  obtain ⟨A_26, cap_27, hv_6⟩ : ∃ A cap, Value.slice none 0 0 = .slice A ([] : List T_api_Value).length cap := ⟨none, 0, rfl⟩
  have p_66 : Hp w0 M1 ((Ent.row 76 6 (.slice A_26 ([] : List T_api_Value).length cap_27) ([] : List T_api_Value).length []) :: (Ent.obj b_2 (.cells #[.int .i8 d0.fKind, .bool d0.fBool, .int .i64 d0.fNum, S d0.fText, .slice A_26 ([] : List T_api_Value).length cap_27, .slice none 0 0] 76 (0, 0))) :: (Ent.obj b_1 (.cells #[.int .i8 0, .bool false, .int .i64 0, S [], .slice none 0 0, .slice none 0 0] 76 (0, 0))) :: H) w_6 := by rw [← hv_6]; exact p_6.nilRow 76 6
  have hr_21 : RepSeq M1 (([] : List T_api_Value).map emb_T_api_Value) [] := rfl
  obtain ⟨b_9, hL_2, hF_16⟩ := bS hF_15
  refine wp_mono (Q := fun e a w => (e = .exit 2 ∧ (∃ y_5 : List T_api_Value, b_9 = y_5 ∧ ∃ M_14 : Mem, M1.le M_14 ∧ ∃ (A_39 : Option Addr), ∃ (cap_40 : Nat), ∃ (cs_16 : List Value), RepSeq M_14 (y_5.map emb_T_api_Value) cs_16 ∧ Frm 84 [(2, .pointer (some (⟨b_1, 0, none⟩))), (3, .pointer (some (⟨b_2, 0, none⟩)))] a ∧ Hp w0 M_14 ((Ent.row 76 6 (.slice A_39 y_5.length cap_40) y_5.length cs_16) :: (Ent.obj b_2 (.cells #[.int .i8 d0.fKind, .bool d0.fBool, .int .i64 d0.fNum, S d0.fText, .slice A_39 y_5.length cap_40, .slice none 0 0] 76 (0, 0))) :: (Ent.obj b_1 (.cells #[.int .i8 0, .bool false, .int .i64 0, S [], .slice none 0 0, .slice none 0 0] 76 (0, 0))) :: H) w))) (R_loop (n := 84) (w0 := w0) (M := M1) (fun (x : Nat × (Int × List T_api_Value) × (Option Addr) × Nat × (List Value)) => match x with | (m_3, s_2, A_27, cap_28, cs_12) => [(0, .pointer (some ad0)), (2, .pointer (some (⟨b_1, 0, none⟩))), (3, .pointer (some (⟨b_2, 0, none⟩))), (66, .int .i64 ((d0.fList.length : Nat) : Int)), (67, .int .i64 s_2.1)]) (fun (x : Nat × (Int × List T_api_Value) × (Option Addr) × Nat × (List Value)) => match x with | (m_3, s_2, A_27, cap_28, cs_12) => ((Ent.row 76 6 (.slice A_27 s_2.2.length cap_28) s_2.2.length cs_12) :: (Ent.obj b_2 (.cells #[.int .i8 d0.fKind, .bool d0.fBool, .int .i64 d0.fNum, S d0.fText, .slice A_27 s_2.2.length cap_28, .slice none 0 0] 76 (0, 0))) :: (Ent.obj b_1 (.cells #[.int .i8 0, .bool false, .int .i64 0, S [], .slice none 0 0, .slice none 0 0] 76 (0, 0))) :: H)) (fun (x : Nat × (Int × List T_api_Value) × (Option Addr) × Nat × (List Value)) (MM : Mem) => match x with | (m_3, s_2, A_27, cap_28, cs_12) => loopF (tree_sorted_s2 n rec_tree_sorted d0) m_3 s_2 = some b_9 ∧ RepSeq MM (s_2.2.map emb_T_api_Value) cs_12) (fun (x : Nat × (Int × List T_api_Value) × (Option Addr) × Nat × (List Value)) => match x with | (m_3, s_2, A_27, cap_28, cs_12) => m_3) (n, ((0 : Int), ([] : List T_api_Value)), A_26, cap_27, []) (f.keep (ks := [0, 2, 3, 66, 67]) (by kernel_rfl)) p_66 ⟨hL_2, hr_21⟩ ?_) ?_
  ·rintro ⟨m_3, s_2, A_27, cap_28, cs_12⟩ M_10 _ w_33 hM_10 I_2 f p_67
   obtain ⟨I_2L, hr_22⟩ := I_2
   obtain ⟨m_4, r_2, rfl, hs_2, hn_2⟩ := loop_step I_2L
   unfold tree_sorted_s2 at hs_2
   refine R_seq (R_reg ?_)
   refine Y19 f 1 fun _ f => ?_
   refine W_end rfl (T_n (R_seq ?_))
   refine Y6 f (b := decide (s_2.1 < ((d0.fList.length : Nat) : Int))) (fun h_15 => ?_) fun h_15 => ?_
   ·have k_5 : s_2.1 < ((d0.fList.length : Nat) : Int) := dI.1 h_15
    have hF_17 := cnd_t h_15 hs_2
    refine wp_skip (T_n (R_seq (wp_block (R_seq (R_reg ?_)))))
    refine Y19 f 2 fun _ f => ?_
    refine W_end rfl (T_n ?_)
    obtain ⟨j_3, hj_3, hF_18⟩ := bS hF_17
    refine R_mid (fun a_104 w_45 => ∃ y_4 : List T_api_Value, j_3 = y_4 ∧ ∃ M_13 : Mem, M_10.le M_13 ∧ ∃ (A_38 : Option Addr), ∃ (cap_39 : Nat), ∃ (cs_15 : List Value), RepSeq M_13 (y_4.map emb_T_api_Value) cs_15 ∧ Frm 84 [(0, .pointer (some ad0)), (2, .pointer (some (⟨b_1, 0, none⟩))), (3, .pointer (some (⟨b_2, 0, none⟩))), (66, .int .i64 ((d0.fList.length : Nat) : Int)), (67, .int .i64 s_2.1)] a_104 ∧ Hp w0 M_13 ((Ent.row 76 6 (.slice A_38 y_4.length cap_39) y_4.length cs_15) :: (Ent.obj b_2 (.cells #[.int .i8 d0.fKind, .bool d0.fBool, .int .i64 d0.fNum, S d0.fText, .slice A_38 y_4.length cap_39, .slice none 0 0] 76 (0, 0))) :: (Ent.obj b_1 (.cells #[.int .i8 0, .bool false, .int .i64 0, S [], .slice none 0 0, .slice none 0 0] 76 (0, 0))) :: H) w_45) ?_ ?_
    ·obtain ⟨x_9, hx_6, hF_19⟩ := bS hj_3
     obtain ⟨x_10, hx_7, hF_20⟩ := bS hF_19
     obtain ⟨g_4, hF_21⟩ := nS hF_20
     refine R_plan (ks := [11, 12]) (E := [Ent.row 76 6 (.slice A_27 s_2.2.length cap_28) s_2.2.length cs_12]) (Hr := ((Ent.obj b_2 (.cells #[.int .i8 d0.fKind, .bool d0.fBool, .int .i64 d0.fNum, S d0.fText, .slice A_27 s_2.2.length cap_28, .slice none 0 0] 76 (0, 0))) :: (Ent.obj b_1 (.cells #[.int .i8 0, .bool false, .int .i64 0, S [], .slice none 0 0, .slice none 0 0] 76 (0, 0))) :: H)) (.quiet 0 (.quiet 1 (.quiet 2 (.quiet 3 (.quiet 4 (.quiet 5 (.quiet 6 (.quiet 7 (.alt 8 (.alt 9 (.alt 10 .done .none) .none) .none))))))))) p_67 (by kernel_rfl) (by kernel_rfl) (by kernel_rfl) ?_
     refine Y1 (v := .pointer (some (⟨b_2, 4, none⟩))) rfl f rfl rfl (fun _ _ => by kernel_rfl) fun _ f => ?_
     refine Y1 (v := .slice A_27 s_2.2.length cap_28) rfl f rfl rfl (fun _ pq => Y32 (v := .slice A_27 s_2.2.length cap_28) rfl (ad := ⟨b_2, 4, none⟩) (pq.ownCell 0 rfl 4)) fun _ f => ?_
     refine Y1 (v := .pointer (some ad0)) rfl f rfl rfl (fun _ _ => by kernel_rfl) fun _ f => ?_
     refine Y1 (v := .pointer (some ad0)) rfl f rfl rfl (fun _ _ => by kernel_rfl) fun _ f => ?_
     refine Y1 (v := .pointer (some (ad0.add 4))) rfl f rfl rfl (fun _ _ => by kernel_rfl) fun _ f => ?_
     refine Y1 (v := .slice A_1 d0.fList.length cap_1) rfl f rfl rfl (fun _ pq => Y32 (v := .slice A_1 d0.fList.length cap_1) rfl (ad := ad0.add 4) (pq.cell ((fzu hM_10 q0) 4 _ rfl))) fun _ f => ?_
     refine Y1 (v := .int .i64 s_2.1) rfl f rfl rfl (fun _ _ => by kernel_rfl) fun _ f => ?_
     obtain ⟨ad_6, c_10, e_6, hl_7, hr_26, hc_7⟩ := Sli.at_ (h_1.mono hM_10) hx_6
     clear hl_7
     obtain ⟨A_33, cap_34, A_34, cap_35, rfl, h_20, h_21⟩ := T_api_Value.opn hr_26
     refine Y1 (v := .pointer (some (ad_6.add (s_2.1.toNat * 6)))) rfl f rfl rfl (fun _ pq => Y31 e_6 rfl (len := d0.fList.length) (cap := cap_1) (k := .i64) (i := s_2.1) (e := 76) (sz := 6) (getI_nn hx_6) (getI_lt hx_6)) fun _ f => ?_
     refine N_alt rfl (fun w_37 p_74 => ?_) ?_
     ·refine Y16 f p_74 (hrec_tree_sorted _ (GL.mono hM_10 hG) (ad_6.add (s_2.1.toNat * 6)) [.int .i8 x_9.fKind, .bool x_9.fBool, .int .i64 x_9.fNum, S x_9.fText, .slice A_33 x_9.fList.length cap_34, .slice A_34 x_9.fKeys.length cap_35] x_9 (T_api_Value.shutx (x := x_9) h_20 h_21) (fz_at (hc_7) 0 rfl) x_10 hx_7) fun _ M_12 w_38 hM_12 p_75 q_5 _ f => ?_
      obtain ⟨c_11, rfl, hr_27⟩ := q_5
      obtain ⟨A_35, cap_36, A_36, cap_37, rfl, h_22, h_23⟩ := T_api_Value.opn hr_27
      refine W_end rfl ?_
      refine N_goN 1 hM_12 p_75 rfl ?_
      refine N_alt rfl (fun w_39 p_76 => ?_) ?_
      ·refine V_allocS (k := 1) (c := 1) f p_76 (.cells #[.int .i8 x_10.fKind, .bool x_10.fBool, .int .i64 x_10.fNum, S x_10.fText, .slice A_35 x_10.fList.length cap_36, .slice A_36 x_10.fKeys.length cap_37] 76 (0, 0)) (by kernel_rfl) (fun _ => by kernel_rfl) fun b_11 w_40 p_77 _ f => ?_
       refine W_end rfl ?_
       refine N_goN 2 hM_12 p_77 rfl ?_
       refine N_alt rfl (fun w_41 p_78 => ?_) ?_
       ·have p_79 := p_78.pl [1]
        refine Y20 (z := .agg #[.int .i8 0, .bool false, .int .i64 0, S [], .slice none 0 0, .slice none 0 0]) (f := emb_T_api_Value) (xs := s_2.2) (ys := [(⟨x_10.fKind, (x_10.fBool), x_10.fNum, x_10.fText, x_10.fList, x_10.fKeys⟩ : T_api_Value)]) (news := [.int .i8 x_10.fKind, .bool x_10.fBool, .int .i64 x_10.fNum, S x_10.fText, .slice A_35 x_10.fList.length cap_36, .slice A_36 x_10.fKeys.length cap_37]) (ad := ⟨b_11, 0, none⟩) (m := 1) (c := 1) f p_79 (RepSeq.mono hM_12 _ _ hr_22) (by exact ⟨_, _, rfl, T_api_Value.shut h_22 h_23, rfl⟩) rfl rfl rfl rfl (own_cells (p_79.ownCell 1 rfl) 0 rfl) (by exact g_4) (by have hg_ := g_4; first | omega | (simp only [List.length_cons, List.length_nil] at *; omega)) fun A_37 cap_38 cs_14 w_42 p_80 hr_28 _ f => ?_
        have p_81 := p_80.pl [1]
        have p_82 := p_81.drop
        refine W_end rfl ?_
        refine N_goN 1 hM_12 p_82 rfl ?_
        refine N_tail fun w_43 p_83 => ?_
        refine Y19 f 1 fun _ f => ?_
        refine Y26 f p_83 1 rfl rfl (b := b_2) (j := 4) (v := .slice A_37 (s_2.2 ++ [(⟨x_10.fKind, (x_10.fBool), x_10.fNum, x_10.fText, x_10.fList, x_10.fKeys⟩ : T_api_Value)]).length cap_38) rfl (by exact rfl) (by simp) (by simp) ((Ent.row 76 6 (.slice A_37 (s_2.2 ++ [(⟨x_10.fKind, (x_10.fBool), x_10.fNum, x_10.fText, x_10.fList, x_10.fKeys⟩ : T_api_Value)]).length cap_38) (s_2.2 ++ [(⟨x_10.fKind, (x_10.fBool), x_10.fNum, x_10.fText, x_10.fList, x_10.fKeys⟩ : T_api_Value)]).length cs_14) :: (Ent.obj b_2 (.cells #[.int .i8 d0.fKind, .bool d0.fBool, .int .i64 d0.fNum, S d0.fText, .slice A_37 (s_2.2 ++ [(⟨x_10.fKind, (x_10.fBool), x_10.fNum, x_10.fText, x_10.fList, x_10.fKeys⟩ : T_api_Value)]).length cap_38, .slice none 0 0] 76 (0, 0))) :: (Ent.obj b_1 (.cells #[.int .i8 0, .bool false, .int .i64 0, S [], .slice none 0 0, .slice none 0 0] 76 (0, 0))) :: H) rfl fun w_44 p_84 _ f => ?_
        refine W_end rfl ?_
        refine N_te ?_
        refine T_n ?_
        exact ⟨s_2.2 ++ [(⟨x_10.fKind, (x_10.fBool), x_10.fNum, x_10.fText, x_10.fList, x_10.fKeys⟩ : T_api_Value)], (sI hF_21).symm, M_12, hM_12, A_37, cap_38, cs_14, hr_28, f.keep (ks := [0, 2, 3, 66, 67]) (by kernel_rfl), p_84⟩
       exact N_none
      exact N_none
     exact N_none
    ·rintro a_104 w_45 ⟨y_4, hq_3, M_13, hM_13, A_38, cap_39, cs_15, hr_29, f, p_85⟩
     subst j_3
     refine B_n (T_n (R_reg ?_))
     obtain ⟨g_5, hF_22⟩ := nS hF_18
     refine Y19 f 1 fun _ f => ?_
     have f := Frm.set f 82 (v := .int .i64 (IntKind.wrap .i64 (s_2.1 + 1))) (v' := .int .i64 (s_2.1 + 1)) (by kernel_rfl) (congrArg (Value.int .i64) (inR_wrap g_5))
     refine Y19 f 1 fun _ f => ?_
     refine W_end rfl (T_n ?_)
     obtain rfl := sI hF_22
     exact ⟨⟨m_4, (s_2.1 + 1, y_4), A_38, cap_39, cs_15⟩, Nat.lt_succ_self _, M_13, (hM_10.trans hM_13), ⟨hn_2, hr_29⟩, f.keep (ks := [0, 2, 3, 66, 67]) (by kernel_rfl), p_85⟩
   ·have k_6 : ¬ (s_2.1 < ((d0.fList.length : Nat) : Int)) := iff_f dI h_15
    have hF_23 := cnd_f h_15 hs_2
    refine wp_exit (T_x (T_x ?_))
    obtain rfl := sI hF_23
    exact ⟨rfl, s_2.2, (sI hn_2).symm, M_10, hM_10, A_27, cap_28, cs_12, hr_22, f.keep (ks := [2, 3]) (by kernel_rfl), p_67⟩
  ·rintro _ _ w_47 ⟨rfl, y_5, hq_, M_14, hM_14, A_39, cap_40, cs_16, hr_30, f, p_86⟩
   subst b_9
   refine B_x (T_n (R_seq (R_reg ?_)))
   refine Y14 (v := .agg #[.int .i8 d0.fKind, .bool d0.fBool, .int .i64 d0.fNum, S d0.fText, .slice A_39 y_5.length cap_40, .slice none 0 0]) f (Y33 (cs := [.int .i8 d0.fKind, .bool d0.fBool, .int .i64 d0.fNum, S d0.fText, .slice A_39 y_5.length cap_40, .slice none 0 0]) rfl (ad := ⟨b_2, 0, none⟩) (own_cells (p_86.ownCell 1 rfl) 0 rfl)) fun _ f => ?_
   obtain ⟨A_40, cap_41, M_15, hv_7, hM_15, p_87, h_24⟩ := p_86.rowSli (f := emb_T_api_Value) (xs := y_5) szd_T_api_Value hr_30
   have f := Frm.set f 83 (v := .agg #[.int .i8 d0.fKind, .bool d0.fBool, .int .i64 d0.fNum, S d0.fText, .slice A_39 y_5.length cap_40, .slice none 0 0]) (v' := .agg #[.int .i8 d0.fKind, .bool d0.fBool, .int .i64 d0.fNum, S d0.fText, .slice A_40 y_5.length cap_41, .slice none 0 0]) (by kernel_rfl) (by rw [hv_7])
   have p_88 : Hp w0 M_15 ((Ent.obj b_2 (.cells #[.int .i8 d0.fKind, .bool d0.fBool, .int .i64 d0.fNum, S d0.fText, .slice A_40 y_5.length cap_41, .slice none 0 0] 76 (0, 0))) :: (Ent.obj b_1 (.cells #[.int .i8 0, .bool false, .int .i64 0, S [], .slice none 0 0, .slice none 0 0] 76 (0, 0))) :: H) w_47 := by rw [hv_7] at p_87; exact p_87
   have p_89 := p_88.pl [1]
   refine Y27 (vs := [.int .i8 d0.fKind, .bool d0.fBool, .int .i64 d0.fNum, S d0.fText, .slice A_40 y_5.length cap_41, .slice none 0 0]) (j := 0) f p_89 rfl rfl (by simp [Value.oneCell', S]) (by simp) (by decide) (cs' := #[.int .i8 d0.fKind, .bool d0.fBool, .int .i64 d0.fNum, S d0.fText, .slice A_40 y_5.length cap_41, .slice none 0 0]) fun w_48 p_90 _ f => ?_
   refine W_end rfl (T_n (wp_ret ?_))
   refine E_rv1 f rfl (Y10 (cs := [.int .i8 d0.fKind, .bool d0.fBool, .int .i64 d0.fNum, S d0.fText, .slice A_40 y_5.length cap_41, .slice none 0 0]) (ad := ⟨b_1, 0, none⟩) f (own_cells (p_90.ownCell 0 rfl) 0 rfl)) ?_
   obtain rfl := sI hF_16
   exact ⟨_, rfl, M_15, (hM_14.trans hM_15), (p_90.dropN 2), ⟨[.int .i8 d0.fKind, .bool d0.fBool, .int .i64 d0.fNum, S d0.fText, .slice A_40 y_5.length cap_41, .slice none 0 0], rfl, (T_api_Value.shut h_24 Sli.nil)⟩⟩
def tree_sorted_k (n : Nat) : Nat → T_api_Value → Option T_api_Value
  | 0 => fun _ => none
  | k + 1 => tree_sorted_b n (tree_sorted_k n k)
def tree_sorted (n : Nat) (d0 : T_api_Value) : Option T_api_Value := tree_sorted_k n n d0
theorem tree_sorted_ok (n : Nat) (M : Mem) (hG : GL M) (ad0 : Addr) (c0 : List Value) (d0 : T_api_Value) (h0 : Rep M (emb_T_api_Value d0) c0) (q0 : ∀ j v, c0[j]? = some v → M.cell? (ad0.add j) = some v) (r : T_api_Value) (hF : tree_sorted n d0 = some r) : Ok Tryz.prog M 108 [.pointer (some ad0)] (fun M' v => ∃ (c0 : List Value), v = .agg c0.toArray ∧ Rep M' (emb_T_api_Value r) c0) := by
 have key : ∀ (k : Nat) (M : Mem) (hG : GL M) (ad0 : Addr) (c0 : List Value) (d0 : T_api_Value) (h0 : Rep M (emb_T_api_Value d0) c0) (q0 : ∀ j v, c0[j]? = some v → M.cell? (ad0.add j) = some v) (r : T_api_Value) (hF : tree_sorted_k n k d0 = some r), Ok Tryz.prog M 108 [.pointer (some ad0)] (fun M' v => ∃ (c0 : List Value), v = .agg c0.toArray ∧ Rep M' (emb_T_api_Value r) c0) := by
  intro k
  induction k with
  | zero => intro M hG ad0 c0 d0 h0 q0 r hF; simp [tree_sorted_k] at hF
  | succ k ih => intro M hG ad0 c0 d0 h0 q0 r hF; exact tree_sorted_b_ok n (tree_sorted_k n k) ih M hG ad0 c0 d0 h0 q0 r hF
 exact key n M hG ad0 c0 d0 h0 q0 r hF
end Go.Proofs.YtalifkcchfkgmaaGreatDoor
end

section
set_option linter.unusedVariables false
set_option linter.unusedSimpArgs false
namespace Go.Proofs.YtalifkcchfkgmaaGreatDoor
open Go Go.Vc Go.RowKit
def tree_compare_2_s1 (n : Nat) (d0_0 : Int) (d0_4 : List T_api_Value) (d0_5 : List (List UInt8)) (d1_4 : List T_api_Value) (d1_5 : List (List UInt8)) (s_1 : Int) : Option (Lp Int (Sum Int Unit)) :=
    bif (decide (s_1 < (min ((d0_4.length : Nat) : Int) ((d1_4.length : Nat) : Int)))) then
      (((bif (decide (d0_0 = 5)) then
          ((getI d0_5 s_1).bind fun x_7 =>
          (getI d1_5 s_1).bind fun x_8 =>
          (h_Compare n x_7 x_8).bind fun x_9 =>
          bif (!(decide (x_9 = 0))) then
            (((some (.br (.inl x_9)) : Option (Lp Int (Sum Int Unit)))).map Lp.br)
          else
            some (.nx ()))
        else
          some (.nx ()) : Option (Lp Unit (Lp Int (Sum Int Unit))))).bind fun j => joinF j fun y_1 =>
      (getI d0_4 s_1).bind fun x_10 =>
      (getI d1_4 s_1).bind fun x_11 =>
      (tree_compare n x_10 x_11).bind fun x_12 =>
      bif (!(decide (x_12 = 0))) then
        (some (.br (.inl x_12)))
      else
        need (inR .i64 (s_1 + 1)) <|
        some (.nx (s_1 + 1)))
    else
      some (.br (.inr ()))
def tree_compare_2 (n : Nat) (d0_0 : Int) (d0_1 : Bool) (d0_2 : Int) (d0_3 : List UInt8) (d0_4 : List T_api_Value) (d0_5 : List (List UInt8)) (d1_0 : Int) (d1_1 : Bool) (d1_2 : Int) (d1_3 : List UInt8) (d1_4 : List T_api_Value) (d1_5 : List (List UInt8)) : Option (Int × Int × Bool × Int × List UInt8 × List T_api_Value × List (List UInt8) × Int × Bool × Int × List UInt8 × List T_api_Value × List (List UInt8)) :=
  (cmp_Compare n d0_0 d1_0).bind fun x_1 =>
  (tree_bit n (d0_1)).bind fun x_2 =>
  (tree_bit n (d1_1)).bind fun x_3 =>
  need (inR .i64 (x_2 - x_3)) <|
  (cmp_Compare_2 n d0_2 d1_2).bind fun x_4 =>
  (h_Compare n d0_3 d1_3).bind fun x_5 =>
  (cmp_Or n [x_1, x_2 - x_3, x_4, x_5]).bind fun x_6 =>
  bif (!(decide (x_6 = 0))) then
    (some ((x_6, d0_0, (d0_1), d0_2, d0_3, d0_4, d0_5, d1_0, (d1_1), d1_2, d1_3, d1_4, d1_5)))
  else
    (loopF (tree_compare_2_s1 n d0_0 d0_4 d0_5 d1_4 d1_5) n (0 : Int)).bind fun b_2 =>
    (match b_2 with 
    | .inl y_2 => some ((y_2, d0_0, (d0_1), d0_2, d0_3, d0_4, d0_5, d1_0, (d1_1), d1_2, d1_3, d1_4, d1_5)) 
    | .inr y_3 => (cmp_Compare_2 n ((d0_4.length : Nat) : Int) ((d1_4.length : Nat) : Int)).bind fun x_13 =>
      some ((x_13, d0_0, (d0_1), d0_2, d0_3, d0_4, d0_5, d1_0, (d1_1), d1_2, d1_3, d1_4, d1_5)))
set_option maxHeartbeats 2000000 in
theorem tree_compare_2_ok (n : Nat) (M : Mem) (hG : GL M) (b0 : Nat) (d0_0 : Int) (d0_1 : Bool) (d0_2 : Int) (d0_3 : List UInt8) (d0_4 : List T_api_Value) (A_1 : Option Addr) (cap_1 : Nat) (h_1 : Sli M 6 emb_T_api_Value A_1 cap_1 d0_4) (d0_5 : List (List UInt8)) (A_2 : Option Addr) (cap_2 : Nat) (h_2 : Sli M 1 Dat.str A_2 cap_2 d0_5) (b1 : Nat) (d1_0 : Int) (d1_1 : Bool) (d1_2 : Int) (d1_3 : List UInt8) (d1_4 : List T_api_Value) (A_3 : Option Addr) (cap_3 : Nat) (h_3 : Sli M 6 emb_T_api_Value A_3 cap_3 d1_4) (d1_5 : List (List UInt8)) (A_4 : Option Addr) (cap_4 : Nat) (h_4 : Sli M 1 Dat.str A_4 cap_4 d1_5) (r : Int × Int × Bool × Int × List UInt8 × List T_api_Value × List (List UInt8) × Int × Bool × Int × List UInt8 × List T_api_Value × List (List UInt8)) (hF : tree_compare_2 n d0_0 d0_1 d0_2 d0_3 d0_4 d0_5 d1_0 d1_1 d1_2 d1_3 d1_4 d1_5 = some r) : OkH Tryz.prog M [Ent.obj b0 (.cells #[.int .i8 d0_0, .bool d0_1, .int .i64 d0_2, S d0_3, .slice A_1 d0_4.length cap_1, .slice A_2 d0_5.length cap_2] 76 (0, 0)), Ent.obj b1 (.cells #[.int .i8 d1_0, .bool d1_1, .int .i64 d1_2, S d1_3, .slice A_3 d1_4.length cap_3, .slice A_4 d1_5.length cap_4] 76 (0, 0))] 109 [.pointer (some (⟨b0, 0, none⟩)), .pointer (some (⟨b1, 0, none⟩))] (fun M' E' v => ∃ (A_10 : Option Addr) (cap_10 : Nat) (A_11 : Option Addr) (cap_11 : Nat) (A_12 : Option Addr) (cap_12 : Nat) (A_13 : Option Addr) (cap_13 : Nat), v = .int .i64 r.1 ∧ E' = [Ent.obj b0 (.cells #[.int .i8 r.2.1, .bool r.2.2.1, .int .i64 r.2.2.2.1, S r.2.2.2.2.1, .slice A_10 r.2.2.2.2.2.1.length cap_10, .slice A_11 r.2.2.2.2.2.2.1.length cap_11] 76 (0, 0)), Ent.obj b1 (.cells #[.int .i8 r.2.2.2.2.2.2.2.1, .bool r.2.2.2.2.2.2.2.2.1, .int .i64 r.2.2.2.2.2.2.2.2.2.1, S r.2.2.2.2.2.2.2.2.2.2.1, .slice A_12 r.2.2.2.2.2.2.2.2.2.2.2.1.length cap_12, .slice A_13 r.2.2.2.2.2.2.2.2.2.2.2.2.length cap_13] 76 (0, 0))] ∧ Sli M' 6 emb_T_api_Value A_10 cap_10 r.2.2.2.2.2.1 ∧ Sli M' 1 Dat.str A_11 cap_11 r.2.2.2.2.2.2.1 ∧ Sli M' 6 emb_T_api_Value A_12 cap_12 r.2.2.2.2.2.2.2.2.2.2.2.1 ∧ Sli M' 1 Dat.str A_13 cap_13 r.2.2.2.2.2.2.2.2.2.2.2.2) := by
 unfold tree_compare_2 at hF
 intro M1 hM0 w0 H w p0
 replace hG := GL.mono hM0 hG
 replace h_1 := h_1.mono hM0
 replace h_2 := h_2.mono hM0
 replace h_3 := h_3.mono hM0
 replace h_4 := h_4.mono hM0
 refine R_enter 117 Tryz.func109 rfl rfl (by simp) fun a0 f0 => ?_
 refine R_seq (R_reg ?_)
 refine Y19 f0 1 fun _ f => ?_
 refine W_end rfl (T_n (R_seq (R_seq ?_)))
 refine R_drawQ 38 p0 (by kernel_rfl) (by kernel_rfl) ?_
 refine Y5 default f 3 fun _ f => ?_
 refine Y2 (v := .int .i8 d0_0) f (fun _ pq => Y32 (v := .int .i8 d0_0) rfl (ad := ⟨b0, 0, none⟩) (pq.ownCell 0 rfl 0)) fun _ f => ?_
 refine Y5 default f 3 fun _ f => ?_
 refine Y2 (v := .int .i8 d1_0) f (fun _ pq => Y32 (v := .int .i8 d1_0) rfl (ad := ⟨b1, 0, none⟩) (pq.ownCell 1 rfl 0)) fun _ f => ?_
 obtain ⟨x_1, hx_1, hF_1⟩ := bS hF
 refine Y3 f (cmp_Compare_ok n _ d0_0 d1_0 x_1 hx_1) fun _ f => ?_
 refine Y5 default f 3 fun _ f => ?_
 refine Y2 (v := .bool d0_1) f (fun _ pq => Y32 (v := .bool d0_1) rfl (ad := ⟨b0, 1, none⟩) (pq.ownCell 0 rfl 1)) fun _ f => ?_
 obtain ⟨x_2, hx_2, hF_2⟩ := bS hF_1
 refine Y3 f (tree_bit_ok n _ hG (d0_1) x_2 hx_2) fun _ f => ?_
 refine Y5 default f 3 fun _ f => ?_
 refine Y2 (v := .bool d1_1) f (fun _ pq => Y32 (v := .bool d1_1) rfl (ad := ⟨b1, 1, none⟩) (pq.ownCell 1 rfl 1)) fun _ f => ?_
 obtain ⟨x_3, hx_3, hF_3⟩ := bS hF_2
 refine Y3 f (tree_bit_ok n _ hG (d1_1) x_3 hx_3) fun _ f => ?_
 obtain ⟨g_1, hF_4⟩ := nS hF_3
 refine Y2 (v := .int .i64 (IntKind.wrap .i64 (x_2 - x_3))) f (fun _ pq => by kernel_rfl) fun _ f => ?_
 have f := Frm.set f 28 (v := .int .i64 (IntKind.wrap .i64 (x_2 - x_3))) (v' := .int .i64 (x_2 - x_3)) (by kernel_rfl) (congrArg (Value.int .i64) (inR_wrap g_1))
 refine Y5 default f 3 fun _ f => ?_
 refine Y2 (v := .int .i64 d0_2) f (fun _ pq => Y32 (v := .int .i64 d0_2) rfl (ad := ⟨b0, 2, none⟩) (pq.ownCell 0 rfl 2)) fun _ f => ?_
 refine Y5 default f 3 fun _ f => ?_
 refine Y2 (v := .int .i64 d1_2) f (fun _ pq => Y32 (v := .int .i64 d1_2) rfl (ad := ⟨b1, 2, none⟩) (pq.ownCell 1 rfl 2)) fun _ f => ?_
 obtain ⟨x_4, hx_4, hF_5⟩ := bS hF_4
 refine Y3 f (cmp_Compare_2_ok n _ hG d0_2 d1_2 x_4 hx_4) fun _ f => ?_
 refine Y5 default f 3 fun _ f => ?_
 refine Y2 (v := S d0_3) f (fun _ pq => Y32 (v := S d0_3) rfl (ad := ⟨b0, 3, none⟩) (pq.ownCell 0 rfl 3)) fun _ f => ?_
 refine Y5 default f 3 fun _ f => ?_
 refine Y2 (v := S d1_3) f (fun _ pq => Y32 (v := S d1_3) rfl (ad := ⟨b1, 3, none⟩) (pq.ownCell 1 rfl 3)) fun _ f => ?_
 obtain ⟨x_5, hx_5, hF_6⟩ := bS hF_5
 refine Y3 f (h_Compare_ok n _ d0_3 d1_3 x_5 hx_5) fun _ f => ?_
 refine Q_end rfl ?_
 intro w_1 p_1
 refine V_allocS (k := 4) (c := 4) f p_1 (.cells #[.int .i64 x_1, .int .i64 (x_2 - x_3), .int .i64 x_4, .int .i64 x_5] 3 (0, 0)) (by kernel_rfl) (fun _ => by kernel_rfl) fun b_1 w_7 p_7 _ f => ?_
 have hr_1 : RepSeq M1 ([x_1, x_2 - x_3, x_4, x_5].map (Dat.int .i64)) [.int .i64 x_1, .int .i64 (x_2 - x_3), .int .i64 x_4, .int .i64 x_5] := ⟨_, _, rfl, rfl, ⟨_, _, rfl, rfl, ⟨_, _, rfl, rfl, ⟨_, _, rfl, rfl, rfl⟩⟩⟩⟩
 have p_8 : Hp w0 M1 ((Ent.row 3 1 (.slice (some ⟨b_1, 0, none⟩) 4 4) [x_1, x_2 - x_3, x_4, x_5].length [.int .i64 x_1, .int .i64 (x_2 - x_3), .int .i64 x_4, .int .i64 x_5]) :: (Ent.obj b0 (.cells #[.int .i8 d0_0, .bool d0_1, .int .i64 d0_2, S d0_3, .slice A_1 d0_4.length cap_1, .slice A_2 d0_5.length cap_2] 76 (0, 0))) :: (Ent.obj b1 (.cells #[.int .i8 d1_0, .bool d1_1, .int .i64 d1_2, S d1_3, .slice A_3 d1_4.length cap_3, .slice A_4 d1_5.length cap_4] 76 (0, 0))) :: H) w_7 := p_7.objRow (n := 4) (cap := 4) (size := 1) (by decide) (by decide) rfl rfl rfl
 obtain ⟨M_1, A_5, cap_5, hM_1, hv_1, p_9, h_5, hb_1⟩ := p_8.lend (f := (Dat.int .i64)) (xs := [x_1, x_2 - x_3, x_4, x_5]) (szd_int .i64) hr_1
 have f := Frm.set f 47 (v := .slice (some ⟨b_1, 0, none⟩) 4 4) (v' := .slice A_5 [x_1, x_2 - x_3, x_4, x_5].length cap_5) (by kernel_rfl) (hv_1)
 obtain ⟨x_6, hx_6, hF_7⟩ := bS hF_6
 refine Y18 f p_9 (cmp_Or_ok n _ (GL.mono hM_1 hG) A_5 cap_5 [x_1, x_2 - x_3, x_4, x_5] h_5 x_6 hx_6) fun w_8 p_10 _ f => ?_
 obtain ⟨M_2, hM_2, p_11⟩ := hb_1 _ _ _ (mR _) p_10
 have f := Frm.set f 47 (v := .slice A_5 [x_1, x_2 - x_3, x_4, x_5].length cap_5) (v' := .slice (some ⟨b_1, 0, none⟩) 4 4) (by kernel_rfl) (hv_1.symm)
 refine Y19 f 1 fun _ f => ?_
 refine W_end rfl (T_n (R_seq (R_reg ?_)))
 refine Y19 f 2 fun _ f => ?_
 refine W_end rfl (T_n ?_)
 refine Y6 f (b := !(decide (x_6 = 0))) (fun h_6 => ?_) fun h_6 => ?_
 ·have k_1 : ¬ (x_6 = 0) := (not_iff dI).1 h_6
  have hF_8 := cnd_t h_6 hF_7
  refine R_seq (R_reg ?_)
  refine Y19 f 2 fun _ f => ?_
  refine W_end rfl (T_n (wp_ret (T_r ?_)))
  refine E_ret1 f rfl (by kernel_rfl : Vc.look _ 4 = some (.int .i64 x_6)) ?_
  obtain rfl := sI hF_8
  exact ⟨_, rfl, M_2, _, hM_2, (p_11.dropN 1), ⟨A_1, cap_1, A_2, cap_2, A_3, cap_3, A_4, cap_4, rfl, rfl, (h_1.mono hM_2), (h_2.mono hM_2), (h_3.mono hM_2), (h_4.mono hM_2)⟩⟩
 ·have k_2 : ¬ (¬ (x_6 = 0)) := iff_f (not_iff dI) h_6
  have hF_9 := cnd_f h_6 hF_7
  refine wp_skip (T_n (R_seq (R_seq ?_)))
  refine R_draw p_11 (by kernel_rfl) (by kernel_rfl) ?_
  refine Y5 default f 3 fun _ f => ?_
  refine Y2 (v := .slice A_1 d0_4.length cap_1) f (fun _ pq => Y32 (v := .slice A_1 d0_4.length cap_1) rfl (ad := ⟨b0, 4, none⟩) (pq.ownCell 1 rfl 4)) fun _ f => ?_
  refine Y5 default f 4 fun _ f => ?_
  refine Y2 (v := .slice A_3 d1_4.length cap_3) f (fun _ pq => Y32 (v := .slice A_3 d1_4.length cap_3) rfl (ad := ⟨b1, 4, none⟩) (pq.ownCell 2 rfl 4)) fun _ f => ?_
  refine Y5 default f 1 fun _ f => ?_
  refine Y2 (v := .int .i64 (min ((d0_4.length : Nat) : Int) ((d1_4.length : Nat) : Int))) f (fun _ pq => X_min (k := .i64) (a := ((d0_4.length : Nat) : Int)) (b := ((d1_4.length : Nat) : Int)) rfl (by kernel_rfl) (by kernel_rfl)) fun _ f => ?_
  refine Y5 default f 1 fun _ f => ?_
  refine Q_end rfl ?_
  intro w_9 p_12
  refine T_n (wp_block ?_)
  obtain ⟨b_2, hL_1, hF_10⟩ := bS hF_9
  refine wp_mono (Q := fun e a w => (e = .ret ∧ (∃ y_2 : Int, b_2 = .inl y_2 ∧ ∃ M_5 : Mem, M_2.le M_5 ∧ Frm 117 [(4, .int .i64 y_2)] a ∧ Hp w0 M_5 ((Ent.row 3 1 (.slice (some ⟨b_1, 0, none⟩) 4 4) [x_1, x_2 - x_3, x_4, x_5].length [.int .i64 x_1, .int .i64 (x_2 - x_3), .int .i64 x_4, .int .i64 x_5]) :: (Ent.obj b0 (.cells #[.int .i8 d0_0, .bool d0_1, .int .i64 d0_2, S d0_3, .slice A_1 d0_4.length cap_1, .slice A_2 d0_5.length cap_2] 76 (0, 0))) :: (Ent.obj b1 (.cells #[.int .i8 d1_0, .bool d1_1, .int .i64 d1_2, S d1_3, .slice A_3 d1_4.length cap_3, .slice A_4 d1_5.length cap_4] 76 (0, 0))) :: H) w)) ∨ (e = .exit 0 ∧ (∃ y_3 : Unit, b_2 = .inr y_3 ∧ ∃ M_6 : Mem, M_2.le M_6 ∧ Frm 117 [(0, .pointer (some (⟨b0, 0, none⟩))), (1, .pointer (some (⟨b1, 0, none⟩)))] a ∧ Hp w0 M_6 ((Ent.row 3 1 (.slice (some ⟨b_1, 0, none⟩) 4 4) [x_1, x_2 - x_3, x_4, x_5].length [.int .i64 x_1, .int .i64 (x_2 - x_3), .int .i64 x_4, .int .i64 x_5]) :: (Ent.obj b0 (.cells #[.int .i8 d0_0, .bool d0_1, .int .i64 d0_2, S d0_3, .slice A_1 d0_4.length cap_1, .slice A_2 d0_5.length cap_2] 76 (0, 0))) :: (Ent.obj b1 (.cells #[.int .i8 d1_0, .bool d1_1, .int .i64 d1_2, S d1_3, .slice A_3 d1_4.length cap_3, .slice A_4 d1_5.length cap_4] 76 (0, 0))) :: H) w))) (R_loop (n := 117) (w0 := w0) (M := M_2) (fun (x : Nat × Int) => match x with | (m_1, s_1) => [(0, .pointer (some (⟨b0, 0, none⟩))), (1, .pointer (some (⟨b1, 0, none⟩))), (62, .int .i64 (min ((d0_4.length : Nat) : Int) ((d1_4.length : Nat) : Int))), (63, .int .i64 s_1)]) (fun (x : Nat × Int) => match x with | (m_1, s_1) => ((Ent.row 3 1 (.slice (some ⟨b_1, 0, none⟩) 4 4) [x_1, x_2 - x_3, x_4, x_5].length [.int .i64 x_1, .int .i64 (x_2 - x_3), .int .i64 x_4, .int .i64 x_5]) :: (Ent.obj b0 (.cells #[.int .i8 d0_0, .bool d0_1, .int .i64 d0_2, S d0_3, .slice A_1 d0_4.length cap_1, .slice A_2 d0_5.length cap_2] 76 (0, 0))) :: (Ent.obj b1 (.cells #[.int .i8 d1_0, .bool d1_1, .int .i64 d1_2, S d1_3, .slice A_3 d1_4.length cap_3, .slice A_4 d1_5.length cap_4] 76 (0, 0))) :: H)) (fun (x : Nat × Int) (MM : Mem) => match x with | (m_1, s_1) => loopF (tree_compare_2_s1 n d0_0 d0_4 d0_5 d1_4 d1_5) m_1 s_1 = some b_2) (fun (x : Nat × Int) => match x with | (m_1, s_1) => m_1) (n, (0 : Int)) (f.keep (ks := [0, 1, 62, 63]) (by kernel_rfl)) p_12 hL_1 ?_) ?_
  ·rintro ⟨m_1, s_1⟩ M_3 _ w_10 hM_3 I_1 f p_13
   have I_1L := I_1
   obtain ⟨m_2, r_1, rfl, hs_1, hn_1⟩ := loop_step I_1L
   unfold tree_compare_2_s1 at hs_1
   refine R_seq (R_reg ?_)
   refine Y19 f 1 fun _ f => ?_
   refine W_end rfl (T_n (R_seq ?_))
   refine Y6 f (b := decide (s_1 < (min ((d0_4.length : Nat) : Int) ((d1_4.length : Nat) : Int)))) (fun h_7 => ?_) fun h_7 => ?_
   ·have k_3 : s_1 < (min ((d0_4.length : Nat) : Int) ((d1_4.length : Nat) : Int)) := dI.1 h_7
    have hF_11 := cnd_t h_7 hs_1
    refine wp_skip (T_n (R_seq (wp_block (R_seq (R_reg ?_)))))
    refine Y19 f 2 fun _ f => ?_
    refine W_end rfl (T_n (R_seq (R_seq (R_reg ?_))))
    refine Y19 f 3 fun _ f => ?_
    refine Y14 (v := .int .i8 d0_0) f (Y32 (v := .int .i8 d0_0) rfl (ad := ⟨b0, 0, none⟩) (p_13.ownCell 1 rfl 0)) fun _ f => ?_
    refine Y19 f 1 fun _ f => ?_
    refine W_end rfl (T_n ?_)
    obtain ⟨j_1, hj_1, hF_12⟩ := bS hF_11
    refine R_mid (fun a_56 w_13 => ∃ y_1 : Unit, j_1 = .nx y_1 ∧ ∃ M_4 : Mem, M_3.le M_4 ∧ Frm 117 [(0, .pointer (some (⟨b0, 0, none⟩))), (1, .pointer (some (⟨b1, 0, none⟩))), (6, .int .i64 s_1), (62, .int .i64 (min ((d0_4.length : Nat) : Int) ((d1_4.length : Nat) : Int))), (63, .int .i64 s_1)] a_56 ∧ Hp w0 M_4 ((Ent.row 3 1 (.slice (some ⟨b_1, 0, none⟩) 4 4) [x_1, x_2 - x_3, x_4, x_5].length [.int .i64 x_1, .int .i64 (x_2 - x_3), .int .i64 x_4, .int .i64 x_5]) :: (Ent.obj b0 (.cells #[.int .i8 d0_0, .bool d0_1, .int .i64 d0_2, S d0_3, .slice A_1 d0_4.length cap_1, .slice A_2 d0_5.length cap_2] 76 (0, 0))) :: (Ent.obj b1 (.cells #[.int .i8 d1_0, .bool d1_1, .int .i64 d1_2, S d1_3, .slice A_3 d1_4.length cap_3, .slice A_4 d1_5.length cap_4] 76 (0, 0))) :: H) w_13) ?_ ?_
    ·refine Y6 f (b := decide (d0_0 = 5)) (fun h_8 => ?_) fun h_8 => ?_
     ·have k_4 : d0_0 = 5 := dI.1 h_8
      have hF_13 := cnd_t h_8 hj_1
      refine R_seq ?_
      refine R_draw p_13 (by kernel_rfl) (by kernel_rfl) ?_
      refine Y5 default f 3 fun _ f => ?_
      refine Y2 (v := .slice A_2 d0_5.length cap_2) f (fun _ pq => Y32 (v := .slice A_2 d0_5.length cap_2) rfl (ad := ⟨b0, 5, none⟩) (pq.ownCell 1 rfl 5)) fun _ f => ?_
      refine Y5 default f 1 fun _ f => ?_
      obtain ⟨x_7, hx_7, hF_14⟩ := bS hF_13
      obtain ⟨ad_1, c_1, e_1, hl_1, hr_2, hc_1⟩ := Sli.at_ (h_2.mono (hM_2.trans hM_3)) hx_7
      clear hl_1
      obtain rfl : c_1 = [S x_7] := hr_2
      refine Y2 (v := .pointer (some (ad_1.add (s_1.toNat * 1)))) f (fun _ pq => Y31 e_1 rfl (len := d0_5.length) (cap := cap_2) (k := .i64) (i := s_1) (e := 9) (sz := 1) (getI_nn hx_7) (getI_lt hx_7)) fun _ f => ?_
      refine Y4 f hc_1 0 rfl fun _ f => ?_
      refine Y5 default f 3 fun _ f => ?_
      refine Y2 (v := .slice A_4 d1_5.length cap_4) f (fun _ pq => Y32 (v := .slice A_4 d1_5.length cap_4) rfl (ad := ⟨b1, 5, none⟩) (pq.ownCell 2 rfl 5)) fun _ f => ?_
      refine Y5 default f 1 fun _ f => ?_
      obtain ⟨x_8, hx_8, hF_15⟩ := bS hF_14
      obtain ⟨ad_2, c_2, e_2, hl_2, hr_3, hc_2⟩ := Sli.at_ (h_4.mono (hM_2.trans hM_3)) hx_8
      clear hl_2
      obtain rfl : c_2 = [S x_8] := hr_3
      refine Y2 (v := .pointer (some (ad_2.add (s_1.toNat * 1)))) f (fun _ pq => Y31 e_2 rfl (len := d1_5.length) (cap := cap_4) (k := .i64) (i := s_1) (e := 9) (sz := 1) (getI_nn hx_8) (getI_lt hx_8)) fun _ f => ?_
      refine Y4 f hc_2 0 rfl fun _ f => ?_
      obtain ⟨x_9, hx_9, hF_16⟩ := bS hF_15
      refine Y3 f (h_Compare_ok n _ x_7 x_8 x_9 hx_9) fun _ f => ?_
      refine Y5 default f 1 fun _ f => ?_
      refine Q_end rfl ?_
      intro w_12 p_15
      refine T_n (R_seq (R_reg ?_))
      refine Y19 f 2 fun _ f => ?_
      refine W_end rfl (T_n ?_)
      refine Y6 f (b := !(decide (x_9 = 0))) (fun h_9 => ?_) fun h_9 => ?_
      ·have k_5 : ¬ (x_9 = 0) := (not_iff dI).1 h_9
       have hF_17 := cnd_t h_9 hF_16
       refine R_seq (R_reg ?_)
       refine Y19 f 2 fun _ f => ?_
       refine W_end rfl (T_n (wp_ret ?_))
       have hF_18 := br_elim hF_17 hF_12
       refine T_r (T_r (B_r (T_r (T_r ?_))))
       obtain rfl := sI hF_18
       exact .inl ⟨rfl, x_9, (sI hn_1).symm, M_3, hM_3, f.keep (ks := [4]) (by kernel_rfl), p_15⟩
      ·have k_6 : ¬ (¬ (x_9 = 0)) := iff_f (not_iff dI) h_9
       have hF_19 := cnd_f h_9 hF_16
       refine wp_skip (T_n ?_)
       exact ⟨(), (sI hF_19).symm, M_3, (mR _), f.keep (ks := [0, 1, 6, 62, 63]) (by kernel_rfl), p_15⟩
     ·have k_7 : ¬ (d0_0 = 5) := iff_f dI h_8
      have hF_20 := cnd_f h_8 hj_1
      refine wp_skip (T_n ?_)
      exact ⟨(), (sI hF_20).symm, M_3, (mR _), f.keep (ks := [0, 1, 6, 62, 63]) (by kernel_rfl), p_13⟩
    ·rintro a_56 w_13 ⟨y_1, rfl, M_4, hM_4, f, p_16⟩
     refine T_n (R_seq ?_)
     refine R_draw p_16 (by kernel_rfl) (by kernel_rfl) ?_
     refine Y5 default f 3 fun _ f => ?_
     refine Y2 (v := .slice A_1 d0_4.length cap_1) f (fun _ pq => Y32 (v := .slice A_1 d0_4.length cap_1) rfl (ad := ⟨b0, 4, none⟩) (pq.ownCell 1 rfl 4)) fun _ f => ?_
     refine Y5 default f 1 fun _ f => ?_
     obtain ⟨x_10, hx_10, hF_21⟩ := bS hF_12
     obtain ⟨ad_3, c_3, e_3, hl_3, hr_4, hc_3⟩ := Sli.at_ (h_1.mono ((hM_2.trans hM_3).trans hM_4)) hx_10
     clear hl_3
     obtain ⟨A_6, cap_6, A_7, cap_7, rfl, h_10, h_11⟩ := T_api_Value.opn hr_4
     refine Y2 (v := .pointer (some (ad_3.add (s_1.toNat * 6)))) f (fun _ pq => Y31 e_3 rfl (len := d0_4.length) (cap := cap_1) (k := .i64) (i := s_1) (e := 76) (sz := 6) (getI_nn hx_10) (getI_lt hx_10)) fun _ f => ?_
     refine Y5 default f 3 fun _ f => ?_
     refine Y2 (v := .slice A_3 d1_4.length cap_3) f (fun _ pq => Y32 (v := .slice A_3 d1_4.length cap_3) rfl (ad := ⟨b1, 4, none⟩) (pq.ownCell 2 rfl 4)) fun _ f => ?_
     refine Y5 default f 1 fun _ f => ?_
     obtain ⟨x_11, hx_11, hF_22⟩ := bS hF_21
     obtain ⟨ad_4, c_4, e_4, hl_4, hr_5, hc_4⟩ := Sli.at_ (h_3.mono ((hM_2.trans hM_3).trans hM_4)) hx_11
     clear hl_4
     obtain ⟨A_8, cap_8, A_9, cap_9, rfl, h_12, h_13⟩ := T_api_Value.opn hr_5
     refine Y2 (v := .pointer (some (ad_4.add (s_1.toNat * 6)))) f (fun _ pq => Y31 e_4 rfl (len := d1_4.length) (cap := cap_3) (k := .i64) (i := s_1) (e := 76) (sz := 6) (getI_nn hx_11) (getI_lt hx_11)) fun _ f => ?_
     obtain ⟨x_12, hx_12, hF_23⟩ := bS hF_22
     refine Y3 f (tree_compare_ok n _ (GL.mono ((hM_2.trans hM_3).trans hM_4) hG) (ad_3.add (s_1.toNat * 6)) [.int .i8 x_10.fKind, .bool x_10.fBool, .int .i64 x_10.fNum, S x_10.fText, .slice A_6 x_10.fList.length cap_6, .slice A_7 x_10.fKeys.length cap_7] x_10 (T_api_Value.shutx (x := x_10) h_10 h_11) (fz_at (hc_3) 0 rfl) (ad_4.add (s_1.toNat * 6)) [.int .i8 x_11.fKind, .bool x_11.fBool, .int .i64 x_11.fNum, S x_11.fText, .slice A_8 x_11.fList.length cap_8, .slice A_9 x_11.fKeys.length cap_9] x_11 (T_api_Value.shutx (x := x_11) h_12 h_13) (fz_at (hc_4) 0 rfl) x_12 hx_12) fun _ f => ?_
     refine Y5 default f 1 fun _ f => ?_
     refine Q_end rfl ?_
     intro w_15 p_18
     refine T_n (R_seq (R_reg ?_))
     refine Y19 f 2 fun _ f => ?_
     refine W_end rfl (T_n ?_)
     refine Y6 f (b := !(decide (x_12 = 0))) (fun h_14 => ?_) fun h_14 => ?_
     ·have k_8 : ¬ (x_12 = 0) := (not_iff dI).1 h_14
      have hF_24 := cnd_t h_14 hF_23
      refine R_seq (R_reg ?_)
      refine Y19 f 2 fun _ f => ?_
      refine W_end rfl (T_n (wp_ret (B_r (T_r (T_r ?_)))))
      obtain rfl := sI hF_24
      exact .inl ⟨rfl, x_12, (sI hn_1).symm, M_4, (hM_3.trans hM_4), f.keep (ks := [4]) (by kernel_rfl), p_18⟩
     ·have k_9 : ¬ (¬ (x_12 = 0)) := iff_f (not_iff dI) h_14
      have hF_25 := cnd_f h_14 hF_23
      refine wp_skip (B_n (T_n (R_reg ?_)))
      obtain ⟨g_2, hF_26⟩ := nS hF_25
      refine Y19 f 1 fun _ f => ?_
      have f := Frm.set f 105 (v := .int .i64 (IntKind.wrap .i64 (s_1 + 1))) (v' := .int .i64 (s_1 + 1)) (by kernel_rfl) (congrArg (Value.int .i64) (inR_wrap g_2))
      refine Y19 f 1 fun _ f => ?_
      refine W_end rfl (T_n ?_)
      obtain rfl := sI hF_26
      exact ⟨⟨m_2, s_1 + 1⟩, Nat.lt_succ_self _, M_4, (hM_3.trans hM_4), hn_1, f.keep (ks := [0, 1, 62, 63]) (by kernel_rfl), p_18⟩
   ·have k_10 : ¬ (s_1 < (min ((d0_4.length : Nat) : Int) ((d1_4.length : Nat) : Int))) := iff_f dI h_7
    have hF_27 := cnd_f h_7 hs_1
    refine wp_exit (T_x (T_x ?_))
    obtain rfl := sI hF_27
    exact .inr ⟨rfl, (), (sI hn_1).symm, M_3, hM_3, f.keep (ks := [0, 1]) (by kernel_rfl), p_13⟩
  ·rintro _ _ w_18 (⟨rfl, y_2, rfl, M_5, hM_5, f, p_19⟩ | ⟨rfl, y_3, rfl, M_6, hM_6, f, p_20⟩)
   ·refine B_r (T_r ?_)
    refine E_ret1 f rfl (by kernel_rfl : Vc.look _ 4 = some (.int .i64 y_2)) ?_
    obtain rfl := sI hF_10
    exact ⟨_, rfl, M_5, _, (hM_2.trans hM_5), (p_19.dropN 1), ⟨A_1, cap_1, A_2, cap_2, A_3, cap_3, A_4, cap_4, rfl, rfl, (h_1.mono (hM_2.trans hM_5)), (h_2.mono (hM_2.trans hM_5)), (h_3.mono (hM_2.trans hM_5)), (h_4.mono (hM_2.trans hM_5))⟩⟩
   ·refine B_x (T_n (R_seq ?_))
    refine R_draw p_20 (by kernel_rfl) (by kernel_rfl) ?_
    refine Y5 default f 3 fun _ f => ?_
    refine Y2 (v := .slice A_1 d0_4.length cap_1) f (fun _ pq => Y32 (v := .slice A_1 d0_4.length cap_1) rfl (ad := ⟨b0, 4, none⟩) (pq.ownCell 1 rfl 4)) fun _ f => ?_
    refine Y5 default f 4 fun _ f => ?_
    refine Y2 (v := .slice A_3 d1_4.length cap_3) f (fun _ pq => Y32 (v := .slice A_3 d1_4.length cap_3) rfl (ad := ⟨b1, 4, none⟩) (pq.ownCell 2 rfl 4)) fun _ f => ?_
    refine Y5 default f 1 fun _ f => ?_
    obtain ⟨x_13, hx_13, hF_28⟩ := bS hF_10
    refine Y3 f (cmp_Compare_2_ok n _ (GL.mono (hM_2.trans hM_6) hG) ((d0_4.length : Nat) : Int) ((d1_4.length : Nat) : Int) x_13 hx_13) fun _ f => ?_
    refine Y5 default f 1 fun _ f => ?_
    refine Q_end rfl ?_
    intro w_20 p_22
    refine T_n (wp_ret ?_)
    refine E_ret1 f rfl (by kernel_rfl : Vc.look _ 4 = some (.int .i64 x_13)) ?_
    obtain rfl := sI hF_28
    exact ⟨_, rfl, M_6, _, (hM_2.trans hM_6), (p_22.dropN 1), ⟨A_1, cap_1, A_2, cap_2, A_3, cap_3, A_4, cap_4, rfl, rfl, (h_1.mono (hM_2.trans hM_6)), (h_2.mono (hM_2.trans hM_6)), (h_3.mono (hM_2.trans hM_6)), (h_4.mono (hM_2.trans hM_6))⟩⟩
def tree_both (n : Nat) (d0 : T_api_Value) (d1 : T_api_Value) : Option (Int × Bool) :=
  (((tree_Check n d0).bind fun x_1 =>
    bif (!(decide (x_1 = 0))) then
      (some ((true)))
    else
      (tree_Check n d1).bind fun x_2 =>
      some ((!(decide (x_2 = 0)))) : Option Bool)).bind fun y_1 =>
  bif y_1 then
    (some (((0 : Int), (false))))
  else
    (tree_sorted n d0).bind fun x_3 =>
    (tree_sorted n d1).bind fun x_4 =>
    (tree_compare_2 n x_3.fKind (x_3.fBool) x_3.fNum x_3.fText x_3.fList x_3.fKeys x_4.fKind (x_4.fBool) x_4.fNum x_4.fText x_4.fList x_4.fKeys).bind fun x_5 =>
    some ((x_5.1, (true)))
set_option maxHeartbeats 2000000 in
theorem tree_both_ok (n : Nat) (M : Mem) (hG : GL M) (c0 : List Value) (d0 : T_api_Value) (h0 : Rep M (emb_T_api_Value d0) c0) (c1 : List Value) (d1 : T_api_Value) (h1 : Rep M (emb_T_api_Value d1) c1) (r : Int × Bool) (hF : tree_both n d0 d1 = some r) : Ok Tryz.prog M 87 [.agg c0.toArray, .agg c1.toArray] (fun _ v => v = .tuple #[.int .i64 r.1, .bool r.2]) := by
 unfold tree_both at hF
 intro M1 hM0 w0 H w p0
 replace hG := GL.mono hM0 hG
 replace h0 := Rep.mono hM0 _ _ h0
 replace h1 := Rep.mono hM0 _ _ h1
 obtain ⟨A_1, cap_1, A_2, cap_2, rfl, h_1, h_2⟩ := T_api_Value.opn h0
 obtain ⟨A_3, cap_3, A_4, cap_4, rfl, h_3, h_4⟩ := T_api_Value.opn h1
 refine R_enter 19 Tryz.func87 rfl rfl (by simp) fun a0 f0 => ?_
 refine R_seq (R_reg ?_)
 refine Y13 (cs := #[.int .i8 d0.fKind, .bool d0.fBool, .int .i64 d0.fNum, S d0.fText, .slice A_1 d0.fList.length cap_1, .slice A_2 d0.fKeys.length cap_2]) (T := 76) f0 p0 fun b_1 M_1 w_1 hM_1 hc_1 p_1 _ f => ?_
 have hc_2 := fz_box hc_1
 refine Y13 (cs := #[.int .i8 d1.fKind, .bool d1.fBool, .int .i64 d1.fNum, S d1.fText, .slice A_3 d1.fList.length cap_3, .slice A_4 d1.fKeys.length cap_4]) (T := 76) f p_1 fun b_2 M_2 w_2 hM_2 hc_3 p_2 _ f => ?_
 have hc_4 := fz_box hc_3
 refine Y19 f 2 fun _ f => ?_
 refine W_end rfl (T_n (R_seq (R_seq ?_)))
 obtain ⟨j_1, hj_1, hF_1⟩ := bS hF
 refine R_mid (fun a_11 w_5 => ∃ y_1 : Bool, j_1 = y_1 ∧ ∃ M_3 : Mem, M_2.le M_3 ∧ Frm 19 [(2, .pointer (some (⟨b_1, 0, none⟩))), (3, .pointer (some (⟨b_2, 0, none⟩))), (15, .bool y_1)] a_11 ∧ Hp w0 M_3 (H) w_5) ?_ ?_
 ·refine R_reg ?_
  refine Y14 (v := .agg #[.int .i8 d0.fKind, .bool d0.fBool, .int .i64 d0.fNum, S d0.fText, .slice A_1 d0.fList.length cap_1, .slice A_2 d0.fKeys.length cap_2]) f (Y33 (cs := [.int .i8 d0.fKind, .bool d0.fBool, .int .i64 d0.fNum, S d0.fText, .slice A_1 d0.fList.length cap_1, .slice A_2 d0.fKeys.length cap_2]) rfl (ad := ⟨b_1, 0, none⟩) (fun j v h => p_2.cell ((fzu hM_2 hc_2) j v h))) fun _ f => ?_
  obtain ⟨x_1, hx_1, hF_2⟩ := bS hj_1
  refine Y18 f p_2 (tree_Check_ok n _ (GL.mono (hM_1.trans hM_2) hG) _ d0 (T_api_Value.shutx (x := d0) (h_1.mono (hM_1.trans hM_2)) (h_2.mono (hM_1.trans hM_2))) x_1 hx_1) fun w_3 p_3 _ f => ?_
  refine Y19 f 2 fun _ f => ?_
  rcases bE (!(decide (x_1 = 0))) with h_5 | h_5
  ·have k_1 : ¬ (x_1 = 0) := (not_iff dI).1 h_5
   have hF_3 := cnd_t h_5 hF_2
   have f := Frm.set f 11 (v := .bool (!(decide (x_1 = 0)))) (v' := .bool true) (by kernel_rfl) (cB h_5)
   refine Y19 f 4 fun _ f => ?_
   refine W_end rfl (T_n ?_)
   exact ⟨(true), (sI hF_3).symm, M_2, (mR _), f.keep (ks := [2, 3, 15]) (by kernel_rfl), p_3⟩
  ·have k_2 : ¬ (¬ (x_1 = 0)) := iff_f (not_iff dI) h_5
   have hF_4 := cnd_f h_5 hF_2
   have f := Frm.set f 11 (v := .bool (!(decide (x_1 = 0)))) (v' := .bool false) (by kernel_rfl) (cB h_5)
   refine Y14 (v := .agg #[.int .i8 d1.fKind, .bool d1.fBool, .int .i64 d1.fNum, S d1.fText, .slice A_3 d1.fList.length cap_3, .slice A_4 d1.fKeys.length cap_4]) f (Y33 (cs := [.int .i8 d1.fKind, .bool d1.fBool, .int .i64 d1.fNum, S d1.fText, .slice A_3 d1.fList.length cap_3, .slice A_4 d1.fKeys.length cap_4]) rfl (ad := ⟨b_2, 0, none⟩) (fun j v h => p_3.cell (hc_4 j v h))) fun _ f => ?_
   obtain ⟨x_2, hx_2, hF_5⟩ := bS hF_4
   refine Y18 f p_3 (tree_Check_ok n _ (GL.mono (hM_1.trans hM_2) hG) _ d1 (T_api_Value.shutx (x := d1) (h_3.mono (hM_1.trans hM_2)) (h_4.mono (hM_1.trans hM_2))) x_2 hx_2) fun w_4 p_4 _ f => ?_
   refine Y19 f 2 fun _ f => ?_
   refine W_end rfl (T_n ?_)
   exact ⟨(!(decide (x_2 = 0))), (sI hF_5).symm, M_2, (mR _), f.keep (ks := [2, 3, 15]) (by kernel_rfl), p_4⟩
 ·rintro a_11 w_5 ⟨y_1, hq_1, M_3, hM_3, f, p_5⟩
  subst j_1
  refine T_n ?_
  refine Y6 f (b := y_1) (fun h_6 => ?_) fun h_6 => ?_
  ·have hF_6 := cnd_t h_6 hF_1
   refine R_seq (R_reg ?_)
   refine Y19 f 2 fun _ f => ?_
   refine W_end rfl (T_n (wp_ret (T_r ?_)))
   refine E_ret2 f rfl (by kernel_rfl : Vc.look _ 4 = some (.int .i64 0)) (by kernel_rfl : Vc.look _ 5 = some (.bool false)) ?_
   obtain rfl := sI hF_6
   exact ⟨_, rfl, M_3, ((hM_1.trans hM_2).trans hM_3), p_5, rfl⟩
  ·have hF_7 := cnd_f h_6 hF_1
   refine wp_skip (T_n (R_seq (R_reg ?_)))
   obtain ⟨x_3, hx_3, hF_8⟩ := bS hF_7
   refine Y16 f p_5 (tree_sorted_ok n _ (GL.mono ((hM_1.trans hM_2).trans hM_3) hG) (⟨b_1, 0, none⟩) [.int .i8 d0.fKind, .bool d0.fBool, .int .i64 d0.fNum, S d0.fText, .slice A_1 d0.fList.length cap_1, .slice A_2 d0.fKeys.length cap_2] d0 (T_api_Value.shutx (x := d0) (h_1.mono ((hM_1.trans hM_2).trans hM_3)) (h_2.mono ((hM_1.trans hM_2).trans hM_3))) (fz_at ((fzu (hM_2.trans hM_3) hc_2)) 0 rfl) x_3 hx_3) fun _ M_4 w_6 hM_4 p_6 q_1 _ f => ?_
   obtain ⟨c_1, rfl, hr_1⟩ := q_1
   obtain ⟨A_5, cap_5, A_6, cap_6, rfl, h_7, h_8⟩ := T_api_Value.opn hr_1
   obtain ⟨x_4, hx_4, hF_9⟩ := bS hF_8
   refine Y16 f p_6 (tree_sorted_ok n _ (GL.mono (((hM_1.trans hM_2).trans hM_3).trans hM_4) hG) (⟨b_2, 0, none⟩) [.int .i8 d1.fKind, .bool d1.fBool, .int .i64 d1.fNum, S d1.fText, .slice A_3 d1.fList.length cap_3, .slice A_4 d1.fKeys.length cap_4] d1 (T_api_Value.shutx (x := d1) (h_3.mono (((hM_1.trans hM_2).trans hM_3).trans hM_4)) (h_4.mono (((hM_1.trans hM_2).trans hM_3).trans hM_4))) (fz_at ((fzu (hM_3.trans hM_4) hc_4)) 0 rfl) x_4 hx_4) fun _ M_5 w_7 hM_5 p_7 q_2 _ f => ?_
   obtain ⟨c_2, rfl, hr_2⟩ := q_2
   obtain ⟨A_7, cap_7, A_8, cap_8, rfl, h_9, h_10⟩ := T_api_Value.opn hr_2
   refine Y12 f p_7 (.cells #[.int .i8 0, .bool false, .int .i64 0, S [], .slice none 0 0, .slice none 0 0] 76 (0, 0)) fun b_3 w_8 p_8 _ f => ?_
   refine Y12 f p_8 (.cells #[.int .i8 0, .bool false, .int .i64 0, S [], .slice none 0 0, .slice none 0 0] 76 (0, 0)) fun b_4 w_9 p_9 _ f => ?_
   have p_10 := p_9.pl [1]
   refine Y27 (vs := [.int .i8 x_3.fKind, .bool x_3.fBool, .int .i64 x_3.fNum, S x_3.fText, .slice A_5 x_3.fList.length cap_5, .slice A_6 x_3.fKeys.length cap_6]) (j := 0) f p_10 rfl rfl (by simp [Value.oneCell', S]) (by simp) (by decide) (cs' := #[.int .i8 x_3.fKind, .bool x_3.fBool, .int .i64 x_3.fNum, S x_3.fText, .slice A_5 x_3.fList.length cap_5, .slice A_6 x_3.fKeys.length cap_6]) fun w_10 p_11 _ f => ?_
   have p_12 := p_11.pl [1]
   refine Y27 (vs := [.int .i8 x_4.fKind, .bool x_4.fBool, .int .i64 x_4.fNum, S x_4.fText, .slice A_7 x_4.fList.length cap_7, .slice A_8 x_4.fKeys.length cap_8]) (j := 0) f p_12 rfl rfl (by simp [Value.oneCell', S]) (by simp) (by decide) (cs' := #[.int .i8 x_4.fKind, .bool x_4.fBool, .int .i64 x_4.fNum, S x_4.fText, .slice A_7 x_4.fList.length cap_7, .slice A_8 x_4.fKeys.length cap_8]) fun w_11 p_13 _ f => ?_
   refine W_end rfl (T_n (R_seq (R_reg ?_)))
   obtain ⟨x_5, hx_5, hF_10⟩ := bS hF_9
   have p_15 := p_13.pl [1]
   refine Y17 (E := [Ent.obj b_3 (.cells #[.int .i8 x_3.fKind, .bool x_3.fBool, .int .i64 x_3.fNum, S x_3.fText, .slice A_5 x_3.fList.length cap_5, .slice A_6 x_3.fKeys.length cap_6] 76 (0, 0)), Ent.obj b_4 (.cells #[.int .i8 x_4.fKind, .bool x_4.fBool, .int .i64 x_4.fNum, S x_4.fText, .slice A_7 x_4.fList.length cap_7, .slice A_8 x_4.fKeys.length cap_8] 76 (0, 0))]) (H := (H)) f p_15 (tree_compare_2_ok n _ (GL.mono ((((hM_1.trans hM_2).trans hM_3).trans hM_4).trans hM_5) hG) b_3 x_3.fKind (x_3.fBool) x_3.fNum x_3.fText x_3.fList A_5 cap_5 (h_7.mono hM_5) x_3.fKeys A_6 cap_6 (h_8.mono hM_5) b_4 x_4.fKind (x_4.fBool) x_4.fNum x_4.fText x_4.fList A_7 cap_7 h_9 x_4.fKeys A_8 cap_8 h_10 x_5 hx_5) fun _ M_6 E_1 w_12 hM_6 p_14 q_3 _ f => ?_
   obtain ⟨A_9, cap_9, A_10, cap_10, A_11, cap_11, A_12, cap_12, rfl, rfl, h_11, h_12, h_13, h_14⟩ := q_3
   refine Y19 f 2 fun _ f => ?_
   refine W_end rfl (T_n (wp_ret ?_))
   refine E_ret2 f rfl (by kernel_rfl : Vc.look _ 4 = some (.int .i64 x_5.1)) (by kernel_rfl : Vc.look _ 5 = some (.bool true)) ?_
   obtain rfl := sI hF_10
   exact ⟨_, rfl, M_6, (((((hM_1.trans hM_2).trans hM_3).trans hM_4).trans hM_5).trans hM_6), (p_14.dropN 2), rfl⟩
def tree_Equal (n : Nat) (d0 : T_api_Value) (d1 : T_api_Value) : Option Bool :=
  (tree_both n d0 d1).bind fun x_1 =>
  bif x_1.2 then
    (some ((decide (x_1.1 = 0))))
  else
    some ((false))
set_option maxHeartbeats 2000000 in
theorem tree_Equal_ok (n : Nat) (M : Mem) (hG : GL M) (c0 : List Value) (d0 : T_api_Value) (h0 : Rep M (emb_T_api_Value d0) c0) (c1 : List Value) (d1 : T_api_Value) (h1 : Rep M (emb_T_api_Value d1) c1) (r : Bool) (hF : tree_Equal n d0 d1 = some r) : Ok Tryz.prog M 60 [.agg c0.toArray, .agg c1.toArray] (fun _ v => v = .bool r) := by
 unfold tree_Equal at hF
 intro M1 hM0 w0 H w p0
 replace hG := GL.mono hM0 hG
 replace h0 := Rep.mono hM0 _ _ h0
 replace h1 := Rep.mono hM0 _ _ h1
 obtain ⟨A_1, cap_1, A_2, cap_2, rfl, h_1, h_2⟩ := T_api_Value.opn h0
 obtain ⟨A_3, cap_3, A_4, cap_4, rfl, h_3, h_4⟩ := T_api_Value.opn h1
 refine R_enter 18 Tryz.func60 rfl rfl (by simp) fun a0 f0 => ?_
 refine R_seq (R_reg ?_)
 refine Y13 (cs := #[.int .i8 d0.fKind, .bool d0.fBool, .int .i64 d0.fNum, S d0.fText, .slice A_1 d0.fList.length cap_1, .slice A_2 d0.fKeys.length cap_2]) (T := 76) f0 p0 fun b_1 M_1 w_1 hM_1 hc_1 p_1 _ f => ?_
 have hc_2 := fz_box hc_1
 refine Y13 (cs := #[.int .i8 d1.fKind, .bool d1.fBool, .int .i64 d1.fNum, S d1.fText, .slice A_3 d1.fList.length cap_3, .slice A_4 d1.fKeys.length cap_4]) (T := 76) f p_1 fun b_2 M_2 w_2 hM_2 hc_3 p_2 _ f => ?_
 have hc_4 := fz_box hc_3
 refine Y19 f 1 fun _ f => ?_
 refine W_end rfl (T_n (R_seq (R_reg ?_)))
 refine Y14 (v := .agg #[.int .i8 d0.fKind, .bool d0.fBool, .int .i64 d0.fNum, S d0.fText, .slice A_1 d0.fList.length cap_1, .slice A_2 d0.fKeys.length cap_2]) f (Y33 (cs := [.int .i8 d0.fKind, .bool d0.fBool, .int .i64 d0.fNum, S d0.fText, .slice A_1 d0.fList.length cap_1, .slice A_2 d0.fKeys.length cap_2]) rfl (ad := ⟨b_1, 0, none⟩) (fun j v h => p_2.cell ((fzu hM_2 hc_2) j v h))) fun _ f => ?_
 refine Y14 (v := .agg #[.int .i8 d1.fKind, .bool d1.fBool, .int .i64 d1.fNum, S d1.fText, .slice A_3 d1.fList.length cap_3, .slice A_4 d1.fKeys.length cap_4]) f (Y33 (cs := [.int .i8 d1.fKind, .bool d1.fBool, .int .i64 d1.fNum, S d1.fText, .slice A_3 d1.fList.length cap_3, .slice A_4 d1.fKeys.length cap_4]) rfl (ad := ⟨b_2, 0, none⟩) (fun j v h => p_2.cell (hc_4 j v h))) fun _ f => ?_
 obtain ⟨x_1, hx_1, hF_1⟩ := bS hF
 refine Y18 f p_2 (tree_both_ok n _ (GL.mono (hM_1.trans hM_2) hG) _ d0 (T_api_Value.shutx (x := d0) (h_1.mono (hM_1.trans hM_2)) (h_2.mono (hM_1.trans hM_2))) _ d1 (T_api_Value.shutx (x := d1) (h_3.mono (hM_1.trans hM_2)) (h_4.mono (hM_1.trans hM_2))) x_1 hx_1) fun w_3 p_3 _ f => ?_
 refine Y19 f 5 fun _ f => ?_
 refine W_end rfl (T_n (R_seq (R_reg ?_)))
 refine Y19 f 2 fun _ f => ?_
 rcases bE (x_1.2) with h_5 | h_5
 ·have hF_2 := cnd_t h_5 hF_1
  have f := Frm.set f 14 (v := .bool x_1.2) (v' := .bool true) (by kernel_rfl) (cB h_5)
  refine Y19 f 4 fun _ f => ?_
  refine W_end rfl (T_n (wp_ret ?_))
  refine E_ret1 f rfl (by kernel_rfl : Vc.look _ 4 = some (.bool (decide (x_1.1 = 0)))) ?_
  obtain rfl := sI hF_2
  exact ⟨_, rfl, M_2, (hM_1.trans hM_2), p_3, rfl⟩
 ·have hF_3 := cnd_f h_5 hF_1
  have f := Frm.set f 14 (v := .bool x_1.2) (v' := .bool false) (by kernel_rfl) (cB h_5)
  refine Y19 f 4 fun _ f => ?_
  refine W_end rfl (T_n (wp_ret ?_))
  refine E_ret1 f rfl (by kernel_rfl : Vc.look _ 4 = some (.bool false)) ?_
  obtain rfl := sI hF_3
  exact ⟨_, rfl, M_2, (hM_1.trans hM_2), p_3, rfl⟩
end Go.Proofs.YtalifkcchfkgmaaGreatDoor
end

section
set_option linter.unusedVariables false
set_option linter.unusedSimpArgs false
namespace Go.Proofs.YtalifkcchfkgmaaGreatDoor
open Go Go.Vc Go.RowKit
def slices_Equalstring_string_s1 (n : Nat) (d0 : List (List UInt8)) (d1 : List (List UInt8)) (s_1 : Int) : Option (Lp Int (Sum Unit Unit)) :=
    bif (decide (s_1 < ((d0.length : Nat) : Int))) then
      ((getI d0 s_1).bind fun x_1 =>
      (getI d1 s_1).bind fun x_2 =>
      bif (!(decide (x_1 = x_2))) then
        (some (.br (.inl ())))
      else
        need (inR .i64 (s_1 + 1)) <|
        some (.nx (s_1 + 1)))
    else
      some (.br (.inr ()))
def slices_Equalstring_string (n : Nat) (d0 : List (List UInt8)) (d1 : List (List UInt8)) : Option Bool :=
  bif (!(decide (((d0.length : Nat) : Int) = ((d1.length : Nat) : Int)))) then
    (some ((false)))
  else
    (loopF (slices_Equalstring_string_s1 n d0 d1) n (0 : Int)).bind fun b_1 =>
    (match b_1 with 
    | .inl y_1 => some ((false)) 
    | .inr y_2 => some ((true)))
set_option maxHeartbeats 2000000 in
theorem slices_Equalstring_string_ok (n : Nat) (M : Mem) (hG : GL M) (A0 : Option Addr) (cap0 : Nat) (d0 : List (List UInt8)) (h0 : Sli M 1 Dat.str A0 cap0 d0) (A1 : Option Addr) (cap1 : Nat) (d1 : List (List UInt8)) (h1 : Sli M 1 Dat.str A1 cap1 d1) (r : Bool) (hF : slices_Equalstring_string n d0 d1 = some r) : Ok Tryz.prog M 88 [.slice A0 d0.length cap0, .slice A1 d1.length cap1] (fun _ v => v = .bool r) := by
 unfold slices_Equalstring_string at hF
 intro M1 hM0 w0 H w p0
 replace hG := GL.mono hM0 hG
 replace h0 := h0.mono hM0
 replace h1 := h1.mono hM0
 refine R_enter 26 Tryz.func88 rfl rfl (by simp) fun a0 f0 => ?_
 refine R_seq (R_reg ?_)
 refine Y19 f0 1 fun _ f => ?_
 refine W_end rfl (T_n (R_seq (R_seq (R_reg ?_))))
 refine Y19 f 5 fun _ f => ?_
 refine W_end rfl (T_n ?_)
 refine Y6 f (b := !(decide (((d0.length : Nat) : Int) = ((d1.length : Nat) : Int)))) (fun h_1 => ?_) fun h_1 => ?_
 ·have k_1 : ¬ (((d0.length : Nat) : Int) = ((d1.length : Nat) : Int)) := (not_iff dI).1 h_1
  have hF_1 := cnd_t h_1 hF
  refine R_seq (R_reg ?_)
  refine Y19 f 1 fun _ f => ?_
  refine W_end rfl (T_n (wp_ret (T_r ?_)))
  refine E_ret1 f rfl (by kernel_rfl : Vc.look _ 4 = some (.bool false)) ?_
  obtain rfl := sI hF_1
  exact ⟨_, rfl, M1, (mR _), p0, rfl⟩
 ·have k_2 : ¬ (¬ (((d0.length : Nat) : Int) = ((d1.length : Nat) : Int))) := iff_f (not_iff dI) h_1
  have hF_2 := cnd_f h_1 hF
  refine wp_skip (T_n (R_seq (R_seq (R_reg ?_))))
  refine Y19 f 3 fun _ f => ?_
  refine W_end rfl (T_n (wp_block ?_))
  obtain ⟨b_1, hL_1, hF_3⟩ := bS hF_2
  refine wp_mono (Q := fun e a w => (e = .ret ∧ (∃ y_1 : Unit, b_1 = .inl y_1 ∧ ∃ M_2 : Mem, M1.le M_2 ∧ Frm 26 [(4, .bool false)] a ∧ Hp w0 M_2 (H) w)) ∨ (e = .exit 0 ∧ (∃ y_2 : Unit, b_1 = .inr y_2 ∧ ∃ M_3 : Mem, M1.le M_3 ∧ Frm 26 [] a ∧ Hp w0 M_3 (H) w))) (R_loop (n := 26) (w0 := w0) (M := M1) (fun (x : Nat × Int) => match x with | (m_1, s_1) => [(0, .slice A0 d0.length cap0), (1, .slice A1 d1.length cap1), (12, .int .i64 ((d0.length : Nat) : Int)), (13, .int .i64 s_1)]) (fun (x : Nat × Int) => match x with | (m_1, s_1) => (H)) (fun (x : Nat × Int) (MM : Mem) => match x with | (m_1, s_1) => loopF (slices_Equalstring_string_s1 n d0 d1) m_1 s_1 = some b_1) (fun (x : Nat × Int) => match x with | (m_1, s_1) => m_1) (n, (0 : Int)) (f.keep (ks := [0, 1, 12, 13]) (by kernel_rfl)) p0 hL_1 ?_) ?_
  ·rintro ⟨m_1, s_1⟩ M_1 _ w_1 hM_1 I_1 f p_1
   have I_1L := I_1
   obtain ⟨m_2, r_1, rfl, hs_1, hn_1⟩ := loop_step I_1L
   unfold slices_Equalstring_string_s1 at hs_1
   refine R_seq (R_reg ?_)
   refine Y19 f 1 fun _ f => ?_
   refine W_end rfl (T_n (R_seq ?_))
   refine Y6 f (b := decide (s_1 < ((d0.length : Nat) : Int))) (fun h_2 => ?_) fun h_2 => ?_
   ·have k_3 : s_1 < ((d0.length : Nat) : Int) := dI.1 h_2
    have hF_4 := cnd_t h_2 hs_1
    refine wp_skip (T_n (R_seq (wp_block (R_seq (R_reg ?_)))))
    refine Y19 f 2 fun _ f => ?_
    refine W_end rfl (T_n (R_seq ?_))
    refine R_draw p_1 (by kernel_rfl) (by kernel_rfl) ?_
    refine Y5 default f 2 fun _ f => ?_
    obtain ⟨x_1, hx_1, hF_5⟩ := bS hF_4
    obtain ⟨ad_1, c_1, e_1, hl_1, hr_1, hc_1⟩ := Sli.at_ (h0.mono hM_1) hx_1
    clear hl_1
    obtain rfl : c_1 = [S x_1] := hr_1
    refine Y2 (v := .pointer (some (ad_1.add (s_1.toNat * 1)))) f (fun _ pq => Y31 e_1 rfl (len := d0.length) (cap := cap0) (k := .i64) (i := s_1) (e := 9) (sz := 1) (getI_nn hx_1) (getI_lt hx_1)) fun _ f => ?_
    refine Y4 f hc_1 0 rfl fun _ f => ?_
    refine Y5 default f 2 fun _ f => ?_
    obtain ⟨x_2, hx_2, hF_6⟩ := bS hF_5
    obtain ⟨ad_2, c_2, e_2, hl_2, hr_2, hc_2⟩ := Sli.at_ (h1.mono hM_1) hx_2
    clear hl_2
    obtain rfl : c_2 = [S x_2] := hr_2
    refine Y2 (v := .pointer (some (ad_2.add (s_1.toNat * 1)))) f (fun _ pq => Y31 e_2 rfl (len := d1.length) (cap := cap1) (k := .i64) (i := s_1) (e := 9) (sz := 1) (getI_nn hx_2) (getI_lt hx_2)) fun _ f => ?_
    refine Y4 f hc_2 0 rfl fun _ f => ?_
    refine Y2 (v := .bool (!(decide (x_1 = x_2)))) f (fun _ pq => Y39 rfl (l := x_1) (m := x_2)) fun _ f => ?_
    refine Q_end rfl ?_
    intro w_2 p_2
    refine T_n ?_
    refine Y6 f (b := !(decide (x_1 = x_2))) (fun h_3 => ?_) fun h_3 => ?_
    ·have k_4 : ¬ (x_1 = x_2) := (not_iff dI).1 h_3
     have hF_7 := cnd_t h_3 hF_6
     refine R_seq (R_reg ?_)
     refine Y19 f 1 fun _ f => ?_
     refine W_end rfl (T_n (wp_ret (B_r (T_r (T_r ?_)))))
     obtain rfl := sI hF_7
     exact .inl ⟨rfl, (), (sI hn_1).symm, M_1, hM_1, f.keep (ks := [4]) (by kernel_rfl), p_2⟩
    ·have k_5 : ¬ (¬ (x_1 = x_2)) := iff_f (not_iff dI) h_3
     have hF_8 := cnd_f h_3 hF_6
     refine wp_skip (B_n (T_n (R_reg ?_)))
     obtain ⟨g_1, hF_9⟩ := nS hF_8
     refine Y19 f 1 fun _ f => ?_
     have f := Frm.set f 25 (v := .int .i64 (IntKind.wrap .i64 (s_1 + 1))) (v' := .int .i64 (s_1 + 1)) (by kernel_rfl) (congrArg (Value.int .i64) (inR_wrap g_1))
     refine Y19 f 1 fun _ f => ?_
     refine W_end rfl (T_n ?_)
     obtain rfl := sI hF_9
     exact ⟨⟨m_2, s_1 + 1⟩, Nat.lt_succ_self _, M_1, hM_1, hn_1, f.keep (ks := [0, 1, 12, 13]) (by kernel_rfl), p_2⟩
   ·have k_6 : ¬ (s_1 < ((d0.length : Nat) : Int)) := iff_f dI h_2
    have hF_10 := cnd_f h_2 hs_1
    refine wp_exit (T_x (T_x ?_))
    obtain rfl := sI hF_10
    exact .inr ⟨rfl, (), (sI hn_1).symm, M_1, hM_1, f.keep (ks := []) (by kernel_rfl), p_1⟩
  ·rintro _ _ w_5 (⟨rfl, y_1, rfl, M_2, hM_2, f, p_3⟩ | ⟨rfl, y_2, rfl, M_3, hM_3, f, p_4⟩)
   ·refine B_r (T_r ?_)
    refine E_ret1 f rfl (by kernel_rfl : Vc.look _ 4 = some (.bool false)) ?_
    obtain rfl := sI hF_3
    exact ⟨_, rfl, M_2, hM_2, p_3, rfl⟩
   ·refine B_x (T_n (R_seq (R_reg ?_)))
    refine Y19 f 1 fun _ f => ?_
    refine W_end rfl (T_n (wp_ret ?_))
    refine E_ret1 f rfl (by kernel_rfl : Vc.look _ 4 = some (.bool true)) ?_
    obtain rfl := sI hF_3
    exact ⟨_, rfl, M_3, hM_3, p_4, rfl⟩
def slices_EqualFuncapi_Value_api_Value_api_Value_api_Value_2_s1 (n : Nat) (rec_schema_alike : T_api_Value → T_api_Value → Option Bool) (d0 : List T_api_Value) (d1 : List T_api_Value) (s_1 : Int) : Option (Lp Int (Sum Unit Unit)) :=
    bif (decide (s_1 < ((d0.length : Nat) : Int))) then
      ((getI d0 s_1).bind fun x_1 =>
      (getI d1 s_1).bind fun x_2 =>
      (rec_schema_alike x_1 x_2).bind fun x_3 =>
      bif !x_3 then
        (some (.br (.inl ())))
      else
        need (inR .i64 (s_1 + 1)) <|
        some (.nx (s_1 + 1)))
    else
      some (.br (.inr ()))
def slices_EqualFuncapi_Value_api_Value_api_Value_api_Value_2 (n : Nat) (rec_schema_alike : T_api_Value → T_api_Value → Option Bool) (d0 : List T_api_Value) (d1 : List T_api_Value) : Option Bool :=
  bif (!(decide (((d0.length : Nat) : Int) = ((d1.length : Nat) : Int)))) then
    (some ((false)))
  else
    (loopF (slices_EqualFuncapi_Value_api_Value_api_Value_api_Value_2_s1 n rec_schema_alike d0 d1) n (0 : Int)).bind fun b_1 =>
    (match b_1 with 
    | .inl y_1 => some ((false)) 
    | .inr y_2 => some ((true)))
set_option maxHeartbeats 2000000 in
theorem slices_EqualFuncapi_Value_api_Value_api_Value_api_Value_2_ok (n : Nat) (rec_schema_alike : T_api_Value → T_api_Value → Option Bool) (hrec_schema_alike : ∀ (M : Mem) (hG : GL M) (c0 : List Value) (d0 : T_api_Value) (h0 : Rep M (emb_T_api_Value d0) c0) (c1 : List Value) (d1 : T_api_Value) (h1 : Rep M (emb_T_api_Value d1) c1) (r : Bool) (hF : rec_schema_alike d0 d1 = some r), Ok Tryz.prog M 61 [.agg c0.toArray, .agg c1.toArray] (fun _ v => v = .bool r)) (M : Mem) (hG : GL M) (A0 : Option Addr) (cap0 : Nat) (d0 : List T_api_Value) (h0 : Sli M 6 emb_T_api_Value A0 cap0 d0) (A1 : Option Addr) (cap1 : Nat) (d1 : List T_api_Value) (h1 : Sli M 6 emb_T_api_Value A1 cap1 d1) (r : Bool) (hF : slices_EqualFuncapi_Value_api_Value_api_Value_api_Value_2 n rec_schema_alike d0 d1 = some r) : Ok Tryz.prog M 89 [.slice A0 d0.length cap0, .slice A1 d1.length cap1, .func (.func 61) #[] #[]] (fun _ v => v = .bool r) := by
 unfold slices_EqualFuncapi_Value_api_Value_api_Value_api_Value_2 at hF
 intro M1 hM0 w0 H w p0
 replace hG := GL.mono hM0 hG
 replace h0 := h0.mono hM0
 replace h1 := h1.mono hM0
 refine R_enter 32 Tryz.func89 rfl rfl (by simp) fun a0 f0 => ?_
 refine R_seq (R_reg ?_)
 refine Y19 f0 1 fun _ f => ?_
 refine W_end rfl (T_n (R_seq (R_seq (R_reg ?_))))
 refine Y19 f 5 fun _ f => ?_
 refine W_end rfl (T_n ?_)
 refine Y6 f (b := !(decide (((d0.length : Nat) : Int) = ((d1.length : Nat) : Int)))) (fun h_1 => ?_) fun h_1 => ?_
 ·have k_1 : ¬ (((d0.length : Nat) : Int) = ((d1.length : Nat) : Int)) := (not_iff dI).1 h_1
  have hF_1 := cnd_t h_1 hF
  refine R_seq (R_reg ?_)
  refine Y19 f 1 fun _ f => ?_
  refine W_end rfl (T_n (wp_ret (T_r ?_)))
  refine E_ret1 f rfl (by kernel_rfl : Vc.look _ 6 = some (.bool false)) ?_
  obtain rfl := sI hF_1
  exact ⟨_, rfl, M1, (mR _), p0, rfl⟩
 ·have k_2 : ¬ (¬ (((d0.length : Nat) : Int) = ((d1.length : Nat) : Int))) := iff_f (not_iff dI) h_1
  have hF_2 := cnd_f h_1 hF
  refine wp_skip (T_n (R_seq (R_seq (R_reg ?_))))
  refine Y19 f 3 fun _ f => ?_
  refine W_end rfl (T_n (wp_block ?_))
  obtain ⟨b_1, hL_1, hF_3⟩ := bS hF_2
  refine wp_mono (Q := fun e a w => (e = .ret ∧ (∃ y_1 : Unit, b_1 = .inl y_1 ∧ ∃ M_2 : Mem, M1.le M_2 ∧ Frm 32 [(6, .bool false)] a ∧ Hp w0 M_2 (H) w)) ∨ (e = .exit 0 ∧ (∃ y_2 : Unit, b_1 = .inr y_2 ∧ ∃ M_3 : Mem, M1.le M_3 ∧ Frm 32 [] a ∧ Hp w0 M_3 (H) w))) (R_loop (n := 32) (w0 := w0) (M := M1) (fun (x : Nat × Int) => match x with | (m_1, s_1) => [(1, .slice A1 d1.length cap1), (2, .func (.func 61) #[] #[]), (15, .slice A0 d0.length cap0), (16, .int .i64 ((d0.length : Nat) : Int)), (17, .int .i64 s_1)]) (fun (x : Nat × Int) => match x with | (m_1, s_1) => (H)) (fun (x : Nat × Int) (MM : Mem) => match x with | (m_1, s_1) => loopF (slices_EqualFuncapi_Value_api_Value_api_Value_api_Value_2_s1 n rec_schema_alike d0 d1) m_1 s_1 = some b_1) (fun (x : Nat × Int) => match x with | (m_1, s_1) => m_1) (n, (0 : Int)) (f.keep (ks := [1, 2, 15, 16, 17]) (by kernel_rfl)) p0 hL_1 ?_) ?_
  ·rintro ⟨m_1, s_1⟩ M_1 _ w_1 hM_1 I_1 f p_1
   have I_1L := I_1
   obtain ⟨m_2, r_1, rfl, hs_1, hn_1⟩ := loop_step I_1L
   unfold slices_EqualFuncapi_Value_api_Value_api_Value_api_Value_2_s1 at hs_1
   refine R_seq (R_reg ?_)
   refine Y19 f 1 fun _ f => ?_
   refine W_end rfl (T_n (R_seq ?_))
   refine Y6 f (b := decide (s_1 < ((d0.length : Nat) : Int))) (fun h_2 => ?_) fun h_2 => ?_
   ·have k_3 : s_1 < ((d0.length : Nat) : Int) := dI.1 h_2
    have hF_4 := cnd_t h_2 hs_1
    refine wp_skip (T_n (R_seq (wp_block (R_seq (R_reg ?_)))))
    refine Y19 f 1 fun _ f => ?_
    obtain ⟨x_1, hx_1, hF_5⟩ := bS hF_4
    obtain ⟨ad_1, c_1, e_1, hl_1, hr_1, hc_1⟩ := Sli.at_ (h0.mono hM_1) hx_1
    clear hl_1
    obtain ⟨A_1, cap_1, A_2, cap_2, rfl, h_3, h_4⟩ := T_api_Value.opn hr_1
    refine Y14 (v := .pointer (some (ad_1.add (s_1.toNat * 6)))) f (Y31 e_1 rfl (len := d0.length) (cap := cap0) (k := .i64) (i := s_1) (e := 76) (sz := 6) (getI_nn hx_1) (getI_lt hx_1)) fun _ f => ?_
    refine Y14 (v := .agg #[.int .i8 x_1.fKind, .bool x_1.fBool, .int .i64 x_1.fNum, S x_1.fText, .slice A_1 x_1.fList.length cap_1, .slice A_2 x_1.fKeys.length cap_2]) f (Y33 (cs := [.int .i8 x_1.fKind, .bool x_1.fBool, .int .i64 x_1.fNum, S x_1.fText, .slice A_1 x_1.fList.length cap_1, .slice A_2 x_1.fKeys.length cap_2]) rfl (ad := ad_1.add (s_1.toNat * 6)) (fun j v h => p_1.cell (hc_1 j v h))) fun _ f => ?_
    refine Y12 f p_1 (.cells #[.int .i8 0, .bool false, .int .i64 0, S [], .slice none 0 0, .slice none 0 0] 76 (0, 0)) fun b_2 w_2 p_2 _ f => ?_
    refine Y19 f 1 fun _ f => ?_
    refine Y27 (vs := [.int .i8 x_1.fKind, .bool x_1.fBool, .int .i64 x_1.fNum, S x_1.fText, .slice A_1 x_1.fList.length cap_1, .slice A_2 x_1.fKeys.length cap_2]) (j := 0) f p_2 rfl rfl (by simp [Value.oneCell', S]) (by simp) (by decide) (cs' := #[.int .i8 x_1.fKind, .bool x_1.fBool, .int .i64 x_1.fNum, S x_1.fText, .slice A_1 x_1.fList.length cap_1, .slice A_2 x_1.fKeys.length cap_2]) fun w_3 p_3 _ f => ?_
    refine W_end rfl (T_n (R_seq (R_reg ?_)))
    refine Y19 f 2 fun _ f => ?_
    obtain ⟨x_2, hx_2, hF_6⟩ := bS hF_5
    obtain ⟨ad_2, c_2, e_2, hl_2, hr_2, hc_2⟩ := Sli.at_ (h1.mono hM_1) hx_2
    clear hl_2
    obtain ⟨A_3, cap_3, A_4, cap_4, rfl, h_5, h_6⟩ := T_api_Value.opn hr_2
    refine Y14 (v := .pointer (some (ad_2.add (s_1.toNat * 6)))) f (Y31 e_2 rfl (len := d1.length) (cap := cap1) (k := .i64) (i := s_1) (e := 76) (sz := 6) (getI_nn hx_2) (getI_lt hx_2)) fun _ f => ?_
    refine Y14 (v := .agg #[.int .i8 x_2.fKind, .bool x_2.fBool, .int .i64 x_2.fNum, S x_2.fText, .slice A_3 x_2.fList.length cap_3, .slice A_4 x_2.fKeys.length cap_4]) f (Y33 (cs := [.int .i8 x_2.fKind, .bool x_2.fBool, .int .i64 x_2.fNum, S x_2.fText, .slice A_3 x_2.fList.length cap_3, .slice A_4 x_2.fKeys.length cap_4]) rfl (ad := ad_2.add (s_1.toNat * 6)) (fun j v h => p_3.cell (hc_2 j v h))) fun _ f => ?_
    refine Y12 f p_3 (.cells #[.int .i8 0, .bool false, .int .i64 0, S [], .slice none 0 0, .slice none 0 0] 76 (0, 0)) fun b_3 w_4 p_4 _ f => ?_
    refine Y27 (vs := [.int .i8 x_2.fKind, .bool x_2.fBool, .int .i64 x_2.fNum, S x_2.fText, .slice A_3 x_2.fList.length cap_3, .slice A_4 x_2.fKeys.length cap_4]) (j := 0) f p_4 rfl rfl (by simp [Value.oneCell', S]) (by simp) (by decide) (cs' := #[.int .i8 x_2.fKind, .bool x_2.fBool, .int .i64 x_2.fNum, S x_2.fText, .slice A_3 x_2.fList.length cap_3, .slice A_4 x_2.fKeys.length cap_4]) fun w_5 p_5 _ f => ?_
    refine W_end rfl (T_n (R_seq (R_reg ?_)))
    refine Y19 f 1 fun _ f => ?_
    refine Y14 (v := .agg #[.int .i8 x_1.fKind, .bool x_1.fBool, .int .i64 x_1.fNum, S x_1.fText, .slice A_1 x_1.fList.length cap_1, .slice A_2 x_1.fKeys.length cap_2]) f (Y33 (cs := [.int .i8 x_1.fKind, .bool x_1.fBool, .int .i64 x_1.fNum, S x_1.fText, .slice A_1 x_1.fList.length cap_1, .slice A_2 x_1.fKeys.length cap_2]) rfl (ad := ⟨b_2, 0, none⟩) (own_cells (p_5.ownCell 1 rfl) 0 rfl)) fun _ f => ?_
    refine Y14 (v := .agg #[.int .i8 x_2.fKind, .bool x_2.fBool, .int .i64 x_2.fNum, S x_2.fText, .slice A_3 x_2.fList.length cap_3, .slice A_4 x_2.fKeys.length cap_4]) f (Y33 (cs := [.int .i8 x_2.fKind, .bool x_2.fBool, .int .i64 x_2.fNum, S x_2.fText, .slice A_3 x_2.fList.length cap_3, .slice A_4 x_2.fKeys.length cap_4]) rfl (ad := ⟨b_3, 0, none⟩) (own_cells (p_5.ownCell 0 rfl) 0 rfl)) fun _ f => ?_
    obtain ⟨x_3, hx_3, hF_7⟩ := bS hF_6
    refine Y18 f p_5 (hrec_schema_alike _ (GL.mono hM_1 hG) _ x_1 (T_api_Value.shutx (x := x_1) h_3 h_4) _ x_2 (T_api_Value.shutx (x := x_2) h_5 h_6) x_3 hx_3) fun w_6 p_6 _ f => ?_
    refine Y19 f 1 fun _ f => ?_
    refine W_end rfl (T_n ?_)
    refine Y6 f (b := !x_3) (fun h_7 => ?_) fun h_7 => ?_
    ·have k_4 : (x_3) = false := by simpa using h_7
     have hF_8 := cnd_t h_7 hF_7
     refine R_seq (R_reg ?_)
     refine Y19 f 1 fun _ f => ?_
     refine W_end rfl (T_n (wp_ret (B_r (T_r (T_r ?_)))))
     obtain rfl := sI hF_8
     exact .inl ⟨rfl, (), (sI hn_1).symm, M_1, hM_1, f.keep (ks := [6]) (by kernel_rfl), (p_6.dropN 2)⟩
    ·have k_5 : (x_3) = true := by simpa using h_7
     have hF_9 := cnd_f h_7 hF_7
     refine wp_skip (B_n (T_n (R_reg ?_)))
     obtain ⟨g_1, hF_10⟩ := nS hF_9
     refine Y19 f 1 fun _ f => ?_
     have f := Frm.set f 31 (v := .int .i64 (IntKind.wrap .i64 (s_1 + 1))) (v' := .int .i64 (s_1 + 1)) (by kernel_rfl) (congrArg (Value.int .i64) (inR_wrap g_1))
     refine Y19 f 1 fun _ f => ?_
     refine W_end rfl (T_n ?_)
     obtain rfl := sI hF_10
     exact ⟨⟨m_2, s_1 + 1⟩, Nat.lt_succ_self _, M_1, hM_1, hn_1, f.keep (ks := [1, 2, 15, 16, 17]) (by kernel_rfl), (p_6.dropN 2)⟩
   ·have k_6 : ¬ (s_1 < ((d0.length : Nat) : Int)) := iff_f dI h_2
    have hF_11 := cnd_f h_2 hs_1
    refine wp_exit (T_x (T_x ?_))
    obtain rfl := sI hF_11
    exact .inr ⟨rfl, (), (sI hn_1).symm, M_1, hM_1, f.keep (ks := []) (by kernel_rfl), p_1⟩
  ·rintro _ _ w_9 (⟨rfl, y_1, rfl, M_2, hM_2, f, p_7⟩ | ⟨rfl, y_2, rfl, M_3, hM_3, f, p_8⟩)
   ·refine B_r (T_r ?_)
    refine E_ret1 f rfl (by kernel_rfl : Vc.look _ 6 = some (.bool false)) ?_
    obtain rfl := sI hF_3
    exact ⟨_, rfl, M_2, hM_2, p_7, rfl⟩
   ·refine B_x (T_n (R_seq (R_reg ?_)))
    refine Y19 f 1 fun _ f => ?_
    refine W_end rfl (T_n (wp_ret ?_))
    refine E_ret1 f rfl (by kernel_rfl : Vc.look _ 6 = some (.bool true)) ?_
    obtain rfl := sI hF_3
    exact ⟨_, rfl, M_3, hM_3, p_8, rfl⟩
def schema_alike_b (n : Nat) (rec_schema_alike : T_api_Value → T_api_Value → Option Bool) (d0 : T_api_Value) (d1 : T_api_Value) : Option Bool :=
  ((bif (decide (d0.fKind = d1.fKind)) then
      (bif (d0.fBool == d1.fBool) then
        (bif (decide (d0.fNum = d1.fNum)) then
          (some ((decide (d0.fText = d1.fText))))
        else
          some ((false)))
      else
        some ((false)))
    else
      some ((false)) : Option Bool)).bind fun y_1 =>
  bif y_1 then
    ((slices_Equalstring_string n d0.fKeys d1.fKeys).bind fun x_1 =>
    bif x_1 then
      ((slices_EqualFuncapi_Value_api_Value_api_Value_api_Value_2 n rec_schema_alike d0.fList d1.fList).bind fun x_2 =>
      some ((x_2)))
    else
      some ((false)))
  else
    some ((false))
set_option maxHeartbeats 2000000 in
theorem schema_alike_b_ok (n : Nat) (rec_schema_alike : T_api_Value → T_api_Value → Option Bool) (hrec_schema_alike : ∀ (M : Mem) (hG : GL M) (c0 : List Value) (d0 : T_api_Value) (h0 : Rep M (emb_T_api_Value d0) c0) (c1 : List Value) (d1 : T_api_Value) (h1 : Rep M (emb_T_api_Value d1) c1) (r : Bool) (hF : rec_schema_alike d0 d1 = some r), Ok Tryz.prog M 61 [.agg c0.toArray, .agg c1.toArray] (fun _ v => v = .bool r)) (M : Mem) (hG : GL M) (c0 : List Value) (d0 : T_api_Value) (h0 : Rep M (emb_T_api_Value d0) c0) (c1 : List Value) (d1 : T_api_Value) (h1 : Rep M (emb_T_api_Value d1) c1) (r : Bool) (hF : schema_alike_b n rec_schema_alike d0 d1 = some r) : Ok Tryz.prog M 61 [.agg c0.toArray, .agg c1.toArray] (fun _ v => v = .bool r) := by
 unfold schema_alike_b at hF
 intro M1 hM0 w0 H w p0
 replace hG := GL.mono hM0 hG
 replace h0 := Rep.mono hM0 _ _ h0
 replace h1 := Rep.mono hM0 _ _ h1
 obtain ⟨A_1, cap_1, A_2, cap_2, rfl, h_1, h_2⟩ := T_api_Value.opn h0
 obtain ⟨A_3, cap_3, A_4, cap_4, rfl, h_3, h_4⟩ := T_api_Value.opn h1
 refine R_enter 47 Tryz.func61 rfl rfl (by simp) fun a0 f0 => ?_
 refine R_seq (R_reg ?_)
 refine Y13 (cs := #[.int .i8 d0.fKind, .bool d0.fBool, .int .i64 d0.fNum, S d0.fText, .slice A_1 d0.fList.length cap_1, .slice A_2 d0.fKeys.length cap_2]) (T := 76) f0 p0 fun b_1 M_1 w_1 hM_1 hc_1 p_1 _ f => ?_
 have hc_2 := fz_box hc_1
 refine Y13 (cs := #[.int .i8 d1.fKind, .bool d1.fBool, .int .i64 d1.fNum, S d1.fText, .slice A_3 d1.fList.length cap_3, .slice A_4 d1.fKeys.length cap_4]) (T := 76) f p_1 fun b_2 M_2 w_2 hM_2 hc_3 p_2 _ f => ?_
 have hc_4 := fz_box hc_3
 refine Y19 f 1 fun _ f => ?_
 refine W_end rfl (T_n (R_seq ?_))
 obtain ⟨j_1, hj_1, hF_1⟩ := bS hF
 refine R_mid (fun a_28 w_3 => ∃ y_1 : Bool, j_1 = y_1 ∧ ∃ M_3 : Mem, M_2.le M_3 ∧ Frm 47 [(2, .pointer (some (⟨b_1, 0, none⟩))), (3, .pointer (some (⟨b_2, 0, none⟩))), (5, .bool y_1)] a_28 ∧ Hp w0 M_3 (H) w_3) ?_ ?_
 ·refine R_reg ?_
  refine Y19 f 1 fun _ f => ?_
  refine Y15 f p_2 (fzu hM_2 hc_2) 0 rfl fun _ f => ?_
  refine Y19 f 1 fun _ f => ?_
  refine Y15 f p_2 hc_4 0 rfl fun _ f => ?_
  refine Y19 f 2 fun _ f => ?_
  rcases bE (decide (d0.fKind = d1.fKind)) with h_5 | h_5
  ·have k_1 : d0.fKind = d1.fKind := dI.1 h_5
   have hF_2 := cnd_t h_5 hj_1
   have f := Frm.set f 11 (v := .bool (decide (d0.fKind = d1.fKind))) (v' := .bool true) (by kernel_rfl) (cB h_5)
   refine Y19 f 1 fun _ f => ?_
   refine Y15 f p_2 (fzu hM_2 hc_2) 1 rfl fun _ f => ?_
   refine Y19 f 1 fun _ f => ?_
   refine Y15 f p_2 hc_4 1 rfl fun _ f => ?_
   refine Y19 f 3 fun _ f => ?_
   rcases bE (d0.fBool == d1.fBool) with h_6 | h_6
   ·have hF_3 := cnd_t h_6 hF_2
    have f := Frm.set f 18 (v := .bool (d0.fBool == d1.fBool)) (v' := .bool true) (by kernel_rfl) (cB h_6)
    refine Y19 f 1 fun _ f => ?_
    refine Y15 f p_2 (fzu hM_2 hc_2) 2 rfl fun _ f => ?_
    refine Y19 f 1 fun _ f => ?_
    refine Y15 f p_2 hc_4 2 rfl fun _ f => ?_
    refine Y19 f 3 fun _ f => ?_
    rcases bE (decide (d0.fNum = d1.fNum)) with h_7 | h_7
    ·have k_3 : d0.fNum = d1.fNum := dI.1 h_7
     have hF_4 := cnd_t h_7 hF_3
     have f := Frm.set f 25 (v := .bool (decide (d0.fNum = d1.fNum))) (v' := .bool true) (by kernel_rfl) (cB h_7)
     refine Y19 f 1 fun _ f => ?_
     refine Y15 f p_2 (fzu hM_2 hc_2) 3 rfl fun _ f => ?_
     refine Y19 f 1 fun _ f => ?_
     refine Y15 f p_2 hc_4 3 rfl fun _ f => ?_
     refine Y14 (v := .bool (decide (d0.fText = d1.fText))) f (Y38 rfl (l := d0.fText) (m := d1.fText)) fun _ f => ?_
     refine Y19 f 2 fun _ f => ?_
     refine W_end rfl (T_n ?_)
     exact ⟨(decide (d0.fText = d1.fText)), (sI hF_4).symm, M_2, (mR _), f.keep (ks := [2, 3, 5]) (by kernel_rfl), p_2⟩
    ·have k_4 : ¬ (d0.fNum = d1.fNum) := iff_f dI h_7
     have hF_5 := cnd_f h_7 hF_3
     have f := Frm.set f 25 (v := .bool (decide (d0.fNum = d1.fNum))) (v' := .bool false) (by kernel_rfl) (cB h_7)
     refine Y19 f 7 fun _ f => ?_
     refine W_end rfl (T_n ?_)
     exact ⟨(false), (sI hF_5).symm, M_2, (mR _), f.keep (ks := [2, 3, 5]) (by kernel_rfl), p_2⟩
   ·have hF_6 := cnd_f h_6 hF_2
    have f := Frm.set f 18 (v := .bool (d0.fBool == d1.fBool)) (v' := .bool false) (by kernel_rfl) (cB h_6)
    refine Y19 f 14 fun _ f => ?_
    refine W_end rfl (T_n ?_)
    exact ⟨(false), (sI hF_6).symm, M_2, (mR _), f.keep (ks := [2, 3, 5]) (by kernel_rfl), p_2⟩
  ·have k_6 : ¬ (d0.fKind = d1.fKind) := iff_f dI h_5
   have hF_7 := cnd_f h_5 hj_1
   have f := Frm.set f 11 (v := .bool (decide (d0.fKind = d1.fKind))) (v' := .bool false) (by kernel_rfl) (cB h_5)
   refine Y19 f 21 fun _ f => ?_
   refine W_end rfl (T_n ?_)
   exact ⟨(false), (sI hF_7).symm, M_2, (mR _), f.keep (ks := [2, 3, 5]) (by kernel_rfl), p_2⟩
 ·rintro a_28 w_3 ⟨y_1, hq_1, M_3, hM_3, f, p_3⟩
  subst j_1
  refine T_n (R_seq (R_reg ?_))
  refine Y19 f 2 fun _ f => ?_
  rcases bE (y_1) with h_8 | h_8
  ·have hF_8 := cnd_t h_8 hF_1
   have f := Frm.set f 33 (v := .bool y_1) (v' := .bool true) (by kernel_rfl) (cB h_8)
   refine Y19 f 1 fun _ f => ?_
   refine Y15 f p_3 (fzu (hM_2.trans hM_3) hc_2) 5 rfl fun _ f => ?_
   refine Y19 f 1 fun _ f => ?_
   refine Y15 f p_3 (fzu hM_3 hc_4) 5 rfl fun _ f => ?_
   obtain ⟨x_1, hx_1, hF_9⟩ := bS hF_8
   refine Y18 f p_3 (slices_Equalstring_string_ok n _ (GL.mono ((hM_1.trans hM_2).trans hM_3) hG) A_2 cap_2 d0.fKeys (h_2.mono ((hM_1.trans hM_2).trans hM_3)) A_4 cap_4 d1.fKeys (h_4.mono ((hM_1.trans hM_2).trans hM_3)) x_1 hx_1) fun w_4 p_4 _ f => ?_
   refine Y19 f 2 fun _ f => ?_
   rcases bE (x_1) with h_9 | h_9
   ·have hF_10 := cnd_t h_9 hF_9
    have f := Frm.set f 40 (v := .bool x_1) (v' := .bool true) (by kernel_rfl) (cB h_9)
    refine Y19 f 1 fun _ f => ?_
    refine Y15 f p_4 (fzu (hM_2.trans hM_3) hc_2) 4 rfl fun _ f => ?_
    refine Y19 f 1 fun _ f => ?_
    refine Y15 f p_4 (fzu hM_3 hc_4) 4 rfl fun _ f => ?_
    obtain ⟨x_2, hx_2, hF_11⟩ := bS hF_10
    refine Y18 f p_4 (slices_EqualFuncapi_Value_api_Value_api_Value_api_Value_2_ok n rec_schema_alike hrec_schema_alike _ (GL.mono ((hM_1.trans hM_2).trans hM_3) hG) A_1 cap_1 d0.fList (h_1.mono ((hM_1.trans hM_2).trans hM_3)) A_3 cap_3 d1.fList (h_3.mono ((hM_1.trans hM_2).trans hM_3)) x_2 hx_2) fun w_5 p_5 _ f => ?_
    refine Y19 f 2 fun _ f => ?_
    refine W_end rfl (T_n (wp_ret ?_))
    refine E_ret1 f rfl (by kernel_rfl : Vc.look _ 4 = some (.bool x_2)) ?_
    obtain rfl := sI hF_11
    exact ⟨_, rfl, M_3, ((hM_1.trans hM_2).trans hM_3), p_5, rfl⟩
   ·have hF_12 := cnd_f h_9 hF_9
    have f := Frm.set f 40 (v := .bool x_1) (v' := .bool false) (by kernel_rfl) (cB h_9)
    refine Y19 f 7 fun _ f => ?_
    refine W_end rfl (T_n (wp_ret ?_))
    refine E_ret1 f rfl (by kernel_rfl : Vc.look _ 4 = some (.bool false)) ?_
    obtain rfl := sI hF_12
    exact ⟨_, rfl, M_3, ((hM_1.trans hM_2).trans hM_3), p_4, rfl⟩
  ·have hF_13 := cnd_f h_8 hF_1
   have f := Frm.set f 33 (v := .bool y_1) (v' := .bool false) (by kernel_rfl) (cB h_8)
   refine Y19 f 14 fun _ f => ?_
   refine W_end rfl (T_n (wp_ret ?_))
   refine E_ret1 f rfl (by kernel_rfl : Vc.look _ 4 = some (.bool false)) ?_
   obtain rfl := sI hF_13
   exact ⟨_, rfl, M_3, ((hM_1.trans hM_2).trans hM_3), p_3, rfl⟩
def schema_alike_k (n : Nat) : Nat → T_api_Value → T_api_Value → Option Bool
  | 0 => fun _ _ => none
  | k + 1 => schema_alike_b n (schema_alike_k n k)
def schema_alike (n : Nat) (d0 : T_api_Value) (d1 : T_api_Value) : Option Bool := schema_alike_k n n d0 d1
theorem schema_alike_ok (n : Nat) (M : Mem) (hG : GL M) (c0 : List Value) (d0 : T_api_Value) (h0 : Rep M (emb_T_api_Value d0) c0) (c1 : List Value) (d1 : T_api_Value) (h1 : Rep M (emb_T_api_Value d1) c1) (r : Bool) (hF : schema_alike n d0 d1 = some r) : Ok Tryz.prog M 61 [.agg c0.toArray, .agg c1.toArray] (fun _ v => v = .bool r) := by
 have key : ∀ (k : Nat) (M : Mem) (hG : GL M) (c0 : List Value) (d0 : T_api_Value) (h0 : Rep M (emb_T_api_Value d0) c0) (c1 : List Value) (d1 : T_api_Value) (h1 : Rep M (emb_T_api_Value d1) c1) (r : Bool) (hF : schema_alike_k n k d0 d1 = some r), Ok Tryz.prog M 61 [.agg c0.toArray, .agg c1.toArray] (fun _ v => v = .bool r) := by
  intro k
  induction k with
  | zero => intro M hG c0 d0 h0 c1 d1 h1 r hF; simp [schema_alike_k] at hF
  | succ k ih => intro M hG c0 d0 h0 c1 d1 h1 r hF; exact schema_alike_b_ok n (schema_alike_k n k) ih M hG c0 d0 h0 c1 d1 h1 r hF
 exact key n M hG c0 d0 h0 c1 d1 h1 r hF
def schema_Same_1 (n : Nat) (d0 : T_api_Given) (d1 : T_api_Given) : Option Bool :=
  bif (decide (d0.fName = d1.fName)) then
    (bif (d0.fUnknown == d1.fUnknown) then
      ((tree_Equal n (⟨d0.fV.fKind, (d0.fV.fBool), d0.fV.fNum, d0.fV.fText, d0.fV.fList, d0.fV.fKeys⟩ : T_api_Value) (⟨d1.fV.fKind, (d1.fV.fBool), d1.fV.fNum, d1.fV.fText, d1.fV.fList, d1.fV.fKeys⟩ : T_api_Value)).bind fun x_1 =>
      bif x_1 then
        (some ((true)))
      else
        (schema_alike n (⟨d0.fV.fKind, (d0.fV.fBool), d0.fV.fNum, d0.fV.fText, d0.fV.fList, d0.fV.fKeys⟩ : T_api_Value) (⟨d1.fV.fKind, (d1.fV.fBool), d1.fV.fNum, d1.fV.fText, d1.fV.fList, d1.fV.fKeys⟩ : T_api_Value)).bind fun x_2 =>
        some ((x_2)))
    else
      some ((false)))
  else
    some ((false))
set_option maxHeartbeats 2000000 in
theorem schema_Same_1_ok (n : Nat) (M : Mem) (hG : GL M) (c0 : List Value) (d0 : T_api_Given) (h0 : Rep M (emb_T_api_Given d0) c0) (c1 : List Value) (d1 : T_api_Given) (h1 : Rep M (emb_T_api_Given d1) c1) (r : Bool) (hF : schema_Same_1 n d0 d1 = some r) : Ok Tryz.prog M 59 [.agg c0.toArray, .agg c1.toArray] (fun _ v => v = .bool r) := by
 unfold schema_Same_1 at hF
 intro M1 hM0 w0 H w p0
 replace hG := GL.mono hM0 hG
 replace h0 := Rep.mono hM0 _ _ h0
 replace h1 := Rep.mono hM0 _ _ h1
 obtain ⟨A_1, cap_1, A_2, cap_2, rfl, h_1, h_2⟩ := T_api_Given.opn h0
 obtain ⟨A_3, cap_3, A_4, cap_4, rfl, h_3, h_4⟩ := T_api_Given.opn h1
 refine R_enter 31 Tryz.func59 rfl rfl (by simp) fun a0 f0 => ?_
 refine R_seq (R_reg ?_)
 refine Y13 (cs := #[S d0.fName, .bool d0.fUnknown, .int .i8 d0.fV.fKind, .bool d0.fV.fBool, .int .i64 d0.fV.fNum, S d0.fV.fText, .slice A_1 d0.fV.fList.length cap_1, .slice A_2 d0.fV.fKeys.length cap_2]) (T := 78) f0 p0 fun b_1 M_1 w_1 hM_1 hc_1 p_1 _ f => ?_
 have hc_2 := fz_box hc_1
 refine Y13 (cs := #[S d1.fName, .bool d1.fUnknown, .int .i8 d1.fV.fKind, .bool d1.fV.fBool, .int .i64 d1.fV.fNum, S d1.fV.fText, .slice A_3 d1.fV.fList.length cap_3, .slice A_4 d1.fV.fKeys.length cap_4]) (T := 78) f p_1 fun b_2 M_2 w_2 hM_2 hc_3 p_2 _ f => ?_
 have hc_4 := fz_box hc_3
 refine Y19 f 1 fun _ f => ?_
 refine W_end rfl (T_n (R_seq (R_reg ?_)))
 refine Y19 f 1 fun _ f => ?_
 refine Y15 f p_2 (fzu hM_2 hc_2) 0 rfl fun _ f => ?_
 refine Y19 f 1 fun _ f => ?_
 refine Y15 f p_2 hc_4 0 rfl fun _ f => ?_
 refine Y14 (v := .bool (decide (d0.fName = d1.fName))) f (Y38 rfl (l := d0.fName) (m := d1.fName)) fun _ f => ?_
 refine Y19 f 1 fun _ f => ?_
 rcases bE (decide (d0.fName = d1.fName)) with h_5 | h_5
 ·have k_1 : d0.fName = d1.fName := dI.1 h_5
  have hF_1 := cnd_t h_5 hF
  have f := Frm.set f 10 (v := .bool (decide (d0.fName = d1.fName))) (v' := .bool true) (by kernel_rfl) (cB h_5)
  refine Y19 f 1 fun _ f => ?_
  refine Y15 f p_2 (fzu hM_2 hc_2) 1 rfl fun _ f => ?_
  refine Y19 f 1 fun _ f => ?_
  refine Y15 f p_2 hc_4 1 rfl fun _ f => ?_
  refine Y19 f 3 fun _ f => ?_
  rcases bE (d0.fUnknown == d1.fUnknown) with h_6 | h_6
  ·have hF_2 := cnd_t h_6 hF_1
   have f := Frm.set f 17 (v := .bool (d0.fUnknown == d1.fUnknown)) (v' := .bool true) (by kernel_rfl) (cB h_6)
   refine Y19 f 1 fun _ f => ?_
   refine Y14 (v := .agg #[.int .i8 d0.fV.fKind, .bool d0.fV.fBool, .int .i64 d0.fV.fNum, S d0.fV.fText, .slice A_1 d0.fV.fList.length cap_1, .slice A_2 d0.fV.fKeys.length cap_2]) f (Y33 (cs := [.int .i8 d0.fV.fKind, .bool d0.fV.fBool, .int .i64 d0.fV.fNum, S d0.fV.fText, .slice A_1 d0.fV.fList.length cap_1, .slice A_2 d0.fV.fKeys.length cap_2]) rfl (ad := (⟨b_1, 0, none⟩ : Addr).add 2) (fz_part (base := (⟨b_1, 0, none⟩ : Addr)) (fun j v h => p_2.cell ((fzu hM_2 hc_2) j v h)) 2 rfl)) fun _ f => ?_
   refine Y19 f 1 fun _ f => ?_
   refine Y14 (v := .agg #[.int .i8 d1.fV.fKind, .bool d1.fV.fBool, .int .i64 d1.fV.fNum, S d1.fV.fText, .slice A_3 d1.fV.fList.length cap_3, .slice A_4 d1.fV.fKeys.length cap_4]) f (Y33 (cs := [.int .i8 d1.fV.fKind, .bool d1.fV.fBool, .int .i64 d1.fV.fNum, S d1.fV.fText, .slice A_3 d1.fV.fList.length cap_3, .slice A_4 d1.fV.fKeys.length cap_4]) rfl (ad := (⟨b_2, 0, none⟩ : Addr).add 2) (fz_part (base := (⟨b_2, 0, none⟩ : Addr)) (fun j v h => p_2.cell (hc_4 j v h)) 2 rfl)) fun _ f => ?_
   obtain ⟨x_1, hx_1, hF_3⟩ := bS hF_2
   refine Y18 f p_2 (tree_Equal_ok n _ (GL.mono (hM_1.trans hM_2) hG) _ (⟨d0.fV.fKind, (d0.fV.fBool), d0.fV.fNum, d0.fV.fText, d0.fV.fList, d0.fV.fKeys⟩ : T_api_Value) (T_api_Value.shut (h_1.mono (hM_1.trans hM_2)) (h_2.mono (hM_1.trans hM_2))) _ (⟨d1.fV.fKind, (d1.fV.fBool), d1.fV.fNum, d1.fV.fText, d1.fV.fList, d1.fV.fKeys⟩ : T_api_Value) (T_api_Value.shut (h_3.mono (hM_1.trans hM_2)) (h_4.mono (hM_1.trans hM_2))) x_1 hx_1) fun w_3 p_3 _ f => ?_
   refine Y19 f 1 fun _ f => ?_
   rcases bE (x_1) with h_7 | h_7
   ·have hF_4 := cnd_t h_7 hF_3
    have f := Frm.set f 23 (v := .bool x_1) (v' := .bool true) (by kernel_rfl) (cB h_7)
    refine Y19 f 8 fun _ f => ?_
    refine W_end rfl (T_n (wp_ret ?_))
    refine E_ret1 f rfl (by kernel_rfl : Vc.look _ 4 = some (.bool true)) ?_
    obtain rfl := sI hF_4
    exact ⟨_, rfl, M_2, (hM_1.trans hM_2), p_3, rfl⟩
   ·have hF_5 := cnd_f h_7 hF_3
    have f := Frm.set f 23 (v := .bool x_1) (v' := .bool false) (by kernel_rfl) (cB h_7)
    refine Y19 f 1 fun _ f => ?_
    refine Y14 (v := .agg #[.int .i8 d0.fV.fKind, .bool d0.fV.fBool, .int .i64 d0.fV.fNum, S d0.fV.fText, .slice A_1 d0.fV.fList.length cap_1, .slice A_2 d0.fV.fKeys.length cap_2]) f (Y33 (cs := [.int .i8 d0.fV.fKind, .bool d0.fV.fBool, .int .i64 d0.fV.fNum, S d0.fV.fText, .slice A_1 d0.fV.fList.length cap_1, .slice A_2 d0.fV.fKeys.length cap_2]) rfl (ad := (⟨b_1, 0, none⟩ : Addr).add 2) (fz_part (base := (⟨b_1, 0, none⟩ : Addr)) (fun j v h => p_3.cell ((fzu hM_2 hc_2) j v h)) 2 rfl)) fun _ f => ?_
    refine Y19 f 1 fun _ f => ?_
    refine Y14 (v := .agg #[.int .i8 d1.fV.fKind, .bool d1.fV.fBool, .int .i64 d1.fV.fNum, S d1.fV.fText, .slice A_3 d1.fV.fList.length cap_3, .slice A_4 d1.fV.fKeys.length cap_4]) f (Y33 (cs := [.int .i8 d1.fV.fKind, .bool d1.fV.fBool, .int .i64 d1.fV.fNum, S d1.fV.fText, .slice A_3 d1.fV.fList.length cap_3, .slice A_4 d1.fV.fKeys.length cap_4]) rfl (ad := (⟨b_2, 0, none⟩ : Addr).add 2) (fz_part (base := (⟨b_2, 0, none⟩ : Addr)) (fun j v h => p_3.cell (hc_4 j v h)) 2 rfl)) fun _ f => ?_
    obtain ⟨x_2, hx_2, hF_6⟩ := bS hF_5
    refine Y18 f p_3 (schema_alike_ok n _ (GL.mono (hM_1.trans hM_2) hG) _ (⟨d0.fV.fKind, (d0.fV.fBool), d0.fV.fNum, d0.fV.fText, d0.fV.fList, d0.fV.fKeys⟩ : T_api_Value) (T_api_Value.shut (h_1.mono (hM_1.trans hM_2)) (h_2.mono (hM_1.trans hM_2))) _ (⟨d1.fV.fKind, (d1.fV.fBool), d1.fV.fNum, d1.fV.fText, d1.fV.fList, d1.fV.fKeys⟩ : T_api_Value) (T_api_Value.shut (h_3.mono (hM_1.trans hM_2)) (h_4.mono (hM_1.trans hM_2))) x_2 hx_2) fun w_4 p_4 _ f => ?_
    refine Y19 f 3 fun _ f => ?_
    refine W_end rfl (T_n (wp_ret ?_))
    refine E_ret1 f rfl (by kernel_rfl : Vc.look _ 4 = some (.bool x_2)) ?_
    obtain rfl := sI hF_6
    exact ⟨_, rfl, M_2, (hM_1.trans hM_2), p_4, rfl⟩
  ·have hF_7 := cnd_f h_6 hF_1
   have f := Frm.set f 17 (v := .bool (d0.fUnknown == d1.fUnknown)) (v' := .bool false) (by kernel_rfl) (cB h_6)
   refine Y19 f 14 fun _ f => ?_
   refine W_end rfl (T_n (wp_ret ?_))
   refine E_ret1 f rfl (by kernel_rfl : Vc.look _ 4 = some (.bool false)) ?_
   obtain rfl := sI hF_7
   exact ⟨_, rfl, M_2, (hM_1.trans hM_2), p_2, rfl⟩
 ·have k_6 : ¬ (d0.fName = d1.fName) := iff_f dI h_5
  have hF_8 := cnd_f h_5 hF
  have f := Frm.set f 10 (v := .bool (decide (d0.fName = d1.fName))) (v' := .bool false) (by kernel_rfl) (cB h_5)
  refine Y19 f 21 fun _ f => ?_
  refine W_end rfl (T_n (wp_ret ?_))
  refine E_ret1 f rfl (by kernel_rfl : Vc.look _ 4 = some (.bool false)) ?_
  obtain rfl := sI hF_8
  exact ⟨_, rfl, M_2, (hM_1.trans hM_2), p_2, rfl⟩
def slices_EqualFuncapi_Given_api_Given_api_Given_api_Given_s1 (n : Nat) (d0 : List T_api_Given) (d1 : List T_api_Given) (s_1 : Int) : Option (Lp Int (Sum Unit Unit)) :=
    bif (decide (s_1 < ((d0.length : Nat) : Int))) then
      ((getI d0 s_1).bind fun x_1 =>
      (getI d1 s_1).bind fun x_2 =>
      (schema_Same_1 n x_1 x_2).bind fun x_3 =>
      bif !x_3 then
        (some (.br (.inl ())))
      else
        need (inR .i64 (s_1 + 1)) <|
        some (.nx (s_1 + 1)))
    else
      some (.br (.inr ()))
def slices_EqualFuncapi_Given_api_Given_api_Given_api_Given (n : Nat) (d0 : List T_api_Given) (d1 : List T_api_Given) : Option Bool :=
  bif (!(decide (((d0.length : Nat) : Int) = ((d1.length : Nat) : Int)))) then
    (some ((false)))
  else
    (loopF (slices_EqualFuncapi_Given_api_Given_api_Given_api_Given_s1 n d0 d1) n (0 : Int)).bind fun b_1 =>
    (match b_1 with 
    | .inl y_1 => some ((false)) 
    | .inr y_2 => some ((true)))
set_option maxHeartbeats 2000000 in
theorem slices_EqualFuncapi_Given_api_Given_api_Given_api_Given_ok (n : Nat) (M : Mem) (hG : GL M) (A0 : Option Addr) (cap0 : Nat) (d0 : List T_api_Given) (h0 : Sli M 8 emb_T_api_Given A0 cap0 d0) (A1 : Option Addr) (cap1 : Nat) (d1 : List T_api_Given) (h1 : Sli M 8 emb_T_api_Given A1 cap1 d1) (r : Bool) (hF : slices_EqualFuncapi_Given_api_Given_api_Given_api_Given n d0 d1 = some r) : Ok Tryz.prog M 58 [.slice A0 d0.length cap0, .slice A1 d1.length cap1, .func (.func 59) #[] #[]] (fun _ v => v = .bool r) := by
 unfold slices_EqualFuncapi_Given_api_Given_api_Given_api_Given at hF
 intro M1 hM0 w0 H w p0
 replace hG := GL.mono hM0 hG
 replace h0 := h0.mono hM0
 replace h1 := h1.mono hM0
 refine R_enter 32 Tryz.func58 rfl rfl (by simp) fun a0 f0 => ?_
 refine R_seq (R_reg ?_)
 refine Y19 f0 1 fun _ f => ?_
 refine W_end rfl (T_n (R_seq (R_seq (R_reg ?_))))
 refine Y19 f 5 fun _ f => ?_
 refine W_end rfl (T_n ?_)
 refine Y6 f (b := !(decide (((d0.length : Nat) : Int) = ((d1.length : Nat) : Int)))) (fun h_1 => ?_) fun h_1 => ?_
 ·have k_1 : ¬ (((d0.length : Nat) : Int) = ((d1.length : Nat) : Int)) := (not_iff dI).1 h_1
  have hF_1 := cnd_t h_1 hF
  refine R_seq (R_reg ?_)
  refine Y19 f 1 fun _ f => ?_
  refine W_end rfl (T_n (wp_ret (T_r ?_)))
  refine E_ret1 f rfl (by kernel_rfl : Vc.look _ 6 = some (.bool false)) ?_
  obtain rfl := sI hF_1
  exact ⟨_, rfl, M1, (mR _), p0, rfl⟩
 ·have k_2 : ¬ (¬ (((d0.length : Nat) : Int) = ((d1.length : Nat) : Int))) := iff_f (not_iff dI) h_1
  have hF_2 := cnd_f h_1 hF
  refine wp_skip (T_n (R_seq (R_seq (R_reg ?_))))
  refine Y19 f 3 fun _ f => ?_
  refine W_end rfl (T_n (wp_block ?_))
  obtain ⟨b_1, hL_1, hF_3⟩ := bS hF_2
  refine wp_mono (Q := fun e a w => (e = .ret ∧ (∃ y_1 : Unit, b_1 = .inl y_1 ∧ ∃ M_2 : Mem, M1.le M_2 ∧ Frm 32 [(6, .bool false)] a ∧ Hp w0 M_2 (H) w)) ∨ (e = .exit 0 ∧ (∃ y_2 : Unit, b_1 = .inr y_2 ∧ ∃ M_3 : Mem, M1.le M_3 ∧ Frm 32 [] a ∧ Hp w0 M_3 (H) w))) (R_loop (n := 32) (w0 := w0) (M := M1) (fun (x : Nat × Int) => match x with | (m_1, s_1) => [(1, .slice A1 d1.length cap1), (2, .func (.func 59) #[] #[]), (15, .slice A0 d0.length cap0), (16, .int .i64 ((d0.length : Nat) : Int)), (17, .int .i64 s_1)]) (fun (x : Nat × Int) => match x with | (m_1, s_1) => (H)) (fun (x : Nat × Int) (MM : Mem) => match x with | (m_1, s_1) => loopF (slices_EqualFuncapi_Given_api_Given_api_Given_api_Given_s1 n d0 d1) m_1 s_1 = some b_1) (fun (x : Nat × Int) => match x with | (m_1, s_1) => m_1) (n, (0 : Int)) (f.keep (ks := [1, 2, 15, 16, 17]) (by kernel_rfl)) p0 hL_1 ?_) ?_
  ·rintro ⟨m_1, s_1⟩ M_1 _ w_1 hM_1 I_1 f p_1
   have I_1L := I_1
   obtain ⟨m_2, r_1, rfl, hs_1, hn_1⟩ := loop_step I_1L
   unfold slices_EqualFuncapi_Given_api_Given_api_Given_api_Given_s1 at hs_1
   refine R_seq (R_reg ?_)
   refine Y19 f 1 fun _ f => ?_
   refine W_end rfl (T_n (R_seq ?_))
   refine Y6 f (b := decide (s_1 < ((d0.length : Nat) : Int))) (fun h_2 => ?_) fun h_2 => ?_
   ·have k_3 : s_1 < ((d0.length : Nat) : Int) := dI.1 h_2
    have hF_4 := cnd_t h_2 hs_1
    refine wp_skip (T_n (R_seq (wp_block (R_seq (R_reg ?_)))))
    refine Y19 f 1 fun _ f => ?_
    obtain ⟨x_1, hx_1, hF_5⟩ := bS hF_4
    obtain ⟨ad_1, c_1, e_1, hl_1, hr_1, hc_1⟩ := Sli.at_ (h0.mono hM_1) hx_1
    clear hl_1
    obtain ⟨A_1, cap_1, A_2, cap_2, rfl, h_3, h_4⟩ := T_api_Given.opn hr_1
    refine Y14 (v := .pointer (some (ad_1.add (s_1.toNat * 8)))) f (Y31 e_1 rfl (len := d0.length) (cap := cap0) (k := .i64) (i := s_1) (e := 78) (sz := 8) (getI_nn hx_1) (getI_lt hx_1)) fun _ f => ?_
    refine Y14 (v := .agg #[S x_1.fName, .bool x_1.fUnknown, .int .i8 x_1.fV.fKind, .bool x_1.fV.fBool, .int .i64 x_1.fV.fNum, S x_1.fV.fText, .slice A_1 x_1.fV.fList.length cap_1, .slice A_2 x_1.fV.fKeys.length cap_2]) f (Y33 (cs := [S x_1.fName, .bool x_1.fUnknown, .int .i8 x_1.fV.fKind, .bool x_1.fV.fBool, .int .i64 x_1.fV.fNum, S x_1.fV.fText, .slice A_1 x_1.fV.fList.length cap_1, .slice A_2 x_1.fV.fKeys.length cap_2]) rfl (ad := ad_1.add (s_1.toNat * 8)) (fun j v h => p_1.cell (hc_1 j v h))) fun _ f => ?_
    refine Y12 f p_1 (.cells #[S [], .bool false, .int .i8 0, .bool false, .int .i64 0, S [], .slice none 0 0, .slice none 0 0] 78 (0, 0)) fun b_2 w_2 p_2 _ f => ?_
    refine Y19 f 1 fun _ f => ?_
    refine Y27 (vs := [S x_1.fName, .bool x_1.fUnknown, .int .i8 x_1.fV.fKind, .bool x_1.fV.fBool, .int .i64 x_1.fV.fNum, S x_1.fV.fText, .slice A_1 x_1.fV.fList.length cap_1, .slice A_2 x_1.fV.fKeys.length cap_2]) (j := 0) f p_2 rfl rfl (by simp [Value.oneCell', S]) (by simp) (by decide) (cs' := #[S x_1.fName, .bool x_1.fUnknown, .int .i8 x_1.fV.fKind, .bool x_1.fV.fBool, .int .i64 x_1.fV.fNum, S x_1.fV.fText, .slice A_1 x_1.fV.fList.length cap_1, .slice A_2 x_1.fV.fKeys.length cap_2]) fun w_3 p_3 _ f => ?_
    refine W_end rfl (T_n (R_seq (R_reg ?_)))
    refine Y19 f 2 fun _ f => ?_
    obtain ⟨x_2, hx_2, hF_6⟩ := bS hF_5
    obtain ⟨ad_2, c_2, e_2, hl_2, hr_2, hc_2⟩ := Sli.at_ (h1.mono hM_1) hx_2
    clear hl_2
    obtain ⟨A_3, cap_3, A_4, cap_4, rfl, h_5, h_6⟩ := T_api_Given.opn hr_2
    refine Y14 (v := .pointer (some (ad_2.add (s_1.toNat * 8)))) f (Y31 e_2 rfl (len := d1.length) (cap := cap1) (k := .i64) (i := s_1) (e := 78) (sz := 8) (getI_nn hx_2) (getI_lt hx_2)) fun _ f => ?_
    refine Y14 (v := .agg #[S x_2.fName, .bool x_2.fUnknown, .int .i8 x_2.fV.fKind, .bool x_2.fV.fBool, .int .i64 x_2.fV.fNum, S x_2.fV.fText, .slice A_3 x_2.fV.fList.length cap_3, .slice A_4 x_2.fV.fKeys.length cap_4]) f (Y33 (cs := [S x_2.fName, .bool x_2.fUnknown, .int .i8 x_2.fV.fKind, .bool x_2.fV.fBool, .int .i64 x_2.fV.fNum, S x_2.fV.fText, .slice A_3 x_2.fV.fList.length cap_3, .slice A_4 x_2.fV.fKeys.length cap_4]) rfl (ad := ad_2.add (s_1.toNat * 8)) (fun j v h => p_3.cell (hc_2 j v h))) fun _ f => ?_
    refine Y12 f p_3 (.cells #[S [], .bool false, .int .i8 0, .bool false, .int .i64 0, S [], .slice none 0 0, .slice none 0 0] 78 (0, 0)) fun b_3 w_4 p_4 _ f => ?_
    refine Y27 (vs := [S x_2.fName, .bool x_2.fUnknown, .int .i8 x_2.fV.fKind, .bool x_2.fV.fBool, .int .i64 x_2.fV.fNum, S x_2.fV.fText, .slice A_3 x_2.fV.fList.length cap_3, .slice A_4 x_2.fV.fKeys.length cap_4]) (j := 0) f p_4 rfl rfl (by simp [Value.oneCell', S]) (by simp) (by decide) (cs' := #[S x_2.fName, .bool x_2.fUnknown, .int .i8 x_2.fV.fKind, .bool x_2.fV.fBool, .int .i64 x_2.fV.fNum, S x_2.fV.fText, .slice A_3 x_2.fV.fList.length cap_3, .slice A_4 x_2.fV.fKeys.length cap_4]) fun w_5 p_5 _ f => ?_
    refine W_end rfl (T_n (R_seq (R_reg ?_)))
    refine Y19 f 1 fun _ f => ?_
    refine Y14 (v := .agg #[S x_1.fName, .bool x_1.fUnknown, .int .i8 x_1.fV.fKind, .bool x_1.fV.fBool, .int .i64 x_1.fV.fNum, S x_1.fV.fText, .slice A_1 x_1.fV.fList.length cap_1, .slice A_2 x_1.fV.fKeys.length cap_2]) f (Y33 (cs := [S x_1.fName, .bool x_1.fUnknown, .int .i8 x_1.fV.fKind, .bool x_1.fV.fBool, .int .i64 x_1.fV.fNum, S x_1.fV.fText, .slice A_1 x_1.fV.fList.length cap_1, .slice A_2 x_1.fV.fKeys.length cap_2]) rfl (ad := ⟨b_2, 0, none⟩) (own_cells (p_5.ownCell 1 rfl) 0 rfl)) fun _ f => ?_
    refine Y14 (v := .agg #[S x_2.fName, .bool x_2.fUnknown, .int .i8 x_2.fV.fKind, .bool x_2.fV.fBool, .int .i64 x_2.fV.fNum, S x_2.fV.fText, .slice A_3 x_2.fV.fList.length cap_3, .slice A_4 x_2.fV.fKeys.length cap_4]) f (Y33 (cs := [S x_2.fName, .bool x_2.fUnknown, .int .i8 x_2.fV.fKind, .bool x_2.fV.fBool, .int .i64 x_2.fV.fNum, S x_2.fV.fText, .slice A_3 x_2.fV.fList.length cap_3, .slice A_4 x_2.fV.fKeys.length cap_4]) rfl (ad := ⟨b_3, 0, none⟩) (own_cells (p_5.ownCell 0 rfl) 0 rfl)) fun _ f => ?_
    obtain ⟨x_3, hx_3, hF_7⟩ := bS hF_6
    refine Y18 f p_5 (schema_Same_1_ok n _ (GL.mono hM_1 hG) _ x_1 (T_api_Given.shutx (x := x_1) h_3 h_4) _ x_2 (T_api_Given.shutx (x := x_2) h_5 h_6) x_3 hx_3) fun w_6 p_6 _ f => ?_
    refine Y19 f 1 fun _ f => ?_
    refine W_end rfl (T_n ?_)
    refine Y6 f (b := !x_3) (fun h_7 => ?_) fun h_7 => ?_
    ·have k_4 : (x_3) = false := by simpa using h_7
     have hF_8 := cnd_t h_7 hF_7
     refine R_seq (R_reg ?_)
     refine Y19 f 1 fun _ f => ?_
     refine W_end rfl (T_n (wp_ret (B_r (T_r (T_r ?_)))))
     obtain rfl := sI hF_8
     exact .inl ⟨rfl, (), (sI hn_1).symm, M_1, hM_1, f.keep (ks := [6]) (by kernel_rfl), (p_6.dropN 2)⟩
    ·have k_5 : (x_3) = true := by simpa using h_7
     have hF_9 := cnd_f h_7 hF_7
     refine wp_skip (B_n (T_n (R_reg ?_)))
     obtain ⟨g_1, hF_10⟩ := nS hF_9
     refine Y19 f 1 fun _ f => ?_
     have f := Frm.set f 31 (v := .int .i64 (IntKind.wrap .i64 (s_1 + 1))) (v' := .int .i64 (s_1 + 1)) (by kernel_rfl) (congrArg (Value.int .i64) (inR_wrap g_1))
     refine Y19 f 1 fun _ f => ?_
     refine W_end rfl (T_n ?_)
     obtain rfl := sI hF_10
     exact ⟨⟨m_2, s_1 + 1⟩, Nat.lt_succ_self _, M_1, hM_1, hn_1, f.keep (ks := [1, 2, 15, 16, 17]) (by kernel_rfl), (p_6.dropN 2)⟩
   ·have k_6 : ¬ (s_1 < ((d0.length : Nat) : Int)) := iff_f dI h_2
    have hF_11 := cnd_f h_2 hs_1
    refine wp_exit (T_x (T_x ?_))
    obtain rfl := sI hF_11
    exact .inr ⟨rfl, (), (sI hn_1).symm, M_1, hM_1, f.keep (ks := []) (by kernel_rfl), p_1⟩
  ·rintro _ _ w_9 (⟨rfl, y_1, rfl, M_2, hM_2, f, p_7⟩ | ⟨rfl, y_2, rfl, M_3, hM_3, f, p_8⟩)
   ·refine B_r (T_r ?_)
    refine E_ret1 f rfl (by kernel_rfl : Vc.look _ 6 = some (.bool false)) ?_
    obtain rfl := sI hF_3
    exact ⟨_, rfl, M_2, hM_2, p_7, rfl⟩
   ·refine B_x (T_n (R_seq (R_reg ?_)))
    refine Y19 f 1 fun _ f => ?_
    refine W_end rfl (T_n (wp_ret ?_))
    refine E_ret1 f rfl (by kernel_rfl : Vc.look _ 6 = some (.bool true)) ?_
    obtain rfl := sI hF_3
    exact ⟨_, rfl, M_3, hM_3, p_8, rfl⟩
def schema_Same (n : Nat) (d0 : List T_api_Given) (d1 : List T_api_Given) : Option Bool :=
  (slices_EqualFuncapi_Given_api_Given_api_Given_api_Given n d0 d1).bind fun x_1 =>
  some ((x_1))
theorem schema_Same_ok (n : Nat) (M : Mem) (hG : GL M) (A0 : Option Addr) (cap0 : Nat) (d0 : List T_api_Given) (h0 : Sli M 8 emb_T_api_Given A0 cap0 d0) (A1 : Option Addr) (cap1 : Nat) (d1 : List T_api_Given) (h1 : Sli M 8 emb_T_api_Given A1 cap1 d1) (r : Bool) (hF : schema_Same n d0 d1 = some r) : Ok Tryz.prog M 34 [.slice A0 d0.length cap0, .slice A1 d1.length cap1] (fun _ v => v = .bool r) := by
 unfold schema_Same at hF
 intro M1 hM0 w0 H w p0
 replace hG := GL.mono hM0 hG
 replace h0 := h0.mono hM0
 replace h1 := h1.mono hM0
 refine R_enter 8 Tryz.func34 rfl rfl (by simp) fun a0 f0 => ?_
 refine R_seq (R_reg ?_)
 refine Y19 f0 1 fun _ f => ?_
 refine W_end rfl (T_n (R_seq (R_reg ?_)))
 refine Y19 f 2 fun _ f => ?_
 obtain ⟨x_1, hx_1, hF_1⟩ := bS hF
 refine Y18 f p0 (slices_EqualFuncapi_Given_api_Given_api_Given_api_Given_ok n _ hG A0 cap0 d0 h0 A1 cap1 d1 h1 x_1 hx_1) fun w_1 p_1 _ f => ?_
 refine Y19 f 1 fun _ f => ?_
 refine W_end rfl (T_n (wp_ret ?_))
 refine E_ret1 f rfl (by kernel_rfl : Vc.look _ 4 = some (.bool x_1)) ?_
 obtain rfl := sI hF_1
 exact ⟨_, rfl, M1, (mR _), p_1, rfl⟩
end Go.Proofs.YtalifkcchfkgmaaGreatDoor
end
