/-
  Texts of this claim, packed (what nothing names is left out): S5, S7, SchemaP1, Q2a, Vu, Q2b, Q2d, Q2e. Own work, partly printed by own programs. No condition.
-/
import Derived.Test.YtalifkcchfkgmaaGreatDoorPkA3
import Derived.Test.YtalifkcchfkgmaaGreatDoorPkA1
import Derived.Test.YtalifkcchfkgmaaGreatDoorPkA2
import Derived.Lib.MapLaws
import Derived.Lib.ValidLaws
section
set_option linter.unusedVariables false
set_option linter.unusedSimpArgs false
namespace Go.Proofs.YtalifkcchfkgmaaGreatDoor
open Go Go.Vc Go.RowKit
def cmp_Or_2_s1 (n : Nat) (d0 : List Int) (s_1 : Int) : Option (Lp Int (Sum Int Unit)) :=
    bif (decide (s_1 < ((d0.length : Nat) : Int))) then
      ((getI d0 s_1).bind fun x_1 =>
      bif (!(decide (x_1 = 0))) then
        (some (.br (.inl x_1)))
      else
        need (inR .i64 (s_1 + 1)) <|
        some (.nx (s_1 + 1)))
    else
      some (.br (.inr ()))
def cmp_Or_2 (n : Nat) (d0 : List Int) : Option Int :=
  (loopF (cmp_Or_2_s1 n d0) n (0 : Int)).bind fun b_1 =>
  (match b_1 with 
  | .inl y_1 => some (y_1) 
  | .inr y_2 => some ((0 : Int)))
set_option maxHeartbeats 2000000 in
theorem cmp_Or_2_ok (n : Nat) (M : Mem) (hG : GL M) (A0 : Option Addr) (cap0 : Nat) (d0 : List Int) (h0 : Sli M 1 (Dat.int .i64) A0 cap0 d0) (r : Int) (hF : cmp_Or_2 n d0 = some r) : Ok Tryz.prog M 62 [.slice A0 d0.length cap0] (fun _ v => v = .int .i64 r) := by
 unfold cmp_Or_2 at hF
 intro M1 hM0 w0 H w p0
 replace hG := GL.mono hM0 hG
 replace h0 := h0.mono hM0
 refine R_enter 18 Tryz.func62 rfl rfl (by simp) fun a0 f0 => ?_
 refine R_seq (R_reg ?_)
 refine Y19 f0 1 fun _ f => ?_
 refine W_end rfl (T_n (R_seq (R_reg ?_)))
 refine Y19 f 1 fun _ f => ?_
 refine W_end rfl (T_n (R_seq (R_seq (R_reg ?_))))
 refine Y19 f 3 fun _ f => ?_
 refine W_end rfl (T_n (wp_block ?_))
 obtain ⟨b_1, hL_1, hF_1⟩ := bS hF
 refine wp_mono (Q := fun e a w => (e = .ret ∧ (∃ y_1 : Int, b_1 = .inl y_1 ∧ ∃ M_2 : Mem, M1.le M_2 ∧ Frm 18 [(2, .int .i64 y_1)] a ∧ Hp w0 M_2 (H) w)) ∨ (e = .exit 0 ∧ (∃ y_2 : Unit, b_1 = .inr y_2 ∧ ∃ M_3 : Mem, M1.le M_3 ∧ Frm 18 [(3, .int .i64 0)] a ∧ Hp w0 M_3 (H) w))) (R_loop (n := 18) (w0 := w0) (M := M1) (fun (x : Nat × Int) => match x with | (m_1, s_1) => [(3, .int .i64 0), (6, .slice A0 d0.length cap0), (7, .int .i64 ((d0.length : Nat) : Int)), (8, .int .i64 s_1)]) (fun (x : Nat × Int) => match x with | (m_1, s_1) => (H)) (fun (x : Nat × Int) (MM : Mem) => match x with | (m_1, s_1) => loopF (cmp_Or_2_s1 n d0) m_1 s_1 = some b_1) (fun (x : Nat × Int) => match x with | (m_1, s_1) => m_1) (n, (0 : Int)) (f.keep (ks := [3, 6, 7, 8]) (by kernel_rfl)) p0 hL_1 ?_) ?_
 ·rintro ⟨m_1, s_1⟩ M_1 _ w_1 hM_1 I_1 f p_1
  have I_1L := I_1
  obtain ⟨m_2, r_1, rfl, hs_1, hn_1⟩ := loop_step I_1L
  unfold cmp_Or_2_s1 at hs_1
  refine R_seq (R_reg ?_)
  refine Y19 f 1 fun _ f => ?_
  refine W_end rfl (T_n (R_seq ?_))
  refine Y6 f (b := decide (s_1 < ((d0.length : Nat) : Int))) (fun h_1 => ?_) fun h_1 => ?_
  ·have k_1 : s_1 < ((d0.length : Nat) : Int) := dI.1 h_1
   have hF_2 := cnd_t h_1 hs_1
   refine wp_skip (T_n (R_seq (wp_block (R_seq (R_reg ?_)))))
   obtain ⟨x_1, hx_1, hF_3⟩ := bS hF_2
   obtain ⟨ad_1, c_1, e_1, hl_1, hr_1, hc_1⟩ := Sli.at_ (h0.mono hM_1) hx_1
   clear hl_1
   obtain rfl : c_1 = [.int .i64 x_1] := hr_1
   refine Y14 (v := .pointer (some (ad_1.add (s_1.toNat * 1)))) f (Y31 e_1 rfl (len := d0.length) (cap := cap0) (k := .i64) (i := s_1) (e := 28) (sz := 1) (getI_nn hx_1) (getI_lt hx_1)) fun _ f => ?_
   refine Y15 f p_1 hc_1 0 rfl fun _ f => ?_
   refine Y19 f 1 fun _ f => ?_
   refine W_end rfl (T_n (R_seq (R_reg ?_)))
   refine Y19 f 3 fun _ f => ?_
   refine W_end rfl (T_n ?_)
   refine Y6 f (b := !(decide (x_1 = 0))) (fun h_2 => ?_) fun h_2 => ?_
   ·have k_2 : ¬ (x_1 = 0) := (not_iff dI).1 h_2
    have hF_4 := cnd_t h_2 hF_3
    refine R_seq (R_reg ?_)
    refine Y19 f 2 fun _ f => ?_
    refine W_end rfl (T_n (wp_ret (B_r (T_r (T_r ?_)))))
    obtain rfl := sI hF_4
    exact .inl ⟨rfl, x_1, (sI hn_1).symm, M_1, hM_1, f.keep (ks := [2]) (by kernel_rfl), p_1⟩
   ·have k_3 : ¬ (¬ (x_1 = 0)) := iff_f (not_iff dI) h_2
    have hF_5 := cnd_f h_2 hF_3
    refine wp_skip (B_n (T_n (R_reg ?_)))
    obtain ⟨g_1, hF_6⟩ := nS hF_5
    refine Y19 f 1 fun _ f => ?_
    have f := Frm.set f 16 (v := .int .i64 (IntKind.wrap .i64 (s_1 + 1))) (v' := .int .i64 (s_1 + 1)) (by kernel_rfl) (congrArg (Value.int .i64) (inR_wrap g_1))
    refine Y19 f 1 fun _ f => ?_
    refine W_end rfl (T_n ?_)
    obtain rfl := sI hF_6
    exact ⟨⟨m_2, s_1 + 1⟩, Nat.lt_succ_self _, M_1, hM_1, hn_1, f.keep (ks := [3, 6, 7, 8]) (by kernel_rfl), p_1⟩
  ·have k_4 : ¬ (s_1 < ((d0.length : Nat) : Int)) := iff_f dI h_1
   have hF_7 := cnd_f h_1 hs_1
   refine wp_exit (T_x (T_x ?_))
   obtain rfl := sI hF_7
   exact .inr ⟨rfl, (), (sI hn_1).symm, M_1, hM_1, f.keep (ks := [3]) (by kernel_rfl), p_1⟩
 ·rintro _ _ w_4 (⟨rfl, y_1, rfl, M_2, hM_2, f, p_2⟩ | ⟨rfl, y_2, rfl, M_3, hM_3, f, p_3⟩)
  ·refine B_r (T_r ?_)
   refine E_ret1 f rfl (by kernel_rfl : Vc.look _ 2 = some (.int .i64 y_1)) ?_
   obtain rfl := sI hF_1
   exact ⟨_, rfl, M_2, hM_2, p_2, rfl⟩
  ·refine B_x (T_n (R_seq (R_reg ?_)))
   refine Y19 f 2 fun _ f => ?_
   refine W_end rfl (T_n (wp_ret ?_))
   refine E_ret1 f rfl (by kernel_rfl : Vc.look _ 2 = some (.int .i64 0)) ?_
   obtain rfl := sI hF_1
   exact ⟨_, rfl, M_3, hM_3, p_3, rfl⟩
def schema_Differ_1 (n : Nat) (d0 : T_api_Given) : Option Bool :=
  some ((d0.fUnknown))
theorem schema_Differ_1_ok (n : Nat) (M : Mem) (hG : GL M) (c0 : List Value) (d0 : T_api_Given) (h0 : Rep M (emb_T_api_Given d0) c0) (r : Bool) (hF : schema_Differ_1 n d0 = some r) : Ok Tryz.prog M 64 [.agg c0.toArray] (fun _ v => v = .bool r) := by
 unfold schema_Differ_1 at hF
 intro M1 hM0 w0 H w p0
 replace hG := GL.mono hM0 hG
 replace h0 := Rep.mono hM0 _ _ h0
 obtain ⟨A_1, cap_1, A_2, cap_2, rfl, h_1, h_2⟩ := T_api_Given.opn h0
 refine R_enter 5 Tryz.func64 rfl rfl (by simp) fun a0 f0 => ?_
 refine R_seq (R_reg ?_)
 refine Y13 (cs := #[S d0.fName, .bool d0.fUnknown, .int .i8 d0.fV.fKind, .bool d0.fV.fBool, .int .i64 d0.fV.fNum, S d0.fV.fText, .slice A_1 d0.fV.fList.length cap_1, .slice A_2 d0.fV.fKeys.length cap_2]) (T := 78) f0 p0 fun b_1 M_1 w_1 hM_1 hc_1 p_1 _ f => ?_
 have hc_2 := fz_box hc_1
 refine Y19 f 1 fun _ f => ?_
 refine W_end rfl (T_n (R_seq (R_reg ?_)))
 refine Y19 f 1 fun _ f => ?_
 refine Y15 f p_1 hc_2 1 rfl fun _ f => ?_
 refine Y19 f 1 fun _ f => ?_
 refine W_end rfl (T_n (wp_ret ?_))
 refine E_ret1 f rfl (by kernel_rfl : Vc.look _ 2 = some (.bool d0.fUnknown)) ?_
 obtain rfl := sI hF
 exact ⟨_, rfl, M_1, hM_1, p_1, rfl⟩
def slices_IndexFuncapi_Given_api_Given_s1 (n : Nat) (d0 : List T_api_Given) (s_1 : Int) : Option (Lp Int (Sum Int Unit)) :=
    bif (decide (s_1 < ((d0.length : Nat) : Int))) then
      ((getI d0 s_1).bind fun x_1 =>
      (schema_Differ_1 n x_1).bind fun x_2 =>
      bif x_2 then
        (some (.br (.inl s_1)))
      else
        need (inR .i64 (s_1 + 1)) <|
        some (.nx (s_1 + 1)))
    else
      some (.br (.inr ()))
def slices_IndexFuncapi_Given_api_Given (n : Nat) (d0 : List T_api_Given) : Option Int :=
  (loopF (slices_IndexFuncapi_Given_api_Given_s1 n d0) n (0 : Int)).bind fun b_1 =>
  (match b_1 with 
  | .inl y_1 => some (y_1) 
  | .inr y_2 => some ((-1 : Int)))
set_option maxHeartbeats 2000000 in
theorem slices_IndexFuncapi_Given_api_Given_ok (n : Nat) (M : Mem) (hG : GL M) (A0 : Option Addr) (cap0 : Nat) (d0 : List T_api_Given) (h0 : Sli M 8 emb_T_api_Given A0 cap0 d0) (r : Int) (hF : slices_IndexFuncapi_Given_api_Given n d0 = some r) : Ok Tryz.prog M 90 [.slice A0 d0.length cap0, .func (.func 64) #[] #[]] (fun _ v => v = .int .i64 r) := by
 unfold slices_IndexFuncapi_Given_api_Given at hF
 intro M1 hM0 w0 H w p0
 replace hG := GL.mono hM0 hG
 replace h0 := h0.mono hM0
 refine R_enter 19 Tryz.func90 rfl rfl (by simp) fun a0 f0 => ?_
 refine R_seq (R_reg ?_)
 refine Y19 f0 1 fun _ f => ?_
 refine W_end rfl (T_n (R_seq (R_seq (R_reg ?_))))
 refine Y19 f 3 fun _ f => ?_
 refine W_end rfl (T_n (wp_block ?_))
 obtain ⟨b_1, hL_1, hF_1⟩ := bS hF
 refine wp_mono (Q := fun e a w => (e = .ret ∧ (∃ y_1 : Int, b_1 = .inl y_1 ∧ ∃ M_2 : Mem, M1.le M_2 ∧ Frm 19 [(4, .int .i64 y_1)] a ∧ Hp w0 M_2 (H) w)) ∨ (e = .exit 0 ∧ (∃ y_2 : Unit, b_1 = .inr y_2 ∧ ∃ M_3 : Mem, M1.le M_3 ∧ Frm 19 [] a ∧ Hp w0 M_3 (H) w))) (R_loop (n := 19) (w0 := w0) (M := M1) (fun (x : Nat × Int) => match x with | (m_1, s_1) => [(0, .slice A0 d0.length cap0), (1, .func (.func 64) #[] #[]), (7, .int .i64 ((d0.length : Nat) : Int)), (8, .int .i64 s_1)]) (fun (x : Nat × Int) => match x with | (m_1, s_1) => (H)) (fun (x : Nat × Int) (MM : Mem) => match x with | (m_1, s_1) => loopF (slices_IndexFuncapi_Given_api_Given_s1 n d0) m_1 s_1 = some b_1) (fun (x : Nat × Int) => match x with | (m_1, s_1) => m_1) (n, (0 : Int)) (f.keep (ks := [0, 1, 7, 8]) (by kernel_rfl)) p0 hL_1 ?_) ?_
 ·rintro ⟨m_1, s_1⟩ M_1 _ w_1 hM_1 I_1 f p_1
  have I_1L := I_1
  obtain ⟨m_2, r_1, rfl, hs_1, hn_1⟩ := loop_step I_1L
  unfold slices_IndexFuncapi_Given_api_Given_s1 at hs_1
  refine R_seq (R_reg ?_)
  refine Y19 f 1 fun _ f => ?_
  refine W_end rfl (T_n (R_seq ?_))
  refine Y6 f (b := decide (s_1 < ((d0.length : Nat) : Int))) (fun h_1 => ?_) fun h_1 => ?_
  ·have k_1 : s_1 < ((d0.length : Nat) : Int) := dI.1 h_1
   have hF_2 := cnd_t h_1 hs_1
   refine wp_skip (T_n (R_seq (wp_block (R_seq (R_reg ?_)))))
   refine Y19 f 2 fun _ f => ?_
   refine W_end rfl (T_n (R_seq (R_reg ?_)))
   refine Y19 f 3 fun _ f => ?_
   obtain ⟨x_1, hx_1, hF_3⟩ := bS hF_2
   obtain ⟨ad_1, c_1, e_1, hl_1, hr_1, hc_1⟩ := Sli.at_ (h0.mono hM_1) hx_1
   clear hl_1
   obtain ⟨A_1, cap_1, A_2, cap_2, rfl, h_2, h_3⟩ := T_api_Given.opn hr_1
   refine Y14 (v := .pointer (some (ad_1.add (s_1.toNat * 8)))) f (Y31 e_1 rfl (len := d0.length) (cap := cap0) (k := .i64) (i := s_1) (e := 78) (sz := 8) (getI_nn hx_1) (getI_lt hx_1)) fun _ f => ?_
   refine Y14 (v := .agg #[S x_1.fName, .bool x_1.fUnknown, .int .i8 x_1.fV.fKind, .bool x_1.fV.fBool, .int .i64 x_1.fV.fNum, S x_1.fV.fText, .slice A_1 x_1.fV.fList.length cap_1, .slice A_2 x_1.fV.fKeys.length cap_2]) f (Y33 (cs := [S x_1.fName, .bool x_1.fUnknown, .int .i8 x_1.fV.fKind, .bool x_1.fV.fBool, .int .i64 x_1.fV.fNum, S x_1.fV.fText, .slice A_1 x_1.fV.fList.length cap_1, .slice A_2 x_1.fV.fKeys.length cap_2]) rfl (ad := ad_1.add (s_1.toNat * 8)) (fun j v h => p_1.cell (hc_1 j v h))) fun _ f => ?_
   obtain ⟨x_2, hx_2, hF_4⟩ := bS hF_3
   refine Y18 f p_1 (schema_Differ_1_ok n _ (GL.mono hM_1 hG) _ x_1 (T_api_Given.shutx (x := x_1) h_2 h_3) x_2 hx_2) fun w_2 p_2 _ f => ?_
   refine W_end rfl (T_n ?_)
   refine Y6 f (b := x_2) (fun h_4 => ?_) fun h_4 => ?_
   ·have hF_5 := cnd_t h_4 hF_4
    refine R_seq (R_reg ?_)
    refine Y19 f 2 fun _ f => ?_
    refine W_end rfl (T_n (wp_ret (B_r (T_r (T_r ?_)))))
    obtain rfl := sI hF_5
    exact .inl ⟨rfl, s_1, (sI hn_1).symm, M_1, hM_1, f.keep (ks := [4]) (by kernel_rfl), p_2⟩
   ·have hF_6 := cnd_f h_4 hF_4
    refine wp_skip (B_n (T_n (R_reg ?_)))
    obtain ⟨g_1, hF_7⟩ := nS hF_6
    refine Y19 f 1 fun _ f => ?_
    have f := Frm.set f 18 (v := .int .i64 (IntKind.wrap .i64 (s_1 + 1))) (v' := .int .i64 (s_1 + 1)) (by kernel_rfl) (congrArg (Value.int .i64) (inR_wrap g_1))
    refine Y19 f 1 fun _ f => ?_
    refine W_end rfl (T_n ?_)
    obtain rfl := sI hF_7
    exact ⟨⟨m_2, s_1 + 1⟩, Nat.lt_succ_self _, M_1, hM_1, hn_1, f.keep (ks := [0, 1, 7, 8]) (by kernel_rfl), p_2⟩
  ·have k_4 : ¬ (s_1 < ((d0.length : Nat) : Int)) := iff_f dI h_1
   have hF_8 := cnd_f h_1 hs_1
   refine wp_exit (T_x (T_x ?_))
   obtain rfl := sI hF_8
   exact .inr ⟨rfl, (), (sI hn_1).symm, M_1, hM_1, f.keep (ks := []) (by kernel_rfl), p_1⟩
 ·rintro _ _ w_5 (⟨rfl, y_1, rfl, M_2, hM_2, f, p_3⟩ | ⟨rfl, y_2, rfl, M_3, hM_3, f, p_4⟩)
  ·refine B_r (T_r ?_)
   refine E_ret1 f rfl (by kernel_rfl : Vc.look _ 4 = some (.int .i64 y_1)) ?_
   obtain rfl := sI hF_1
   exact ⟨_, rfl, M_2, hM_2, p_3, rfl⟩
  ·refine B_x (T_n (R_seq (R_reg ?_)))
   refine Y19 f 1 fun _ f => ?_
   refine W_end rfl (T_n (wp_ret ?_))
   refine E_ret1 f rfl (by kernel_rfl : Vc.look _ 4 = some (.int .i64 (-1))) ?_
   obtain rfl := sI hF_1
   exact ⟨_, rfl, M_3, hM_3, p_4, rfl⟩
def slices_ContainsFuncapi_Given_api_Given (n : Nat) (d0 : List T_api_Given) : Option Bool :=
  (slices_IndexFuncapi_Given_api_Given n d0).bind fun x_1 =>
  some ((decide ((0 : Int) ≤ x_1)))
theorem slices_ContainsFuncapi_Given_api_Given_ok (n : Nat) (M : Mem) (hG : GL M) (A0 : Option Addr) (cap0 : Nat) (d0 : List T_api_Given) (h0 : Sli M 8 emb_T_api_Given A0 cap0 d0) (r : Bool) (hF : slices_ContainsFuncapi_Given_api_Given n d0 = some r) : Ok Tryz.prog M 63 [.slice A0 d0.length cap0, .func (.func 64) #[] #[]] (fun _ v => v = .bool r) := by
 unfold slices_ContainsFuncapi_Given_api_Given at hF
 intro M1 hM0 w0 H w p0
 replace hG := GL.mono hM0 hG
 replace h0 := h0.mono hM0
 refine R_enter 9 Tryz.func63 rfl rfl (by simp) fun a0 f0 => ?_
 refine R_seq (R_reg ?_)
 refine Y19 f0 1 fun _ f => ?_
 refine W_end rfl (T_n (R_seq (R_reg ?_)))
 refine Y19 f 2 fun _ f => ?_
 obtain ⟨x_1, hx_1, hF_1⟩ := bS hF
 refine Y18 f p0 (slices_IndexFuncapi_Given_api_Given_ok n _ hG A0 cap0 d0 h0 x_1 hx_1) fun w_1 p_1 _ f => ?_
 refine Y19 f 2 fun _ f => ?_
 refine W_end rfl (T_n (wp_ret ?_))
 refine E_ret1 f rfl (by kernel_rfl : Vc.look _ 4 = some (.bool (decide ((0 : Int) ≤ x_1)))) ?_
 obtain rfl := sI hF_1
 exact ⟨_, rfl, M1, (mR _), p_1, rfl⟩
def schema_byName_s1 (n : Nat) (d0 : List T_api_Given) (s_1 : Int × (List ((List UInt8) × T_api_Given))) : Option (Lp (Int × (List ((List UInt8) × T_api_Given))) (List ((List UInt8) × T_api_Given))) :=
    bif (decide (s_1.1 < ((d0.length : Nat) : Int))) then
      ((getI d0 s_1.1).bind fun x_1 =>
      need (inR .i64 (s_1.1 + 1)) <|
      some (.nx (s_1.1 + 1, mput s_1.2 x_1.fName x_1)))
    else
      some (.br s_1.2)
def schema_byName (n : Nat) (d0 : List T_api_Given) : Option (List ((List UInt8) × T_api_Given)) :=
  (loopF (schema_byName_s1 n d0) n ((0 : Int), ([] : List ((List UInt8) × T_api_Given)))).bind fun y_1 =>
  some (y_1)
set_option maxHeartbeats 2000000 in
theorem schema_byName_ok (n : Nat) (M : Mem) (hG : GL M) (A0 : Option Addr) (cap0 : Nat) (d0 : List T_api_Given) (h0 : Sli M 8 emb_T_api_Given A0 cap0 d0) (r : (List ((List UInt8) × T_api_Given))) (hF : schema_byName n d0 = some r) : Ok Tryz.prog M 65 [.slice A0 d0.length cap0] (fun M' v => ∃ (b0 : Nat) (m0 : List ((List UInt8) × Value)), v = .map (some b0) ∧ M' b0 = some (mapO S idV m0) ∧ RepMap M' emb_T_api_Given r m0) := by
 unfold schema_byName at hF
 intro M1 hM0 w0 H w p0
 replace hG := GL.mono hM0 hG
 replace h0 := h0.mono hM0
 refine R_enter 19 Tryz.func65 rfl rfl (by simp) fun a0 f0 => ?_
 refine R_seq (R_reg ?_)
 refine Y19 f0 1 fun _ f => ?_
 refine W_end rfl (T_n (R_seq (R_reg ?_)))
 refine W_newmap S idV f p0 (by kernel_rfl) (by kernel_rfl) rfl rfl rfl fun bm_1 w_1 p_1 _ f => ?_
 have hm_1 : RepMap M1 emb_T_api_Given ([] : List ((List UInt8) × T_api_Given)) ([] : List ((List UInt8) × Value)) := RepMap.nil
 refine Y19 f 1 fun _ f => ?_
 refine W_end rfl (T_n (R_seq (R_seq (R_reg ?_))))
 refine Y19 f 3 fun _ f => ?_
 refine W_end rfl (T_n (wp_block ?_))
 obtain ⟨b_1, hL_1, hF_1⟩ := bS hF
 refine wp_mono (Q := fun e a w => (e = .exit 0 ∧ (∃ y_1 : (List ((List UInt8) × T_api_Given)), b_1 = y_1 ∧ ∃ M_2 : Mem, M1.le M_2 ∧ ∃ (m_4 : List ((List UInt8) × Value)), RepMap M_2 emb_T_api_Given y_1 m_4 ∧ Frm 19 [(3, .map (some bm_1))] a ∧ Hp w0 M_2 ((Ent.obj bm_1 (mapO S idV m_4)) :: H) w))) (R_loop (n := 19) (w0 := w0) (M := M1) (fun (x : Nat × (Int × (List ((List UInt8) × T_api_Given))) × (List ((List UInt8) × Value))) => match x with | (m_1, s_1, m_2) => [(3, .map (some bm_1)), (7, .slice A0 d0.length cap0), (8, .int .i64 ((d0.length : Nat) : Int)), (9, .int .i64 s_1.1)]) (fun (x : Nat × (Int × (List ((List UInt8) × T_api_Given))) × (List ((List UInt8) × Value))) => match x with | (m_1, s_1, m_2) => ((Ent.obj bm_1 (mapO S idV m_2)) :: H)) (fun (x : Nat × (Int × (List ((List UInt8) × T_api_Given))) × (List ((List UInt8) × Value))) (MM : Mem) => match x with | (m_1, s_1, m_2) => loopF (schema_byName_s1 n d0) m_1 s_1 = some b_1 ∧ RepMap MM emb_T_api_Given s_1.2 m_2) (fun (x : Nat × (Int × (List ((List UInt8) × T_api_Given))) × (List ((List UInt8) × Value))) => match x with | (m_1, s_1, m_2) => m_1) (n, ((0 : Int), ([] : List ((List UInt8) × T_api_Given))), ([] : List ((List UInt8) × Value))) (f.keep (ks := [3, 7, 8, 9]) (by kernel_rfl)) p_1 ⟨hL_1, hm_1⟩ ?_) ?_
 ·rintro ⟨m_1, s_1, m_2⟩ M_1 _ w_2 hM_1 I_1 f p_2
  obtain ⟨I_1L, hm_2⟩ := I_1
  obtain ⟨m_3, r_1, rfl, hs_1, hn_1⟩ := loop_step I_1L
  unfold schema_byName_s1 at hs_1
  refine R_seq (R_reg ?_)
  refine Y19 f 1 fun _ f => ?_
  refine W_end rfl (T_n (R_seq ?_))
  refine Y6 f (b := decide (s_1.1 < ((d0.length : Nat) : Int))) (fun h_1 => ?_) fun h_1 => ?_
  ·have k_1 : s_1.1 < ((d0.length : Nat) : Int) := dI.1 h_1
   have hF_2 := cnd_t h_1 hs_1
   refine wp_skip (T_n (R_seq (wp_block (R_seq (R_reg ?_)))))
   obtain ⟨x_1, hx_1, hF_3⟩ := bS hF_2
   obtain ⟨ad_1, c_1, e_1, hl_1, hr_1, hc_1⟩ := Sli.at_ (h0.mono hM_1) hx_1
   clear hl_1
   obtain ⟨A_1, cap_1, A_2, cap_2, rfl, h_2, h_3⟩ := T_api_Given.opn hr_1
   refine Y14 (v := .pointer (some (ad_1.add (s_1.1.toNat * 8)))) f (Y31 e_1 rfl (len := d0.length) (cap := cap0) (k := .i64) (i := s_1.1) (e := 78) (sz := 8) (getI_nn hx_1) (getI_lt hx_1)) fun _ f => ?_
   refine Y14 (v := .agg #[S x_1.fName, .bool x_1.fUnknown, .int .i8 x_1.fV.fKind, .bool x_1.fV.fBool, .int .i64 x_1.fV.fNum, S x_1.fV.fText, .slice A_1 x_1.fV.fList.length cap_1, .slice A_2 x_1.fV.fKeys.length cap_2]) f (Y33 (cs := [S x_1.fName, .bool x_1.fUnknown, .int .i8 x_1.fV.fKind, .bool x_1.fV.fBool, .int .i64 x_1.fV.fNum, S x_1.fV.fText, .slice A_1 x_1.fV.fList.length cap_1, .slice A_2 x_1.fV.fKeys.length cap_2]) rfl (ad := ad_1.add (s_1.1.toNat * 8)) (fun j v h => p_2.cell (hc_1 j v h))) fun _ f => ?_
   refine Y12 f p_2 (.cells #[S [], .bool false, .int .i8 0, .bool false, .int .i64 0, S [], .slice none 0 0, .slice none 0 0] 78 (0, 0)) fun b_2 w_3 p_3 _ f => ?_
   refine Y27 (vs := [S x_1.fName, .bool x_1.fUnknown, .int .i8 x_1.fV.fKind, .bool x_1.fV.fBool, .int .i64 x_1.fV.fNum, S x_1.fV.fText, .slice A_1 x_1.fV.fList.length cap_1, .slice A_2 x_1.fV.fKeys.length cap_2]) (j := 0) f p_3 rfl rfl (by simp [Value.oneCell', S]) (by simp) (by decide) (cs' := #[S x_1.fName, .bool x_1.fUnknown, .int .i8 x_1.fV.fKind, .bool x_1.fV.fBool, .int .i64 x_1.fV.fNum, S x_1.fV.fText, .slice A_1 x_1.fV.fList.length cap_1, .slice A_2 x_1.fV.fKeys.length cap_2]) fun w_4 p_4 _ f => ?_
   refine W_end rfl (T_n (R_reg ?_))
   refine Y19 f 2 fun _ f => ?_
   refine Y14 (v := S x_1.fName) f (Y32 (v := S x_1.fName) rfl (ad := ⟨b_2, 0, none⟩) (p_4.ownCell 0 rfl 0)) fun _ f => ?_
   refine Y14 (v := .agg #[S x_1.fName, .bool x_1.fUnknown, .int .i8 x_1.fV.fKind, .bool x_1.fV.fBool, .int .i64 x_1.fV.fNum, S x_1.fV.fText, .slice A_1 x_1.fV.fList.length cap_1, .slice A_2 x_1.fV.fKeys.length cap_2]) f (Y33 (cs := [S x_1.fName, .bool x_1.fUnknown, .int .i8 x_1.fV.fKind, .bool x_1.fV.fBool, .int .i64 x_1.fV.fNum, S x_1.fV.fText, .slice A_1 x_1.fV.fList.length cap_1, .slice A_2 x_1.fV.fKeys.length cap_2]) rfl (ad := ⟨b_2, 0, none⟩) (own_cells (p_4.ownCell 0 rfl) 0 rfl)) fun _ f => ?_
   have p_5 := p_4.pl [1]
   have hm_3 := RepMap.put (k := x_1.fName) (x := x_1) (cs := [S x_1.fName, .bool x_1.fUnknown, .int .i8 x_1.fV.fKind, .bool x_1.fV.fBool, .int .i64 x_1.fV.fNum, S x_1.fV.fText, .slice A_1 x_1.fV.fList.length cap_1, .slice A_2 x_1.fV.fKeys.length cap_2]) (T_api_Given.shutx (x := x_1) h_2 h_3) hm_2
   refine Y24 (ek := S) (ev := idV) (m := m_2) (k := x_1.fName) (v := .agg [S x_1.fName, .bool x_1.fUnknown, .int .i8 x_1.fV.fKind, .bool x_1.fV.fBool, .int .i64 x_1.fV.fNum, S x_1.fV.fText, .slice A_1 x_1.fV.fList.length cap_1, .slice A_2 x_1.fV.fKeys.length cap_2].toArray) (kt := 9) (et := 78) f p_5 rfl (.inl rfl) (strKey (by kernel_rfl)) fun w_5 p_6 _ f => ?_
   refine W_end rfl (B_n (T_n (R_reg ?_)))
   obtain ⟨g_1, hF_4⟩ := nS hF_3
   refine Y19 f 1 fun _ f => ?_
   have f := Frm.set f 17 (v := .int .i64 (IntKind.wrap .i64 (s_1.1 + 1))) (v' := .int .i64 (s_1.1 + 1)) (by kernel_rfl) (congrArg (Value.int .i64) (inR_wrap g_1))
   refine Y19 f 1 fun _ f => ?_
   refine W_end rfl ?_
   have p_8 := p_6.pl [1]
   refine T_n ?_
   obtain rfl := sI hF_4
   exact ⟨⟨m_3, (s_1.1 + 1, mput s_1.2 x_1.fName x_1), mput m_2 x_1.fName (.agg [S x_1.fName, .bool x_1.fUnknown, .int .i8 x_1.fV.fKind, .bool x_1.fV.fBool, .int .i64 x_1.fV.fNum, S x_1.fV.fText, .slice A_1 x_1.fV.fList.length cap_1, .slice A_2 x_1.fV.fKeys.length cap_2].toArray)⟩, Nat.lt_succ_self _, M_1, hM_1, ⟨hn_1, hm_3⟩, f.keep (ks := [3, 7, 8, 9]) (by kernel_rfl), (p_8.dropN 1)⟩
  ·have k_2 : ¬ (s_1.1 < ((d0.length : Nat) : Int)) := iff_f dI h_1
   have hF_5 := cnd_f h_1 hs_1
   refine wp_exit (T_x (T_x ?_))
   obtain rfl := sI hF_5
   exact ⟨rfl, s_1.2, (sI hn_1).symm, M_1, hM_1, m_2, hm_2, f.keep (ks := [3]) (by kernel_rfl), p_2⟩
 ·rintro _ _ w_7 ⟨rfl, y_1, hq_, M_2, hM_2, m_4, hm_4, f, p_7⟩
  subst b_1
  refine B_x (T_n (R_seq (R_reg ?_)))
  refine Y19 f 2 fun _ f => ?_
  refine W_end rfl (T_n (wp_ret ?_))
  obtain ⟨M_3, hM_3, p_9, h_4⟩ := p_7.fzObj
  refine E_ret1 f rfl (by kernel_rfl : Vc.look _ 2 = some (.map (some bm_1))) ?_
  obtain rfl := sI hF_1
  exact ⟨_, rfl, M_3, (hM_2.trans hM_3), p_9, ⟨bm_1, m_4, rfl, h_4, (hm_4.mono hM_3)⟩⟩
def schema_Differ_s1_e (n : Nat) (x_5 : (List ((List UInt8) × T_api_Given))) (x_6 : (List ((List UInt8) × T_api_Given))) (s_1 : Int) : Option (Lp Int (Sum Int Unit)) :=
    some (.br (.inl s_1))
def schema_Differ_s1_y (n : Nat) (x_5 : (List ((List UInt8) × T_api_Given))) (x_6 : (List ((List UInt8) × T_api_Given))) (pv_1 : List UInt8 × T_api_Spec) (s_1 : Int) : Option (Lp Int (Sum Int Unit)) :=
    ((bif ((mget x_5 pv_1.1).isSome == (mget x_6 pv_1.1).isSome) then
        (bif (!((mget x_6 pv_1.1).getD z_T_api_Given).fUnknown) then
          (bif (!(mget x_5 pv_1.1).isSome) then
            (some ((true)))
          else
            (tree_Equal n (⟨((mget x_5 pv_1.1).getD z_T_api_Given).fV.fKind, (((mget x_5 pv_1.1).getD z_T_api_Given).fV.fBool), ((mget x_5 pv_1.1).getD z_T_api_Given).fV.fNum, ((mget x_5 pv_1.1).getD z_T_api_Given).fV.fText, ((mget x_5 pv_1.1).getD z_T_api_Given).fV.fList, ((mget x_5 pv_1.1).getD z_T_api_Given).fV.fKeys⟩ : T_api_Value) (⟨((mget x_6 pv_1.1).getD z_T_api_Given).fV.fKind, (((mget x_6 pv_1.1).getD z_T_api_Given).fV.fBool), ((mget x_6 pv_1.1).getD z_T_api_Given).fV.fNum, ((mget x_6 pv_1.1).getD z_T_api_Given).fV.fText, ((mget x_6 pv_1.1).getD z_T_api_Given).fV.fList, ((mget x_6 pv_1.1).getD z_T_api_Given).fV.fKeys⟩ : T_api_Value)).bind fun x_7 =>
            some ((x_7)))
        else
          some ((false)))
      else
        some ((false)) : Option Bool)).bind fun y_1 =>
    bif y_1 then
      (some (.nx s_1))
    else
      bif pv_1.2.fReplace then
        (some (.br (.inr ())))
      else
        some (.nx (2 : Int))
def schema_Differ (n : Nat) (d0 : List UInt8) (d1 : List T_api_Given) (d2 : List T_api_Given) : Option (Int × Int) :=
  (schema_Check n d0 d1).bind fun x_1 =>
  (schema_Check n d0 d2).bind fun x_2 =>
  (cmp_Or_2 n [x_1, x_2]).bind fun x_3 =>
  bif (!(decide (x_3 = 0))) then
    (some (((0 : Int), x_3)))
  else
    (slices_ContainsFuncapi_Given_api_Given n d1).bind fun x_4 =>
    bif x_4 then
      (some (((0 : Int), (91 : Int))))
    else
      (schema_byName n d1).bind fun x_5 =>
      (schema_byName n d2).bind fun x_6 =>
      (foldP (schema_Differ_s1_e n x_5 x_6) (schema_Differ_s1_y n x_5 x_6) (propsD d0) (0 : Int)).bind fun b_7 =>
      (match b_7 with 
      | .inl y_2 => some ((y_2, (0 : Int))) 
      | .inr y_3 => some (((3 : Int), (0 : Int))))
set_option maxHeartbeats 2000000 in
theorem schema_Differ_ok (n : Nat) (M : Mem) (hG : GL M) (d0 : List UInt8) (A1 : Option Addr) (cap1 : Nat) (d1 : List T_api_Given) (h1 : Sli M 8 emb_T_api_Given A1 cap1 d1) (A2 : Option Addr) (cap2 : Nat) (d2 : List T_api_Given) (h2 : Sli M 8 emb_T_api_Given A2 cap2 d2) (r : Int × Int) (hF : schema_Differ n d0 d1 d2 = some r) : Ok Tryz.prog M 35 [S d0, .slice A1 d1.length cap1, .slice A2 d2.length cap2] (fun _ v => v = .tuple #[.int .i8 r.1, .int .i64 r.2]) := by
 unfold schema_Differ at hF
 intro M1 hM0 w0 H w p0
 replace hG := GL.mono hM0 hG
 replace h1 := h1.mono hM0
 replace h2 := h2.mono hM0
 refine R_enter 78 Tryz.func35 rfl rfl (by simp) fun a0 f0 => ?_
 refine R_seq (R_reg ?_)
 refine Y19 f0 2 fun _ f => ?_
 refine W_end rfl (T_n (R_seq (R_seq (R_reg ?_))))
 refine Y19 f 2 fun _ f => ?_
 obtain ⟨x_1, hx_1, hF_1⟩ := bS hF
 refine Y18 f p0 (schema_Check_ok n _ hG d0 A1 cap1 d1 h1 x_1 hx_1) fun w_1 p_1 _ f => ?_
 refine Y19 f 2 fun _ f => ?_
 obtain ⟨x_2, hx_2, hF_2⟩ := bS hF_1
 refine Y18 f p_1 (schema_Check_ok n _ hG d0 A2 cap2 d2 h2 x_2 hx_2) fun w_2 p_2 _ f => ?_
 refine V_allocS (k := 2) (c := 2) f p_2 (.cells #[.int .i64 x_1, .int .i64 x_2] 28 (0, 0)) (by kernel_rfl) (fun _ => by kernel_rfl) fun b_1 w_3 p_3 _ f => ?_
 have hr_1 : RepSeq M1 ([x_1, x_2].map (Dat.int .i64)) [.int .i64 x_1, .int .i64 x_2] := ⟨_, _, rfl, rfl, ⟨_, _, rfl, rfl, rfl⟩⟩
 have p_4 : Hp w0 M1 ((Ent.row 28 1 (.slice (some ⟨b_1, 0, none⟩) 2 2) [x_1, x_2].length [.int .i64 x_1, .int .i64 x_2]) :: H) w_3 := p_3.objRow (n := 2) (cap := 2) (size := 1) (by decide) (by decide) rfl rfl rfl
 obtain ⟨M_1, A_1, cap_1, hM_1, hv_1, p_5, h_1, hb_1⟩ := p_4.lend (f := (Dat.int .i64)) (xs := [x_1, x_2]) (szd_int .i64) hr_1
 have f := Frm.set f 24 (v := .slice (some ⟨b_1, 0, none⟩) 2 2) (v' := .slice A_1 [x_1, x_2].length cap_1) (by kernel_rfl) (hv_1)
 obtain ⟨x_3, hx_3, hF_3⟩ := bS hF_2
 refine Y18 f p_5 (cmp_Or_2_ok n _ (GL.mono hM_1 hG) A_1 cap_1 [x_1, x_2] h_1 x_3 hx_3) fun w_4 p_6 _ f => ?_
 obtain ⟨M_2, hM_2, p_7⟩ := hb_1 _ _ _ (mR _) p_6
 have f := Frm.set f 24 (v := .slice A_1 [x_1, x_2].length cap_1) (v' := .slice (some ⟨b_1, 0, none⟩) 2 2) (by kernel_rfl) (hv_1.symm)
 refine Y19 f 1 fun _ f => ?_
 refine W_end rfl (T_n (R_seq (R_reg ?_)))
 refine Y19 f 2 fun _ f => ?_
 refine W_end rfl (T_n ?_)
 refine Y6 f (b := !(decide (x_3 = 0))) (fun h_2 => ?_) fun h_2 => ?_
 ·have k_1 : ¬ (x_3 = 0) := (not_iff dI).1 h_2
  have hF_4 := cnd_t h_2 hF_3
  refine R_seq (R_reg ?_)
  refine Y19 f 3 fun _ f => ?_
  refine W_end rfl (T_n (wp_ret (T_r ?_)))
  refine E_ret2 f rfl (by kernel_rfl : Vc.look _ 6 = some (.int .i8 0)) (by kernel_rfl : Vc.look _ 7 = some (.int .i64 x_3)) ?_
  obtain rfl := sI hF_4
  exact ⟨_, rfl, M_2, hM_2, (p_7.dropN 1), rfl⟩
 ·have k_2 : ¬ (¬ (x_3 = 0)) := iff_f (not_iff dI) h_2
  have hF_5 := cnd_f h_2 hF_3
  refine wp_skip (T_n (R_seq (R_seq (R_reg ?_))))
  refine Y19 f 1 fun _ f => ?_
  obtain ⟨x_4, hx_4, hF_6⟩ := bS hF_5
  refine Y18 f p_7 (slices_ContainsFuncapi_Given_api_Given_ok n _ (GL.mono hM_2 hG) A1 cap1 d1 (h1.mono hM_2) x_4 hx_4) fun w_5 p_8 _ f => ?_
  refine W_end rfl (T_n ?_)
  refine Y6 f (b := x_4) (fun h_3 => ?_) fun h_3 => ?_
  ·have hF_7 := cnd_t h_3 hF_6
   refine R_seq (R_reg ?_)
   refine Y19 f 2 fun _ f => ?_
   refine W_end rfl (T_n (wp_ret (T_r ?_)))
   refine E_ret2 f rfl (by kernel_rfl : Vc.look _ 6 = some (.int .i8 0)) (by kernel_rfl : Vc.look _ 7 = some (.int .i64 91)) ?_
   obtain rfl := sI hF_7
   exact ⟨_, rfl, M_2, hM_2, (p_8.dropN 1), rfl⟩
  ·have hF_8 := cnd_f h_3 hF_6
   refine wp_skip (T_n (R_seq (R_reg ?_)))
   refine Y19 f 1 fun _ f => ?_
   obtain ⟨x_5, hx_5, hF_9⟩ := bS hF_8
   refine Y16 f p_8 (schema_byName_ok n _ (GL.mono hM_2 hG) A1 cap1 d1 (h1.mono hM_2) x_5 hx_5) fun _ M_3 w_6 hM_3 p_9 q_1 _ f => ?_
   obtain ⟨bk_1, m_1, rfl, h0_1, hm_1⟩ := q_1
   refine Y19 f 1 fun _ f => ?_
   obtain ⟨x_6, hx_6, hF_10⟩ := bS hF_9
   refine Y16 f p_9 (schema_byName_ok n _ (GL.mono (hM_2.trans hM_3) hG) A2 cap2 d2 (h2.mono (hM_2.trans hM_3)) x_6 hx_6) fun _ M_4 w_7 hM_4 p_10 q_2 _ f => ?_
   obtain ⟨bk_2, m_2, rfl, h0_2, hm_2⟩ := q_2
   refine Y19 f 2 fun _ f => ?_
   refine W_end rfl (T_n (R_seq (R_reg ?_)))
   refine Y19 f 1 fun _ f => ?_
   refine W_end rfl (T_n (R_seq (R_seq (R_reg ?_))))
   refine Y16 f p_10 (all_ok _) fun _ M_5 w_8 hM_5 p_11 q_3 _ f => ?_
   obtain ⟨b_2, b_3, b_4, b_5, b_6, rfl, hA_1⟩ := q_3
   refine Y19 f 1 fun _ f => ?_
   refine Y14 (v := .map (blkOf b_3 b_4 b_5 b_6 d0)) f (X_all1 (k := d0) (kt := 9) (et := 90) hA_1 p_11 rfl (by kernel_rfl) (by kernel_rfl) (by kernel_rfl) (strKey (by kernel_rfl)) (by kernel_rfl)) fun _ f => ?_
   refine W_rangeM (kt := 9) (et := 64) (kmap_of hA_1 d0) f p_11 (by kernel_rfl) (by kernel_rfl) rfl rfl rfl (by kernel_rfl) (by kernel_rfl) fun r_1 w_9 p_12 _ f => ?_
   refine W_end rfl (T_n (wp_block ?_))
   obtain ⟨b_7, hL_1, hF_11⟩ := bS hF_10
   refine wp_mono (Q := fun e a w => (e = .exit 0 ∧ (∃ y_2 : Int, b_7 = .inl y_2 ∧ ∃ M_8 : Mem, M_5.le M_8 ∧ Frm 78 [(11, .int .i8 y_2)] a ∧ Hp w0 M_8 ((Ent.row 28 1 (.slice (some ⟨b_1, 0, none⟩) 2 2) [x_1, x_2].length [.int .i64 x_1, .int .i64 x_2]) :: H) w)) ∨ (e = .ret ∧ (∃ y_3 : Unit, b_7 = .inr y_3 ∧ ∃ M_9 : Mem, M_5.le M_9 ∧ Frm 78 [(6, .int .i8 3), (7, .int .i64 0)] a ∧ Hp w0 M_9 ((Ent.row 28 1 (.slice (some ⟨b_1, 0, none⟩) 2 2) [x_1, x_2].length [.int .i64 x_1, .int .i64 x_2]) :: H) w))) (R_loop (n := 78) (w0 := w0) (M := M_5) (fun (x : Int × (Array Nat)) => match x with | (s_1, sn_1) => [(9, .map (some bk_1)), (10, .map (some bk_2)), (11, .int .i8 s_1), (38, .pointer (some (⟨r_1, 0, none⟩)))]) (fun (x : Int × (Array Nat)) => match x with | (s_1, sn_1) => ((Ent.obj r_1 (.mapIter (blkOf b_3 b_4 b_5 b_6 d0) (propsD d0).length sn_1 (propsD d0).length)) :: (Ent.row 28 1 (.slice (some ⟨b_1, 0, none⟩) 2 2) [x_1, x_2].length [.int .i64 x_1, .int .i64 x_2]) :: H)) (fun (x : Int × (Array Nat)) (MM : Mem) => match x with | (s_1, sn_1) => (∀ l, l.Perm (leftD (propsD d0) sn_1) → foldO (schema_Differ_s1_e n x_5 x_6) (schema_Differ_s1_y n x_5 x_6) l s_1 = some b_7)) (fun (x : Int × (Array Nat)) => match x with | (s_1, sn_1) => (leftD (propsD d0) sn_1).length) ((0 : Int), #[]) (f.keep (ks := [9, 10, 11, 38]) (by kernel_rfl)) p_12 (foldP_start hL_1) ?_) ?_
   ·rintro ⟨s_1, sn_1⟩ M_6 _ w_10 hM_6 I_1 f p_13
    have I_1L := I_1
    refine R_seq (R_reg ?_)
    refine W_nextM (kmap_of (hA_1.mono hM_6) d0) f p_13 (by kernel_rfl) (by kernel_rfl) rfl rfl rfl (by kernel_rfl) (fun ho_1 w_11 p_14 _ f => ?_) fun pv_1 j_1 hj_1 w_12 p_15 _ f => ?_
    ·obtain ⟨r_2, hs_1, hn_1⟩ := foldO_end I_1L ho_1
     unfold schema_Differ_s1_e at hs_1
     refine Y19 f 1 fun _ f => ?_
     refine W_end rfl (T_n (R_seq ?_))
     refine Y7 f ?_
     refine wp_exit (T_x (T_x ?_))
     obtain rfl := sI hs_1
     exact .inl ⟨rfl, s_1, (sI hn_1).symm, M_6, hM_6, f.keep (ks := [11]) (by kernel_rfl), (p_14.dropN 1)⟩
    ·obtain ⟨r_2, hs_1, hn_1⟩ := foldO_go hj_1 I_1L
     unfold schema_Differ_s1_y at hs_1
     refine Y19 f 1 fun _ f => ?_
     refine W_end rfl (T_n (R_seq ?_))
     refine Y8 f ?_
     refine wp_skip (T_n (wp_block (R_seq (R_reg ?_))))
     refine Y14 (v := .tuple #[S pv_1.1, .agg #[S pv_1.2.fName, .int .i8 pv_1.2.fKind, .bool pv_1.2.fReplace]]) f (X_entryM (m := propsD d0) (kmap_of (hA_1.mono hM_6) d0) p_15 hj_1 0 rfl rfl (by kernel_rfl)) fun _ f => ?_
     refine Y19 f 2 fun _ f => ?_
     refine Y12 f p_15 (.cells #[S [], .int .i8 0, .bool false] 64 (0, 0)) fun b_8 w_13 p_16 _ f => ?_
     refine Y19 f 1 fun _ f => ?_
     refine Y27 (vs := [S pv_1.2.fName, .int .i8 pv_1.2.fKind, .bool pv_1.2.fReplace]) (j := 0) f p_16 rfl rfl (by simp [Value.oneCell', S]) (by simp) (by decide) (cs' := #[S pv_1.2.fName, .int .i8 pv_1.2.fKind, .bool pv_1.2.fReplace]) fun w_14 p_17 _ f => ?_
     refine W_end rfl (T_n (R_seq (R_reg ?_)))
     refine Y19 f 2 fun _ f => ?_
     obtain ⟨c_1, hc_1, hr_2⟩ := RepMap.get (k := pv_1.1) (z := z_T_api_Given) (zc := [S [], .bool false, .int .i8 0, .bool false, .int .i64 0, S [], .slice none 0 0, .slice none 0 0]) (T_api_Given.shutx (x := z_T_api_Given) Sli.nil Sli.nil) (hm_1.mono ((hM_4.trans hM_5).trans hM_6))
     obtain ⟨A_2, cap_2, A_3, cap_3, rfl, h_4, h_5⟩ := T_api_Given.opn hr_2
     refine Y14 (v := .tuple #[.agg #[S ((mget x_5 pv_1.1).getD z_T_api_Given).fName, .bool ((mget x_5 pv_1.1).getD z_T_api_Given).fUnknown, .int .i8 ((mget x_5 pv_1.1).getD z_T_api_Given).fV.fKind, .bool ((mget x_5 pv_1.1).getD z_T_api_Given).fV.fBool, .int .i64 ((mget x_5 pv_1.1).getD z_T_api_Given).fV.fNum, S ((mget x_5 pv_1.1).getD z_T_api_Given).fV.fText, .slice A_2 ((mget x_5 pv_1.1).getD z_T_api_Given).fV.fList.length cap_2, .slice A_3 ((mget x_5 pv_1.1).getD z_T_api_Given).fV.fKeys.length cap_3], .bool (mget x_5 pv_1.1).isSome]) f (X_lookupR2 (ek := S) (kt := 9) (et := 78) hc_1 (RepMap.isSome (hm_1.mono ((hM_4.trans hM_5).trans hM_6))) rfl (by kernel_rfl) (by kernel_rfl) (by kernel_rfl) (strKey (by kernel_rfl)) (by kernel_rfl) (p_17.mem _ _ (((hM_4.trans hM_5).trans hM_6) _ _ h0_1))) fun _ f => ?_
     refine Y19 f 3 fun _ f => ?_
     refine Y12 f p_17 (.cells #[S [], .bool false, .int .i8 0, .bool false, .int .i64 0, S [], .slice none 0 0, .slice none 0 0] 78 (0, 0)) fun b_9 w_15 p_18 _ f => ?_
     refine Y27 (vs := [S ((mget x_5 pv_1.1).getD z_T_api_Given).fName, .bool ((mget x_5 pv_1.1).getD z_T_api_Given).fUnknown, .int .i8 ((mget x_5 pv_1.1).getD z_T_api_Given).fV.fKind, .bool ((mget x_5 pv_1.1).getD z_T_api_Given).fV.fBool, .int .i64 ((mget x_5 pv_1.1).getD z_T_api_Given).fV.fNum, S ((mget x_5 pv_1.1).getD z_T_api_Given).fV.fText, .slice A_2 ((mget x_5 pv_1.1).getD z_T_api_Given).fV.fList.length cap_2, .slice A_3 ((mget x_5 pv_1.1).getD z_T_api_Given).fV.fKeys.length cap_3]) (j := 0) f p_18 rfl rfl (by simp [Value.oneCell', S]) (by simp) (by decide) (cs' := #[S ((mget x_5 pv_1.1).getD z_T_api_Given).fName, .bool ((mget x_5 pv_1.1).getD z_T_api_Given).fUnknown, .int .i8 ((mget x_5 pv_1.1).getD z_T_api_Given).fV.fKind, .bool ((mget x_5 pv_1.1).getD z_T_api_Given).fV.fBool, .int .i64 ((mget x_5 pv_1.1).getD z_T_api_Given).fV.fNum, S ((mget x_5 pv_1.1).getD z_T_api_Given).fV.fText, .slice A_2 ((mget x_5 pv_1.1).getD z_T_api_Given).fV.fList.length cap_2, .slice A_3 ((mget x_5 pv_1.1).getD z_T_api_Given).fV.fKeys.length cap_3]) fun w_16 p_19 _ f => ?_
     refine Y19 f 1 fun _ f => ?_
     refine W_end rfl (T_n (R_seq (R_reg ?_)))
     refine Y19 f 2 fun _ f => ?_
     obtain ⟨c_2, hc_2, hr_3⟩ := RepMap.get (k := pv_1.1) (z := z_T_api_Given) (zc := [S [], .bool false, .int .i8 0, .bool false, .int .i64 0, S [], .slice none 0 0, .slice none 0 0]) (T_api_Given.shutx (x := z_T_api_Given) Sli.nil Sli.nil) (hm_2.mono (hM_5.trans hM_6))
     obtain ⟨A_4, cap_4, A_5, cap_5, rfl, h_6, h_7⟩ := T_api_Given.opn hr_3
     refine Y14 (v := .tuple #[.agg #[S ((mget x_6 pv_1.1).getD z_T_api_Given).fName, .bool ((mget x_6 pv_1.1).getD z_T_api_Given).fUnknown, .int .i8 ((mget x_6 pv_1.1).getD z_T_api_Given).fV.fKind, .bool ((mget x_6 pv_1.1).getD z_T_api_Given).fV.fBool, .int .i64 ((mget x_6 pv_1.1).getD z_T_api_Given).fV.fNum, S ((mget x_6 pv_1.1).getD z_T_api_Given).fV.fText, .slice A_4 ((mget x_6 pv_1.1).getD z_T_api_Given).fV.fList.length cap_4, .slice A_5 ((mget x_6 pv_1.1).getD z_T_api_Given).fV.fKeys.length cap_5], .bool (mget x_6 pv_1.1).isSome]) f (X_lookupR2 (ek := S) (kt := 9) (et := 78) hc_2 (RepMap.isSome (hm_2.mono (hM_5.trans hM_6))) rfl (by kernel_rfl) (by kernel_rfl) (by kernel_rfl) (strKey (by kernel_rfl)) (by kernel_rfl) (p_19.mem _ _ ((hM_5.trans hM_6) _ _ h0_2))) fun _ f => ?_
     refine Y19 f 3 fun _ f => ?_
     refine Y12 f p_19 (.cells #[S [], .bool false, .int .i8 0, .bool false, .int .i64 0, S [], .slice none 0 0, .slice none 0 0] 78 (0, 0)) fun b_10 w_17 p_20 _ f => ?_
     refine Y27 (vs := [S ((mget x_6 pv_1.1).getD z_T_api_Given).fName, .bool ((mget x_6 pv_1.1).getD z_T_api_Given).fUnknown, .int .i8 ((mget x_6 pv_1.1).getD z_T_api_Given).fV.fKind, .bool ((mget x_6 pv_1.1).getD z_T_api_Given).fV.fBool, .int .i64 ((mget x_6 pv_1.1).getD z_T_api_Given).fV.fNum, S ((mget x_6 pv_1.1).getD z_T_api_Given).fV.fText, .slice A_4 ((mget x_6 pv_1.1).getD z_T_api_Given).fV.fList.length cap_4, .slice A_5 ((mget x_6 pv_1.1).getD z_T_api_Given).fV.fKeys.length cap_5]) (j := 0) f p_20 rfl rfl (by simp [Value.oneCell', S]) (by simp) (by decide) (cs' := #[S ((mget x_6 pv_1.1).getD z_T_api_Given).fName, .bool ((mget x_6 pv_1.1).getD z_T_api_Given).fUnknown, .int .i8 ((mget x_6 pv_1.1).getD z_T_api_Given).fV.fKind, .bool ((mget x_6 pv_1.1).getD z_T_api_Given).fV.fBool, .int .i64 ((mget x_6 pv_1.1).getD z_T_api_Given).fV.fNum, S ((mget x_6 pv_1.1).getD z_T_api_Given).fV.fText, .slice A_4 ((mget x_6 pv_1.1).getD z_T_api_Given).fV.fList.length cap_4, .slice A_5 ((mget x_6 pv_1.1).getD z_T_api_Given).fV.fKeys.length cap_5]) fun w_18 p_21 _ f => ?_
     refine Y19 f 1 fun _ f => ?_
     refine W_end rfl (T_n (R_seq (R_seq ?_)))
     obtain ⟨j_2, hj_2, hF_12⟩ := bS hs_1
     refine R_mid (fun a_60 w_20 => ∃ y_1 : Bool, j_2 = y_1 ∧ ∃ M_7 : Mem, M_6.le M_7 ∧ Frm 78 [(9, .map (some bk_1)), (10, .map (some bk_2)), (11, .int .i8 s_1), (13, .pointer (some (⟨b_8, 0, none⟩))), (38, .pointer (some (⟨r_1, 0, none⟩))), (74, .bool y_1)] a_60 ∧ Hp w0 M_7 ((Ent.obj b_10 (.cells #[S ((mget x_6 pv_1.1).getD z_T_api_Given).fName, .bool ((mget x_6 pv_1.1).getD z_T_api_Given).fUnknown, .int .i8 ((mget x_6 pv_1.1).getD z_T_api_Given).fV.fKind, .bool ((mget x_6 pv_1.1).getD z_T_api_Given).fV.fBool, .int .i64 ((mget x_6 pv_1.1).getD z_T_api_Given).fV.fNum, S ((mget x_6 pv_1.1).getD z_T_api_Given).fV.fText, .slice A_4 ((mget x_6 pv_1.1).getD z_T_api_Given).fV.fList.length cap_4, .slice A_5 ((mget x_6 pv_1.1).getD z_T_api_Given).fV.fKeys.length cap_5] 78 (0, 0))) :: (Ent.obj b_9 (.cells #[S ((mget x_5 pv_1.1).getD z_T_api_Given).fName, .bool ((mget x_5 pv_1.1).getD z_T_api_Given).fUnknown, .int .i8 ((mget x_5 pv_1.1).getD z_T_api_Given).fV.fKind, .bool ((mget x_5 pv_1.1).getD z_T_api_Given).fV.fBool, .int .i64 ((mget x_5 pv_1.1).getD z_T_api_Given).fV.fNum, S ((mget x_5 pv_1.1).getD z_T_api_Given).fV.fText, .slice A_2 ((mget x_5 pv_1.1).getD z_T_api_Given).fV.fList.length cap_2, .slice A_3 ((mget x_5 pv_1.1).getD z_T_api_Given).fV.fKeys.length cap_3] 78 (0, 0))) :: (Ent.obj b_8 (.cells #[S pv_1.2.fName, .int .i8 pv_1.2.fKind, .bool pv_1.2.fReplace] 64 (0, 0))) :: (Ent.obj r_1 (.mapIter (blkOf b_3 b_4 b_5 b_6 d0) (propsD d0).length (sn_1.push j_1) (propsD d0).length)) :: (Ent.row 28 1 (.slice (some ⟨b_1, 0, none⟩) 2 2) [x_1, x_2].length [.int .i64 x_1, .int .i64 x_2]) :: H) w_20) ?_ ?_
     ·refine R_reg ?_
      refine Y19 f 4 fun _ f => ?_
      rcases bE ((mget x_5 pv_1.1).isSome == (mget x_6 pv_1.1).isSome) with h_8 | h_8
      ·have hF_13 := cnd_t h_8 hj_2
       have f := Frm.set f 59 (v := .bool ((mget x_5 pv_1.1).isSome == (mget x_6 pv_1.1).isSome)) (v' := .bool true) (by kernel_rfl) (cB h_8)
       refine Y19 f 1 fun _ f => ?_
       refine Y14 (v := .bool ((mget x_6 pv_1.1).getD z_T_api_Given).fUnknown) f (Y32 (v := .bool ((mget x_6 pv_1.1).getD z_T_api_Given).fUnknown) rfl (ad := ⟨b_10, 1, none⟩) (p_21.ownCell 0 rfl 1)) fun _ f => ?_
       refine Y19 f 3 fun _ f => ?_
       rcases bE (!((mget x_6 pv_1.1).getD z_T_api_Given).fUnknown) with h_9 | h_9
       ·have k_6 : (((mget x_6 pv_1.1).getD z_T_api_Given).fUnknown) = false := by simpa using h_9
        have hF_14 := cnd_t h_9 hF_13
        have f := Frm.set f 64 (v := .bool (!((mget x_6 pv_1.1).getD z_T_api_Given).fUnknown)) (v' := .bool true) (by kernel_rfl) (cB h_9)
        refine Y19 f 3 fun _ f => ?_
        rcases bE (!(mget x_5 pv_1.1).isSome) with h_10 | h_10
        ·have k_7 : ((mget x_5 pv_1.1).isSome) = false := by simpa using h_10
         have hF_15 := cnd_t h_10 hF_14
         have f := Frm.set f 67 (v := .bool (!(mget x_5 pv_1.1).isSome)) (v' := .bool true) (by kernel_rfl) (cB h_10)
         refine Y19 f 7 fun _ f => ?_
         refine W_end rfl (T_n ?_)
         exact ⟨(true), (sI hF_15).symm, M_6, (mR _), f.keep (ks := [9, 10, 11, 13, 38, 74]) (by kernel_rfl), p_21⟩
        ·have k_8 : ((mget x_5 pv_1.1).isSome) = true := by simpa using h_10
         have hF_16 := cnd_f h_10 hF_14
         have f := Frm.set f 67 (v := .bool (!(mget x_5 pv_1.1).isSome)) (v' := .bool false) (by kernel_rfl) (cB h_10)
         refine Y19 f 1 fun _ f => ?_
         refine Y14 (v := .agg #[.int .i8 ((mget x_5 pv_1.1).getD z_T_api_Given).fV.fKind, .bool ((mget x_5 pv_1.1).getD z_T_api_Given).fV.fBool, .int .i64 ((mget x_5 pv_1.1).getD z_T_api_Given).fV.fNum, S ((mget x_5 pv_1.1).getD z_T_api_Given).fV.fText, .slice A_2 ((mget x_5 pv_1.1).getD z_T_api_Given).fV.fList.length cap_2, .slice A_3 ((mget x_5 pv_1.1).getD z_T_api_Given).fV.fKeys.length cap_3]) f (Y33 (cs := [.int .i8 ((mget x_5 pv_1.1).getD z_T_api_Given).fV.fKind, .bool ((mget x_5 pv_1.1).getD z_T_api_Given).fV.fBool, .int .i64 ((mget x_5 pv_1.1).getD z_T_api_Given).fV.fNum, S ((mget x_5 pv_1.1).getD z_T_api_Given).fV.fText, .slice A_2 ((mget x_5 pv_1.1).getD z_T_api_Given).fV.fList.length cap_2, .slice A_3 ((mget x_5 pv_1.1).getD z_T_api_Given).fV.fKeys.length cap_3]) rfl (ad := ⟨b_9, 2, none⟩) (own_cells (p_21.ownCell 1 rfl) 2 rfl)) fun _ f => ?_
         refine Y19 f 1 fun _ f => ?_
         refine Y14 (v := .agg #[.int .i8 ((mget x_6 pv_1.1).getD z_T_api_Given).fV.fKind, .bool ((mget x_6 pv_1.1).getD z_T_api_Given).fV.fBool, .int .i64 ((mget x_6 pv_1.1).getD z_T_api_Given).fV.fNum, S ((mget x_6 pv_1.1).getD z_T_api_Given).fV.fText, .slice A_4 ((mget x_6 pv_1.1).getD z_T_api_Given).fV.fList.length cap_4, .slice A_5 ((mget x_6 pv_1.1).getD z_T_api_Given).fV.fKeys.length cap_5]) f (Y33 (cs := [.int .i8 ((mget x_6 pv_1.1).getD z_T_api_Given).fV.fKind, .bool ((mget x_6 pv_1.1).getD z_T_api_Given).fV.fBool, .int .i64 ((mget x_6 pv_1.1).getD z_T_api_Given).fV.fNum, S ((mget x_6 pv_1.1).getD z_T_api_Given).fV.fText, .slice A_4 ((mget x_6 pv_1.1).getD z_T_api_Given).fV.fList.length cap_4, .slice A_5 ((mget x_6 pv_1.1).getD z_T_api_Given).fV.fKeys.length cap_5]) rfl (ad := ⟨b_10, 2, none⟩) (own_cells (p_21.ownCell 0 rfl) 2 rfl)) fun _ f => ?_
         obtain ⟨x_7, hx_7, hF_17⟩ := bS hF_16
         refine Y18 f p_21 (tree_Equal_ok n _ (GL.mono ((((hM_2.trans hM_3).trans hM_4).trans hM_5).trans hM_6) hG) _ (⟨((mget x_5 pv_1.1).getD z_T_api_Given).fV.fKind, (((mget x_5 pv_1.1).getD z_T_api_Given).fV.fBool), ((mget x_5 pv_1.1).getD z_T_api_Given).fV.fNum, ((mget x_5 pv_1.1).getD z_T_api_Given).fV.fText, ((mget x_5 pv_1.1).getD z_T_api_Given).fV.fList, ((mget x_5 pv_1.1).getD z_T_api_Given).fV.fKeys⟩ : T_api_Value) (T_api_Value.shut h_4 h_5) _ (⟨((mget x_6 pv_1.1).getD z_T_api_Given).fV.fKind, (((mget x_6 pv_1.1).getD z_T_api_Given).fV.fBool), ((mget x_6 pv_1.1).getD z_T_api_Given).fV.fNum, ((mget x_6 pv_1.1).getD z_T_api_Given).fV.fText, ((mget x_6 pv_1.1).getD z_T_api_Given).fV.fList, ((mget x_6 pv_1.1).getD z_T_api_Given).fV.fKeys⟩ : T_api_Value) (T_api_Value.shut h_6 h_7) x_7 hx_7) fun w_19 p_22 _ f => ?_
         refine Y19 f 2 fun _ f => ?_
         refine W_end rfl (T_n ?_)
         exact ⟨(x_7), (sI hF_17).symm, M_6, (mR _), f.keep (ks := [9, 10, 11, 13, 38, 74]) (by kernel_rfl), p_22⟩
       ·have k_9 : (((mget x_6 pv_1.1).getD z_T_api_Given).fUnknown) = true := by simpa using h_9
        have hF_18 := cnd_f h_9 hF_13
        have f := Frm.set f 64 (v := .bool (!((mget x_6 pv_1.1).getD z_T_api_Given).fUnknown)) (v' := .bool false) (by kernel_rfl) (cB h_9)
        refine Y19 f 10 fun _ f => ?_
        refine W_end rfl (T_n ?_)
        exact ⟨(false), (sI hF_18).symm, M_6, (mR _), f.keep (ks := [9, 10, 11, 13, 38, 74]) (by kernel_rfl), p_21⟩
      ·have hF_19 := cnd_f h_8 hj_2
       have f := Frm.set f 59 (v := .bool ((mget x_5 pv_1.1).isSome == (mget x_6 pv_1.1).isSome)) (v' := .bool false) (by kernel_rfl) (cB h_8)
       refine Y19 f 15 fun _ f => ?_
       refine W_end rfl (T_n ?_)
       exact ⟨(false), (sI hF_19).symm, M_6, (mR _), f.keep (ks := [9, 10, 11, 13, 38, 74]) (by kernel_rfl), p_21⟩
     ·rintro a_60 w_20 ⟨y_1, hq_1, M_7, hM_7, f, p_23⟩
      subst j_2
      refine T_n ?_
      refine Y6 f (b := y_1) (fun h_11 => ?_) fun h_11 => ?_
      ·have hF_20 := cnd_t h_11 hF_12
       refine wp_exit (T_x (B_x (T_n ?_)))
       obtain rfl := sI hF_20
       exact ⟨⟨s_1, sn_1.push j_1⟩, leftD_lt hj_1, M_7, (hM_6.trans hM_7), hn_1, f.keep (ks := [9, 10, 11, 38]) (by kernel_rfl), (p_23.dropN 3)⟩
      ·have hF_21 := cnd_f h_11 hF_12
       refine wp_skip (T_n (R_seq (R_seq (R_reg ?_))))
       refine Y19 f 1 fun _ f => ?_
       refine Y14 (v := .bool pv_1.2.fReplace) f (Y32 (v := .bool pv_1.2.fReplace) rfl (ad := ⟨b_8, 2, none⟩) (p_23.ownCell 2 rfl 2)) fun _ f => ?_
       refine W_end rfl (T_n ?_)
       refine Y6 f (b := pv_1.2.fReplace) (fun h_12 => ?_) fun h_12 => ?_
       ·have hF_22 := cnd_t h_12 hF_21
        refine R_seq (R_reg ?_)
        refine Y19 f 2 fun _ f => ?_
        refine W_end rfl (T_n (wp_ret (T_r (B_r (T_r ?_)))))
        obtain rfl := sI hF_22
        exact .inr ⟨rfl, (), (sI hn_1).symm, M_7, (hM_6.trans hM_7), f.keep (ks := [6, 7]) (by kernel_rfl), (p_23.dropN 4)⟩
       ·have hF_23 := cnd_f h_12 hF_21
        refine wp_skip (T_n (R_reg ?_))
        refine Y19 f 1 fun _ f => ?_
        refine W_end rfl (B_n (T_n ?_))
        obtain rfl := sI hF_23
        exact ⟨⟨(2 : Int), sn_1.push j_1⟩, leftD_lt hj_1, M_7, (hM_6.trans hM_7), hn_1, f.keep (ks := [9, 10, 11, 38]) (by kernel_rfl), (p_23.dropN 3)⟩
   ·rintro _ _ w_23 (⟨rfl, y_2, rfl, M_8, hM_8, f, p_24⟩ | ⟨rfl, y_3, rfl, M_9, hM_9, f, p_25⟩)
    ·refine B_x (T_n (R_seq (R_reg ?_)))
     refine Y19 f 3 fun _ f => ?_
     refine W_end rfl (T_n (wp_ret ?_))
     refine E_ret2 f rfl (by kernel_rfl : Vc.look _ 6 = some (.int .i8 y_2)) (by kernel_rfl : Vc.look _ 7 = some (.int .i64 0)) ?_
     obtain rfl := sI hF_11
     exact ⟨_, rfl, M_8, ((((hM_2.trans hM_3).trans hM_4).trans hM_5).trans hM_8), (p_24.dropN 1), rfl⟩
    ·refine B_r (T_r ?_)
     refine E_ret2 f rfl (by kernel_rfl : Vc.look _ 6 = some (.int .i8 3)) (by kernel_rfl : Vc.look _ 7 = some (.int .i64 0)) ?_
     obtain rfl := sI hF_11
     exact ⟨_, rfl, M_9, ((((hM_2.trans hM_3).trans hM_4).trans hM_5).trans hM_9), (p_25.dropN 1), rfl⟩
end Go.Proofs.YtalifkcchfkgmaaGreatDoor
end

section
set_option linter.unusedVariables false
set_option linter.unusedSimpArgs false
namespace Go.Proofs.YtalifkcchfkgmaaGreatDoor
open Go Go.Vc Go.RowKit
def law09_wakes (n : Nat) : Option Bool :=
  (schema_Attr n [68, 105, 115, 107] [112, 55] [65, 114, 110]).bind fun x_1 =>
  (schema_Differ n [68, 105, 115, 107] [(⟨[83, 105, 122, 101], (false), (⟨(2 : Int), (false), (1 : Int), ([] : List UInt8), ([] : List T_api_Value), ([] : List (List UInt8))⟩ : T_api_Value)⟩ : T_api_Given)] [(⟨[83, 105, 122, 101], (false), (⟨(2 : Int), (false), (2 : Int), ([] : List UInt8), ([] : List T_api_Value), ([] : List (List UInt8))⟩ : T_api_Value)⟩ : T_api_Given)]).bind fun x_2 =>
  bif (decide (x_1.2 = 0)) then
    (bif (decide (x_1.1 = [68, 105, 115, 107, 58, 112, 55])) then
      (bif (decide (x_2.2 = 0)) then
        (bif (decide (x_2.1 = 2)) then
          ((schema_Types n).bind fun x_3 =>
          some ((decide (((x_3.length : Nat) : Int) = 4))))
        else
          some ((false)))
      else
        some ((false)))
    else
      some ((false)))
  else
    some ((false))
set_option maxHeartbeats 2000000 in
theorem law09_wakes_ok (n : Nat) (M : Mem) (hG : GL M) (r : Bool) (hF : law09_wakes n = some r) : Ok Tryz.prog M 25 [] (fun _ v => v = .bool r) := by
 unfold law09_wakes at hF
 intro M1 hM0 w0 H w p0
 replace hG := GL.mono hM0 hG
 refine R_enter 42 Tryz.func25 rfl rfl (by simp) fun a0 f0 => ?_
 refine R_seq (R_reg ?_)
 refine Y19 f0 1 fun _ f => ?_
 refine W_end rfl (T_n (R_seq (R_reg ?_)))
 obtain ⟨x_1, hx_1, hF_1⟩ := bS hF
 refine Y18 f p0 (schema_Attr_ok n _ hG [68, 105, 115, 107] [112, 55] [65, 114, 110] x_1 hx_1) fun w_1 p_1 _ f => ?_
 refine Y19 f 5 fun _ f => ?_
 refine W_end rfl (T_n (R_seq (R_reg ?_)))
 refine Y19 f 2 fun _ f => ?_
 refine V_allocS (k := 1) (c := 1) f p_1 (.cells #[S [83, 105, 122, 101], .bool false, .int .i8 2, .bool false, .int .i64 1, S [], .slice none 0 0, .slice none 0 0] 78 (0, 0)) (by kernel_rfl) (fun _ => by kernel_rfl) fun b_1 w_2 p_2 _ f => ?_
 refine Y19 f 1 fun _ f => ?_
 refine W_end rfl (T_n (R_seq (R_reg ?_)))
 refine Y19 f 2 fun _ f => ?_
 refine V_allocS (k := 1) (c := 1) f p_2 (.cells #[S [83, 105, 122, 101], .bool false, .int .i8 2, .bool false, .int .i64 2, S [], .slice none 0 0, .slice none 0 0] 78 (0, 0)) (by kernel_rfl) (fun _ => by kernel_rfl) fun b_2 w_3 p_3 _ f => ?_
 refine Y19 f 1 fun _ f => ?_
 refine W_end rfl (T_n (R_seq (R_reg ?_)))
 refine Y19 f 2 fun _ f => ?_
 have p_4 := p_3.pl [1]
 have hr_1 : RepSeq M1 ([(⟨[83, 105, 122, 101], (false), (⟨(2 : Int), (false), (1 : Int), ([] : List UInt8), ([] : List T_api_Value), ([] : List (List UInt8))⟩ : T_api_Value)⟩ : T_api_Given)].map emb_T_api_Given) [S [83, 105, 122, 101], .bool false, .int .i8 2, .bool false, .int .i64 1, S [], .slice none 0 0, .slice none 0 0] := ⟨_, _, rfl, T_api_Given.shut Sli.nil Sli.nil, rfl⟩
 have p_5 : Hp w0 M1 ((Ent.row 78 8 (.slice (some ⟨b_1, 0, none⟩) 1 1) [(⟨[83, 105, 122, 101], (false), (⟨(2 : Int), (false), (1 : Int), ([] : List UInt8), ([] : List T_api_Value), ([] : List (List UInt8))⟩ : T_api_Value)⟩ : T_api_Given)].length [S [83, 105, 122, 101], .bool false, .int .i8 2, .bool false, .int .i64 1, S [], .slice none 0 0, .slice none 0 0]) :: (Ent.obj b_2 (.cells #[S [83, 105, 122, 101], .bool false, .int .i8 2, .bool false, .int .i64 2, S [], .slice none 0 0, .slice none 0 0] 78 (0, 0))) :: H) w_3 := p_4.objRow (n := 1) (cap := 1) (size := 8) (by decide) (by decide) rfl rfl rfl
 obtain ⟨M_1, A_1, cap_1, hM_1, hv_1, p_6, h_1, hb_1⟩ := p_5.lend (f := emb_T_api_Given) (xs := [(⟨[83, 105, 122, 101], (false), (⟨(2 : Int), (false), (1 : Int), ([] : List UInt8), ([] : List T_api_Value), ([] : List (List UInt8))⟩ : T_api_Value)⟩ : T_api_Given)]) szd_T_api_Given hr_1
 have f := Frm.set f 18 (v := .slice (some ⟨b_1, 0, none⟩) 1 1) (v' := .slice A_1 [(⟨[83, 105, 122, 101], (false), (⟨(2 : Int), (false), (1 : Int), ([] : List UInt8), ([] : List T_api_Value), ([] : List (List UInt8))⟩ : T_api_Value)⟩ : T_api_Given)].length cap_1) (by kernel_rfl) (hv_1)
 have hr_2 : RepSeq M_1 ([(⟨[83, 105, 122, 101], (false), (⟨(2 : Int), (false), (2 : Int), ([] : List UInt8), ([] : List T_api_Value), ([] : List (List UInt8))⟩ : T_api_Value)⟩ : T_api_Given)].map emb_T_api_Given) [S [83, 105, 122, 101], .bool false, .int .i8 2, .bool false, .int .i64 2, S [], .slice none 0 0, .slice none 0 0] := ⟨_, _, rfl, T_api_Given.shut Sli.nil Sli.nil, rfl⟩
 have p_7 : Hp w0 M_1 ((Ent.row 78 8 (.slice (some ⟨b_2, 0, none⟩) 1 1) [(⟨[83, 105, 122, 101], (false), (⟨(2 : Int), (false), (2 : Int), ([] : List UInt8), ([] : List T_api_Value), ([] : List (List UInt8))⟩ : T_api_Value)⟩ : T_api_Given)].length [S [83, 105, 122, 101], .bool false, .int .i8 2, .bool false, .int .i64 2, S [], .slice none 0 0, .slice none 0 0]) :: H) w_3 := p_6.objRow (n := 1) (cap := 1) (size := 8) (by decide) (by decide) rfl rfl rfl
 obtain ⟨M_2, A_2, cap_2, hM_2, hv_2, p_8, h_2, hb_2⟩ := p_7.lend (f := emb_T_api_Given) (xs := [(⟨[83, 105, 122, 101], (false), (⟨(2 : Int), (false), (2 : Int), ([] : List UInt8), ([] : List T_api_Value), ([] : List (List UInt8))⟩ : T_api_Value)⟩ : T_api_Given)]) szd_T_api_Given hr_2
 have f := Frm.set f 19 (v := .slice (some ⟨b_2, 0, none⟩) 1 1) (v' := .slice A_2 [(⟨[83, 105, 122, 101], (false), (⟨(2 : Int), (false), (2 : Int), ([] : List UInt8), ([] : List T_api_Value), ([] : List (List UInt8))⟩ : T_api_Value)⟩ : T_api_Given)].length cap_2) (by kernel_rfl) (hv_2)
 obtain ⟨x_2, hx_2, hF_2⟩ := bS hF_1
 refine Y18 f p_8 (schema_Differ_ok n _ (GL.mono (hM_1.trans hM_2) hG) [68, 105, 115, 107] A_1 cap_1 [(⟨[83, 105, 122, 101], (false), (⟨(2 : Int), (false), (1 : Int), ([] : List UInt8), ([] : List T_api_Value), ([] : List (List UInt8))⟩ : T_api_Value)⟩ : T_api_Given)] (h_1.mono hM_2) A_2 cap_2 [(⟨[83, 105, 122, 101], (false), (⟨(2 : Int), (false), (2 : Int), ([] : List UInt8), ([] : List T_api_Value), ([] : List (List UInt8))⟩ : T_api_Value)⟩ : T_api_Given)] h_2 x_2 hx_2) fun w_4 p_9 _ f => ?_
 obtain ⟨M_3, hM_3, p_10⟩ := hb_2 _ _ _ (mR _) p_9
 have f := Frm.set f 19 (v := .slice A_2 [(⟨[83, 105, 122, 101], (false), (⟨(2 : Int), (false), (2 : Int), ([] : List UInt8), ([] : List T_api_Value), ([] : List (List UInt8))⟩ : T_api_Value)⟩ : T_api_Given)].length cap_2) (v' := .slice (some ⟨b_2, 0, none⟩) 1 1) (by kernel_rfl) (hv_2.symm)
 obtain ⟨M_4, hM_4, p_11⟩ := hb_1 _ _ _ hM_3 p_10
 have f := Frm.set f 18 (v := .slice A_1 [(⟨[83, 105, 122, 101], (false), (⟨(2 : Int), (false), (1 : Int), ([] : List UInt8), ([] : List T_api_Value), ([] : List (List UInt8))⟩ : T_api_Value)⟩ : T_api_Given)].length cap_1) (v' := .slice (some ⟨b_1, 0, none⟩) 1 1) (by kernel_rfl) (hv_1.symm)
 refine Y19 f 5 fun _ f => ?_
 refine W_end rfl (T_n (R_seq (R_reg ?_)))
 refine Y19 f 3 fun _ f => ?_
 rcases bE (decide (x_1.2 = 0)) with h_3 | h_3
 ·have k_1 : x_1.2 = 0 := dI.1 h_3
  have hF_3 := cnd_t h_3 hF_2
  have f := Frm.set f 25 (v := .bool (decide (x_1.2 = 0))) (v' := .bool true) (by kernel_rfl) (cB h_3)
  refine Y19 f 1 fun _ f => ?_
  refine Y14 (v := .bool (decide (x_1.1 = [68, 105, 115, 107, 58, 112, 55]))) f (Y38 rfl (l := x_1.1) (m := [68, 105, 115, 107, 58, 112, 55])) fun _ f => ?_
  refine Y19 f 2 fun _ f => ?_
  rcases bE (decide (x_1.1 = [68, 105, 115, 107, 58, 112, 55])) with h_4 | h_4
  ·have k_2 : x_1.1 = [68, 105, 115, 107, 58, 112, 55] := dI.1 h_4
   have hF_4 := cnd_t h_4 hF_3
   have f := Frm.set f 29 (v := .bool (decide (x_1.1 = [68, 105, 115, 107, 58, 112, 55]))) (v' := .bool true) (by kernel_rfl) (cB h_4)
   refine Y19 f 4 fun _ f => ?_
   rcases bE (decide (x_2.2 = 0)) with h_5 | h_5
   ·have k_3 : x_2.2 = 0 := dI.1 h_5
    have hF_5 := cnd_t h_5 hF_4
    have f := Frm.set f 33 (v := .bool (decide (x_2.2 = 0))) (v' := .bool true) (by kernel_rfl) (cB h_5)
    refine Y19 f 4 fun _ f => ?_
    rcases bE (decide (x_2.1 = 2)) with h_6 | h_6
    ·have k_4 : x_2.1 = 2 := dI.1 h_6
     have hF_6 := cnd_t h_6 hF_5
     have f := Frm.set f 37 (v := .bool (decide (x_2.1 = 2))) (v' := .bool true) (by kernel_rfl) (cB h_6)
     obtain ⟨x_3, hx_3, hF_7⟩ := bS hF_6
     refine Y16 f p_11 (schema_Types_ok n _ (GL.mono hM_4 hG) x_3 hx_3) fun _ M_5 w_5 hM_5 p_12 q_1 _ f => ?_
     obtain ⟨A_3, cap_3, rfl, h_7⟩ := q_1
     refine Y19 f 4 fun _ f => ?_
     refine W_end rfl (T_n (wp_ret ?_))
     refine E_ret1 f rfl (by kernel_rfl : Vc.look _ 0 = some (.bool (decide (((x_3.length : Nat) : Int) = 4)))) ?_
     obtain rfl := sI hF_7
     exact ⟨_, rfl, M_5, (hM_4.trans hM_5), (p_12.dropN 2), rfl⟩
    ·have k_5 : ¬ (x_2.1 = 2) := iff_f dI h_6
     have hF_8 := cnd_f h_6 hF_5
     have f := Frm.set f 37 (v := .bool (decide (x_2.1 = 2))) (v' := .bool false) (by kernel_rfl) (cB h_6)
     refine Y19 f 5 fun _ f => ?_
     refine W_end rfl (T_n (wp_ret ?_))
     refine E_ret1 f rfl (by kernel_rfl : Vc.look _ 0 = some (.bool false)) ?_
     obtain rfl := sI hF_8
     exact ⟨_, rfl, M_4, hM_4, (p_11.dropN 2), rfl⟩
   ·have k_6 : ¬ (x_2.2 = 0) := iff_f dI h_5
    have hF_9 := cnd_f h_5 hF_4
    have f := Frm.set f 33 (v := .bool (decide (x_2.2 = 0))) (v' := .bool false) (by kernel_rfl) (cB h_5)
    refine Y19 f 9 fun _ f => ?_
    refine W_end rfl (T_n (wp_ret ?_))
    refine E_ret1 f rfl (by kernel_rfl : Vc.look _ 0 = some (.bool false)) ?_
    obtain rfl := sI hF_9
    exact ⟨_, rfl, M_4, hM_4, (p_11.dropN 2), rfl⟩
  ·have k_7 : ¬ (x_1.1 = [68, 105, 115, 107, 58, 112, 55]) := iff_f dI h_4
   have hF_10 := cnd_f h_4 hF_3
   have f := Frm.set f 29 (v := .bool (decide (x_1.1 = [68, 105, 115, 107, 58, 112, 55]))) (v' := .bool false) (by kernel_rfl) (cB h_4)
   refine Y19 f 13 fun _ f => ?_
   refine W_end rfl (T_n (wp_ret ?_))
   refine E_ret1 f rfl (by kernel_rfl : Vc.look _ 0 = some (.bool false)) ?_
   obtain rfl := sI hF_10
   exact ⟨_, rfl, M_4, hM_4, (p_11.dropN 2), rfl⟩
 ·have k_8 : ¬ (x_1.2 = 0) := iff_f dI h_3
  have hF_11 := cnd_f h_3 hF_2
  have f := Frm.set f 25 (v := .bool (decide (x_1.2 = 0))) (v' := .bool false) (by kernel_rfl) (cB h_3)
  refine Y19 f 17 fun _ f => ?_
  refine W_end rfl (T_n (wp_ret ?_))
  refine E_ret1 f rfl (by kernel_rfl : Vc.look _ 0 = some (.bool false)) ?_
  obtain rfl := sI hF_11
  exact ⟨_, rfl, M_4, hM_4, (p_11.dropN 2), rfl⟩
end Go.Proofs.YtalifkcchfkgmaaGreatDoor
end

section
set_option linter.unusedVariables false
set_option linter.unusedSimpArgs false
namespace Go.Proofs.YtalifkcchfkgmaaGreatDoor
open Go Go.Vc Go.RowKit
set_option maxRecDepth 100000 in
theorem wakes_run : law09_wakes 10000 = some true := by decide +kernel
theorem wakes_bind : ((law09_wakes 10000).bind fun x => some x) = some true := by rw [wakes_run, bnd]
end Go.Proofs.YtalifkcchfkgmaaGreatDoor
end

section
set_option linter.unusedVariables false
set_option linter.unusedSimpArgs false
namespace Go.Proofs.YtalifkcchfkgmaaGreatDoor
open Go Go.Vc Go.RowKit
def ref03_weight_s1 (n : Nat) (d0 : T_api_Value) (s_1 : Int × Int) : Option (Lp (Int × Int) Int) :=
    bif (decide (s_1.2 < ((d0.fKeys.length : Nat) : Int))) then
      ((getI d0.fKeys s_1.2).bind fun x_1 =>
      need (inR .i64 (s_1.1 + (min (x_1.length : Int) (10000 : Int)))) <|
      need (inR .i64 (s_1.2 + 1)) <|
      some (.nx (s_1.1 + (min (x_1.length : Int) (10000 : Int)), s_1.2 + 1)))
    else
      some (.br s_1.1)
def ref03_weight_s2 (n : Nat) (rec_ref03_weight : T_api_Value → Int → Option Int) (d0 : T_api_Value) (d1 : Int) (s_2 : Int × Int) : Option (Lp (Int × Int) Int) :=
    ((bif (decide (s_2.2 < ((d0.fList.length : Nat) : Int))) then
        (some ((decide (s_2.1 ≤ 10000))))
      else
        some ((false)) : Option Bool)).bind fun y_3 =>
    bif y_3 then
      ((getI d0.fList s_2.2).bind fun x_2 =>
      need (inR .i64 (d1 - 1)) <|
      (rec_ref03_weight x_2 (d1 - 1)).bind fun x_3 =>
      need (inR .i64 (s_2.1 + x_3)) <|
      need (inR .i64 (s_2.2 + 1)) <|
      some (.nx (s_2.1 + x_3, s_2.2 + 1)))
    else
      some (.br s_2.1)
def ref03_weight_b (n : Nat) (rec_ref03_weight : T_api_Value → Int → Option Int) (d0 : T_api_Value) (d1 : Int) : Option Int :=
  ((bif (decide (d1 = 0)) then
      (some ((true)))
    else
      bif (decide ((3000 : Int) < ((d0.fList.length : Nat) : Int))) then
        (some ((true)))
      else
        some ((decide ((3000 : Int) < ((d0.fKeys.length : Nat) : Int)))) : Option Bool)).bind fun y_1 =>
  bif y_1 then
    (some ((10000 : Int)))
  else
    need (inR .i64 ((1 : Int) + (min (d0.fText.length : Int) (10000 : Int)))) <|
    (loopF (ref03_weight_s1 n d0) n ((1 : Int) + (min (d0.fText.length : Int) (10000 : Int)), (0 : Int))).bind fun y_2 =>
    (loopF (ref03_weight_s2 n rec_ref03_weight d0 d1) n (y_2, (0 : Int))).bind fun y_4 =>
    some (y_4)
set_option maxHeartbeats 2000000 in
theorem ref03_weight_b_ok (n : Nat) (rec_ref03_weight : T_api_Value → Int → Option Int) (hrec_ref03_weight : ∀ (M : Mem) (c0 : List Value) (d0 : T_api_Value) (h0 : Rep M (emb_T_api_Value d0) c0) (d1 : Int) (r : Int) (hF : rec_ref03_weight d0 d1 = some r), Ok Tryz.prog M 78 [.agg c0.toArray, .int .i64 d1] (fun _ v => v = .int .i64 r)) (M : Mem) (c0 : List Value) (d0 : T_api_Value) (h0 : Rep M (emb_T_api_Value d0) c0) (d1 : Int) (r : Int) (hF : ref03_weight_b n rec_ref03_weight d0 d1 = some r) : Ok Tryz.prog M 78 [.agg c0.toArray, .int .i64 d1] (fun _ v => v = .int .i64 r) := by
 unfold ref03_weight_b at hF
 intro M1 hM0 w0 H w p0
 replace h0 := Rep.mono hM0 _ _ h0
 obtain ⟨A_1, cap_1, A_2, cap_2, rfl, h_1, h_2⟩ := T_api_Value.opn h0
 refine R_enter 65 Tryz.func78 rfl rfl (by simp) fun a0 f0 => ?_
 refine R_seq (R_reg ?_)
 refine Y13 (cs := #[.int .i8 d0.fKind, .bool d0.fBool, .int .i64 d0.fNum, S d0.fText, .slice A_1 d0.fList.length cap_1, .slice A_2 d0.fKeys.length cap_2]) (T := 76) f0 p0 fun b_1 M_1 w_1 hM_1 hc_1 p_1 _ f => ?_
 have hc_2 := fz_box hc_1
 refine Y19 f 1 fun _ f => ?_
 refine W_end rfl (T_n (R_seq (R_seq ?_)))
 obtain ⟨j_1, hj_1, hF_1⟩ := bS hF
 refine R_mid (fun a_12 w_2 => ∃ y_1 : Bool, j_1 = y_1 ∧ ∃ M_2 : Mem, M_1.le M_2 ∧ Frm 65 [(1, .int .i64 d1), (2, .pointer (some (⟨b_1, 0, none⟩))), (21, .bool y_1)] a_12 ∧ Hp w0 M_2 (H) w_2) ?_ ?_
 ·refine R_reg ?_
  refine Y19 f 3 fun _ f => ?_
  rcases bE (decide (d1 = 0)) with h_3 | h_3
  ·have k_1 : d1 = 0 := dI.1 h_3
   have hF_2 := cnd_t h_3 hj_1
   have f := Frm.set f 10 (v := .bool (decide (d1 = 0))) (v' := .bool true) (by kernel_rfl) (cB h_3)
   refine Y19 f 11 fun _ f => ?_
   refine W_end rfl (T_n ?_)
   exact ⟨(true), (sI hF_2).symm, M_1, (mR _), f.keep (ks := [1, 2, 21]) (by kernel_rfl), p_1⟩
  ·have k_2 : ¬ (d1 = 0) := iff_f dI h_3
   have hF_3 := cnd_f h_3 hj_1
   have f := Frm.set f 10 (v := .bool (decide (d1 = 0))) (v' := .bool false) (by kernel_rfl) (cB h_3)
   refine Y19 f 1 fun _ f => ?_
   refine Y15 f p_1 hc_2 4 rfl fun _ f => ?_
   refine Y19 f 4 fun _ f => ?_
   rcases bE (decide ((3000 : Int) < ((d0.fList.length : Nat) : Int))) with h_4 | h_4
   ·have k_3 : (3000 : Int) < ((d0.fList.length : Nat) : Int) := dI.1 h_4
    have hF_4 := cnd_t h_4 hF_3
    have f := Frm.set f 16 (v := .bool (decide ((3000 : Int) < ((d0.fList.length : Nat) : Int)))) (v' := .bool true) (by kernel_rfl) (cB h_4)
    refine Y19 f 5 fun _ f => ?_
    refine W_end rfl (T_n ?_)
    exact ⟨(true), (sI hF_4).symm, M_1, (mR _), f.keep (ks := [1, 2, 21]) (by kernel_rfl), p_1⟩
   ·have k_4 : ¬ ((3000 : Int) < ((d0.fList.length : Nat) : Int)) := iff_f dI h_4
    have hF_5 := cnd_f h_4 hF_3
    have f := Frm.set f 16 (v := .bool (decide ((3000 : Int) < ((d0.fList.length : Nat) : Int)))) (v' := .bool false) (by kernel_rfl) (cB h_4)
    refine Y19 f 1 fun _ f => ?_
    refine Y15 f p_1 hc_2 5 rfl fun _ f => ?_
    refine Y19 f 3 fun _ f => ?_
    refine W_end rfl (T_n ?_)
    exact ⟨(decide ((3000 : Int) < ((d0.fKeys.length : Nat) : Int))), (sI hF_5).symm, M_1, (mR _), f.keep (ks := [1, 2, 21]) (by kernel_rfl), p_1⟩
 ·rintro a_12 w_2 ⟨y_1, hq_1, M_2, hM_2, f, p_2⟩
  subst j_1
  refine T_n ?_
  refine Y6 f (b := y_1) (fun h_5 => ?_) fun h_5 => ?_
  ·have hF_6 := cnd_t h_5 hF_1
   refine R_seq (R_reg ?_)
   refine Y19 f 1 fun _ f => ?_
   refine W_end rfl (T_n (wp_ret (T_r ?_)))
   refine E_ret1 f rfl (by kernel_rfl : Vc.look _ 4 = some (.int .i64 10000)) ?_
   obtain rfl := sI hF_6
   exact ⟨_, rfl, M_2, (hM_1.trans hM_2), p_2, rfl⟩
  ·have hF_7 := cnd_f h_5 hF_1
   refine wp_skip (T_n (R_seq (R_reg ?_)))
   refine Y19 f 1 fun _ f => ?_
   refine Y15 f p_2 (fzu hM_2 hc_2) 3 rfl fun _ f => ?_
   refine Y19 f 1 fun _ f => ?_
   refine Y14 (v := .int .i64 (min (d0.fText.length : Int) (10000 : Int))) f (X_min (k := .i64) (a := (d0.fText.length : Int)) (b := (10000 : Int)) rfl (by kernel_rfl) (by kernel_rfl)) fun _ f => ?_
   obtain ⟨g_1, hF_8⟩ := nS hF_7
   refine Y19 f 1 fun _ f => ?_
   have f := Frm.set f 26 (v := .int .i64 (IntKind.wrap .i64 ((1 : Int) + (min (d0.fText.length : Int) (10000 : Int))))) (v' := .int .i64 ((1 : Int) + (min (d0.fText.length : Int) (10000 : Int)))) (by kernel_rfl) (congrArg (Value.int .i64) (inR_wrap g_1))
   refine Y19 f 1 fun _ f => ?_
   refine W_end rfl (T_n (R_seq (R_seq (R_reg ?_))))
   refine Y19 f 1 fun _ f => ?_
   refine W_end rfl (T_n (wp_block ?_))
   obtain ⟨b_2, hL_1, hF_9⟩ := bS hF_8
   refine wp_mono (Q := fun e a w => (e = .exit 0 ∧ (∃ y_2 : Int, b_2 = y_2 ∧ ∃ M_4 : Mem, M_2.le M_4 ∧ Frm 65 [(1, .int .i64 d1), (2, .pointer (some (⟨b_1, 0, none⟩))), (5, .int .i64 y_2)] a ∧ Hp w0 M_4 (H) w))) (R_loop (n := 65) (w0 := w0) (M := M_2) (fun (x : Nat × (Int × Int)) => match x with | (m_1, s_1) => [(1, .int .i64 d1), (2, .pointer (some (⟨b_1, 0, none⟩))), (5, .int .i64 s_1.1), (6, .int .i64 s_1.2)]) (fun (x : Nat × (Int × Int)) => match x with | (m_1, s_1) => (H)) (fun (x : Nat × (Int × Int)) (MM : Mem) => match x with | (m_1, s_1) => loopF (ref03_weight_s1 n d0) m_1 s_1 = some b_2) (fun (x : Nat × (Int × Int)) => match x with | (m_1, s_1) => m_1) (n, ((1 : Int) + (min (d0.fText.length : Int) (10000 : Int)), (0 : Int))) (f.keep (ks := [1, 2, 5, 6]) (by kernel_rfl)) p_2 hL_1 ?_) ?_
   ·rintro ⟨m_1, s_1⟩ M_3 _ w_3 hM_3 I_1 f p_3
    have I_1L := I_1
    obtain ⟨m_2, r_1, rfl, hs_1, hn_1⟩ := loop_step I_1L
    unfold ref03_weight_s1 at hs_1
    refine R_seq (R_seq (R_reg ?_))
    refine Y19 f 2 fun _ f => ?_
    refine Y15 f p_3 (fzu (hM_2.trans hM_3) hc_2) 5 rfl fun _ f => ?_
    refine Y19 f 2 fun _ f => ?_
    refine W_end rfl (T_n ?_)
    refine Y6 f (b := decide (s_1.2 < ((d0.fKeys.length : Nat) : Int))) (fun h_6 => ?_) fun h_6 => ?_
    ·have k_7 : s_1.2 < ((d0.fKeys.length : Nat) : Int) := dI.1 h_6
     have hF_10 := cnd_t h_6 hs_1
     refine wp_skip (T_n (R_seq (wp_block (R_reg ?_))))
     refine Y19 f 2 fun _ f => ?_
     refine Y15 f p_3 (fzu (hM_2.trans hM_3) hc_2) 5 rfl fun _ f => ?_
     refine Y19 f 1 fun _ f => ?_
     obtain ⟨x_1, hx_1, hF_11⟩ := bS hF_10
     obtain ⟨ad_1, c_1, e_1, hl_1, hr_1, hc_3⟩ := Sli.at_ (h_2.mono ((hM_1.trans hM_2).trans hM_3)) hx_1
     clear hl_1
     obtain rfl : c_1 = [S x_1] := hr_1
     refine Y14 (v := .pointer (some (ad_1.add (s_1.2.toNat * 1)))) f (Y31 e_1 rfl (len := d0.fKeys.length) (cap := cap_2) (k := .i64) (i := s_1.2) (e := 9) (sz := 1) (getI_nn hx_1) (getI_lt hx_1)) fun _ f => ?_
     refine Y15 f p_3 hc_3 0 rfl fun _ f => ?_
     refine Y19 f 1 fun _ f => ?_
     refine Y14 (v := .int .i64 (min (x_1.length : Int) (10000 : Int))) f (X_min (k := .i64) (a := (x_1.length : Int)) (b := (10000 : Int)) rfl (by kernel_rfl) (by kernel_rfl)) fun _ f => ?_
     obtain ⟨g_2, hF_12⟩ := nS hF_11
     refine Y19 f 1 fun _ f => ?_
     have f := Frm.set f 42 (v := .int .i64 (IntKind.wrap .i64 (s_1.1 + (min (x_1.length : Int) (10000 : Int))))) (v' := .int .i64 (s_1.1 + (min (x_1.length : Int) (10000 : Int)))) (by kernel_rfl) (congrArg (Value.int .i64) (inR_wrap g_2))
     refine Y19 f 1 fun _ f => ?_
     refine W_end rfl (B_n (T_n (R_reg ?_)))
     refine Y19 f 1 fun _ f => ?_
     obtain ⟨g_3, hF_13⟩ := nS hF_12
     refine Y19 f 1 fun _ f => ?_
     have f := Frm.set f 33 (v := .int .i64 (IntKind.wrap .i64 (s_1.2 + 1))) (v' := .int .i64 (s_1.2 + 1)) (by kernel_rfl) (congrArg (Value.int .i64) (inR_wrap g_3))
     refine Y19 f 1 fun _ f => ?_
     refine W_end rfl (T_n ?_)
     obtain rfl := sI hF_13
     exact ⟨⟨m_2, (s_1.1 + (min (x_1.length : Int) (10000 : Int)), s_1.2 + 1)⟩, Nat.lt_succ_self _, M_3, hM_3, hn_1, f.keep (ks := [1, 2, 5, 6]) (by kernel_rfl), p_3⟩
    ·have k_8 : ¬ (s_1.2 < ((d0.fKeys.length : Nat) : Int)) := iff_f dI h_6
     have hF_14 := cnd_f h_6 hs_1
     refine wp_exit (T_x (T_x ?_))
     obtain rfl := sI hF_14
     exact ⟨rfl, s_1.1, (sI hn_1).symm, M_3, hM_3, f.keep (ks := [1, 2, 5]) (by kernel_rfl), p_3⟩
   ·rintro _ _ w_5 ⟨rfl, y_2, hq_, M_4, hM_4, f, p_4⟩
    subst b_2
    refine B_x (T_n (R_seq (R_seq (R_reg ?_))))
    refine Y19 f 1 fun _ f => ?_
    refine W_end rfl (T_n (wp_block ?_))
    obtain ⟨b_3, hL_2, hF_15⟩ := bS hF_9
    refine wp_mono (Q := fun e a w => (e = .exit 2 ∧ (∃ y_4 : Int, b_3 = y_4 ∧ ∃ M_7 : Mem, M_4.le M_7 ∧ Frm 65 [(5, .int .i64 y_4)] a ∧ Hp w0 M_7 (H) w))) (R_loop (n := 65) (w0 := w0) (M := M_4) (fun (x : Nat × (Int × Int)) => match x with | (m_3, s_2) => [(1, .int .i64 d1), (2, .pointer (some (⟨b_1, 0, none⟩))), (5, .int .i64 s_2.1), (7, .int .i64 s_2.2)]) (fun (x : Nat × (Int × Int)) => match x with | (m_3, s_2) => (H)) (fun (x : Nat × (Int × Int)) (MM : Mem) => match x with | (m_3, s_2) => loopF (ref03_weight_s2 n rec_ref03_weight d0 d1) m_3 s_2 = some b_3) (fun (x : Nat × (Int × Int)) => match x with | (m_3, s_2) => m_3) (n, (y_2, (0 : Int))) (f.keep (ks := [1, 2, 5, 7]) (by kernel_rfl)) p_4 hL_2 ?_) ?_
    ·rintro ⟨m_3, s_2⟩ M_5 _ w_6 hM_5 I_2 f p_5
     have I_2L := I_2
     obtain ⟨m_4, r_2, rfl, hs_2, hn_2⟩ := loop_step I_2L
     unfold ref03_weight_s2 at hs_2
     refine R_seq (R_seq ?_)
     obtain ⟨j_2, hj_2, hF_16⟩ := bS hs_2
     refine R_mid (fun a_46 w_7 => ∃ y_3 : Bool, j_2 = y_3 ∧ ∃ M_6 : Mem, M_5.le M_6 ∧ Frm 65 [(1, .int .i64 d1), (2, .pointer (some (⟨b_1, 0, none⟩))), (5, .int .i64 s_2.1), (7, .int .i64 s_2.2), (51, .bool y_3)] a_46 ∧ Hp w0 M_6 (H) w_7) ?_ ?_
     ·refine R_reg ?_
      refine Y19 f 2 fun _ f => ?_
      refine Y15 f p_5 (fzu ((hM_2.trans hM_4).trans hM_5) hc_2) 4 rfl fun _ f => ?_
      refine Y19 f 3 fun _ f => ?_
      rcases bE (decide (s_2.2 < ((d0.fList.length : Nat) : Int))) with h_7 | h_7
      ·have k_9 : s_2.2 < ((d0.fList.length : Nat) : Int) := dI.1 h_7
       have hF_17 := cnd_t h_7 hj_2
       have f := Frm.set f 48 (v := .bool (decide (s_2.2 < ((d0.fList.length : Nat) : Int)))) (v' := .bool true) (by kernel_rfl) (cB h_7)
       refine Y19 f 3 fun _ f => ?_
       refine W_end rfl (T_n ?_)
       exact ⟨(decide (s_2.1 ≤ 10000)), (sI hF_17).symm, M_5, (mR _), f.keep (ks := [1, 2, 5, 7, 51]) (by kernel_rfl), p_5⟩
      ·have k_10 : ¬ (s_2.2 < ((d0.fList.length : Nat) : Int)) := iff_f dI h_7
       have hF_18 := cnd_f h_7 hj_2
       have f := Frm.set f 48 (v := .bool (decide (s_2.2 < ((d0.fList.length : Nat) : Int)))) (v' := .bool false) (by kernel_rfl) (cB h_7)
       refine Y19 f 3 fun _ f => ?_
       refine W_end rfl (T_n ?_)
       exact ⟨(false), (sI hF_18).symm, M_5, (mR _), f.keep (ks := [1, 2, 5, 7, 51]) (by kernel_rfl), p_5⟩
     ·rintro a_46 w_7 ⟨y_3, hq_2, M_6, hM_6, f, p_6⟩
      subst j_2
      refine T_n ?_
      refine Y6 f (b := y_3) (fun h_8 => ?_) fun h_8 => ?_
      ·have hF_19 := cnd_t h_8 hF_16
       refine wp_skip (T_n (R_seq (wp_block (R_reg ?_))))
       refine Y19 f 2 fun _ f => ?_
       refine Y15 f p_6 (fzu (((hM_2.trans hM_4).trans hM_5).trans hM_6) hc_2) 4 rfl fun _ f => ?_
       refine Y19 f 1 fun _ f => ?_
       obtain ⟨x_2, hx_2, hF_20⟩ := bS hF_19
       obtain ⟨ad_2, c_2, e_2, hl_2, hr_2, hc_4⟩ := Sli.at_ (h_1.mono ((((hM_1.trans hM_2).trans hM_4).trans hM_5).trans hM_6)) hx_2
       clear hl_2
       obtain ⟨A_3, cap_3, A_4, cap_4, rfl, h_9, h_10⟩ := T_api_Value.opn hr_2
       refine Y14 (v := .pointer (some (ad_2.add (s_2.2.toNat * 6)))) f (Y31 e_2 rfl (len := d0.fList.length) (cap := cap_1) (k := .i64) (i := s_2.2) (e := 76) (sz := 6) (getI_nn hx_2) (getI_lt hx_2)) fun _ f => ?_
       refine Y14 (v := .agg #[.int .i8 x_2.fKind, .bool x_2.fBool, .int .i64 x_2.fNum, S x_2.fText, .slice A_3 x_2.fList.length cap_3, .slice A_4 x_2.fKeys.length cap_4]) f (Y33 (cs := [.int .i8 x_2.fKind, .bool x_2.fBool, .int .i64 x_2.fNum, S x_2.fText, .slice A_3 x_2.fList.length cap_3, .slice A_4 x_2.fKeys.length cap_4]) rfl (ad := ad_2.add (s_2.2.toNat * 6)) (fun j v h => p_6.cell (hc_4 j v h))) fun _ f => ?_
       refine Y19 f 1 fun _ f => ?_
       obtain ⟨g_4, hF_21⟩ := nS hF_20
       refine Y19 f 1 fun _ f => ?_
       have f := Frm.set f 61 (v := .int .i64 (IntKind.wrap .i64 (d1 - 1))) (v' := .int .i64 (d1 - 1)) (by kernel_rfl) (congrArg (Value.int .i64) (inR_wrap g_4))
       obtain ⟨x_3, hx_3, hF_22⟩ := bS hF_21
       refine Y18 f p_6 (hrec_ref03_weight _ _ x_2 (T_api_Value.shutx (x := x_2) h_9 h_10) (d1 - 1) x_3 hx_3) fun w_8 p_7 _ f => ?_
       obtain ⟨g_5, hF_23⟩ := nS hF_22
       refine Y19 f 1 fun _ f => ?_
       have f := Frm.set f 63 (v := .int .i64 (IntKind.wrap .i64 (s_2.1 + x_3))) (v' := .int .i64 (s_2.1 + x_3)) (by kernel_rfl) (congrArg (Value.int .i64) (inR_wrap g_5))
       refine Y19 f 1 fun _ f => ?_
       refine W_end rfl (B_n (T_n (R_reg ?_)))
       refine Y19 f 1 fun _ f => ?_
       obtain ⟨g_6, hF_24⟩ := nS hF_23
       refine Y19 f 1 fun _ f => ?_
       have f := Frm.set f 53 (v := .int .i64 (IntKind.wrap .i64 (s_2.2 + 1))) (v' := .int .i64 (s_2.2 + 1)) (by kernel_rfl) (congrArg (Value.int .i64) (inR_wrap g_6))
       refine Y19 f 1 fun _ f => ?_
       refine W_end rfl (T_n ?_)
       obtain rfl := sI hF_24
       exact ⟨⟨m_4, (s_2.1 + x_3, s_2.2 + 1)⟩, Nat.lt_succ_self _, M_6, (hM_5.trans hM_6), hn_2, f.keep (ks := [1, 2, 5, 7]) (by kernel_rfl), p_7⟩
      ·have hF_25 := cnd_f h_8 hF_16
       refine wp_exit (T_x (T_x ?_))
       obtain rfl := sI hF_25
       exact ⟨rfl, s_2.1, (sI hn_2).symm, M_6, (hM_5.trans hM_6), f.keep (ks := [5]) (by kernel_rfl), p_6⟩
    ·rintro _ _ w_10 ⟨rfl, y_4, hq_, M_7, hM_7, f, p_8⟩
     subst b_3
     refine B_x (T_n (R_seq (R_reg ?_)))
     refine Y19 f 2 fun _ f => ?_
     refine W_end rfl (T_n (wp_ret ?_))
     refine E_ret1 f rfl (by kernel_rfl : Vc.look _ 4 = some (.int .i64 y_4)) ?_
     obtain rfl := sI hF_15
     exact ⟨_, rfl, M_7, (((hM_1.trans hM_2).trans hM_4).trans hM_7), p_8, rfl⟩
def ref03_weight_k (n : Nat) : Nat → T_api_Value → Int → Option Int
  | 0 => fun _ _ => none
  | k + 1 => ref03_weight_b n (ref03_weight_k n k)
def ref03_weight (n : Nat) (d0 : T_api_Value) (d1 : Int) : Option Int := ref03_weight_k n n d0 d1
theorem ref03_weight_ok (n : Nat) (M : Mem) (c0 : List Value) (d0 : T_api_Value) (h0 : Rep M (emb_T_api_Value d0) c0) (d1 : Int) (r : Int) (hF : ref03_weight n d0 d1 = some r) : Ok Tryz.prog M 78 [.agg c0.toArray, .int .i64 d1] (fun _ v => v = .int .i64 r) := by
 have key : ∀ (k : Nat) (M : Mem) (c0 : List Value) (d0 : T_api_Value) (h0 : Rep M (emb_T_api_Value d0) c0) (d1 : Int) (r : Int) (hF : ref03_weight_k n k d0 d1 = some r), Ok Tryz.prog M 78 [.agg c0.toArray, .int .i64 d1] (fun _ v => v = .int .i64 r) := by
  intro k
  induction k with
  | zero => intro M c0 d0 h0 d1 r hF; simp [ref03_weight_k] at hF
  | succ k ih => intro M c0 d0 h0 d1 r hF; exact ref03_weight_b_ok n (ref03_weight_k n k) ih M c0 d0 h0 d1 r hF
 exact key n M c0 d0 h0 d1 r hF
def ref03_Great (n : Nat) (d0 : T_api_Value) : Option Bool :=
  (ref03_weight n d0 (30 : Int)).bind fun x_1 =>
  some ((decide ((5000 : Int) < x_1)))
theorem ref03_Great_ok (n : Nat) (M : Mem) (c0 : List Value) (d0 : T_api_Value) (h0 : Rep M (emb_T_api_Value d0) c0) (r : Bool) (hF : ref03_Great n d0 = some r) : Ok Tryz.prog M 51 [.agg c0.toArray] (fun _ v => v = .bool r) := by
 unfold ref03_Great at hF
 intro M1 hM0 w0 H w p0
 replace h0 := Rep.mono hM0 _ _ h0
 obtain ⟨A_1, cap_1, A_2, cap_2, rfl, h_1, h_2⟩ := T_api_Value.opn h0
 refine R_enter 6 Tryz.func51 rfl rfl (by simp) fun a0 f0 => ?_
 refine R_seq (R_reg ?_)
 refine Y13 (cs := #[.int .i8 d0.fKind, .bool d0.fBool, .int .i64 d0.fNum, S d0.fText, .slice A_1 d0.fList.length cap_1, .slice A_2 d0.fKeys.length cap_2]) (T := 76) f0 p0 fun b_1 M_1 w_1 hM_1 hc_1 p_1 _ f => ?_
 have hc_2 := fz_box hc_1
 refine Y19 f 1 fun _ f => ?_
 refine W_end rfl (T_n (R_seq (R_reg ?_)))
 refine Y14 (v := .agg #[.int .i8 d0.fKind, .bool d0.fBool, .int .i64 d0.fNum, S d0.fText, .slice A_1 d0.fList.length cap_1, .slice A_2 d0.fKeys.length cap_2]) f (Y33 (cs := [.int .i8 d0.fKind, .bool d0.fBool, .int .i64 d0.fNum, S d0.fText, .slice A_1 d0.fList.length cap_1, .slice A_2 d0.fKeys.length cap_2]) rfl (ad := ⟨b_1, 0, none⟩) (fun j v h => p_1.cell (hc_2 j v h))) fun _ f => ?_
 obtain ⟨x_1, hx_1, hF_1⟩ := bS hF
 refine Y18 f p_1 (ref03_weight_ok n _ _ d0 (T_api_Value.shutx (x := d0) (h_1.mono hM_1) (h_2.mono hM_1)) (30 : Int) x_1 hx_1) fun w_2 p_2 _ f => ?_
 refine Y19 f 2 fun _ f => ?_
 refine W_end rfl (T_n (wp_ret ?_))
 refine E_ret1 f rfl (by kernel_rfl : Vc.look _ 2 = some (.bool (decide ((5000 : Int) < x_1)))) ?_
 obtain rfl := sI hF_1
 exact ⟨_, rfl, M_1, hM_1, p_2, rfl⟩
end Go.Proofs.YtalifkcchfkgmaaGreatDoor
end

section
namespace Go.Vc
open Go
theorem mpS {α β : Type} (x : α) (f : α → β) : (some x).map f = some (f x) := (Option.map_some x f).trans (Eq.refl _)
theorem jN {τ Λ : Type} (x : τ) (k : τ → Option Λ) : joinF (.nx x) k = k x := (Eq.refl (joinF (.nx x) k)).trans (Eq.refl _)
theorem jB {τ Λ : Type} (l : Λ) (k : τ → Option Λ) : joinF (.br l) k = some l := (Eq.refl (joinF (.br l) k)).trans (Eq.refl _)
theorem dec_cases (l : List UInt8) (hne : l ≠ []) :
    (Lib.decodeL l = (65533, 1) ∧ 128 ≤ (l.getD 0 0).toNat) ∨
    ∃ r w, Lib.decodeL l = (r, w) ∧ w ≤ l.length ∧ 1 ≤ w ∧ w ≤ 4 ∧ (∀ j, 1 ≤ j → j < w → (l.getD j 0).toNat / 64 = 2) ∧ ((w = 1 ∧ (l.getD 0 0).toNat < 128 ∧ r = (l.getD 0 0).toNat) ∨ (1 < w ∧ 128 ≤ r ∧ 192 ≤ (l.getD 0 0).toNat)) ∧ r ≤ 1114111 := by
  have hl : 0 < l.length := List.length_pos_iff.2 hne
  rw [Lib.decodeL_N]
  rcases Lib.decodeN_shape l.length (l.getD 0 0).toNat (l.getD 1 0).toNat (l.getD 2 0).toNat (l.getD 3 0).toNat with ⟨c, e⟩ | ⟨c1, c2, c3, cv, e⟩ | ⟨c1, c2, c3, c4, cv, cs, e⟩ | ⟨c1, c2, c3, c4, c5, cv, cw, e⟩ | e
  · exact .inr ⟨_, _, e, by omega, by omega, by omega, fun j h1 h2 => by omega, .inl ⟨rfl, c, rfl⟩, by omega⟩
  · refine .inr ⟨_, _, e, by omega, by omega, by omega, fun j h1 h2 => ?_, .inr ⟨by omega, by omega, by omega⟩, by omega⟩
    obtain rfl : j = 1 := by omega
    exact c3
  · refine .inr ⟨_, _, e, by omega, by omega, by omega, fun j h1 h2 => ?_, .inr ⟨by omega, by omega, by omega⟩, by omega⟩
    obtain rfl | rfl : j = 1 ∨ j = 2 := by omega
    · exact c3
    · exact c4
  · refine .inr ⟨_, _, e, by omega, by omega, by omega, fun j h1 h2 => ?_, .inr ⟨by omega, by omega, by omega⟩, by omega⟩
    obtain rfl | rfl | rfl : j = 1 ∨ j = 2 ∨ j = 3 := by omega
    · exact c3
    · exact c4
    · exact c5
  · by_cases h : (l.getD 0 0).toNat < 128
    · refine .inr ⟨_, _, Lib.decodeN_ascii _ _ _ _ _ h, by omega, by omega, by omega, fun j h1 h2 => by omega, .inl ⟨rfl, h, rfl⟩, by omega⟩
    · exact .inl ⟨e, by omega⟩
end Go.Vc
end

section
set_option linter.unusedVariables false
set_option linter.unusedSimpArgs false
namespace Go.Proofs.YtalifkcchfkgmaaGreatDoor
open Go Go.Vc Go.RowKit
def ref03_Same_s1 (n : Nat) (d0 : T_api_Value) (d1 : T_api_Value) (s_1 : Int) : Option (Lp Int (Sum Unit Unit)) :=
    bif (decide (s_1 < ((d0.fKeys.length : Nat) : Int))) then
      ((getI d0.fKeys s_1).bind fun x_1 =>
      (getI d1.fKeys s_1).bind fun x_2 =>
      bif (!(decide (x_1 = x_2))) then
        (some (.br (.inl ())))
      else
        need (inR .i64 (s_1 + 1)) <|
        some (.nx (s_1 + 1)))
    else
      some (.br (.inr ()))
def ref03_Same_s2 (n : Nat) (rec_ref03_Same : T_api_Value → T_api_Value → Option Bool) (d0 : T_api_Value) (d1 : T_api_Value) (s_2 : Int) : Option (Lp Int (Sum Unit Unit)) :=
    bif (decide (s_2 < ((d0.fList.length : Nat) : Int))) then
      ((getI d0.fList s_2).bind fun x_3 =>
      (getI d1.fList s_2).bind fun x_4 =>
      (rec_ref03_Same x_3 x_4).bind fun x_5 =>
      bif !x_5 then
        (some (.br (.inl ())))
      else
        need (inR .i64 (s_2 + 1)) <|
        some (.nx (s_2 + 1)))
    else
      some (.br (.inr ()))
def ref03_Same_b (n : Nat) (rec_ref03_Same : T_api_Value → T_api_Value → Option Bool) (d0 : T_api_Value) (d1 : T_api_Value) : Option Bool :=
  ((bif (!(decide (d0.fKind = d1.fKind))) then
      (some ((true)))
    else
      bif (!(d0.fBool == d1.fBool)) then
        (some ((true)))
      else
        bif (!(decide (d0.fNum = d1.fNum))) then
          (some ((true)))
        else
          bif (!(decide (d0.fText = d1.fText))) then
            (some ((true)))
          else
            bif (!(decide (((d0.fList.length : Nat) : Int) = ((d1.fList.length : Nat) : Int)))) then
              (some ((true)))
            else
              some ((!(decide (((d0.fKeys.length : Nat) : Int) = ((d1.fKeys.length : Nat) : Int))))) : Option Bool)).bind fun y_1 =>
  bif y_1 then
    (some ((false)))
  else
    (loopF (ref03_Same_s1 n d0 d1) n (0 : Int)).bind fun b_3 =>
    (match b_3 with 
    | .inl y_2 => some ((false)) 
    | .inr y_3 => (loopF (ref03_Same_s2 n rec_ref03_Same d0 d1) n (0 : Int)).bind fun b_4 =>
      (match b_4 with 
      | .inl y_4 => some ((false)) 
      | .inr y_5 => some ((true))))
set_option maxHeartbeats 2000000 in
theorem ref03_Same_b_ok (n : Nat) (rec_ref03_Same : T_api_Value → T_api_Value → Option Bool) (hrec_ref03_Same : ∀ (M : Mem) (c0 : List Value) (d0 : T_api_Value) (h0 : Rep M (emb_T_api_Value d0) c0) (c1 : List Value) (d1 : T_api_Value) (h1 : Rep M (emb_T_api_Value d1) c1) (r : Bool) (hF : rec_ref03_Same d0 d1 = some r), Ok Tryz.prog M 47 [.agg c0.toArray, .agg c1.toArray] (fun _ v => v = .bool r)) (M : Mem) (c0 : List Value) (d0 : T_api_Value) (h0 : Rep M (emb_T_api_Value d0) c0) (c1 : List Value) (d1 : T_api_Value) (h1 : Rep M (emb_T_api_Value d1) c1) (r : Bool) (hF : ref03_Same_b n rec_ref03_Same d0 d1 = some r) : Ok Tryz.prog M 47 [.agg c0.toArray, .agg c1.toArray] (fun _ v => v = .bool r) := by
 unfold ref03_Same_b at hF
 intro M1 hM0 w0 H w p0
 replace h0 := Rep.mono hM0 _ _ h0
 replace h1 := Rep.mono hM0 _ _ h1
 obtain ⟨A_1, cap_1, A_2, cap_2, rfl, h_1, h_2⟩ := T_api_Value.opn h0
 obtain ⟨A_3, cap_3, A_4, cap_4, rfl, h_3, h_4⟩ := T_api_Value.opn h1
 refine R_enter 88 Tryz.func47 rfl rfl (by simp) fun a0 f0 => ?_
 refine R_seq (R_reg ?_)
 refine Y13 (cs := #[.int .i8 d0.fKind, .bool d0.fBool, .int .i64 d0.fNum, S d0.fText, .slice A_1 d0.fList.length cap_1, .slice A_2 d0.fKeys.length cap_2]) (T := 76) f0 p0 fun b_1 M_1 w_1 hM_1 hc_1 p_1 _ f => ?_
 have hc_2 := fz_box hc_1
 refine Y13 (cs := #[.int .i8 d1.fKind, .bool d1.fBool, .int .i64 d1.fNum, S d1.fText, .slice A_3 d1.fList.length cap_3, .slice A_4 d1.fKeys.length cap_4]) (T := 76) f p_1 fun b_2 M_2 w_2 hM_2 hc_3 p_2 _ f => ?_
 have hc_4 := fz_box hc_3
 refine Y19 f 1 fun _ f => ?_
 refine W_end rfl (T_n (R_seq (R_seq ?_)))
 obtain ⟨j_1, hj_1, hF_1⟩ := bS hF
 refine R_mid (fun a_40 w_3 => ∃ y_1 : Bool, j_1 = y_1 ∧ ∃ M_3 : Mem, M_2.le M_3 ∧ Frm 88 [(2, .pointer (some (⟨b_1, 0, none⟩))), (3, .pointer (some (⟨b_2, 0, none⟩))), (50, .bool y_1)] a_40 ∧ Hp w0 M_3 (H) w_3) ?_ ?_
 ·refine R_reg ?_
  refine Y19 f 1 fun _ f => ?_
  refine Y15 f p_2 (fzu hM_2 hc_2) 0 rfl fun _ f => ?_
  refine Y19 f 1 fun _ f => ?_
  refine Y15 f p_2 hc_4 0 rfl fun _ f => ?_
  refine Y19 f 2 fun _ f => ?_
  rcases bE (!(decide (d0.fKind = d1.fKind))) with h_5 | h_5
  ·have k_1 : ¬ (d0.fKind = d1.fKind) := (not_iff dI).1 h_5
   have hF_2 := cnd_t h_5 hj_1
   have f := Frm.set f 12 (v := .bool (!(decide (d0.fKind = d1.fKind)))) (v' := .bool true) (by kernel_rfl) (cB h_5)
   refine Y19 f 38 fun _ f => ?_
   refine W_end rfl (T_n ?_)
   exact ⟨(true), (sI hF_2).symm, M_2, (mR _), f.keep (ks := [2, 3, 50]) (by kernel_rfl), p_2⟩
  ·have k_2 : ¬ (¬ (d0.fKind = d1.fKind)) := iff_f (not_iff dI) h_5
   have hF_3 := cnd_f h_5 hj_1
   have f := Frm.set f 12 (v := .bool (!(decide (d0.fKind = d1.fKind)))) (v' := .bool false) (by kernel_rfl) (cB h_5)
   refine Y19 f 1 fun _ f => ?_
   refine Y15 f p_2 (fzu hM_2 hc_2) 1 rfl fun _ f => ?_
   refine Y19 f 1 fun _ f => ?_
   refine Y15 f p_2 hc_4 1 rfl fun _ f => ?_
   refine Y19 f 3 fun _ f => ?_
   rcases bE (!(d0.fBool == d1.fBool)) with h_6 | h_6
   ·have k_3 : (d0.fBool == d1.fBool) = false := by simpa using h_6
    have hF_4 := cnd_t h_6 hF_3
    have f := Frm.set f 19 (v := .bool (!(d0.fBool == d1.fBool))) (v' := .bool true) (by kernel_rfl) (cB h_6)
    refine Y19 f 31 fun _ f => ?_
    refine W_end rfl (T_n ?_)
    exact ⟨(true), (sI hF_4).symm, M_2, (mR _), f.keep (ks := [2, 3, 50]) (by kernel_rfl), p_2⟩
   ·have k_4 : (d0.fBool == d1.fBool) = true := by simpa using h_6
    have hF_5 := cnd_f h_6 hF_3
    have f := Frm.set f 19 (v := .bool (!(d0.fBool == d1.fBool))) (v' := .bool false) (by kernel_rfl) (cB h_6)
    refine Y19 f 1 fun _ f => ?_
    refine Y15 f p_2 (fzu hM_2 hc_2) 2 rfl fun _ f => ?_
    refine Y19 f 1 fun _ f => ?_
    refine Y15 f p_2 hc_4 2 rfl fun _ f => ?_
    refine Y19 f 3 fun _ f => ?_
    rcases bE (!(decide (d0.fNum = d1.fNum))) with h_7 | h_7
    ·have k_5 : ¬ (d0.fNum = d1.fNum) := (not_iff dI).1 h_7
     have hF_6 := cnd_t h_7 hF_5
     have f := Frm.set f 26 (v := .bool (!(decide (d0.fNum = d1.fNum)))) (v' := .bool true) (by kernel_rfl) (cB h_7)
     refine Y19 f 24 fun _ f => ?_
     refine W_end rfl (T_n ?_)
     exact ⟨(true), (sI hF_6).symm, M_2, (mR _), f.keep (ks := [2, 3, 50]) (by kernel_rfl), p_2⟩
    ·have k_6 : ¬ (¬ (d0.fNum = d1.fNum)) := iff_f (not_iff dI) h_7
     have hF_7 := cnd_f h_7 hF_5
     have f := Frm.set f 26 (v := .bool (!(decide (d0.fNum = d1.fNum)))) (v' := .bool false) (by kernel_rfl) (cB h_7)
     refine Y19 f 1 fun _ f => ?_
     refine Y15 f p_2 (fzu hM_2 hc_2) 3 rfl fun _ f => ?_
     refine Y19 f 1 fun _ f => ?_
     refine Y15 f p_2 hc_4 3 rfl fun _ f => ?_
     refine Y14 (v := .bool (!(decide (d0.fText = d1.fText)))) f (Y39 rfl (l := d0.fText) (m := d1.fText)) fun _ f => ?_
     refine Y19 f 2 fun _ f => ?_
     rcases bE (!(decide (d0.fText = d1.fText))) with h_8 | h_8
     ·have k_7 : ¬ (d0.fText = d1.fText) := (not_iff dI).1 h_8
      have hF_8 := cnd_t h_8 hF_7
      have f := Frm.set f 33 (v := .bool (!(decide (d0.fText = d1.fText)))) (v' := .bool true) (by kernel_rfl) (cB h_8)
      refine Y19 f 17 fun _ f => ?_
      refine W_end rfl (T_n ?_)
      exact ⟨(true), (sI hF_8).symm, M_2, (mR _), f.keep (ks := [2, 3, 50]) (by kernel_rfl), p_2⟩
     ·have k_8 : ¬ (¬ (d0.fText = d1.fText)) := iff_f (not_iff dI) h_8
      have hF_9 := cnd_f h_8 hF_7
      have f := Frm.set f 33 (v := .bool (!(decide (d0.fText = d1.fText)))) (v' := .bool false) (by kernel_rfl) (cB h_8)
      refine Y19 f 1 fun _ f => ?_
      refine Y15 f p_2 (fzu hM_2 hc_2) 4 rfl fun _ f => ?_
      refine Y19 f 2 fun _ f => ?_
      refine Y15 f p_2 hc_4 4 rfl fun _ f => ?_
      refine Y19 f 4 fun _ f => ?_
      rcases bE (!(decide (((d0.fList.length : Nat) : Int) = ((d1.fList.length : Nat) : Int)))) with h_9 | h_9
      ·have k_9 : ¬ (((d0.fList.length : Nat) : Int) = ((d1.fList.length : Nat) : Int)) := (not_iff dI).1 h_9
       have hF_10 := cnd_t h_9 hF_9
       have f := Frm.set f 42 (v := .bool (!(decide (((d0.fList.length : Nat) : Int) = ((d1.fList.length : Nat) : Int))))) (v' := .bool true) (by kernel_rfl) (cB h_9)
       refine Y19 f 8 fun _ f => ?_
       refine W_end rfl (T_n ?_)
       exact ⟨(true), (sI hF_10).symm, M_2, (mR _), f.keep (ks := [2, 3, 50]) (by kernel_rfl), p_2⟩
      ·have k_10 : ¬ (¬ (((d0.fList.length : Nat) : Int) = ((d1.fList.length : Nat) : Int))) := iff_f (not_iff dI) h_9
       have hF_11 := cnd_f h_9 hF_9
       have f := Frm.set f 42 (v := .bool (!(decide (((d0.fList.length : Nat) : Int) = ((d1.fList.length : Nat) : Int))))) (v' := .bool false) (by kernel_rfl) (cB h_9)
       refine Y19 f 1 fun _ f => ?_
       refine Y15 f p_2 (fzu hM_2 hc_2) 5 rfl fun _ f => ?_
       refine Y19 f 2 fun _ f => ?_
       refine Y15 f p_2 hc_4 5 rfl fun _ f => ?_
       refine Y19 f 3 fun _ f => ?_
       refine W_end rfl (T_n ?_)
       exact ⟨(!(decide (((d0.fKeys.length : Nat) : Int) = ((d1.fKeys.length : Nat) : Int)))), (sI hF_11).symm, M_2, (mR _), f.keep (ks := [2, 3, 50]) (by kernel_rfl), p_2⟩
 ·rintro a_40 w_3 ⟨y_1, hq_1, M_3, hM_3, f, p_3⟩
  subst j_1
  refine T_n ?_
  refine Y6 f (b := y_1) (fun h_10 => ?_) fun h_10 => ?_
  ·have hF_12 := cnd_t h_10 hF_1
   refine R_seq (R_reg ?_)
   refine Y19 f 1 fun _ f => ?_
   refine W_end rfl (T_n (wp_ret (T_r ?_)))
   refine E_ret1 f rfl (by kernel_rfl : Vc.look _ 4 = some (.bool false)) ?_
   obtain rfl := sI hF_12
   exact ⟨_, rfl, M_3, ((hM_1.trans hM_2).trans hM_3), p_3, rfl⟩
  ·have hF_13 := cnd_f h_10 hF_1
   refine wp_skip (T_n (R_seq (R_seq (R_reg ?_))))
   refine Y19 f 1 fun _ f => ?_
   refine W_end rfl (T_n (wp_block ?_))
   obtain ⟨b_3, hL_1, hF_14⟩ := bS hF_13
   refine wp_mono (Q := fun e a w => (e = .ret ∧ (∃ y_2 : Unit, b_3 = .inl y_2 ∧ ∃ M_5 : Mem, M_3.le M_5 ∧ Frm 88 [(4, .bool false)] a ∧ Hp w0 M_5 (H) w)) ∨ (e = .exit 0 ∧ (∃ y_3 : Unit, b_3 = .inr y_3 ∧ ∃ M_6 : Mem, M_3.le M_6 ∧ Frm 88 [(2, .pointer (some (⟨b_1, 0, none⟩))), (3, .pointer (some (⟨b_2, 0, none⟩)))] a ∧ Hp w0 M_6 (H) w))) (R_loop (n := 88) (w0 := w0) (M := M_3) (fun (x : Nat × Int) => match x with | (m_1, s_1) => [(2, .pointer (some (⟨b_1, 0, none⟩))), (3, .pointer (some (⟨b_2, 0, none⟩))), (5, .int .i64 s_1)]) (fun (x : Nat × Int) => match x with | (m_1, s_1) => (H)) (fun (x : Nat × Int) (MM : Mem) => match x with | (m_1, s_1) => loopF (ref03_Same_s1 n d0 d1) m_1 s_1 = some b_3) (fun (x : Nat × Int) => match x with | (m_1, s_1) => m_1) (n, (0 : Int)) (f.keep (ks := [2, 3, 5]) (by kernel_rfl)) p_3 hL_1 ?_) ?_
   ·rintro ⟨m_1, s_1⟩ M_4 _ w_4 hM_4 I_1 f p_4
    have I_1L := I_1
    obtain ⟨m_2, r_1, rfl, hs_1, hn_1⟩ := loop_step I_1L
    unfold ref03_Same_s1 at hs_1
    refine R_seq (R_seq (R_reg ?_))
    refine Y19 f 2 fun _ f => ?_
    refine Y15 f p_4 (fzu ((hM_2.trans hM_3).trans hM_4) hc_2) 5 rfl fun _ f => ?_
    refine Y19 f 2 fun _ f => ?_
    refine W_end rfl (T_n ?_)
    refine Y6 f (b := decide (s_1 < ((d0.fKeys.length : Nat) : Int))) (fun h_11 => ?_) fun h_11 => ?_
    ·have k_13 : s_1 < ((d0.fKeys.length : Nat) : Int) := dI.1 h_11
     have hF_15 := cnd_t h_11 hs_1
     refine wp_skip (T_n (R_seq (wp_block (R_seq ?_))))
     refine R_draw p_4 (by kernel_rfl) (by kernel_rfl) ?_
     refine Y5 default f 1 fun _ f => ?_
     refine Y4 f (fzu ((hM_2.trans hM_3).trans hM_4) hc_2) 5 rfl fun _ f => ?_
     refine Y5 default f 1 fun _ f => ?_
     obtain ⟨x_1, hx_1, hF_16⟩ := bS hF_15
     obtain ⟨ad_1, c_1, e_1, hl_1, hr_1, hc_5⟩ := Sli.at_ (h_2.mono (((hM_1.trans hM_2).trans hM_3).trans hM_4)) hx_1
     clear hl_1
     obtain rfl : c_1 = [S x_1] := hr_1
     refine Y2 (v := .pointer (some (ad_1.add (s_1.toNat * 1)))) f (fun _ pq => Y31 e_1 rfl (len := d0.fKeys.length) (cap := cap_2) (k := .i64) (i := s_1) (e := 9) (sz := 1) (getI_nn hx_1) (getI_lt hx_1)) fun _ f => ?_
     refine Y4 f hc_5 0 rfl fun _ f => ?_
     refine Y5 default f 1 fun _ f => ?_
     refine Y4 f (fzu (hM_3.trans hM_4) hc_4) 5 rfl fun _ f => ?_
     refine Y5 default f 1 fun _ f => ?_
     obtain ⟨x_2, hx_2, hF_17⟩ := bS hF_16
     obtain ⟨ad_2, c_2, e_2, hl_2, hr_2, hc_6⟩ := Sli.at_ (h_4.mono (((hM_1.trans hM_2).trans hM_3).trans hM_4)) hx_2
     clear hl_2
     obtain rfl : c_2 = [S x_2] := hr_2
     refine Y2 (v := .pointer (some (ad_2.add (s_1.toNat * 1)))) f (fun _ pq => Y31 e_2 rfl (len := d1.fKeys.length) (cap := cap_4) (k := .i64) (i := s_1) (e := 9) (sz := 1) (getI_nn hx_2) (getI_lt hx_2)) fun _ f => ?_
     refine Y4 f hc_6 0 rfl fun _ f => ?_
     refine Y2 (v := .bool (!(decide (x_1 = x_2)))) f (fun _ pq => Y39 rfl (l := x_1) (m := x_2)) fun _ f => ?_
     refine Q_end rfl ?_
     intro w_5 p_5
     refine T_n ?_
     refine Y6 f (b := !(decide (x_1 = x_2))) (fun h_12 => ?_) fun h_12 => ?_
     ·have k_14 : ¬ (x_1 = x_2) := (not_iff dI).1 h_12
      have hF_18 := cnd_t h_12 hF_17
      refine R_seq (R_reg ?_)
      refine Y19 f 1 fun _ f => ?_
      refine W_end rfl (T_n (wp_ret (B_r (T_r (T_r ?_)))))
      obtain rfl := sI hF_18
      exact .inl ⟨rfl, (), (sI hn_1).symm, M_4, hM_4, f.keep (ks := [4]) (by kernel_rfl), p_5⟩
     ·have k_15 : ¬ (¬ (x_1 = x_2)) := iff_f (not_iff dI) h_12
      have hF_19 := cnd_f h_12 hF_17
      refine wp_skip (B_n (T_n (R_reg ?_)))
      refine Y19 f 1 fun _ f => ?_
      obtain ⟨g_1, hF_20⟩ := nS hF_19
      refine Y19 f 1 fun _ f => ?_
      have f := Frm.set f 57 (v := .int .i64 (IntKind.wrap .i64 (s_1 + 1))) (v' := .int .i64 (s_1 + 1)) (by kernel_rfl) (congrArg (Value.int .i64) (inR_wrap g_1))
      refine Y19 f 1 fun _ f => ?_
      refine W_end rfl (T_n ?_)
      obtain rfl := sI hF_20
      exact ⟨⟨m_2, s_1 + 1⟩, Nat.lt_succ_self _, M_4, hM_4, hn_1, f.keep (ks := [2, 3, 5]) (by kernel_rfl), p_5⟩
    ·have k_16 : ¬ (s_1 < ((d0.fKeys.length : Nat) : Int)) := iff_f dI h_11
     have hF_21 := cnd_f h_11 hs_1
     refine wp_exit (T_x (T_x ?_))
     obtain rfl := sI hF_21
     exact .inr ⟨rfl, (), (sI hn_1).symm, M_4, hM_4, f.keep (ks := [2, 3]) (by kernel_rfl), p_4⟩
   ·rintro _ _ w_8 (⟨rfl, y_2, rfl, M_5, hM_5, f, p_6⟩ | ⟨rfl, y_3, rfl, M_6, hM_6, f, p_7⟩)
    ·refine B_r (T_r ?_)
     refine E_ret1 f rfl (by kernel_rfl : Vc.look _ 4 = some (.bool false)) ?_
     obtain rfl := sI hF_14
     exact ⟨_, rfl, M_5, (((hM_1.trans hM_2).trans hM_3).trans hM_5), p_6, rfl⟩
    ·refine B_x (T_n (R_seq (R_seq (R_reg ?_))))
     refine Y19 f 1 fun _ f => ?_
     refine W_end rfl (T_n (wp_block ?_))
     obtain ⟨b_4, hL_2, hF_22⟩ := bS hF_14
     refine wp_mono (Q := fun e a w => (e = .ret ∧ (∃ y_4 : Unit, b_4 = .inl y_4 ∧ ∃ M_8 : Mem, M_6.le M_8 ∧ Frm 88 [(4, .bool false)] a ∧ Hp w0 M_8 (H) w)) ∨ (e = .exit 2 ∧ (∃ y_5 : Unit, b_4 = .inr y_5 ∧ ∃ M_9 : Mem, M_6.le M_9 ∧ Frm 88 [] a ∧ Hp w0 M_9 (H) w))) (R_loop (n := 88) (w0 := w0) (M := M_6) (fun (x : Nat × Int) => match x with | (m_3, s_2) => [(2, .pointer (some (⟨b_1, 0, none⟩))), (3, .pointer (some (⟨b_2, 0, none⟩))), (6, .int .i64 s_2)]) (fun (x : Nat × Int) => match x with | (m_3, s_2) => (H)) (fun (x : Nat × Int) (MM : Mem) => match x with | (m_3, s_2) => loopF (ref03_Same_s2 n rec_ref03_Same d0 d1) m_3 s_2 = some b_4) (fun (x : Nat × Int) => match x with | (m_3, s_2) => m_3) (n, (0 : Int)) (f.keep (ks := [2, 3, 6]) (by kernel_rfl)) p_7 hL_2 ?_) ?_
     ·rintro ⟨m_3, s_2⟩ M_7 _ w_9 hM_7 I_2 f p_8
      have I_2L := I_2
      obtain ⟨m_4, r_2, rfl, hs_2, hn_2⟩ := loop_step I_2L
      unfold ref03_Same_s2 at hs_2
      refine R_seq (R_seq (R_reg ?_))
      refine Y19 f 2 fun _ f => ?_
      refine Y15 f p_8 (fzu (((hM_2.trans hM_3).trans hM_6).trans hM_7) hc_2) 4 rfl fun _ f => ?_
      refine Y19 f 2 fun _ f => ?_
      refine W_end rfl (T_n ?_)
      refine Y6 f (b := decide (s_2 < ((d0.fList.length : Nat) : Int))) (fun h_13 => ?_) fun h_13 => ?_
      ·have k_17 : s_2 < ((d0.fList.length : Nat) : Int) := dI.1 h_13
       have hF_23 := cnd_t h_13 hs_2
       refine wp_skip (T_n (R_seq (wp_block (R_seq ?_))))
       refine R_draw p_8 (by kernel_rfl) (by kernel_rfl) ?_
       refine Y5 default f 1 fun _ f => ?_
       refine Y4 f (fzu (((hM_2.trans hM_3).trans hM_6).trans hM_7) hc_2) 4 rfl fun _ f => ?_
       refine Y5 default f 1 fun _ f => ?_
       obtain ⟨x_3, hx_3, hF_24⟩ := bS hF_23
       obtain ⟨ad_3, c_3, e_3, hl_3, hr_3, hc_7⟩ := Sli.at_ (h_1.mono ((((hM_1.trans hM_2).trans hM_3).trans hM_6).trans hM_7)) hx_3
       clear hl_3
       obtain ⟨A_5, cap_5, A_6, cap_6, rfl, h_14, h_15⟩ := T_api_Value.opn hr_3
       refine Y2 (v := .pointer (some (ad_3.add (s_2.toNat * 6)))) f (fun _ pq => Y31 e_3 rfl (len := d0.fList.length) (cap := cap_1) (k := .i64) (i := s_2) (e := 76) (sz := 6) (getI_nn hx_3) (getI_lt hx_3)) fun _ f => ?_
       refine Y2 (v := .agg #[.int .i8 x_3.fKind, .bool x_3.fBool, .int .i64 x_3.fNum, S x_3.fText, .slice A_5 x_3.fList.length cap_5, .slice A_6 x_3.fKeys.length cap_6]) f (fun _ pq => Y33 (cs := [.int .i8 x_3.fKind, .bool x_3.fBool, .int .i64 x_3.fNum, S x_3.fText, .slice A_5 x_3.fList.length cap_5, .slice A_6 x_3.fKeys.length cap_6]) rfl (ad := ad_3.add (s_2.toNat * 6)) (fun j v h => pq.cell (hc_7 j v h))) fun _ f => ?_
       refine Y5 default f 1 fun _ f => ?_
       refine Y4 f (fzu ((hM_3.trans hM_6).trans hM_7) hc_4) 4 rfl fun _ f => ?_
       refine Y5 default f 1 fun _ f => ?_
       obtain ⟨x_4, hx_4, hF_25⟩ := bS hF_24
       obtain ⟨ad_4, c_4, e_4, hl_4, hr_4, hc_8⟩ := Sli.at_ (h_3.mono ((((hM_1.trans hM_2).trans hM_3).trans hM_6).trans hM_7)) hx_4
       clear hl_4
       obtain ⟨A_7, cap_7, A_8, cap_8, rfl, h_16, h_17⟩ := T_api_Value.opn hr_4
       refine Y2 (v := .pointer (some (ad_4.add (s_2.toNat * 6)))) f (fun _ pq => Y31 e_4 rfl (len := d1.fList.length) (cap := cap_3) (k := .i64) (i := s_2) (e := 76) (sz := 6) (getI_nn hx_4) (getI_lt hx_4)) fun _ f => ?_
       refine Y2 (v := .agg #[.int .i8 x_4.fKind, .bool x_4.fBool, .int .i64 x_4.fNum, S x_4.fText, .slice A_7 x_4.fList.length cap_7, .slice A_8 x_4.fKeys.length cap_8]) f (fun _ pq => Y33 (cs := [.int .i8 x_4.fKind, .bool x_4.fBool, .int .i64 x_4.fNum, S x_4.fText, .slice A_7 x_4.fList.length cap_7, .slice A_8 x_4.fKeys.length cap_8]) rfl (ad := ad_4.add (s_2.toNat * 6)) (fun j v h => pq.cell (hc_8 j v h))) fun _ f => ?_
       obtain ⟨x_5, hx_5, hF_26⟩ := bS hF_25
       refine Y3 f (hrec_ref03_Same _ _ x_3 (T_api_Value.shutx (x := x_3) h_14 h_15) _ x_4 (T_api_Value.shutx (x := x_4) h_16 h_17) x_5 hx_5) fun _ f => ?_
       refine Y5 default f 1 fun _ f => ?_
       refine Q_end rfl ?_
       intro w_11 p_10
       refine T_n ?_
       refine Y6 f (b := !x_5) (fun h_18 => ?_) fun h_18 => ?_
       ·have k_18 : (x_5) = false := by simpa using h_18
        have hF_27 := cnd_t h_18 hF_26
        refine R_seq (R_reg ?_)
        refine Y19 f 1 fun _ f => ?_
        refine W_end rfl (T_n (wp_ret (B_r (T_r (T_r ?_)))))
        obtain rfl := sI hF_27
        exact .inl ⟨rfl, (), (sI hn_2).symm, M_7, hM_7, f.keep (ks := [4]) (by kernel_rfl), p_10⟩
       ·have k_19 : (x_5) = true := by simpa using h_18
        have hF_28 := cnd_f h_18 hF_26
        refine wp_skip (B_n (T_n (R_reg ?_)))
        refine Y19 f 1 fun _ f => ?_
        obtain ⟨g_2, hF_29⟩ := nS hF_28
        refine Y19 f 1 fun _ f => ?_
        have f := Frm.set f 75 (v := .int .i64 (IntKind.wrap .i64 (s_2 + 1))) (v' := .int .i64 (s_2 + 1)) (by kernel_rfl) (congrArg (Value.int .i64) (inR_wrap g_2))
        refine Y19 f 1 fun _ f => ?_
        refine W_end rfl (T_n ?_)
        obtain rfl := sI hF_29
        exact ⟨⟨m_4, s_2 + 1⟩, Nat.lt_succ_self _, M_7, hM_7, hn_2, f.keep (ks := [2, 3, 6]) (by kernel_rfl), p_10⟩
      ·have k_20 : ¬ (s_2 < ((d0.fList.length : Nat) : Int)) := iff_f dI h_13
       have hF_30 := cnd_f h_13 hs_2
       refine wp_exit (T_x (T_x ?_))
       obtain rfl := sI hF_30
       exact .inr ⟨rfl, (), (sI hn_2).symm, M_7, hM_7, f.keep (ks := []) (by kernel_rfl), p_8⟩
     ·rintro _ _ w_14 (⟨rfl, y_4, rfl, M_8, hM_8, f, p_11⟩ | ⟨rfl, y_5, rfl, M_9, hM_9, f, p_12⟩)
      ·refine B_r (T_r ?_)
       refine E_ret1 f rfl (by kernel_rfl : Vc.look _ 4 = some (.bool false)) ?_
       obtain rfl := sI hF_22
       exact ⟨_, rfl, M_8, ((((hM_1.trans hM_2).trans hM_3).trans hM_6).trans hM_8), p_11, rfl⟩
      ·refine B_x (T_n (R_seq (R_reg ?_)))
       refine Y19 f 1 fun _ f => ?_
       refine W_end rfl (T_n (wp_ret ?_))
       refine E_ret1 f rfl (by kernel_rfl : Vc.look _ 4 = some (.bool true)) ?_
       obtain rfl := sI hF_22
       exact ⟨_, rfl, M_9, ((((hM_1.trans hM_2).trans hM_3).trans hM_6).trans hM_9), p_12, rfl⟩
def ref03_Same_k (n : Nat) : Nat → T_api_Value → T_api_Value → Option Bool
  | 0 => fun _ _ => none
  | k + 1 => ref03_Same_b n (ref03_Same_k n k)
def ref03_Same (n : Nat) (d0 : T_api_Value) (d1 : T_api_Value) : Option Bool := ref03_Same_k n n d0 d1
theorem ref03_Same_ok (n : Nat) (M : Mem) (c0 : List Value) (d0 : T_api_Value) (h0 : Rep M (emb_T_api_Value d0) c0) (c1 : List Value) (d1 : T_api_Value) (h1 : Rep M (emb_T_api_Value d1) c1) (r : Bool) (hF : ref03_Same n d0 d1 = some r) : Ok Tryz.prog M 47 [.agg c0.toArray, .agg c1.toArray] (fun _ v => v = .bool r) := by
 have key : ∀ (k : Nat) (M : Mem) (c0 : List Value) (d0 : T_api_Value) (h0 : Rep M (emb_T_api_Value d0) c0) (c1 : List Value) (d1 : T_api_Value) (h1 : Rep M (emb_T_api_Value d1) c1) (r : Bool) (hF : ref03_Same_k n k d0 d1 = some r), Ok Tryz.prog M 47 [.agg c0.toArray, .agg c1.toArray] (fun _ v => v = .bool r) := by
  intro k
  induction k with
  | zero => intro M c0 d0 h0 c1 d1 h1 r hF; simp [ref03_Same_k] at hF
  | succ k ih => intro M c0 d0 h0 c1 d1 h1 r hF; exact ref03_Same_b_ok n (ref03_Same_k n k) ih M c0 d0 h0 c1 d1 h1 r hF
 exact key n M c0 d0 h0 c1 d1 h1 r hF
end Go.Proofs.YtalifkcchfkgmaaGreatDoor
end

section
set_option linter.unusedVariables false
set_option linter.unusedSimpArgs false
namespace Go.Proofs.YtalifkcchfkgmaaGreatDoor
open Go Go.Vc Go.RowKit
def ref03_Count_s1 (n : Nat) (rec_ref03_Count : T_api_Value → Option Int) (d0 : T_api_Value) (s_1 : Int × Int) : Option (Lp (Int × Int) Int) :=
    bif (decide (s_1.2 < ((d0.fList.length : Nat) : Int))) then
      ((getI d0.fList s_1.2).bind fun x_1 =>
      (rec_ref03_Count x_1).bind fun x_2 =>
      need (inR .i64 (s_1.1 + x_2)) <|
      need (inR .i64 (s_1.2 + 1)) <|
      some (.nx (s_1.1 + x_2, s_1.2 + 1)))
    else
      some (.br s_1.1)
def ref03_Count_b (n : Nat) (rec_ref03_Count : T_api_Value → Option Int) (d0 : T_api_Value) : Option Int :=
  (loopF (ref03_Count_s1 n rec_ref03_Count d0) n ((1 : Int), (0 : Int))).bind fun y_1 =>
  some (y_1)
set_option maxHeartbeats 2000000 in
theorem ref03_Count_b_ok (n : Nat) (rec_ref03_Count : T_api_Value → Option Int) (hrec_ref03_Count : ∀ (M : Mem) (c0 : List Value) (d0 : T_api_Value) (h0 : Rep M (emb_T_api_Value d0) c0) (r : Int) (hF : rec_ref03_Count d0 = some r), Ok Tryz.prog M 97 [.agg c0.toArray] (fun _ v => v = .int .i64 r)) (M : Mem) (c0 : List Value) (d0 : T_api_Value) (h0 : Rep M (emb_T_api_Value d0) c0) (r : Int) (hF : ref03_Count_b n rec_ref03_Count d0 = some r) : Ok Tryz.prog M 97 [.agg c0.toArray] (fun _ v => v = .int .i64 r) := by
 unfold ref03_Count_b at hF
 intro M1 hM0 w0 H w p0
 replace h0 := Rep.mono hM0 _ _ h0
 obtain ⟨A_1, cap_1, A_2, cap_2, rfl, h_1, h_2⟩ := T_api_Value.opn h0
 refine R_enter 21 Tryz.func97 rfl rfl (by simp) fun a0 f0 => ?_
 refine R_seq (R_reg ?_)
 refine Y13 (cs := #[.int .i8 d0.fKind, .bool d0.fBool, .int .i64 d0.fNum, S d0.fText, .slice A_1 d0.fList.length cap_1, .slice A_2 d0.fKeys.length cap_2]) (T := 76) f0 p0 fun b_1 M_1 w_1 hM_1 hc_1 p_1 _ f => ?_
 have hc_2 := fz_box hc_1
 refine Y19 f 1 fun _ f => ?_
 refine W_end rfl (T_n (R_seq (R_reg ?_)))
 refine Y19 f 1 fun _ f => ?_
 refine W_end rfl (T_n (R_seq (R_seq (R_reg ?_))))
 refine Y19 f 1 fun _ f => ?_
 refine W_end rfl (T_n (wp_block ?_))
 obtain ⟨b_2, hL_1, hF_1⟩ := bS hF
 refine wp_mono (Q := fun e a w => (e = .exit 0 ∧ (∃ y_1 : Int, b_2 = y_1 ∧ ∃ M_3 : Mem, M_1.le M_3 ∧ Frm 21 [(3, .int .i64 y_1)] a ∧ Hp w0 M_3 (H) w))) (R_loop (n := 21) (w0 := w0) (M := M_1) (fun (x : Nat × (Int × Int)) => match x with | (m_1, s_1) => [(1, .pointer (some (⟨b_1, 0, none⟩))), (3, .int .i64 s_1.1), (4, .int .i64 s_1.2)]) (fun (x : Nat × (Int × Int)) => match x with | (m_1, s_1) => (H)) (fun (x : Nat × (Int × Int)) (MM : Mem) => match x with | (m_1, s_1) => loopF (ref03_Count_s1 n rec_ref03_Count d0) m_1 s_1 = some b_2) (fun (x : Nat × (Int × Int)) => match x with | (m_1, s_1) => m_1) (n, ((1 : Int), (0 : Int))) (f.keep (ks := [1, 3, 4]) (by kernel_rfl)) p_1 hL_1 ?_) ?_
 ·rintro ⟨m_1, s_1⟩ M_2 _ w_2 hM_2 I_1 f p_2
  have I_1L := I_1
  obtain ⟨m_2, r_1, rfl, hs_1, hn_1⟩ := loop_step I_1L
  unfold ref03_Count_s1 at hs_1
  refine R_seq (R_seq (R_reg ?_))
  refine Y19 f 2 fun _ f => ?_
  refine Y15 f p_2 (fzu hM_2 hc_2) 4 rfl fun _ f => ?_
  refine Y19 f 2 fun _ f => ?_
  refine W_end rfl (T_n ?_)
  refine Y6 f (b := decide (s_1.2 < ((d0.fList.length : Nat) : Int))) (fun h_3 => ?_) fun h_3 => ?_
  ·have k_1 : s_1.2 < ((d0.fList.length : Nat) : Int) := dI.1 h_3
   have hF_2 := cnd_t h_3 hs_1
   refine wp_skip (T_n (R_seq (wp_block (R_reg ?_))))
   refine Y19 f 2 fun _ f => ?_
   refine Y15 f p_2 (fzu hM_2 hc_2) 4 rfl fun _ f => ?_
   refine Y19 f 1 fun _ f => ?_
   obtain ⟨x_1, hx_1, hF_3⟩ := bS hF_2
   obtain ⟨ad_1, c_1, e_1, hl_1, hr_1, hc_3⟩ := Sli.at_ (h_1.mono (hM_1.trans hM_2)) hx_1
   clear hl_1
   obtain ⟨A_3, cap_3, A_4, cap_4, rfl, h_4, h_5⟩ := T_api_Value.opn hr_1
   refine Y14 (v := .pointer (some (ad_1.add (s_1.2.toNat * 6)))) f (Y31 e_1 rfl (len := d0.fList.length) (cap := cap_1) (k := .i64) (i := s_1.2) (e := 76) (sz := 6) (getI_nn hx_1) (getI_lt hx_1)) fun _ f => ?_
   refine Y14 (v := .agg #[.int .i8 x_1.fKind, .bool x_1.fBool, .int .i64 x_1.fNum, S x_1.fText, .slice A_3 x_1.fList.length cap_3, .slice A_4 x_1.fKeys.length cap_4]) f (Y33 (cs := [.int .i8 x_1.fKind, .bool x_1.fBool, .int .i64 x_1.fNum, S x_1.fText, .slice A_3 x_1.fList.length cap_3, .slice A_4 x_1.fKeys.length cap_4]) rfl (ad := ad_1.add (s_1.2.toNat * 6)) (fun j v h => p_2.cell (hc_3 j v h))) fun _ f => ?_
   obtain ⟨x_2, hx_2, hF_4⟩ := bS hF_3
   refine Y18 f p_2 (hrec_ref03_Count _ _ x_1 (T_api_Value.shutx (x := x_1) h_4 h_5) x_2 hx_2) fun w_3 p_3 _ f => ?_
   obtain ⟨g_1, hF_5⟩ := nS hF_4
   refine Y19 f 1 fun _ f => ?_
   have f := Frm.set f 19 (v := .int .i64 (IntKind.wrap .i64 (s_1.1 + x_2))) (v' := .int .i64 (s_1.1 + x_2)) (by kernel_rfl) (congrArg (Value.int .i64) (inR_wrap g_1))
   refine Y19 f 1 fun _ f => ?_
   refine W_end rfl (B_n (T_n (R_reg ?_)))
   refine Y19 f 1 fun _ f => ?_
   obtain ⟨g_2, hF_6⟩ := nS hF_5
   refine Y19 f 1 fun _ f => ?_
   have f := Frm.set f 11 (v := .int .i64 (IntKind.wrap .i64 (s_1.2 + 1))) (v' := .int .i64 (s_1.2 + 1)) (by kernel_rfl) (congrArg (Value.int .i64) (inR_wrap g_2))
   refine Y19 f 1 fun _ f => ?_
   refine W_end rfl (T_n ?_)
   obtain rfl := sI hF_6
   exact ⟨⟨m_2, (s_1.1 + x_2, s_1.2 + 1)⟩, Nat.lt_succ_self _, M_2, hM_2, hn_1, f.keep (ks := [1, 3, 4]) (by kernel_rfl), p_3⟩
  ·have k_2 : ¬ (s_1.2 < ((d0.fList.length : Nat) : Int)) := iff_f dI h_3
   have hF_7 := cnd_f h_3 hs_1
   refine wp_exit (T_x (T_x ?_))
   obtain rfl := sI hF_7
   exact ⟨rfl, s_1.1, (sI hn_1).symm, M_2, hM_2, f.keep (ks := [3]) (by kernel_rfl), p_2⟩
 ·rintro _ _ w_5 ⟨rfl, y_1, hq_, M_3, hM_3, f, p_4⟩
  subst b_2
  refine B_x (T_n (R_seq (R_reg ?_)))
  refine Y19 f 2 fun _ f => ?_
  refine W_end rfl (T_n (wp_ret ?_))
  refine E_ret1 f rfl (by kernel_rfl : Vc.look _ 2 = some (.int .i64 y_1)) ?_
  obtain rfl := sI hF_1
  exact ⟨_, rfl, M_3, (hM_1.trans hM_3), p_4, rfl⟩
def ref03_Count_k (n : Nat) : Nat → T_api_Value → Option Int
  | 0 => fun _ => none
  | k + 1 => ref03_Count_b n (ref03_Count_k n k)
def ref03_Count (n : Nat) (d0 : T_api_Value) : Option Int := ref03_Count_k n n d0
theorem ref03_Count_ok (n : Nat) (M : Mem) (c0 : List Value) (d0 : T_api_Value) (h0 : Rep M (emb_T_api_Value d0) c0) (r : Int) (hF : ref03_Count n d0 = some r) : Ok Tryz.prog M 97 [.agg c0.toArray] (fun _ v => v = .int .i64 r) := by
 have key : ∀ (k : Nat) (M : Mem) (c0 : List Value) (d0 : T_api_Value) (h0 : Rep M (emb_T_api_Value d0) c0) (r : Int) (hF : ref03_Count_k n k d0 = some r), Ok Tryz.prog M 97 [.agg c0.toArray] (fun _ v => v = .int .i64 r) := by
  intro k
  induction k with
  | zero => intro M c0 d0 h0 r hF; simp [ref03_Count_k] at hF
  | succ k ih => intro M c0 d0 h0 r hF; exact ref03_Count_b_ok n (ref03_Count_k n k) ih M c0 d0 h0 r hF
 exact key n M c0 d0 h0 r hF
end Go.Proofs.YtalifkcchfkgmaaGreatDoor
end

section
set_option linter.unusedVariables false
set_option linter.unusedSimpArgs false
namespace Go.Proofs.YtalifkcchfkgmaaGreatDoor
open Go Go.Vc Go.RowKit
def ref03_deeper_s1 (n : Nat) (rec_ref03_deeper : T_api_Value → Int → Option Bool) (d0 : T_api_Value) (d1 : Int) (s_1 : Int) : Option (Lp Int (Sum Unit Unit)) :=
    bif (decide (s_1 < ((d0.fList.length : Nat) : Int))) then
      ((getI d0.fList s_1).bind fun x_1 =>
      need (inR .i64 (d1 - 1)) <|
      (rec_ref03_deeper x_1 (d1 - 1)).bind fun x_2 =>
      bif x_2 then
        (some (.br (.inl ())))
      else
        need (inR .i64 (s_1 + 1)) <|
        some (.nx (s_1 + 1)))
    else
      some (.br (.inr ()))
def ref03_deeper_b (n : Nat) (rec_ref03_deeper : T_api_Value → Int → Option Bool) (d0 : T_api_Value) (d1 : Int) : Option Bool :=
  bif (decide (d1 = 0)) then
    (some ((true)))
  else
    (loopF (ref03_deeper_s1 n rec_ref03_deeper d0 d1) n (0 : Int)).bind fun b_2 =>
    (match b_2 with 
    | .inl y_1 => some ((true)) 
    | .inr y_2 => some ((false)))
set_option maxHeartbeats 2000000 in
theorem ref03_deeper_b_ok (n : Nat) (rec_ref03_deeper : T_api_Value → Int → Option Bool) (hrec_ref03_deeper : ∀ (M : Mem) (c0 : List Value) (d0 : T_api_Value) (h0 : Rep M (emb_T_api_Value d0) c0) (d1 : Int) (r : Bool) (hF : rec_ref03_deeper d0 d1 = some r), Ok Tryz.prog M 95 [.agg c0.toArray, .int .i64 d1] (fun _ v => v = .bool r)) (M : Mem) (c0 : List Value) (d0 : T_api_Value) (h0 : Rep M (emb_T_api_Value d0) c0) (d1 : Int) (r : Bool) (hF : ref03_deeper_b n rec_ref03_deeper d0 d1 = some r) : Ok Tryz.prog M 95 [.agg c0.toArray, .int .i64 d1] (fun _ v => v = .bool r) := by
 unfold ref03_deeper_b at hF
 intro M1 hM0 w0 H w p0
 replace h0 := Rep.mono hM0 _ _ h0
 obtain ⟨A_1, cap_1, A_2, cap_2, rfl, h_1, h_2⟩ := T_api_Value.opn h0
 refine R_enter 23 Tryz.func95 rfl rfl (by simp) fun a0 f0 => ?_
 refine R_seq (R_reg ?_)
 refine Y13 (cs := #[.int .i8 d0.fKind, .bool d0.fBool, .int .i64 d0.fNum, S d0.fText, .slice A_1 d0.fList.length cap_1, .slice A_2 d0.fKeys.length cap_2]) (T := 76) f0 p0 fun b_1 M_1 w_1 hM_1 hc_1 p_1 _ f => ?_
 have hc_2 := fz_box hc_1
 refine Y19 f 1 fun _ f => ?_
 refine W_end rfl (T_n (R_seq (R_seq (R_reg ?_))))
 refine Y19 f 2 fun _ f => ?_
 refine W_end rfl (T_n ?_)
 refine Y6 f (b := decide (d1 = 0)) (fun h_3 => ?_) fun h_3 => ?_
 ·have k_1 : d1 = 0 := dI.1 h_3
  have hF_1 := cnd_t h_3 hF
  refine R_seq (R_reg ?_)
  refine Y19 f 1 fun _ f => ?_
  refine W_end rfl (T_n (wp_ret (T_r ?_)))
  refine E_ret1 f rfl (by kernel_rfl : Vc.look _ 4 = some (.bool true)) ?_
  obtain rfl := sI hF_1
  exact ⟨_, rfl, M_1, hM_1, p_1, rfl⟩
 ·have k_2 : ¬ (d1 = 0) := iff_f dI h_3
  have hF_2 := cnd_f h_3 hF
  refine wp_skip (T_n (R_seq (R_seq (R_reg ?_))))
  refine Y19 f 1 fun _ f => ?_
  refine W_end rfl (T_n (wp_block ?_))
  obtain ⟨b_2, hL_1, hF_3⟩ := bS hF_2
  refine wp_mono (Q := fun e a w => (e = .ret ∧ (∃ y_1 : Unit, b_2 = .inl y_1 ∧ ∃ M_3 : Mem, M_1.le M_3 ∧ Frm 23 [(4, .bool true)] a ∧ Hp w0 M_3 (H) w)) ∨ (e = .exit 0 ∧ (∃ y_2 : Unit, b_2 = .inr y_2 ∧ ∃ M_4 : Mem, M_1.le M_4 ∧ Frm 23 [] a ∧ Hp w0 M_4 (H) w))) (R_loop (n := 23) (w0 := w0) (M := M_1) (fun (x : Nat × Int) => match x with | (m_1, s_1) => [(1, .int .i64 d1), (2, .pointer (some (⟨b_1, 0, none⟩))), (5, .int .i64 s_1)]) (fun (x : Nat × Int) => match x with | (m_1, s_1) => (H)) (fun (x : Nat × Int) (MM : Mem) => match x with | (m_1, s_1) => loopF (ref03_deeper_s1 n rec_ref03_deeper d0 d1) m_1 s_1 = some b_2) (fun (x : Nat × Int) => match x with | (m_1, s_1) => m_1) (n, (0 : Int)) (f.keep (ks := [1, 2, 5]) (by kernel_rfl)) p_1 hL_1 ?_) ?_
  ·rintro ⟨m_1, s_1⟩ M_2 _ w_2 hM_2 I_1 f p_2
   have I_1L := I_1
   obtain ⟨m_2, r_1, rfl, hs_1, hn_1⟩ := loop_step I_1L
   unfold ref03_deeper_s1 at hs_1
   refine R_seq (R_seq (R_reg ?_))
   refine Y19 f 2 fun _ f => ?_
   refine Y15 f p_2 (fzu hM_2 hc_2) 4 rfl fun _ f => ?_
   refine Y19 f 2 fun _ f => ?_
   refine W_end rfl (T_n ?_)
   refine Y6 f (b := decide (s_1 < ((d0.fList.length : Nat) : Int))) (fun h_4 => ?_) fun h_4 => ?_
   ·have k_3 : s_1 < ((d0.fList.length : Nat) : Int) := dI.1 h_4
    have hF_4 := cnd_t h_4 hs_1
    refine wp_skip (T_n (R_seq (wp_block (R_seq (R_reg ?_)))))
    refine Y19 f 1 fun _ f => ?_
    refine Y15 f p_2 (fzu hM_2 hc_2) 4 rfl fun _ f => ?_
    refine Y19 f 1 fun _ f => ?_
    obtain ⟨x_1, hx_1, hF_5⟩ := bS hF_4
    obtain ⟨ad_1, c_1, e_1, hl_1, hr_1, hc_3⟩ := Sli.at_ (h_1.mono (hM_1.trans hM_2)) hx_1
    clear hl_1
    obtain ⟨A_3, cap_3, A_4, cap_4, rfl, h_5, h_6⟩ := T_api_Value.opn hr_1
    refine Y14 (v := .pointer (some (ad_1.add (s_1.toNat * 6)))) f (Y31 e_1 rfl (len := d0.fList.length) (cap := cap_1) (k := .i64) (i := s_1) (e := 76) (sz := 6) (getI_nn hx_1) (getI_lt hx_1)) fun _ f => ?_
    refine Y14 (v := .agg #[.int .i8 x_1.fKind, .bool x_1.fBool, .int .i64 x_1.fNum, S x_1.fText, .slice A_3 x_1.fList.length cap_3, .slice A_4 x_1.fKeys.length cap_4]) f (Y33 (cs := [.int .i8 x_1.fKind, .bool x_1.fBool, .int .i64 x_1.fNum, S x_1.fText, .slice A_3 x_1.fList.length cap_3, .slice A_4 x_1.fKeys.length cap_4]) rfl (ad := ad_1.add (s_1.toNat * 6)) (fun j v h => p_2.cell (hc_3 j v h))) fun _ f => ?_
    refine Y19 f 1 fun _ f => ?_
    obtain ⟨g_1, hF_6⟩ := nS hF_5
    refine Y19 f 1 fun _ f => ?_
    have f := Frm.set f 21 (v := .int .i64 (IntKind.wrap .i64 (d1 - 1))) (v' := .int .i64 (d1 - 1)) (by kernel_rfl) (congrArg (Value.int .i64) (inR_wrap g_1))
    obtain ⟨x_2, hx_2, hF_7⟩ := bS hF_6
    refine Y18 f p_2 (hrec_ref03_deeper _ _ x_1 (T_api_Value.shutx (x := x_1) h_5 h_6) (d1 - 1) x_2 hx_2) fun w_3 p_3 _ f => ?_
    refine W_end rfl (T_n ?_)
    refine Y6 f (b := x_2) (fun h_7 => ?_) fun h_7 => ?_
    ·have hF_8 := cnd_t h_7 hF_7
     refine R_seq (R_reg ?_)
     refine Y19 f 1 fun _ f => ?_
     refine W_end rfl (T_n (wp_ret (B_r (T_r (T_r ?_)))))
     obtain rfl := sI hF_8
     exact .inl ⟨rfl, (), (sI hn_1).symm, M_2, hM_2, f.keep (ks := [4]) (by kernel_rfl), p_3⟩
    ·have hF_9 := cnd_f h_7 hF_7
     refine wp_skip (B_n (T_n (R_reg ?_)))
     refine Y19 f 1 fun _ f => ?_
     obtain ⟨g_2, hF_10⟩ := nS hF_9
     refine Y19 f 1 fun _ f => ?_
     have f := Frm.set f 14 (v := .int .i64 (IntKind.wrap .i64 (s_1 + 1))) (v' := .int .i64 (s_1 + 1)) (by kernel_rfl) (congrArg (Value.int .i64) (inR_wrap g_2))
     refine Y19 f 1 fun _ f => ?_
     refine W_end rfl (T_n ?_)
     obtain rfl := sI hF_10
     exact ⟨⟨m_2, s_1 + 1⟩, Nat.lt_succ_self _, M_2, hM_2, hn_1, f.keep (ks := [1, 2, 5]) (by kernel_rfl), p_3⟩
   ·have k_6 : ¬ (s_1 < ((d0.fList.length : Nat) : Int)) := iff_f dI h_4
    have hF_11 := cnd_f h_4 hs_1
    refine wp_exit (T_x (T_x ?_))
    obtain rfl := sI hF_11
    exact .inr ⟨rfl, (), (sI hn_1).symm, M_2, hM_2, f.keep (ks := []) (by kernel_rfl), p_2⟩
  ·rintro _ _ w_6 (⟨rfl, y_1, rfl, M_3, hM_3, f, p_4⟩ | ⟨rfl, y_2, rfl, M_4, hM_4, f, p_5⟩)
   ·refine B_r (T_r ?_)
    refine E_ret1 f rfl (by kernel_rfl : Vc.look _ 4 = some (.bool true)) ?_
    obtain rfl := sI hF_3
    exact ⟨_, rfl, M_3, (hM_1.trans hM_3), p_4, rfl⟩
   ·refine B_x (T_n (R_seq (R_reg ?_)))
    refine Y19 f 1 fun _ f => ?_
    refine W_end rfl (T_n (wp_ret ?_))
    refine E_ret1 f rfl (by kernel_rfl : Vc.look _ 4 = some (.bool false)) ?_
    obtain rfl := sI hF_3
    exact ⟨_, rfl, M_4, (hM_1.trans hM_4), p_5, rfl⟩
def ref03_deeper_k (n : Nat) : Nat → T_api_Value → Int → Option Bool
  | 0 => fun _ _ => none
  | k + 1 => ref03_deeper_b n (ref03_deeper_k n k)
def ref03_deeper (n : Nat) (d0 : T_api_Value) (d1 : Int) : Option Bool := ref03_deeper_k n n d0 d1
theorem ref03_deeper_ok (n : Nat) (M : Mem) (c0 : List Value) (d0 : T_api_Value) (h0 : Rep M (emb_T_api_Value d0) c0) (d1 : Int) (r : Bool) (hF : ref03_deeper n d0 d1 = some r) : Ok Tryz.prog M 95 [.agg c0.toArray, .int .i64 d1] (fun _ v => v = .bool r) := by
 have key : ∀ (k : Nat) (M : Mem) (c0 : List Value) (d0 : T_api_Value) (h0 : Rep M (emb_T_api_Value d0) c0) (d1 : Int) (r : Bool) (hF : ref03_deeper_k n k d0 d1 = some r), Ok Tryz.prog M 95 [.agg c0.toArray, .int .i64 d1] (fun _ v => v = .bool r) := by
  intro k
  induction k with
  | zero => intro M c0 d0 h0 d1 r hF; simp [ref03_deeper_k] at hF
  | succ k ih => intro M c0 d0 h0 d1 r hF; exact ref03_deeper_b_ok n (ref03_deeper_k n k) ih M c0 d0 h0 d1 r hF
 exact key n M c0 d0 h0 d1 r hF
def ref03_plain (n : Nat) (d0 : T_api_Value) : Option Bool :=
  ((bif (decide (d0.fKind < 0)) then
      (some ((true)))
    else
      some ((decide ((5 : Int) < d0.fKind))) : Option Bool)).bind fun y_1 =>
  bif y_1 then
    (some ((false)))
  else
    ((bif d0.fBool then
        (bif (!(decide (d0.fKind = 1))) then
          (some ((true)))
        else
          bif (!(decide (d0.fNum = 0))) then
            (bif (!(decide (d0.fKind = 2))) then
              (some ((true)))
            else
              bif (!(decide (d0.fText = []))) then
                (some ((!(decide (d0.fKind = 3)))))
              else
                some ((false)))
          else
            bif (!(decide (d0.fText = []))) then
              (some ((!(decide (d0.fKind = 3)))))
            else
              some ((false)))
      else
        bif (!(decide (d0.fNum = 0))) then
          (bif (!(decide (d0.fKind = 2))) then
            (some ((true)))
          else
            bif (!(decide (d0.fText = []))) then
              (some ((!(decide (d0.fKind = 3)))))
            else
              some ((false)))
        else
          bif (!(decide (d0.fText = []))) then
            (some ((!(decide (d0.fKind = 3)))))
          else
            some ((false)) : Option Bool)).bind fun y_2 =>
    bif y_2 then
      (some ((false)))
    else
      ((bif (decide ((0 : Int) < ((d0.fList.length : Nat) : Int))) then
          (bif (!(decide (d0.fKind = 4))) then
            (some ((!(decide (d0.fKind = 5)))))
          else
            some ((false)))
        else
          some ((false)) : Option Bool)).bind fun y_3 =>
      bif y_3 then
        (some ((false)))
      else
        bif (decide (d0.fKind = 5)) then
          (some ((decide (((d0.fKeys.length : Nat) : Int) = ((d0.fList.length : Nat) : Int)))))
        else
          some ((decide (((d0.fKeys.length : Nat) : Int) = 0)))
set_option maxHeartbeats 2000000 in
theorem ref03_plain_ok (n : Nat) (M : Mem) (c0 : List Value) (d0 : T_api_Value) (h0 : Rep M (emb_T_api_Value d0) c0) (r : Bool) (hF : ref03_plain n d0 = some r) : Ok Tryz.prog M 111 [.agg c0.toArray] (fun _ v => v = .bool r) := by
 unfold ref03_plain at hF
 intro M1 hM0 w0 H w p0
 replace h0 := Rep.mono hM0 _ _ h0
 obtain ⟨A_1, cap_1, A_2, cap_2, rfl, h_1, h_2⟩ := T_api_Value.opn h0
 refine R_enter 66 Tryz.func111 rfl rfl (by simp) fun a0 f0 => ?_
 refine R_seq (R_reg ?_)
 refine Y13 (cs := #[.int .i8 d0.fKind, .bool d0.fBool, .int .i64 d0.fNum, S d0.fText, .slice A_1 d0.fList.length cap_1, .slice A_2 d0.fKeys.length cap_2]) (T := 76) f0 p0 fun b_1 M_1 w_1 hM_1 hc_1 p_1 _ f => ?_
 have hc_2 := fz_box hc_1
 refine Y19 f 1 fun _ f => ?_
 refine W_end rfl (T_n (R_seq (R_seq ?_)))
 obtain ⟨j_1, hj_1, hF_1⟩ := bS hF
 refine R_mid (fun a_10 w_2 => ∃ y_1 : Bool, j_1 = y_1 ∧ ∃ M_2 : Mem, M_1.le M_2 ∧ Frm 66 [(1, .pointer (some (⟨b_1, 0, none⟩))), (10, .bool y_1)] a_10 ∧ Hp w0 M_2 (H) w_2) ?_ ?_
 ·refine R_reg ?_
  refine Y19 f 1 fun _ f => ?_
  refine Y15 f p_1 hc_2 0 rfl fun _ f => ?_
  refine Y19 f 2 fun _ f => ?_
  rcases bE (decide (d0.fKind < 0)) with h_3 | h_3
  ·have k_1 : d0.fKind < 0 := dI.1 h_3
   have hF_2 := cnd_t h_3 hj_1
   have f := Frm.set f 6 (v := .bool (decide (d0.fKind < 0))) (v' := .bool true) (by kernel_rfl) (cB h_3)
   refine Y19 f 4 fun _ f => ?_
   refine W_end rfl (T_n ?_)
   exact ⟨(true), (sI hF_2).symm, M_1, (mR _), f.keep (ks := [1, 10]) (by kernel_rfl), p_1⟩
  ·have k_2 : ¬ (d0.fKind < 0) := iff_f dI h_3
   have hF_3 := cnd_f h_3 hj_1
   have f := Frm.set f 6 (v := .bool (decide (d0.fKind < 0))) (v' := .bool false) (by kernel_rfl) (cB h_3)
   refine Y19 f 1 fun _ f => ?_
   refine Y15 f p_1 hc_2 0 rfl fun _ f => ?_
   refine Y19 f 2 fun _ f => ?_
   refine W_end rfl (T_n ?_)
   exact ⟨(decide ((5 : Int) < d0.fKind)), (sI hF_3).symm, M_1, (mR _), f.keep (ks := [1, 10]) (by kernel_rfl), p_1⟩
 ·rintro a_10 w_2 ⟨y_1, hq_1, M_2, hM_2, f, p_2⟩
  subst j_1
  refine T_n ?_
  refine Y6 f (b := y_1) (fun h_4 => ?_) fun h_4 => ?_
  ·have hF_4 := cnd_t h_4 hF_1
   refine R_seq (R_reg ?_)
   refine Y19 f 1 fun _ f => ?_
   refine W_end rfl (T_n (wp_ret (T_r ?_)))
   refine E_ret1 f rfl (by kernel_rfl : Vc.look _ 2 = some (.bool false)) ?_
   obtain rfl := sI hF_4
   exact ⟨_, rfl, M_2, (hM_1.trans hM_2), p_2, rfl⟩
  ·have hF_5 := cnd_f h_4 hF_1
   refine wp_skip (T_n (R_seq (R_seq ?_)))
   obtain ⟨j_2, hj_2, hF_6⟩ := bS hF_5
   refine R_mid (fun a_65 w_3 => ∃ y_2 : Bool, j_2 = y_2 ∧ ∃ M_3 : Mem, M_2.le M_3 ∧ Frm 66 [(1, .pointer (some (⟨b_1, 0, none⟩))), (37, .bool y_2)] a_65 ∧ Hp w0 M_3 (H) w_3) ?_ ?_
   ·refine R_reg ?_
    refine Y19 f 1 fun _ f => ?_
    refine Y15 f p_2 (fzu hM_2 hc_2) 1 rfl fun _ f => ?_
    refine Y19 f 1 fun _ f => ?_
    rcases bE (d0.fBool) with h_5 | h_5
    ·have hF_7 := cnd_t h_5 hj_2
     have f := Frm.set f 13 (v := .bool d0.fBool) (v' := .bool true) (by kernel_rfl) (cB h_5)
     refine Y19 f 1 fun _ f => ?_
     refine Y15 f p_2 (fzu hM_2 hc_2) 0 rfl fun _ f => ?_
     refine Y19 f 3 fun _ f => ?_
     rcases bE (!(decide (d0.fKind = 1))) with h_6 | h_6
     ·have k_6 : ¬ (d0.fKind = 1) := (not_iff dI).1 h_6
      have hF_8 := cnd_t h_6 hF_7
      have f := Frm.set f 18 (v := .bool (!(decide (d0.fKind = 1)))) (v' := .bool true) (by kernel_rfl) (cB h_6)
      refine Y19 f 19 fun _ f => ?_
      refine W_end rfl (T_n ?_)
      exact ⟨(true), (sI hF_8).symm, M_2, (mR _), f.keep (ks := [1, 37]) (by kernel_rfl), p_2⟩
     ·have k_7 : ¬ (¬ (d0.fKind = 1)) := iff_f (not_iff dI) h_6
      have hF_9 := cnd_f h_6 hF_7
      have f := Frm.set f 18 (v := .bool (!(decide (d0.fKind = 1)))) (v' := .bool false) (by kernel_rfl) (cB h_6)
      refine Y19 f 1 fun _ f => ?_
      refine Y15 f p_2 (fzu hM_2 hc_2) 2 rfl fun _ f => ?_
      refine Y19 f 2 fun _ f => ?_
      rcases bE (!(decide (d0.fNum = 0))) with h_7 | h_7
      ·have k_8 : ¬ (d0.fNum = 0) := (not_iff dI).1 h_7
       have hF_10 := cnd_t h_7 hF_9
       have f := Frm.set f 22 (v := .bool (!(decide (d0.fNum = 0)))) (v' := .bool true) (by kernel_rfl) (cB h_7)
       refine Y19 f 1 fun _ f => ?_
       refine Y15 f p_2 (fzu hM_2 hc_2) 0 rfl fun _ f => ?_
       refine Y19 f 4 fun _ f => ?_
       rcases bE (!(decide (d0.fKind = 2))) with h_8 | h_8
       ·have k_9 : ¬ (d0.fKind = 2) := (not_iff dI).1 h_8
        have hF_11 := cnd_t h_8 hF_10
        have f := Frm.set f 28 (v := .bool (!(decide (d0.fKind = 2)))) (v' := .bool true) (by kernel_rfl) (cB h_8)
        refine Y19 f 9 fun _ f => ?_
        refine W_end rfl (T_n ?_)
        exact ⟨(true), (sI hF_11).symm, M_2, (mR _), f.keep (ks := [1, 37]) (by kernel_rfl), p_2⟩
       ·have k_10 : ¬ (¬ (d0.fKind = 2)) := iff_f (not_iff dI) h_8
        have hF_12 := cnd_f h_8 hF_10
        have f := Frm.set f 28 (v := .bool (!(decide (d0.fKind = 2)))) (v' := .bool false) (by kernel_rfl) (cB h_8)
        refine Y19 f 1 fun _ f => ?_
        refine Y15 f p_2 (fzu hM_2 hc_2) 3 rfl fun _ f => ?_
        refine Y14 (v := .bool (!(decide (d0.fText = [])))) f (Y39 rfl (l := d0.fText) (m := [])) fun _ f => ?_
        refine Y19 f 1 fun _ f => ?_
        rcases bE (!(decide (d0.fText = []))) with h_9 | h_9
        ·have k_11 : ¬ (d0.fText = []) := (not_iff dI).1 h_9
         have hF_13 := cnd_t h_9 hF_12
         have f := Frm.set f 32 (v := .bool (!(decide (d0.fText = [])))) (v' := .bool true) (by kernel_rfl) (cB h_9)
         refine Y19 f 1 fun _ f => ?_
         refine Y15 f p_2 (fzu hM_2 hc_2) 0 rfl fun _ f => ?_
         refine Y19 f 3 fun _ f => ?_
         refine W_end rfl (T_n ?_)
         exact ⟨(!(decide (d0.fKind = 3))), (sI hF_13).symm, M_2, (mR _), f.keep (ks := [1, 37]) (by kernel_rfl), p_2⟩
        ·have k_12 : ¬ (¬ (d0.fText = [])) := iff_f (not_iff dI) h_9
         have hF_14 := cnd_f h_9 hF_12
         have f := Frm.set f 32 (v := .bool (!(decide (d0.fText = [])))) (v' := .bool false) (by kernel_rfl) (cB h_9)
         refine Y19 f 5 fun _ f => ?_
         refine W_end rfl (T_n ?_)
         exact ⟨(false), (sI hF_14).symm, M_2, (mR _), f.keep (ks := [1, 37]) (by kernel_rfl), p_2⟩
      ·have k_13 : ¬ (¬ (d0.fNum = 0)) := iff_f (not_iff dI) h_7
       have hF_15 := cnd_f h_7 hF_9
       have f := Frm.set f 22 (v := .bool (!(decide (d0.fNum = 0)))) (v' := .bool false) (by kernel_rfl) (cB h_7)
       refine Y19 f 7 fun _ f => ?_
       refine Y15 f p_2 (fzu hM_2 hc_2) 3 rfl fun _ f => ?_
       refine Y14 (v := .bool (!(decide (d0.fText = [])))) f (Y39 rfl (l := d0.fText) (m := [])) fun _ f => ?_
       refine Y19 f 1 fun _ f => ?_
       rcases bE (!(decide (d0.fText = []))) with h_10 | h_10
       ·have k_14 : ¬ (d0.fText = []) := (not_iff dI).1 h_10
        have hF_16 := cnd_t h_10 hF_15
        have f := Frm.set f 32 (v := .bool (!(decide (d0.fText = [])))) (v' := .bool true) (by kernel_rfl) (cB h_10)
        refine Y19 f 1 fun _ f => ?_
        refine Y15 f p_2 (fzu hM_2 hc_2) 0 rfl fun _ f => ?_
        refine Y19 f 3 fun _ f => ?_
        refine W_end rfl (T_n ?_)
        exact ⟨(!(decide (d0.fKind = 3))), (sI hF_16).symm, M_2, (mR _), f.keep (ks := [1, 37]) (by kernel_rfl), p_2⟩
       ·have k_15 : ¬ (¬ (d0.fText = [])) := iff_f (not_iff dI) h_10
        have hF_17 := cnd_f h_10 hF_15
        have f := Frm.set f 32 (v := .bool (!(decide (d0.fText = [])))) (v' := .bool false) (by kernel_rfl) (cB h_10)
        refine Y19 f 5 fun _ f => ?_
        refine W_end rfl (T_n ?_)
        exact ⟨(false), (sI hF_17).symm, M_2, (mR _), f.keep (ks := [1, 37]) (by kernel_rfl), p_2⟩
    ·have hF_18 := cnd_f h_5 hj_2
     have f := Frm.set f 13 (v := .bool d0.fBool) (v' := .bool false) (by kernel_rfl) (cB h_5)
     refine Y19 f 6 fun _ f => ?_
     refine Y15 f p_2 (fzu hM_2 hc_2) 2 rfl fun _ f => ?_
     refine Y19 f 2 fun _ f => ?_
     rcases bE (!(decide (d0.fNum = 0))) with h_11 | h_11
     ·have k_17 : ¬ (d0.fNum = 0) := (not_iff dI).1 h_11
      have hF_19 := cnd_t h_11 hF_18
      have f := Frm.set f 22 (v := .bool (!(decide (d0.fNum = 0)))) (v' := .bool true) (by kernel_rfl) (cB h_11)
      refine Y19 f 1 fun _ f => ?_
      refine Y15 f p_2 (fzu hM_2 hc_2) 0 rfl fun _ f => ?_
      refine Y19 f 4 fun _ f => ?_
      rcases bE (!(decide (d0.fKind = 2))) with h_12 | h_12
      ·have k_18 : ¬ (d0.fKind = 2) := (not_iff dI).1 h_12
       have hF_20 := cnd_t h_12 hF_19
       have f := Frm.set f 28 (v := .bool (!(decide (d0.fKind = 2)))) (v' := .bool true) (by kernel_rfl) (cB h_12)
       refine Y19 f 9 fun _ f => ?_
       refine W_end rfl (T_n ?_)
       exact ⟨(true), (sI hF_20).symm, M_2, (mR _), f.keep (ks := [1, 37]) (by kernel_rfl), p_2⟩
      ·have k_19 : ¬ (¬ (d0.fKind = 2)) := iff_f (not_iff dI) h_12
       have hF_21 := cnd_f h_12 hF_19
       have f := Frm.set f 28 (v := .bool (!(decide (d0.fKind = 2)))) (v' := .bool false) (by kernel_rfl) (cB h_12)
       refine Y19 f 1 fun _ f => ?_
       refine Y15 f p_2 (fzu hM_2 hc_2) 3 rfl fun _ f => ?_
       refine Y14 (v := .bool (!(decide (d0.fText = [])))) f (Y39 rfl (l := d0.fText) (m := [])) fun _ f => ?_
       refine Y19 f 1 fun _ f => ?_
       rcases bE (!(decide (d0.fText = []))) with h_13 | h_13
       ·have k_20 : ¬ (d0.fText = []) := (not_iff dI).1 h_13
        have hF_22 := cnd_t h_13 hF_21
        have f := Frm.set f 32 (v := .bool (!(decide (d0.fText = [])))) (v' := .bool true) (by kernel_rfl) (cB h_13)
        refine Y19 f 1 fun _ f => ?_
        refine Y15 f p_2 (fzu hM_2 hc_2) 0 rfl fun _ f => ?_
        refine Y19 f 3 fun _ f => ?_
        refine W_end rfl (T_n ?_)
        exact ⟨(!(decide (d0.fKind = 3))), (sI hF_22).symm, M_2, (mR _), f.keep (ks := [1, 37]) (by kernel_rfl), p_2⟩
       ·have k_21 : ¬ (¬ (d0.fText = [])) := iff_f (not_iff dI) h_13
        have hF_23 := cnd_f h_13 hF_21
        have f := Frm.set f 32 (v := .bool (!(decide (d0.fText = [])))) (v' := .bool false) (by kernel_rfl) (cB h_13)
        refine Y19 f 5 fun _ f => ?_
        refine W_end rfl (T_n ?_)
        exact ⟨(false), (sI hF_23).symm, M_2, (mR _), f.keep (ks := [1, 37]) (by kernel_rfl), p_2⟩
     ·have k_22 : ¬ (¬ (d0.fNum = 0)) := iff_f (not_iff dI) h_11
      have hF_24 := cnd_f h_11 hF_18
      have f := Frm.set f 22 (v := .bool (!(decide (d0.fNum = 0)))) (v' := .bool false) (by kernel_rfl) (cB h_11)
      refine Y19 f 7 fun _ f => ?_
      refine Y15 f p_2 (fzu hM_2 hc_2) 3 rfl fun _ f => ?_
      refine Y14 (v := .bool (!(decide (d0.fText = [])))) f (Y39 rfl (l := d0.fText) (m := [])) fun _ f => ?_
      refine Y19 f 1 fun _ f => ?_
      rcases bE (!(decide (d0.fText = []))) with h_14 | h_14
      ·have k_23 : ¬ (d0.fText = []) := (not_iff dI).1 h_14
       have hF_25 := cnd_t h_14 hF_24
       have f := Frm.set f 32 (v := .bool (!(decide (d0.fText = [])))) (v' := .bool true) (by kernel_rfl) (cB h_14)
       refine Y19 f 1 fun _ f => ?_
       refine Y15 f p_2 (fzu hM_2 hc_2) 0 rfl fun _ f => ?_
       refine Y19 f 3 fun _ f => ?_
       refine W_end rfl (T_n ?_)
       exact ⟨(!(decide (d0.fKind = 3))), (sI hF_25).symm, M_2, (mR _), f.keep (ks := [1, 37]) (by kernel_rfl), p_2⟩
      ·have k_24 : ¬ (¬ (d0.fText = [])) := iff_f (not_iff dI) h_14
       have hF_26 := cnd_f h_14 hF_24
       have f := Frm.set f 32 (v := .bool (!(decide (d0.fText = [])))) (v' := .bool false) (by kernel_rfl) (cB h_14)
       refine Y19 f 5 fun _ f => ?_
       refine W_end rfl (T_n ?_)
       exact ⟨(false), (sI hF_26).symm, M_2, (mR _), f.keep (ks := [1, 37]) (by kernel_rfl), p_2⟩
   ·rintro a_65 w_3 ⟨y_2, hq_2, M_3, hM_3, f, p_3⟩
    subst j_2
    refine T_n ?_
    refine Y6 f (b := y_2) (fun h_15 => ?_) fun h_15 => ?_
    ·have hF_27 := cnd_t h_15 hF_6
     refine R_seq (R_reg ?_)
     refine Y19 f 1 fun _ f => ?_
     refine W_end rfl (T_n (wp_ret (T_r ?_)))
     refine E_ret1 f rfl (by kernel_rfl : Vc.look _ 2 = some (.bool false)) ?_
     obtain rfl := sI hF_27
     exact ⟨_, rfl, M_3, ((hM_1.trans hM_2).trans hM_3), p_3, rfl⟩
    ·have hF_28 := cnd_f h_15 hF_6
     refine wp_skip (T_n (R_seq (R_seq ?_)))
     obtain ⟨j_3, hj_3, hF_29⟩ := bS hF_28
     refine R_mid (fun a_78 w_4 => ∃ y_3 : Bool, j_3 = y_3 ∧ ∃ M_4 : Mem, M_3.le M_4 ∧ Frm 66 [(1, .pointer (some (⟨b_1, 0, none⟩))), (51, .bool y_3)] a_78 ∧ Hp w0 M_4 (H) w_4) ?_ ?_
     ·refine R_reg ?_
      refine Y19 f 1 fun _ f => ?_
      refine Y15 f p_3 (fzu (hM_2.trans hM_3) hc_2) 4 rfl fun _ f => ?_
      refine Y19 f 3 fun _ f => ?_
      rcases bE (decide ((0 : Int) < ((d0.fList.length : Nat) : Int))) with h_16 | h_16
      ·have k_27 : (0 : Int) < ((d0.fList.length : Nat) : Int) := dI.1 h_16
       have hF_30 := cnd_t h_16 hj_3
       have f := Frm.set f 42 (v := .bool (decide ((0 : Int) < ((d0.fList.length : Nat) : Int)))) (v' := .bool true) (by kernel_rfl) (cB h_16)
       refine Y19 f 1 fun _ f => ?_
       refine Y15 f p_3 (fzu (hM_2.trans hM_3) hc_2) 0 rfl fun _ f => ?_
       refine Y19 f 3 fun _ f => ?_
       rcases bE (!(decide (d0.fKind = 4))) with h_17 | h_17
       ·have k_28 : ¬ (d0.fKind = 4) := (not_iff dI).1 h_17
        have hF_31 := cnd_t h_17 hF_30
        have f := Frm.set f 47 (v := .bool (!(decide (d0.fKind = 4)))) (v' := .bool true) (by kernel_rfl) (cB h_17)
        refine Y19 f 1 fun _ f => ?_
        refine Y15 f p_3 (fzu (hM_2.trans hM_3) hc_2) 0 rfl fun _ f => ?_
        refine Y19 f 2 fun _ f => ?_
        refine W_end rfl (T_n ?_)
        exact ⟨(!(decide (d0.fKind = 5))), (sI hF_31).symm, M_3, (mR _), f.keep (ks := [1, 51]) (by kernel_rfl), p_3⟩
       ·have k_29 : ¬ (¬ (d0.fKind = 4)) := iff_f (not_iff dI) h_17
        have hF_32 := cnd_f h_17 hF_30
        have f := Frm.set f 47 (v := .bool (!(decide (d0.fKind = 4)))) (v' := .bool false) (by kernel_rfl) (cB h_17)
        refine Y19 f 4 fun _ f => ?_
        refine W_end rfl (T_n ?_)
        exact ⟨(false), (sI hF_32).symm, M_3, (mR _), f.keep (ks := [1, 51]) (by kernel_rfl), p_3⟩
      ·have k_30 : ¬ ((0 : Int) < ((d0.fList.length : Nat) : Int)) := iff_f dI h_16
       have hF_33 := cnd_f h_16 hj_3
       have f := Frm.set f 42 (v := .bool (decide ((0 : Int) < ((d0.fList.length : Nat) : Int)))) (v' := .bool false) (by kernel_rfl) (cB h_16)
       refine Y19 f 9 fun _ f => ?_
       refine W_end rfl (T_n ?_)
       exact ⟨(false), (sI hF_33).symm, M_3, (mR _), f.keep (ks := [1, 51]) (by kernel_rfl), p_3⟩
     ·rintro a_78 w_4 ⟨y_3, hq_3, M_4, hM_4, f, p_4⟩
      subst j_3
      refine T_n ?_
      refine Y6 f (b := y_3) (fun h_18 => ?_) fun h_18 => ?_
      ·have hF_34 := cnd_t h_18 hF_29
       refine R_seq (R_reg ?_)
       refine Y19 f 1 fun _ f => ?_
       refine W_end rfl (T_n (wp_ret (T_r ?_)))
       refine E_ret1 f rfl (by kernel_rfl : Vc.look _ 2 = some (.bool false)) ?_
       obtain rfl := sI hF_34
       exact ⟨_, rfl, M_4, (((hM_1.trans hM_2).trans hM_3).trans hM_4), p_4, rfl⟩
      ·have hF_35 := cnd_f h_18 hF_29
       refine wp_skip (T_n (R_seq (R_seq (R_reg ?_))))
       refine Y19 f 1 fun _ f => ?_
       refine Y15 f p_4 (fzu ((hM_2.trans hM_3).trans hM_4) hc_2) 0 rfl fun _ f => ?_
       refine Y19 f 1 fun _ f => ?_
       refine W_end rfl (T_n ?_)
       refine Y6 f (b := decide (d0.fKind = 5)) (fun h_19 => ?_) fun h_19 => ?_
       ·have k_33 : d0.fKind = 5 := dI.1 h_19
        have hF_36 := cnd_t h_19 hF_35
        refine R_seq (R_reg ?_)
        refine Y19 f 1 fun _ f => ?_
        refine Y15 f p_4 (fzu ((hM_2.trans hM_3).trans hM_4) hc_2) 5 rfl fun _ f => ?_
        refine Y19 f 2 fun _ f => ?_
        refine Y15 f p_4 (fzu ((hM_2.trans hM_3).trans hM_4) hc_2) 4 rfl fun _ f => ?_
        refine Y19 f 3 fun _ f => ?_
        refine W_end rfl (T_n (wp_ret (T_r ?_)))
        refine E_ret1 f rfl (by kernel_rfl : Vc.look _ 2 = some (.bool (decide (((d0.fKeys.length : Nat) : Int) = ((d0.fList.length : Nat) : Int))))) ?_
        obtain rfl := sI hF_36
        exact ⟨_, rfl, M_4, (((hM_1.trans hM_2).trans hM_3).trans hM_4), p_4, rfl⟩
       ·have k_34 : ¬ (d0.fKind = 5) := iff_f dI h_19
        have hF_37 := cnd_f h_19 hF_35
        refine wp_skip (T_n (R_seq (R_reg ?_)))
        refine Y19 f 1 fun _ f => ?_
        refine Y15 f p_4 (fzu ((hM_2.trans hM_3).trans hM_4) hc_2) 5 rfl fun _ f => ?_
        refine Y19 f 3 fun _ f => ?_
        refine W_end rfl (T_n (wp_ret ?_))
        refine E_ret1 f rfl (by kernel_rfl : Vc.look _ 2 = some (.bool (decide (((d0.fKeys.length : Nat) : Int) = 0)))) ?_
        obtain rfl := sI hF_37
        exact ⟨_, rfl, M_4, (((hM_1.trans hM_2).trans hM_3).trans hM_4), p_4, rfl⟩
def ref03_wrong_s1 (n : Nat) (d0 : T_api_Value) (s_1 : Int) : Option (Lp Int (Sum Unit Unit)) :=
    bif (decide (s_1 < ((d0.fKeys.length : Nat) : Int))) then
      ((getI d0.fKeys s_1).bind fun x_3 =>
      (ref01_Valid n x_3).bind fun x_4 =>
      bif !x_4 then
        (some (.br (.inl ())))
      else
        need (inR .i64 (s_1 + 1)) <|
        some (.nx (s_1 + 1)))
    else
      some (.br (.inr ()))
def ref03_wrong_s3 (n : Nat) (d0 : T_api_Value) (s_2 : Int) (s_3 : Int) : Option (Lp Int (Sum Unit Unit)) :=
    bif (decide (s_3 < s_2)) then
      ((getI d0.fKeys s_3).bind fun x_5 =>
      (getI d0.fKeys s_2).bind fun x_6 =>
      bif (decide (x_5 = x_6)) then
        (some (.br (.inl ())))
      else
        need (inR .i64 (s_3 + 1)) <|
        some (.nx (s_3 + 1)))
    else
      some (.br (.inr ()))
def ref03_wrong_s2 (n : Nat) (d0 : T_api_Value) (s_2 : Int) : Option (Lp Int (Sum Unit Unit)) :=
    bif (decide (s_2 < ((d0.fKeys.length : Nat) : Int))) then
      ((loopF (ref03_wrong_s3 n d0 s_2) n (0 : Int)).bind fun b_4 =>
      (match b_4 with 
      | .inl y_4 => some (.br (.inl ())) 
      | .inr y_5 => need (inR .i64 (s_2 + 1)) <|
        some (.nx (s_2 + 1))))
    else
      some (.br (.inr ()))
def ref03_wrong_s4 (n : Nat) (rec_ref03_wrong : T_api_Value → Option Int) (d0 : T_api_Value) (s_4 : Int) : Option (Lp Int (Sum Int Unit)) :=
    bif (decide (s_4 < ((d0.fList.length : Nat) : Int))) then
      ((getI d0.fList s_4).bind fun x_7 =>
      (rec_ref03_wrong x_7).bind fun x_8 =>
      bif (!(decide (x_8 = 0))) then
        (some (.br (.inl x_8)))
      else
        need (inR .i64 (s_4 + 1)) <|
        some (.nx (s_4 + 1)))
    else
      some (.br (.inr ()))
def ref03_wrong_b (n : Nat) (rec_ref03_wrong : T_api_Value → Option Int) (d0 : T_api_Value) : Option Int :=
  (ref03_plain n d0).bind fun x_1 =>
  bif !x_1 then
    (some ((2 : Int)))
  else
    ((bif (decide (d0.fNum < (-9007199254740992))) then
        (some ((true)))
      else
        some ((decide ((9007199254740992 : Int) < d0.fNum))) : Option Bool)).bind fun y_1 =>
    bif y_1 then
      (some ((20 : Int)))
    else
      (ref01_Valid n d0.fText).bind fun x_2 =>
      bif !x_2 then
        (some ((10 : Int)))
      else
        (loopF (ref03_wrong_s1 n d0) n (0 : Int)).bind fun b_2 =>
        (match b_2 with 
        | .inl y_2 => some ((10 : Int)) 
        | .inr y_3 => (loopF (ref03_wrong_s2 n d0) n (0 : Int)).bind fun b_3 =>
          (match b_3 with 
          | .inl y_6 => some ((41 : Int)) 
          | .inr y_7 => (loopF (ref03_wrong_s4 n rec_ref03_wrong d0) n (0 : Int)).bind fun b_5 =>
            (match b_5 with 
            | .inl y_8 => some (y_8) 
            | .inr y_9 => some ((0 : Int)))))
set_option maxHeartbeats 2000000 in
theorem ref03_wrong_b_ok (n : Nat) (rec_ref03_wrong : T_api_Value → Option Int) (hrec_ref03_wrong : ∀ (M : Mem) (c0 : List Value) (d0 : T_api_Value) (h0 : Rep M (emb_T_api_Value d0) c0) (r : Int) (hF : rec_ref03_wrong d0 = some r), Ok Tryz.prog M 96 [.agg c0.toArray] (fun _ v => v = .int .i64 r)) (M : Mem) (c0 : List Value) (d0 : T_api_Value) (h0 : Rep M (emb_T_api_Value d0) c0) (r : Int) (hF : ref03_wrong_b n rec_ref03_wrong d0 = some r) : Ok Tryz.prog M 96 [.agg c0.toArray] (fun _ v => v = .int .i64 r) := by
 unfold ref03_wrong_b at hF
 intro M1 hM0 w0 H w p0
 replace h0 := Rep.mono hM0 _ _ h0
 obtain ⟨A_1, cap_1, A_2, cap_2, rfl, h_1, h_2⟩ := T_api_Value.opn h0
 refine R_enter 76 Tryz.func96 rfl rfl (by simp) fun a0 f0 => ?_
 refine R_seq (R_reg ?_)
 refine Y13 (cs := #[.int .i8 d0.fKind, .bool d0.fBool, .int .i64 d0.fNum, S d0.fText, .slice A_1 d0.fList.length cap_1, .slice A_2 d0.fKeys.length cap_2]) (T := 76) f0 p0 fun b_1 M_1 w_1 hM_1 hc_1 p_1 _ f => ?_
 have hc_2 := fz_box hc_1
 refine Y19 f 1 fun _ f => ?_
 refine W_end rfl (T_n (R_seq (R_seq (R_reg ?_))))
 refine Y14 (v := .agg #[.int .i8 d0.fKind, .bool d0.fBool, .int .i64 d0.fNum, S d0.fText, .slice A_1 d0.fList.length cap_1, .slice A_2 d0.fKeys.length cap_2]) f (Y33 (cs := [.int .i8 d0.fKind, .bool d0.fBool, .int .i64 d0.fNum, S d0.fText, .slice A_1 d0.fList.length cap_1, .slice A_2 d0.fKeys.length cap_2]) rfl (ad := ⟨b_1, 0, none⟩) (fun j v h => p_1.cell (hc_2 j v h))) fun _ f => ?_
 obtain ⟨x_1, hx_1, hF_1⟩ := bS hF
 refine Y18 f p_1 (ref03_plain_ok n _ _ d0 (T_api_Value.shutx (x := d0) (h_1.mono hM_1) (h_2.mono hM_1)) x_1 hx_1) fun w_2 p_2 _ f => ?_
 refine Y19 f 1 fun _ f => ?_
 refine W_end rfl (T_n ?_)
 refine Y6 f (b := !x_1) (fun h_3 => ?_) fun h_3 => ?_
 ·have k_1 : (x_1) = false := by simpa using h_3
  have hF_2 := cnd_t h_3 hF_1
  refine R_seq (R_reg ?_)
  refine Y19 f 1 fun _ f => ?_
  refine W_end rfl (T_n (wp_ret (T_r ?_)))
  refine E_ret1 f rfl (by kernel_rfl : Vc.look _ 2 = some (.int .i64 2)) ?_
  obtain rfl := sI hF_2
  exact ⟨_, rfl, M_1, hM_1, p_2, rfl⟩
 ·have k_2 : (x_1) = true := by simpa using h_3
  have hF_3 := cnd_f h_3 hF_1
  refine wp_skip (T_n (R_seq (R_seq ?_)))
  obtain ⟨j_1, hj_1, hF_4⟩ := bS hF_3
  refine R_mid (fun a_14 w_3 => ∃ y_1 : Bool, j_1 = y_1 ∧ ∃ M_2 : Mem, M_1.le M_2 ∧ Frm 76 [(1, .pointer (some (⟨b_1, 0, none⟩))), (18, .bool y_1)] a_14 ∧ Hp w0 M_2 (H) w_3) ?_ ?_
  ·refine R_reg ?_
   refine Y19 f 1 fun _ f => ?_
   refine Y15 f p_2 hc_2 2 rfl fun _ f => ?_
   refine Y19 f 2 fun _ f => ?_
   rcases bE (decide (d0.fNum < (-9007199254740992))) with h_4 | h_4
   ·have k_3 : d0.fNum < (-9007199254740992) := dI.1 h_4
    have hF_5 := cnd_t h_4 hj_1
    have f := Frm.set f 14 (v := .bool (decide (d0.fNum < (-9007199254740992)))) (v' := .bool true) (by kernel_rfl) (cB h_4)
    refine Y19 f 4 fun _ f => ?_
    refine W_end rfl (T_n ?_)
    exact ⟨(true), (sI hF_5).symm, M_1, (mR _), f.keep (ks := [1, 18]) (by kernel_rfl), p_2⟩
   ·have k_4 : ¬ (d0.fNum < (-9007199254740992)) := iff_f dI h_4
    have hF_6 := cnd_f h_4 hj_1
    have f := Frm.set f 14 (v := .bool (decide (d0.fNum < (-9007199254740992)))) (v' := .bool false) (by kernel_rfl) (cB h_4)
    refine Y19 f 1 fun _ f => ?_
    refine Y15 f p_2 hc_2 2 rfl fun _ f => ?_
    refine Y19 f 2 fun _ f => ?_
    refine W_end rfl (T_n ?_)
    exact ⟨(decide ((9007199254740992 : Int) < d0.fNum)), (sI hF_6).symm, M_1, (mR _), f.keep (ks := [1, 18]) (by kernel_rfl), p_2⟩
  ·rintro a_14 w_3 ⟨y_1, hq_1, M_2, hM_2, f, p_3⟩
   subst j_1
   refine T_n ?_
   refine Y6 f (b := y_1) (fun h_5 => ?_) fun h_5 => ?_
   ·have hF_7 := cnd_t h_5 hF_4
    refine R_seq (R_reg ?_)
    refine Y19 f 1 fun _ f => ?_
    refine W_end rfl (T_n (wp_ret (T_r ?_)))
    refine E_ret1 f rfl (by kernel_rfl : Vc.look _ 2 = some (.int .i64 20)) ?_
    obtain rfl := sI hF_7
    exact ⟨_, rfl, M_2, (hM_1.trans hM_2), p_3, rfl⟩
   ·have hF_8 := cnd_f h_5 hF_4
    refine wp_skip (T_n (R_seq (R_seq (R_reg ?_))))
    refine Y19 f 1 fun _ f => ?_
    refine Y15 f p_3 (fzu hM_2 hc_2) 3 rfl fun _ f => ?_
    obtain ⟨x_2, hx_2, hF_9⟩ := bS hF_8
    refine Y18 f p_3 (ref01_Valid_ok n _ d0.fText x_2 hx_2) fun w_4 p_4 _ f => ?_
    refine Y19 f 1 fun _ f => ?_
    refine W_end rfl (T_n ?_)
    refine Y6 f (b := !x_2) (fun h_6 => ?_) fun h_6 => ?_
    ·have k_7 : (x_2) = false := by simpa using h_6
     have hF_10 := cnd_t h_6 hF_9
     refine R_seq (R_reg ?_)
     refine Y19 f 1 fun _ f => ?_
     refine W_end rfl (T_n (wp_ret (T_r ?_)))
     refine E_ret1 f rfl (by kernel_rfl : Vc.look _ 2 = some (.int .i64 10)) ?_
     obtain rfl := sI hF_10
     exact ⟨_, rfl, M_2, (hM_1.trans hM_2), p_4, rfl⟩
    ·have k_8 : (x_2) = true := by simpa using h_6
     have hF_11 := cnd_f h_6 hF_9
     refine wp_skip (T_n (R_seq (R_seq (R_reg ?_))))
     refine Y19 f 1 fun _ f => ?_
     refine W_end rfl (T_n (wp_block ?_))
     obtain ⟨b_2, hL_1, hF_12⟩ := bS hF_11
     refine wp_mono (Q := fun e a w => (e = .ret ∧ (∃ y_2 : Unit, b_2 = .inl y_2 ∧ ∃ M_4 : Mem, M_2.le M_4 ∧ Frm 76 [(2, .int .i64 10)] a ∧ Hp w0 M_4 (H) w)) ∨ (e = .exit 0 ∧ (∃ y_3 : Unit, b_2 = .inr y_3 ∧ ∃ M_5 : Mem, M_2.le M_5 ∧ Frm 76 [(1, .pointer (some (⟨b_1, 0, none⟩)))] a ∧ Hp w0 M_5 (H) w))) (R_loop (n := 76) (w0 := w0) (M := M_2) (fun (x : Nat × Int) => match x with | (m_1, s_1) => [(1, .pointer (some (⟨b_1, 0, none⟩))), (3, .int .i64 s_1)]) (fun (x : Nat × Int) => match x with | (m_1, s_1) => (H)) (fun (x : Nat × Int) (MM : Mem) => match x with | (m_1, s_1) => loopF (ref03_wrong_s1 n d0) m_1 s_1 = some b_2) (fun (x : Nat × Int) => match x with | (m_1, s_1) => m_1) (n, (0 : Int)) (f.keep (ks := [1, 3]) (by kernel_rfl)) p_4 hL_1 ?_) ?_
     ·rintro ⟨m_1, s_1⟩ M_3 _ w_5 hM_3 I_1 f p_5
      have I_1L := I_1
      obtain ⟨m_2, r_1, rfl, hs_1, hn_1⟩ := loop_step I_1L
      unfold ref03_wrong_s1 at hs_1
      refine R_seq (R_seq (R_reg ?_))
      refine Y19 f 2 fun _ f => ?_
      refine Y15 f p_5 (fzu (hM_2.trans hM_3) hc_2) 5 rfl fun _ f => ?_
      refine Y19 f 2 fun _ f => ?_
      refine W_end rfl (T_n ?_)
      refine Y6 f (b := decide (s_1 < ((d0.fKeys.length : Nat) : Int))) (fun h_7 => ?_) fun h_7 => ?_
      ·have k_9 : s_1 < ((d0.fKeys.length : Nat) : Int) := dI.1 h_7
       have hF_13 := cnd_t h_7 hs_1
       refine wp_skip (T_n (R_seq (wp_block (R_seq (R_reg ?_)))))
       refine Y19 f 1 fun _ f => ?_
       refine Y15 f p_5 (fzu (hM_2.trans hM_3) hc_2) 5 rfl fun _ f => ?_
       refine Y19 f 1 fun _ f => ?_
       obtain ⟨x_3, hx_3, hF_14⟩ := bS hF_13
       obtain ⟨ad_1, c_1, e_1, hl_1, hr_1, hc_3⟩ := Sli.at_ (h_2.mono ((hM_1.trans hM_2).trans hM_3)) hx_3
       clear hl_1
       obtain rfl : c_1 = [S x_3] := hr_1
       refine Y14 (v := .pointer (some (ad_1.add (s_1.toNat * 1)))) f (Y31 e_1 rfl (len := d0.fKeys.length) (cap := cap_2) (k := .i64) (i := s_1) (e := 9) (sz := 1) (getI_nn hx_3) (getI_lt hx_3)) fun _ f => ?_
       refine Y15 f p_5 hc_3 0 rfl fun _ f => ?_
       obtain ⟨x_4, hx_4, hF_15⟩ := bS hF_14
       refine Y18 f p_5 (ref01_Valid_ok n _ x_3 x_4 hx_4) fun w_6 p_6 _ f => ?_
       refine Y19 f 1 fun _ f => ?_
       refine W_end rfl (T_n ?_)
       refine Y6 f (b := !x_4) (fun h_8 => ?_) fun h_8 => ?_
       ·have k_10 : (x_4) = false := by simpa using h_8
        have hF_16 := cnd_t h_8 hF_15
        refine R_seq (R_reg ?_)
        refine Y19 f 1 fun _ f => ?_
        refine W_end rfl (T_n (wp_ret (B_r (T_r (T_r ?_)))))
        obtain rfl := sI hF_16
        exact .inl ⟨rfl, (), (sI hn_1).symm, M_3, hM_3, f.keep (ks := [2]) (by kernel_rfl), p_6⟩
       ·have k_11 : (x_4) = true := by simpa using h_8
        have hF_17 := cnd_f h_8 hF_15
        refine wp_skip (B_n (T_n (R_reg ?_)))
        refine Y19 f 1 fun _ f => ?_
        obtain ⟨g_1, hF_18⟩ := nS hF_17
        refine Y19 f 1 fun _ f => ?_
        have f := Frm.set f 29 (v := .int .i64 (IntKind.wrap .i64 (s_1 + 1))) (v' := .int .i64 (s_1 + 1)) (by kernel_rfl) (congrArg (Value.int .i64) (inR_wrap g_1))
        refine Y19 f 1 fun _ f => ?_
        refine W_end rfl (T_n ?_)
        obtain rfl := sI hF_18
        exact ⟨⟨m_2, s_1 + 1⟩, Nat.lt_succ_self _, M_3, hM_3, hn_1, f.keep (ks := [1, 3]) (by kernel_rfl), p_6⟩
      ·have k_12 : ¬ (s_1 < ((d0.fKeys.length : Nat) : Int)) := iff_f dI h_7
       have hF_19 := cnd_f h_7 hs_1
       refine wp_exit (T_x (T_x ?_))
       obtain rfl := sI hF_19
       exact .inr ⟨rfl, (), (sI hn_1).symm, M_3, hM_3, f.keep (ks := [1]) (by kernel_rfl), p_5⟩
     ·rintro _ _ w_9 (⟨rfl, y_2, rfl, M_4, hM_4, f, p_7⟩ | ⟨rfl, y_3, rfl, M_5, hM_5, f, p_8⟩)
      ·refine B_r (T_r ?_)
       refine E_ret1 f rfl (by kernel_rfl : Vc.look _ 2 = some (.int .i64 10)) ?_
       obtain rfl := sI hF_12
       exact ⟨_, rfl, M_4, ((hM_1.trans hM_2).trans hM_4), p_7, rfl⟩
      ·refine B_x (T_n (R_seq (R_seq (R_reg ?_))))
       refine Y19 f 1 fun _ f => ?_
       refine W_end rfl (T_n (wp_block ?_))
       obtain ⟨b_3, hL_2, hF_20⟩ := bS hF_12
       refine wp_mono (Q := fun e a w => (e = .ret ∧ (∃ y_6 : Unit, b_3 = .inl y_6 ∧ ∃ M_10 : Mem, M_5.le M_10 ∧ Frm 76 [(2, .int .i64 41)] a ∧ Hp w0 M_10 (H) w)) ∨ (e = .exit 2 ∧ (∃ y_7 : Unit, b_3 = .inr y_7 ∧ ∃ M_11 : Mem, M_5.le M_11 ∧ Frm 76 [(1, .pointer (some (⟨b_1, 0, none⟩)))] a ∧ Hp w0 M_11 (H) w))) (R_loop (n := 76) (w0 := w0) (M := M_5) (fun (x : Nat × Int) => match x with | (m_3, s_2) => [(1, .pointer (some (⟨b_1, 0, none⟩))), (4, .int .i64 s_2)]) (fun (x : Nat × Int) => match x with | (m_3, s_2) => (H)) (fun (x : Nat × Int) (MM : Mem) => match x with | (m_3, s_2) => loopF (ref03_wrong_s2 n d0) m_3 s_2 = some b_3) (fun (x : Nat × Int) => match x with | (m_3, s_2) => m_3) (n, (0 : Int)) (f.keep (ks := [1, 4]) (by kernel_rfl)) p_8 hL_2 ?_) ?_
       ·rintro ⟨m_3, s_2⟩ M_6 _ w_10 hM_6 I_2 f p_9
        have I_2L := I_2
        obtain ⟨m_4, r_2, rfl, hs_2, hn_2⟩ := loop_step I_2L
        unfold ref03_wrong_s2 at hs_2
        refine R_seq (R_seq (R_reg ?_))
        refine Y19 f 2 fun _ f => ?_
        refine Y15 f p_9 (fzu ((hM_2.trans hM_5).trans hM_6) hc_2) 5 rfl fun _ f => ?_
        refine Y19 f 2 fun _ f => ?_
        refine W_end rfl (T_n ?_)
        refine Y6 f (b := decide (s_2 < ((d0.fKeys.length : Nat) : Int))) (fun h_9 => ?_) fun h_9 => ?_
        ·have k_13 : s_2 < ((d0.fKeys.length : Nat) : Int) := dI.1 h_9
         have hF_21 := cnd_t h_9 hs_2
         refine wp_skip (T_n (R_seq (wp_block (R_seq (R_reg ?_)))))
         refine Y19 f 1 fun _ f => ?_
         refine W_end rfl (T_n (wp_block ?_))
         obtain ⟨b_4, hL_3, hF_22⟩ := bS hF_21
         refine wp_mono (Q := fun e a w => (e = .ret ∧ (∃ y_4 : Unit, b_4 = .inl y_4 ∧ ∃ M_8 : Mem, M_6.le M_8 ∧ Frm 76 [(2, .int .i64 41)] a ∧ Hp w0 M_8 (H) w)) ∨ (e = .exit 4 ∧ (∃ y_5 : Unit, b_4 = .inr y_5 ∧ ∃ M_9 : Mem, M_6.le M_9 ∧ Frm 76 [(1, .pointer (some (⟨b_1, 0, none⟩))), (4, .int .i64 s_2)] a ∧ Hp w0 M_9 (H) w))) (R_loop (n := 76) (w0 := w0) (M := M_6) (fun (x : Nat × Int) => match x with | (m_5, s_3) => [(1, .pointer (some (⟨b_1, 0, none⟩))), (4, .int .i64 s_2), (5, .int .i64 s_3)]) (fun (x : Nat × Int) => match x with | (m_5, s_3) => (H)) (fun (x : Nat × Int) (MM : Mem) => match x with | (m_5, s_3) => loopF (ref03_wrong_s3 n d0 s_2) m_5 s_3 = some b_4) (fun (x : Nat × Int) => match x with | (m_5, s_3) => m_5) (n, (0 : Int)) (f.keep (ks := [1, 4, 5]) (by kernel_rfl)) p_9 hL_3 ?_) ?_
         ·rintro ⟨m_5, s_3⟩ M_7 _ w_11 hM_7 I_3 f p_10
          have I_3L := I_3
          obtain ⟨m_6, r_3, rfl, hs_3, hn_3⟩ := loop_step I_3L
          unfold ref03_wrong_s3 at hs_3
          refine R_seq (R_seq (R_reg ?_))
          refine Y19 f 3 fun _ f => ?_
          refine W_end rfl (T_n ?_)
          refine Y6 f (b := decide (s_3 < s_2)) (fun h_10 => ?_) fun h_10 => ?_
          ·have k_14 : s_3 < s_2 := dI.1 h_10
           have hF_23 := cnd_t h_10 hs_3
           refine wp_skip (T_n (R_seq (wp_block (R_seq ?_))))
           refine R_draw p_10 (by kernel_rfl) (by kernel_rfl) ?_
           refine Y5 default f 1 fun _ f => ?_
           refine Y4 f (fzu (((hM_2.trans hM_5).trans hM_6).trans hM_7) hc_2) 5 rfl fun _ f => ?_
           refine Y5 default f 1 fun _ f => ?_
           obtain ⟨x_5, hx_5, hF_24⟩ := bS hF_23
           obtain ⟨ad_2, c_2, e_2, hl_2, hr_2, hc_4⟩ := Sli.at_ (h_2.mono ((((hM_1.trans hM_2).trans hM_5).trans hM_6).trans hM_7)) hx_5
           clear hl_2
           obtain rfl : c_2 = [S x_5] := hr_2
           refine Y2 (v := .pointer (some (ad_2.add (s_3.toNat * 1)))) f (fun _ pq => Y31 e_2 rfl (len := d0.fKeys.length) (cap := cap_2) (k := .i64) (i := s_3) (e := 9) (sz := 1) (getI_nn hx_5) (getI_lt hx_5)) fun _ f => ?_
           refine Y4 f hc_4 0 rfl fun _ f => ?_
           refine Y5 default f 1 fun _ f => ?_
           refine Y4 f (fzu (((hM_2.trans hM_5).trans hM_6).trans hM_7) hc_2) 5 rfl fun _ f => ?_
           refine Y5 default f 1 fun _ f => ?_
           obtain ⟨x_6, hx_6, hF_25⟩ := bS hF_24
           obtain ⟨ad_3, c_3, e_3, hl_3, hr_3, hc_5⟩ := Sli.at_ (h_2.mono ((((hM_1.trans hM_2).trans hM_5).trans hM_6).trans hM_7)) hx_6
           clear hl_3
           obtain rfl : c_3 = [S x_6] := hr_3
           refine Y2 (v := .pointer (some (ad_3.add (s_2.toNat * 1)))) f (fun _ pq => Y31 e_3 rfl (len := d0.fKeys.length) (cap := cap_2) (k := .i64) (i := s_2) (e := 9) (sz := 1) (getI_nn hx_6) (getI_lt hx_6)) fun _ f => ?_
           refine Y4 f hc_5 0 rfl fun _ f => ?_
           refine Y2 (v := .bool (decide (x_5 = x_6))) f (fun _ pq => Y38 rfl (l := x_5) (m := x_6)) fun _ f => ?_
           refine Q_end rfl ?_
           intro w_12 p_11
           refine T_n ?_
           refine Y6 f (b := decide (x_5 = x_6)) (fun h_11 => ?_) fun h_11 => ?_
           ·have k_15 : x_5 = x_6 := dI.1 h_11
            have hF_26 := cnd_t h_11 hF_25
            refine R_seq (R_reg ?_)
            refine Y19 f 1 fun _ f => ?_
            refine W_end rfl (T_n (wp_ret (B_r (T_r (T_r ?_)))))
            obtain rfl := sI hF_26
            exact .inl ⟨rfl, (), (sI hn_3).symm, M_7, hM_7, f.keep (ks := [2]) (by kernel_rfl), p_11⟩
           ·have k_16 : ¬ (x_5 = x_6) := iff_f dI h_11
            have hF_27 := cnd_f h_11 hF_25
            refine wp_skip (B_n (T_n (R_reg ?_)))
            refine Y19 f 1 fun _ f => ?_
            obtain ⟨g_2, hF_28⟩ := nS hF_27
            refine Y19 f 1 fun _ f => ?_
            have f := Frm.set f 48 (v := .int .i64 (IntKind.wrap .i64 (s_3 + 1))) (v' := .int .i64 (s_3 + 1)) (by kernel_rfl) (congrArg (Value.int .i64) (inR_wrap g_2))
            refine Y19 f 1 fun _ f => ?_
            refine W_end rfl (T_n ?_)
            obtain rfl := sI hF_28
            exact ⟨⟨m_6, s_3 + 1⟩, Nat.lt_succ_self _, M_7, hM_7, hn_3, f.keep (ks := [1, 4, 5]) (by kernel_rfl), p_11⟩
          ·have k_17 : ¬ (s_3 < s_2) := iff_f dI h_10
           have hF_29 := cnd_f h_10 hs_3
           refine wp_exit (T_x (T_x ?_))
           obtain rfl := sI hF_29
           exact .inr ⟨rfl, (), (sI hn_3).symm, M_7, hM_7, f.keep (ks := [1, 4]) (by kernel_rfl), p_10⟩
         ·rintro _ _ w_15 (⟨rfl, y_4, rfl, M_8, hM_8, f, p_12⟩ | ⟨rfl, y_5, rfl, M_9, hM_9, f, p_13⟩)
          ·refine B_r (B_r (T_r (T_r ?_)))
           obtain rfl := sI hF_22
           exact .inl ⟨rfl, (), (sI hn_2).symm, M_8, (hM_6.trans hM_8), f.keep (ks := [2]) (by kernel_rfl), p_12⟩
          ·refine B_x (B_n (T_n (R_reg ?_)))
           refine Y19 f 1 fun _ f => ?_
           obtain ⟨g_3, hF_30⟩ := nS hF_22
           refine Y19 f 1 fun _ f => ?_
           have f := Frm.set f 43 (v := .int .i64 (IntKind.wrap .i64 (s_2 + 1))) (v' := .int .i64 (s_2 + 1)) (by kernel_rfl) (congrArg (Value.int .i64) (inR_wrap g_3))
           refine Y19 f 1 fun _ f => ?_
           refine W_end rfl (T_n ?_)
           obtain rfl := sI hF_30
           exact ⟨⟨m_4, s_2 + 1⟩, Nat.lt_succ_self _, M_9, (hM_6.trans hM_9), hn_2, f.keep (ks := [1, 4]) (by kernel_rfl), p_13⟩
        ·have k_18 : ¬ (s_2 < ((d0.fKeys.length : Nat) : Int)) := iff_f dI h_9
         have hF_31 := cnd_f h_9 hs_2
         refine wp_exit (T_x (T_x ?_))
         obtain rfl := sI hF_31
         exact .inr ⟨rfl, (), (sI hn_2).symm, M_6, hM_6, f.keep (ks := [1]) (by kernel_rfl), p_9⟩
       ·rintro _ _ w_18 (⟨rfl, y_6, rfl, M_10, hM_10, f, p_14⟩ | ⟨rfl, y_7, rfl, M_11, hM_11, f, p_15⟩)
        ·refine B_r (T_r ?_)
         refine E_ret1 f rfl (by kernel_rfl : Vc.look _ 2 = some (.int .i64 41)) ?_
         obtain rfl := sI hF_20
         exact ⟨_, rfl, M_10, (((hM_1.trans hM_2).trans hM_5).trans hM_10), p_14, rfl⟩
        ·refine B_x (T_n (R_seq (R_seq (R_reg ?_))))
         refine Y19 f 1 fun _ f => ?_
         refine W_end rfl (T_n (wp_block ?_))
         obtain ⟨b_5, hL_4, hF_32⟩ := bS hF_20
         refine wp_mono (Q := fun e a w => (e = .ret ∧ (∃ y_8 : Int, b_5 = .inl y_8 ∧ ∃ M_13 : Mem, M_11.le M_13 ∧ Frm 76 [(2, .int .i64 y_8)] a ∧ Hp w0 M_13 (H) w)) ∨ (e = .exit 6 ∧ (∃ y_9 : Unit, b_5 = .inr y_9 ∧ ∃ M_14 : Mem, M_11.le M_14 ∧ Frm 76 [] a ∧ Hp w0 M_14 (H) w))) (R_loop (n := 76) (w0 := w0) (M := M_11) (fun (x : Nat × Int) => match x with | (m_7, s_4) => [(1, .pointer (some (⟨b_1, 0, none⟩))), (6, .int .i64 s_4)]) (fun (x : Nat × Int) => match x with | (m_7, s_4) => (H)) (fun (x : Nat × Int) (MM : Mem) => match x with | (m_7, s_4) => loopF (ref03_wrong_s4 n rec_ref03_wrong d0) m_7 s_4 = some b_5) (fun (x : Nat × Int) => match x with | (m_7, s_4) => m_7) (n, (0 : Int)) (f.keep (ks := [1, 6]) (by kernel_rfl)) p_15 hL_4 ?_) ?_
         ·rintro ⟨m_7, s_4⟩ M_12 _ w_19 hM_12 I_4 f p_16
          have I_4L := I_4
          obtain ⟨m_8, r_4, rfl, hs_4, hn_4⟩ := loop_step I_4L
          unfold ref03_wrong_s4 at hs_4
          refine R_seq (R_seq (R_reg ?_))
          refine Y19 f 2 fun _ f => ?_
          refine Y15 f p_16 (fzu (((hM_2.trans hM_5).trans hM_11).trans hM_12) hc_2) 4 rfl fun _ f => ?_
          refine Y19 f 2 fun _ f => ?_
          refine W_end rfl (T_n ?_)
          refine Y6 f (b := decide (s_4 < ((d0.fList.length : Nat) : Int))) (fun h_12 => ?_) fun h_12 => ?_
          ·have k_19 : s_4 < ((d0.fList.length : Nat) : Int) := dI.1 h_12
           have hF_33 := cnd_t h_12 hs_4
           refine wp_skip (T_n (R_seq (wp_block (R_seq (R_reg ?_)))))
           refine Y19 f 1 fun _ f => ?_
           refine Y15 f p_16 (fzu (((hM_2.trans hM_5).trans hM_11).trans hM_12) hc_2) 4 rfl fun _ f => ?_
           refine Y19 f 1 fun _ f => ?_
           obtain ⟨x_7, hx_7, hF_34⟩ := bS hF_33
           obtain ⟨ad_4, c_4, e_4, hl_4, hr_4, hc_6⟩ := Sli.at_ (h_1.mono ((((hM_1.trans hM_2).trans hM_5).trans hM_11).trans hM_12)) hx_7
           clear hl_4
           obtain ⟨A_3, cap_3, A_4, cap_4, rfl, h_13, h_14⟩ := T_api_Value.opn hr_4
           refine Y14 (v := .pointer (some (ad_4.add (s_4.toNat * 6)))) f (Y31 e_4 rfl (len := d0.fList.length) (cap := cap_1) (k := .i64) (i := s_4) (e := 76) (sz := 6) (getI_nn hx_7) (getI_lt hx_7)) fun _ f => ?_
           refine Y14 (v := .agg #[.int .i8 x_7.fKind, .bool x_7.fBool, .int .i64 x_7.fNum, S x_7.fText, .slice A_3 x_7.fList.length cap_3, .slice A_4 x_7.fKeys.length cap_4]) f (Y33 (cs := [.int .i8 x_7.fKind, .bool x_7.fBool, .int .i64 x_7.fNum, S x_7.fText, .slice A_3 x_7.fList.length cap_3, .slice A_4 x_7.fKeys.length cap_4]) rfl (ad := ad_4.add (s_4.toNat * 6)) (fun j v h => p_16.cell (hc_6 j v h))) fun _ f => ?_
           obtain ⟨x_8, hx_8, hF_35⟩ := bS hF_34
           refine Y18 f p_16 (hrec_ref03_wrong _ _ x_7 (T_api_Value.shutx (x := x_7) h_13 h_14) x_8 hx_8) fun w_20 p_17 _ f => ?_
           refine Y19 f 1 fun _ f => ?_
           refine W_end rfl (T_n (R_seq (R_reg ?_)))
           refine Y19 f 2 fun _ f => ?_
           refine W_end rfl (T_n ?_)
           refine Y6 f (b := !(decide (x_8 = 0))) (fun h_15 => ?_) fun h_15 => ?_
           ·have k_20 : ¬ (x_8 = 0) := (not_iff dI).1 h_15
            have hF_36 := cnd_t h_15 hF_35
            refine R_seq (R_reg ?_)
            refine Y19 f 2 fun _ f => ?_
            refine W_end rfl (T_n (wp_ret (B_r (T_r (T_r ?_)))))
            obtain rfl := sI hF_36
            exact .inl ⟨rfl, x_8, (sI hn_4).symm, M_12, hM_12, f.keep (ks := [2]) (by kernel_rfl), p_17⟩
           ·have k_21 : ¬ (¬ (x_8 = 0)) := iff_f (not_iff dI) h_15
            have hF_37 := cnd_f h_15 hF_35
            refine wp_skip (B_n (T_n (R_reg ?_)))
            refine Y19 f 1 fun _ f => ?_
            obtain ⟨g_4, hF_38⟩ := nS hF_37
            refine Y19 f 1 fun _ f => ?_
            have f := Frm.set f 66 (v := .int .i64 (IntKind.wrap .i64 (s_4 + 1))) (v' := .int .i64 (s_4 + 1)) (by kernel_rfl) (congrArg (Value.int .i64) (inR_wrap g_4))
            refine Y19 f 1 fun _ f => ?_
            refine W_end rfl (T_n ?_)
            obtain rfl := sI hF_38
            exact ⟨⟨m_8, s_4 + 1⟩, Nat.lt_succ_self _, M_12, hM_12, hn_4, f.keep (ks := [1, 6]) (by kernel_rfl), p_17⟩
          ·have k_22 : ¬ (s_4 < ((d0.fList.length : Nat) : Int)) := iff_f dI h_12
           have hF_39 := cnd_f h_12 hs_4
           refine wp_exit (T_x (T_x ?_))
           obtain rfl := sI hF_39
           exact .inr ⟨rfl, (), (sI hn_4).symm, M_12, hM_12, f.keep (ks := []) (by kernel_rfl), p_16⟩
         ·rintro _ _ w_23 (⟨rfl, y_8, rfl, M_13, hM_13, f, p_18⟩ | ⟨rfl, y_9, rfl, M_14, hM_14, f, p_19⟩)
          ·refine B_r (T_r ?_)
           refine E_ret1 f rfl (by kernel_rfl : Vc.look _ 2 = some (.int .i64 y_8)) ?_
           obtain rfl := sI hF_32
           exact ⟨_, rfl, M_13, ((((hM_1.trans hM_2).trans hM_5).trans hM_11).trans hM_13), p_18, rfl⟩
          ·refine B_x (T_n (R_seq (R_reg ?_)))
           refine Y19 f 1 fun _ f => ?_
           refine W_end rfl (T_n (wp_ret ?_))
           refine E_ret1 f rfl (by kernel_rfl : Vc.look _ 2 = some (.int .i64 0)) ?_
           obtain rfl := sI hF_32
           exact ⟨_, rfl, M_14, ((((hM_1.trans hM_2).trans hM_5).trans hM_11).trans hM_14), p_19, rfl⟩
def ref03_wrong_k (n : Nat) : Nat → T_api_Value → Option Int
  | 0 => fun _ => none
  | k + 1 => ref03_wrong_b n (ref03_wrong_k n k)
def ref03_wrong (n : Nat) (d0 : T_api_Value) : Option Int := ref03_wrong_k n n d0
theorem ref03_wrong_ok (n : Nat) (M : Mem) (c0 : List Value) (d0 : T_api_Value) (h0 : Rep M (emb_T_api_Value d0) c0) (r : Int) (hF : ref03_wrong n d0 = some r) : Ok Tryz.prog M 96 [.agg c0.toArray] (fun _ v => v = .int .i64 r) := by
 have key : ∀ (k : Nat) (M : Mem) (c0 : List Value) (d0 : T_api_Value) (h0 : Rep M (emb_T_api_Value d0) c0) (r : Int) (hF : ref03_wrong_k n k d0 = some r), Ok Tryz.prog M 96 [.agg c0.toArray] (fun _ v => v = .int .i64 r) := by
  intro k
  induction k with
  | zero => intro M c0 d0 h0 r hF; simp [ref03_wrong_k] at hF
  | succ k ih => intro M c0 d0 h0 r hF; exact ref03_wrong_b_ok n (ref03_wrong_k n k) ih M c0 d0 h0 r hF
 exact key n M c0 d0 h0 r hF
def ref03_Check (n : Nat) (d0 : T_api_Value) : Option Int :=
  (ref03_deeper n d0 (24 : Int)).bind fun x_1 =>
  bif x_1 then
    (some ((30 : Int)))
  else
    (ref03_wrong n d0).bind fun x_2 =>
    bif (!(decide (x_2 = 0))) then
      (some (x_2))
    else
      (ref03_Count n d0).bind fun x_3 =>
      bif (decide ((4096 : Int) < x_3)) then
        (some ((3 : Int)))
      else
        some ((0 : Int))
set_option maxHeartbeats 2000000 in
theorem ref03_Check_ok (n : Nat) (M : Mem) (c0 : List Value) (d0 : T_api_Value) (h0 : Rep M (emb_T_api_Value d0) c0) (r : Int) (hF : ref03_Check n d0 = some r) : Ok Tryz.prog M 75 [.agg c0.toArray] (fun _ v => v = .int .i64 r) := by
 unfold ref03_Check at hF
 intro M1 hM0 w0 H w p0
 replace h0 := Rep.mono hM0 _ _ h0
 obtain ⟨A_1, cap_1, A_2, cap_2, rfl, h_1, h_2⟩ := T_api_Value.opn h0
 refine R_enter 14 Tryz.func75 rfl rfl (by simp) fun a0 f0 => ?_
 refine R_seq (R_reg ?_)
 refine Y13 (cs := #[.int .i8 d0.fKind, .bool d0.fBool, .int .i64 d0.fNum, S d0.fText, .slice A_1 d0.fList.length cap_1, .slice A_2 d0.fKeys.length cap_2]) (T := 76) f0 p0 fun b_1 M_1 w_1 hM_1 hc_1 p_1 _ f => ?_
 have hc_2 := fz_box hc_1
 refine Y19 f 1 fun _ f => ?_
 refine W_end rfl (T_n (R_seq (R_seq (R_reg ?_))))
 refine Y14 (v := .agg #[.int .i8 d0.fKind, .bool d0.fBool, .int .i64 d0.fNum, S d0.fText, .slice A_1 d0.fList.length cap_1, .slice A_2 d0.fKeys.length cap_2]) f (Y33 (cs := [.int .i8 d0.fKind, .bool d0.fBool, .int .i64 d0.fNum, S d0.fText, .slice A_1 d0.fList.length cap_1, .slice A_2 d0.fKeys.length cap_2]) rfl (ad := ⟨b_1, 0, none⟩) (fun j v h => p_1.cell (hc_2 j v h))) fun _ f => ?_
 obtain ⟨x_1, hx_1, hF_1⟩ := bS hF
 refine Y18 f p_1 (ref03_deeper_ok n _ _ d0 (T_api_Value.shutx (x := d0) (h_1.mono hM_1) (h_2.mono hM_1)) (24 : Int) x_1 hx_1) fun w_2 p_2 _ f => ?_
 refine W_end rfl (T_n ?_)
 refine Y6 f (b := x_1) (fun h_3 => ?_) fun h_3 => ?_
 ·have hF_2 := cnd_t h_3 hF_1
  refine R_seq (R_reg ?_)
  refine Y19 f 1 fun _ f => ?_
  refine W_end rfl (T_n (wp_ret (T_r ?_)))
  refine E_ret1 f rfl (by kernel_rfl : Vc.look _ 2 = some (.int .i64 30)) ?_
  obtain rfl := sI hF_2
  exact ⟨_, rfl, M_1, hM_1, p_2, rfl⟩
 ·have hF_3 := cnd_f h_3 hF_1
  refine wp_skip (T_n (R_seq (R_reg ?_)))
  refine Y14 (v := .agg #[.int .i8 d0.fKind, .bool d0.fBool, .int .i64 d0.fNum, S d0.fText, .slice A_1 d0.fList.length cap_1, .slice A_2 d0.fKeys.length cap_2]) f (Y33 (cs := [.int .i8 d0.fKind, .bool d0.fBool, .int .i64 d0.fNum, S d0.fText, .slice A_1 d0.fList.length cap_1, .slice A_2 d0.fKeys.length cap_2]) rfl (ad := ⟨b_1, 0, none⟩) (fun j v h => p_2.cell (hc_2 j v h))) fun _ f => ?_
  obtain ⟨x_2, hx_2, hF_4⟩ := bS hF_3
  refine Y18 f p_2 (ref03_wrong_ok n _ _ d0 (T_api_Value.shutx (x := d0) (h_1.mono hM_1) (h_2.mono hM_1)) x_2 hx_2) fun w_3 p_3 _ f => ?_
  refine Y19 f 1 fun _ f => ?_
  refine W_end rfl (T_n (R_seq (R_seq (R_reg ?_))))
  refine Y19 f 2 fun _ f => ?_
  refine W_end rfl (T_n ?_)
  refine Y6 f (b := !(decide (x_2 = 0))) (fun h_4 => ?_) fun h_4 => ?_
  ·have k_3 : ¬ (x_2 = 0) := (not_iff dI).1 h_4
   have hF_5 := cnd_t h_4 hF_4
   refine R_seq (R_reg ?_)
   refine Y19 f 2 fun _ f => ?_
   refine W_end rfl (T_n (wp_ret (T_r ?_)))
   refine E_ret1 f rfl (by kernel_rfl : Vc.look _ 2 = some (.int .i64 x_2)) ?_
   obtain rfl := sI hF_5
   exact ⟨_, rfl, M_1, hM_1, p_3, rfl⟩
  ·have k_4 : ¬ (¬ (x_2 = 0)) := iff_f (not_iff dI) h_4
   have hF_6 := cnd_f h_4 hF_4
   refine wp_skip (T_n (R_seq (R_seq (R_reg ?_))))
   refine Y14 (v := .agg #[.int .i8 d0.fKind, .bool d0.fBool, .int .i64 d0.fNum, S d0.fText, .slice A_1 d0.fList.length cap_1, .slice A_2 d0.fKeys.length cap_2]) f (Y33 (cs := [.int .i8 d0.fKind, .bool d0.fBool, .int .i64 d0.fNum, S d0.fText, .slice A_1 d0.fList.length cap_1, .slice A_2 d0.fKeys.length cap_2]) rfl (ad := ⟨b_1, 0, none⟩) (fun j v h => p_3.cell (hc_2 j v h))) fun _ f => ?_
   obtain ⟨x_3, hx_3, hF_7⟩ := bS hF_6
   refine Y18 f p_3 (ref03_Count_ok n _ _ d0 (T_api_Value.shutx (x := d0) (h_1.mono hM_1) (h_2.mono hM_1)) x_3 hx_3) fun w_4 p_4 _ f => ?_
   refine Y19 f 1 fun _ f => ?_
   refine W_end rfl (T_n ?_)
   refine Y6 f (b := decide ((4096 : Int) < x_3)) (fun h_5 => ?_) fun h_5 => ?_
   ·have k_5 : (4096 : Int) < x_3 := dI.1 h_5
    have hF_8 := cnd_t h_5 hF_7
    refine R_seq (R_reg ?_)
    refine Y19 f 1 fun _ f => ?_
    refine W_end rfl (T_n (wp_ret (T_r ?_)))
    refine E_ret1 f rfl (by kernel_rfl : Vc.look _ 2 = some (.int .i64 3)) ?_
    obtain rfl := sI hF_8
    exact ⟨_, rfl, M_1, hM_1, p_4, rfl⟩
   ·have k_6 : ¬ ((4096 : Int) < x_3) := iff_f dI h_5
    have hF_9 := cnd_f h_5 hF_7
    refine wp_skip (T_n (R_seq (R_reg ?_)))
    refine Y19 f 1 fun _ f => ?_
    refine W_end rfl (T_n (wp_ret ?_))
    refine E_ret1 f rfl (by kernel_rfl : Vc.look _ 2 = some (.int .i64 0)) ?_
    obtain rfl := sI hF_9
    exact ⟨_, rfl, M_1, hM_1, p_4, rfl⟩
end Go.Proofs.YtalifkcchfkgmaaGreatDoor
end
