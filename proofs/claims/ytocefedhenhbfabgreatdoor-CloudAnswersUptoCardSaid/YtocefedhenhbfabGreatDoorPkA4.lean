/-
  Texts of this claim, packed (what nothing names is left out): S3, SchemaP2, S5, SchemaP3, SchemaP4, SchemaP5, Q2h, Q2g, Q2i, TreeR, R1, R2, R3, AllN, SchemaP6, Num, NumC, TextC, Num2, NumH. Own work, partly printed by own programs. No condition.
-/
import Derived.Test.YtocefedhenhbfabGreatDoorPkA3
import Derived.Test.YtocefedhenhbfabGreatDoorPkA1
import Derived.Test.YtocefedhenhbfabGreatDoorPkA2
import Derived.Test.YtocefedhenhbfabGreatDoorRows
import GoSem.Op.String
set_option linter.unusedVariables false
set_option linter.unusedSimpArgs false
set_option maxHeartbeats 2000000
section
namespace Go.Proofs.YtocefedhenhbfabGreatDoor
open Go Go.Vc Go.RowKit
def schema_value_1_2 (n : Nat) (rec_schema_value : TG0 → Int → Option Bool) (d0 : TG0) : Option Bool :=
  (rec_schema_value d0 (3 : Int)).bind fun x_1 =>
  some ((!x_1))
theorem schema_value_1_2_ok (n : Nat) (rec_schema_value : TG0 → Int → Option Bool) (hrec_schema_value : ∀ (M : Mem) (hG : GL M) (ad0 : Addr) (c0 : List Value) (d0 : TG0) (h0 : Rep M (emb_TG0 d0) c0) (q0 : ∀ j v, c0[j]? = some v → M.cell? (ad0.add j) = some v) (d1 : Int) (r : Bool) (hF : rec_schema_value d0 d1 = some r), Ok Tryz.prog M 62 [.pointer (some ad0), .int .i8 d1] (fun _ v => v = .bool r)) (M : Mem) (hG : GL M) (c0 : List Value) (d0 : TG0) (h0 : Rep M (emb_TG0 d0) c0) (r : Bool) (hF : schema_value_1_2 n rec_schema_value d0 = some r) : Ok Tryz.prog M 83 [.agg c0.toArray] (fun _ v => v = .bool r) := by
 unfold schema_value_1_2 at hF
 intro M1 hM0 w0 H w p0
 replace hG := GL.mono hM0 hG
 replace h0 := Rep.mono hM0 _ _ h0
 obtain ⟨A_1, cap_1, A_2, cap_2, rfl, h_1, h_2⟩ := TG0.opn h0
 refine R_enter 5 Tryz.func83 rfl rfl (by simp) fun a0 f0 => RR (Y13 (cs := #[.int .i8 d0.fKind, .bool d0.fBool, .int .i64 d0.fNum, S d0.fText, .slice A_1 d0.fList.length cap_1, .slice A_2 d0.fKeys.length cap_2]) (T := 71) f0 p0 fun b_1 M_1 w_1 hM_1 hc_1 p_1 _ f => ?_)
 have hc_2 := fz_box hc_1
 refine Y f 1 fun _ f => eT (RR ?_)
 obtain ⟨x_1, hx_1, hF_1⟩ := bS hF
 refine Y18 f p_1 (hrec_schema_value _ (GL.mono hM_1 hG) (⟨b_1, 0, none⟩) [.int .i8 d0.fKind, .bool d0.fBool, .int .i64 d0.fNum, S d0.fText, .slice A_1 d0.fList.length cap_1, .slice A_2 d0.fKeys.length cap_2] d0 (TG0.shutx (x := d0) (h_1.mono hM_1) (h_2.mono hM_1)) (fz_at (hc_2) 0 rfl) (3 : Int) x_1 hx_1) fun w_2 p_2 _ f => Y f 2 fun _ f => eT (wp_ret (E_ret1 f rfl (by kernel_rfl : Vc.look _ 2 = some (.bool !x_1)) ?_))
 obtain rfl := sI hF_1
 exact ⟨_, rfl, M_1, hM_1, p_2, rfl⟩
def slices_IndexFuncapi_Value_api_Value_2_s1 (n : Nat) (rec_schema_value : TG0 → Int → Option Bool) (d0 : List TG0) (s_1 : Int) : Option (Lp Int (Sum Int Unit)) :=
    bif (decide (s_1 < ((d0.length : Nat) : Int))) then
      ((getI d0 s_1).bind fun x_1 =>
      (schema_value_1_2 n rec_schema_value x_1).bind fun x_2 =>
      bif x_2 then
        (some (.br (.inl s_1)))
      else
        need (inR .i64 (s_1 + 1)) <|
        some (.nx (s_1 + 1)))
    else
      some (.br (.inr ()))
def slices_IndexFuncapi_Value_api_Value_2 (n : Nat) (rec_schema_value : TG0 → Int → Option Bool) (d0 : List TG0) : Option Int :=
  (loopF (slices_IndexFuncapi_Value_api_Value_2_s1 n rec_schema_value d0) n (0 : Int)).bind fun b_1 =>
  (match b_1 with 
  | .inl y_1 => some (y_1) 
  | .inr y_2 => some ((-1 : Int)))
theorem slices_IndexFuncapi_Value_api_Value_2_ok (n : Nat) (rec_schema_value : TG0 → Int → Option Bool) (hrec_schema_value : ∀ (M : Mem) (hG : GL M) (ad0 : Addr) (c0 : List Value) (d0 : TG0) (h0 : Rep M (emb_TG0 d0) c0) (q0 : ∀ j v, c0[j]? = some v → M.cell? (ad0.add j) = some v) (d1 : Int) (r : Bool) (hF : rec_schema_value d0 d1 = some r), Ok Tryz.prog M 62 [.pointer (some ad0), .int .i8 d1] (fun _ v => v = .bool r)) (M : Mem) (hG : GL M) (A0 : Option Addr) (cap0 : Nat) (d0 : List TG0) (h0 : Sli M 6 emb_TG0 A0 cap0 d0) (r : Int) (hF : slices_IndexFuncapi_Value_api_Value_2 n rec_schema_value d0 = some r) : Ok Tryz.prog M 103 [.slice A0 d0.length cap0, .func (.func 83) #[] #[]] (fun _ v => v = .int .i64 r) := by
 unfold slices_IndexFuncapi_Value_api_Value_2 at hF
 intro M1 hM0 w0 H w p0
 replace hG := GL.mono hM0 hG
 replace h0 := h0.mono hM0
 refine R_enter 19 Tryz.func103 rfl rfl (by simp) fun a0 f0 => RR (Y f0 1 fun _ f => eT (R_seq (RR (Y f 3 fun _ f => eT (wp_block ?_)))))
 obtain ⟨b_1, hL_1, hF_1⟩ := bS hF
 refine wp_mono (Q := fun e a w => (e = .ret ∧ (∃ y_1 : Int, b_1 = .inl y_1 ∧ ∃ M_2 : Mem, M1.le M_2 ∧ Frm 19 [(4, .int .i64 y_1)] a ∧ Hp w0 M_2 (H) w)) ∨ (e = .exit 0 ∧ (∃ y_2 : Unit, b_1 = .inr y_2 ∧ ∃ M_3 : Mem, M1.le M_3 ∧ Frm 19 [] a ∧ Hp w0 M_3 (H) w))) (R_loop (n := 19) (w0 := w0) (M := M1) (fun (x : Nat × Int) => match x with | (m_1, s_1) => [(0, .slice A0 d0.length cap0), (1, .func (.func 83) #[] #[]), (7, .int .i64 ((d0.length : Nat) : Int)), (8, .int .i64 s_1)]) (fun (x : Nat × Int) => match x with | (m_1, s_1) => (H)) (fun (x : Nat × Int) (MM : Mem) => match x with | (m_1, s_1) => loopF (slices_IndexFuncapi_Value_api_Value_2_s1 n rec_schema_value d0) m_1 s_1 = some b_1) (fun (x : Nat × Int) => match x with | (m_1, s_1) => m_1) (n, (0 : Int)) (f.kp) p0 hL_1 ?_) ?_
 ·rintro ⟨m_1, s_1⟩ M_1 _ w_1 hM_1 I_1 f p_1
  have I_1L := I_1
  obtain ⟨m_2, r_1, rfl, hs_1, hn_1⟩ := loop_step I_1L
  unfold slices_IndexFuncapi_Value_api_Value_2_s1 at hs_1
  refine RR (Y f 1 fun _ f => eT (R_seq (RcF f hs_1 (fun h_1 hF_2 => ?_) fun h_1 hF_8 => ?_)))
  ·have k_1 := dI.1 h_1
   refine wp_skip (T_n (R_seq (wp_block (RR (Y f 2 fun _ f => eT (RR (Y f 3 fun _ f => ?_)))))))
   obtain ⟨x_1, hx_1, hF_3⟩ := bS hF_2
   obtain ⟨ad_1, c_1, e_1, -, hr_1, hc_1⟩ := Sli.at_ (h0.mono hM_1) hx_1
   obtain ⟨A_1, cap_1, A_2, cap_2, rfl, h_2, h_3⟩ := TG0.opn hr_1
   refine Z f (Y33 e_1 rfl (len := d0.length) (cap := cap0) (k := .i64) (i := s_1) (e := 71) (sz := 6) (getI_nn hx_1) (getI_lt hx_1)) fun _ f => Z (v := .agg #[.int .i8 x_1.fKind, .bool x_1.fBool, .int .i64 x_1.fNum, S x_1.fText, .slice A_1 x_1.fList.length cap_1, .slice A_2 x_1.fKeys.length cap_2]) f (Y35 (cs := [.int .i8 x_1.fKind, .bool x_1.fBool, .int .i64 x_1.fNum, S x_1.fText, .slice A_1 x_1.fList.length cap_1, .slice A_2 x_1.fKeys.length cap_2]) rfl (ad := ad_1.add (s_1.toNat * 6)) (fun j v h => p_1.cell (hc_1 j v h))) fun _ f => ?_
   obtain ⟨x_2, hx_2, hF_4⟩ := bS hF_3
   refine Y18 f p_1 (schema_value_1_2_ok n rec_schema_value hrec_schema_value _ (GL.mono hM_1 hG) _ x_1 (TG0.shutx (x := x_1) h_2 h_3) x_2 hx_2) fun w_2 p_2 _ f => eT (RcF f hF_4 (fun h_4 hF_5 => ?_) fun h_4 hF_6 => ?_)
   ·refine RR (Y f 2 fun _ f => eT (wp_ret (B_r (T_r (T_r ?_)))))
    obtain rfl := sI hF_5
    exact .inl ⟨rfl, s_1, (sI hn_1).symm, M_1, hM_1, f.kp, p_2⟩
   ·refine wp_skip (B_n (T_n (R_reg ?_)))
    obtain ⟨g_1, hF_7⟩ := nS hF_6
    refine Y f 1 fun _ f => ?_
    have f := f.st 18 (congrArg (Value.int .i64) (inR_wrap g_1))
    refine Y f 1 fun _ f => eT ?_
    obtain rfl := sI hF_7
    exact ⟨⟨m_2, s_1 + 1⟩, Nat.lt_succ_self _, M_1, hM_1, hn_1, f.kp, p_2⟩
  ·have k_4 := iff_f dI h_1
   refine wp_exit (T_x (T_x ?_))
   obtain rfl := sI hF_8
   exact .inr ⟨rfl, (), (sI hn_1).symm, M_1, hM_1, f.kp, p_1⟩
 ·rintro _ _ w_5 (⟨rfl, y_1, rfl, M_2, hM_2, f, p_3⟩ | ⟨rfl, y_2, rfl, M_3, hM_3, f, p_4⟩)
  ·refine B_r (T_r (E_ret1 f rfl (by kernel_rfl : Vc.look _ 4 = some (.int .i64 y_1)) ?_))
   obtain rfl := sI hF_1
   exact ⟨_, rfl, M_2, hM_2, p_3, rfl⟩
  ·refine B_x (T_n (RR (Y f 1 fun _ f => eT (wp_ret (E_ret1 f rfl (by kernel_rfl : Vc.look _ 4 = some (.int .i64 (-1))) ?_)))))
   obtain rfl := sI hF_1
   exact ⟨_, rfl, M_3, hM_3, p_4, rfl⟩
def slices_ContainsFuncapi_Value_api_Value_2 (n : Nat) (rec_schema_value : TG0 → Int → Option Bool) (d0 : List TG0) : Option Bool :=
  (slices_IndexFuncapi_Value_api_Value_2 n rec_schema_value d0).bind fun x_1 =>
  some ((decide ((0 : Int) ≤ x_1)))
theorem slices_ContainsFuncapi_Value_api_Value_2_ok (n : Nat) (rec_schema_value : TG0 → Int → Option Bool) (hrec_schema_value : ∀ (M : Mem) (hG : GL M) (ad0 : Addr) (c0 : List Value) (d0 : TG0) (h0 : Rep M (emb_TG0 d0) c0) (q0 : ∀ j v, c0[j]? = some v → M.cell? (ad0.add j) = some v) (d1 : Int) (r : Bool) (hF : rec_schema_value d0 d1 = some r), Ok Tryz.prog M 62 [.pointer (some ad0), .int .i8 d1] (fun _ v => v = .bool r)) (M : Mem) (hG : GL M) (A0 : Option Addr) (cap0 : Nat) (d0 : List TG0) (h0 : Sli M 6 emb_TG0 A0 cap0 d0) (r : Bool) (hF : slices_ContainsFuncapi_Value_api_Value_2 n rec_schema_value d0 = some r) : Ok Tryz.prog M 82 [.slice A0 d0.length cap0, .func (.func 83) #[] #[]] (fun _ v => v = .bool r) := by
 unfold slices_ContainsFuncapi_Value_api_Value_2 at hF
 intro M1 hM0 w0 H w p0
 replace hG := GL.mono hM0 hG
 replace h0 := h0.mono hM0
 refine R_enter 9 Tryz.func82 rfl rfl (by simp) fun a0 f0 => RR (Y f0 1 fun _ f => eT (RR (Y f 2 fun _ f => ?_)))
 obtain ⟨x_1, hx_1, hF_1⟩ := bS hF
 refine Y18 f p0 (slices_IndexFuncapi_Value_api_Value_2_ok n rec_schema_value hrec_schema_value _ hG A0 cap0 d0 h0 x_1 hx_1) fun w_1 p_1 _ f => Y f 2 fun _ f => eT (wp_ret (E_ret1 f rfl (by kernel_rfl : Vc.look _ 4 = some (.bool (decide ((0 : Int) ≤ x_1)))) ?_))
 obtain rfl := sI hF_1
 exact ⟨_, rfl, M1, (mR _), p_1, rfl⟩
def schema_value_b (n : Nat) (rec_schema_value : TG0 → Int → Option Bool) (d0 : TG0) (d1 : Int) : Option Bool :=
  ((bif (!(decide (d0.fKind = d1))) then
      (some ((true)))
    else
      (tree_Check n d0).bind fun x_1 =>
      some ((!(decide (x_1 = 0)))) : Option Bool)).bind fun y_1 =>
  bif y_1 then
    (some ((false)))
  else
    bif (decide (d1 = 3)) then
      ((print_Word n d0.fText).bind fun x_2 =>
      some ((x_2)))
    else
      bif (decide (d1 = 4)) then
        (bif (decide (((d0.fList.length : Nat) : Int) ≤ 8)) then
          ((slices_ContainsFuncapi_Value_api_Value_2 n rec_schema_value d0.fList).bind fun x_3 =>
          some ((!x_3)))
        else
          some ((false)))
      else
        some ((true))
set_option maxRecDepth 20000 in
theorem schema_value_b_ok (n : Nat) (rec_schema_value : TG0 → Int → Option Bool) (hrec_schema_value : ∀ (M : Mem) (hG : GL M) (ad0 : Addr) (c0 : List Value) (d0 : TG0) (h0 : Rep M (emb_TG0 d0) c0) (q0 : ∀ j v, c0[j]? = some v → M.cell? (ad0.add j) = some v) (d1 : Int) (r : Bool) (hF : rec_schema_value d0 d1 = some r), Ok Tryz.prog M 62 [.pointer (some ad0), .int .i8 d1] (fun _ v => v = .bool r)) (M : Mem) (hG : GL M) (ad0 : Addr) (c0 : List Value) (d0 : TG0) (h0 : Rep M (emb_TG0 d0) c0) (q0 : ∀ j v, c0[j]? = some v → M.cell? (ad0.add j) = some v) (d1 : Int) (r : Bool) (hF : schema_value_b n rec_schema_value d0 d1 = some r) : Ok Tryz.prog M 62 [.pointer (some ad0), .int .i8 d1] (fun _ v => v = .bool r) := by
 unfold schema_value_b at hF
 intro M1 hM0 w0 H w p0
 replace hG := GL.mono hM0 hG
 replace h0 := Rep.mono hM0 _ _ h0
 replace q0 := fun j v h => hM0.cell (q0 j v h)
 obtain ⟨A_1, cap_1, A_2, cap_2, rfl, h_1, h_2⟩ := TG0.opn h0
 refine R_enter 42 Tryz.func62 rfl rfl (by simp) fun a0 f0 => RR (Y f0 1 fun _ f => eT (R_seq (R_seq ?_)))
 obtain ⟨j_1, hj_1, hF_1⟩ := bS hF
 refine R_mid (fun a_10 w_2 => ∃ y_1 : Bool, j_1 = y_1 ∧ ∃ M_1 : Mem, M1.le M_1 ∧ Frm 42 [(0, .pointer (some ad0)), (1, .int .i8 d1), (17, .bool y_1)] a_10 ∧ Hp w0 M_1 (H) w_2) ?_ ?_
 ·refine R_reg (Y f 3 fun _ f => Y15 f p0 q0 0 rfl fun _ f => Y f 3 fun _ f => ?_)
  rcases cE hj_1 with ⟨h_3, hF_2⟩ | ⟨h_3, hF_3⟩
  ·have k_1 : ¬ (d0.fKind = d1) := (not_iff dI).1 h_3
   have f := f.st 11 (cB h_3)
   refine Y f 6 fun _ f => eT ?_
   exact ⟨(true), (sI hF_2).symm, M1, (mR _), f.kp, p0⟩
  ·have k_2 : ¬ (¬ (d0.fKind = d1)) := iff_f (not_iff dI) h_3
   have f := f.st 11 (cB h_3)
   refine Y f 2 fun _ f => Z (v := .agg #[.int .i8 d0.fKind, .bool d0.fBool, .int .i64 d0.fNum, S d0.fText, .slice A_1 d0.fList.length cap_1, .slice A_2 d0.fKeys.length cap_2]) f (Y35 (cs := [.int .i8 d0.fKind, .bool d0.fBool, .int .i64 d0.fNum, S d0.fText, .slice A_1 d0.fList.length cap_1, .slice A_2 d0.fKeys.length cap_2]) rfl (ad := ad0) (fun j v h => p0.cell (q0 j v h))) fun _ f => ?_
   obtain ⟨x_1, hx_1, hF_4⟩ := bS hF_3
   refine Y18 f p0 (tree_Check_ok n _ hG _ d0 (TG0.shutx (x := d0) h_1 h_2) x_1 hx_1) fun w_1 p_1 _ f => Y f 2 fun _ f => eT ?_
   exact ⟨(!(decide (x_1 = 0))), (sI hF_4).symm, M1, (mR _), f.kp, p_1⟩
 ·rintro a_10 w_2 ⟨y_1, hq_1, M_1, hM_1, f, p_2⟩
  subst j_1
  refine T_n (RcF f hF_1 (fun h_4 hF_5 => ?_) fun h_4 hF_6 => ?_)
  ·refine RR (Y f 1 fun _ f => eT (wp_ret (T_r (E_ret1 f rfl (by kernel_rfl : Vc.look _ 4 = some (.bool false)) ?_))))
   obtain rfl := sI hF_5
   exact ⟨_, rfl, M_1, hM_1, p_2, rfl⟩
  ·refine wp_skip (T_n (R_seq (RR (Y f 1 fun _ f => eT (wp_block (RR (Y f 2 fun _ f => eT (RcF f hF_6 (fun h_5 hF_7 => ?_) fun h_5 hF_9 => ?_))))))))
   ·have k_5 := dI.1 h_5
    refine RR (Y f 3 fun _ f => Y15 f p_2 (fzu hM_1 q0) 3 rfl fun _ f => ?_)
    obtain ⟨x_2, hx_2, hF_8⟩ := bS hF_7
    refine Y18 f p_2 (print_Word_ok n _ (GL.mono hM_1 hG) d0.fText x_2 hx_2) fun w_3 p_3 _ f => Y f 1 fun _ f => eT (wp_ret (B_r (T_r (E_ret1 f rfl (by kernel_rfl : Vc.look _ 4 = some (.bool x_2)) ?_))))
    obtain rfl := sI hF_8
    exact ⟨_, rfl, M_1, hM_1, p_3, rfl⟩
   ·have k_6 := iff_f dI h_5
    refine RR (Y f 2 fun _ f => eT (RcF f hF_9 (fun h_6 hF_10 => ?_) fun h_6 hF_14 => ?_))
    ·have k_7 := dI.1 h_6
     refine RR (Y f 3 fun _ f => Y15 f p_2 (fzu hM_1 q0) 4 rfl fun _ f => Y f 3 fun _ f => ?_)
     rcases cE hF_10 with ⟨h_7, hF_11⟩ | ⟨h_7, hF_13⟩
     ·have k_8 := dI.1 h_7
      have f := f.st 34 (cB h_7)
      refine Y f 3 fun _ f => Y15 f p_2 (fzu hM_1 q0) 4 rfl fun _ f => ?_
      obtain ⟨x_3, hx_3, hF_12⟩ := bS hF_11
      refine Y18 f p_2 (slices_ContainsFuncapi_Value_api_Value_2_ok n rec_schema_value hrec_schema_value _ (GL.mono hM_1 hG) A_1 cap_1 d0.fList (h_1.mono hM_1) x_3 hx_3) fun w_4 p_4 _ f => Y f 3 fun _ f => eT (wp_ret (B_r (T_r (E_ret1 f rfl (by kernel_rfl : Vc.look _ 4 = some (.bool !x_3)) ?_))))
      obtain rfl := sI hF_12
      exact ⟨_, rfl, M_1, hM_1, p_4, rfl⟩
     ·have k_9 := iff_f dI h_7
      have f := f.st 34 (cB h_7)
      refine Y f 8 fun _ f => eT (wp_ret (B_r (T_r (E_ret1 f rfl (by kernel_rfl : Vc.look _ 4 = some (.bool false)) ?_))))
      obtain rfl := sI hF_13
      exact ⟨_, rfl, M_1, hM_1, p_2, rfl⟩
    ·have k_10 := iff_f dI h_6
     refine wp_skip (B_n (T_n (RR (Y f 1 fun _ f => eT (wp_ret (E_ret1 f rfl (by kernel_rfl : Vc.look _ 4 = some (.bool true)) ?_))))))
     obtain rfl := sI hF_14
     exact ⟨_, rfl, M_1, hM_1, p_2, rfl⟩
def schema_value_k (n : Nat) : Nat → TG0 → Int → Option Bool
  | 0 => fun _ _ => none
  | k + 1 => schema_value_b n (schema_value_k n k)
def schema_value (n : Nat) (d0 : TG0) (d1 : Int) : Option Bool := schema_value_k n n d0 d1
theorem schema_value_ok (n : Nat) (M : Mem) (hG : GL M) (ad0 : Addr) (c0 : List Value) (d0 : TG0) (h0 : Rep M (emb_TG0 d0) c0) (q0 : ∀ j v, c0[j]? = some v → M.cell? (ad0.add j) = some v) (d1 : Int) (r : Bool) (hF : schema_value n d0 d1 = some r) : Ok Tryz.prog M 62 [.pointer (some ad0), .int .i8 d1] (fun _ v => v = .bool r) := by
 have key : ∀ (k : Nat) (M : Mem) (hG : GL M) (ad0 : Addr) (c0 : List Value) (d0 : TG0) (h0 : Rep M (emb_TG0 d0) c0) (q0 : ∀ j v, c0[j]? = some v → M.cell? (ad0.add j) = some v) (d1 : Int) (r : Bool) (hF : schema_value_k n k d0 d1 = some r), Ok Tryz.prog M 62 [.pointer (some ad0), .int .i8 d1] (fun _ v => v = .bool r) := by
  intro k
  induction k with
  | zero => intro M hG ad0 c0 d0 h0 q0 d1 r hF; simp [schema_value_k] at hF
  | succ k ih => intro M hG ad0 c0 d0 h0 q0 d1 r hF; exact schema_value_b_ok n (schema_value_k n k) ih M hG ad0 c0 d0 h0 q0 d1 r hF
 exact key n M hG ad0 c0 d0 h0 q0 d1 r hF
def schema_empty (n : Nat) (d0 : TG0) : Option Bool :=
  bif (decide (d0.fKind = 0)) then
    ((tree_Check n d0).bind fun x_1 =>
    some ((decide (x_1 = 0))))
  else
    some ((false))
theorem schema_empty_ok (n : Nat) (M : Mem) (hG : GL M) (ad0 : Addr) (c0 : List Value) (d0 : TG0) (h0 : Rep M (emb_TG0 d0) c0) (q0 : ∀ j v, c0[j]? = some v → M.cell? (ad0.add j) = some v) (r : Bool) (hF : schema_empty n d0 = some r) : Ok Tryz.prog M 63 [.pointer (some ad0)] (fun _ v => v = .bool r) := by
 unfold schema_empty at hF
 intro M1 hM0 w0 H w p0
 replace hG := GL.mono hM0 hG
 replace h0 := Rep.mono hM0 _ _ h0
 replace q0 := fun j v h => hM0.cell (q0 j v h)
 obtain ⟨A_1, cap_1, A_2, cap_2, rfl, h_1, h_2⟩ := TG0.opn h0
 refine R_enter 15 Tryz.func63 rfl rfl (by simp) fun a0 f0 => RR (Y f0 1 fun _ f => eT (RR (Y f 3 fun _ f => Y15 f p0 q0 0 rfl fun _ f => Y f 2 fun _ f => ?_)))
 rcases cE hF with ⟨h_3, hF_1⟩ | ⟨h_3, hF_3⟩
 ·have k_1 := dI.1 h_3
  have f := f.st 8 (cB h_3)
  refine Y f 2 fun _ f => Z (v := .agg #[.int .i8 d0.fKind, .bool d0.fBool, .int .i64 d0.fNum, S d0.fText, .slice A_1 d0.fList.length cap_1, .slice A_2 d0.fKeys.length cap_2]) f (Y35 (cs := [.int .i8 d0.fKind, .bool d0.fBool, .int .i64 d0.fNum, S d0.fText, .slice A_1 d0.fList.length cap_1, .slice A_2 d0.fKeys.length cap_2]) rfl (ad := ad0) (fun j v h => p0.cell (q0 j v h))) fun _ f => ?_
  obtain ⟨x_1, hx_1, hF_2⟩ := bS hF_1
  refine Y18 f p0 (tree_Check_ok n _ hG _ d0 (TG0.shutx (x := d0) h_1 h_2) x_1 hx_1) fun w_1 p_1 _ f => Y f 3 fun _ f => eT (wp_ret (E_ret1 f rfl (by kernel_rfl : Vc.look _ 2 = some (.bool (decide (x_1 = 0)))) ?_))
  obtain rfl := sI hF_2
  exact ⟨_, rfl, M1, (mR _), p_1, rfl⟩
 ·have k_2 := iff_f dI h_3
  have f := f.st 8 (cB h_3)
  refine Y f 7 fun _ f => eT (wp_ret (E_ret1 f rfl (by kernel_rfl : Vc.look _ 2 = some (.bool false)) ?_))
  obtain rfl := sI hF_3
  exact ⟨_, rfl, M1, (mR _), p0, rfl⟩
def schema_Check_s1 (n : Nat) (d0 : List UInt8) (d1 : List TF0) (s_1 : Int) : Option (Lp Int (Sum Unit Unit)) :=
    bif (decide (s_1 < ((d1.length : Nat) : Int))) then
      ((getI d1 s_1).bind fun x_1 =>
      (schema_Find n d0 x_1.fName).bind fun x_2 =>
      (schema_value n x_1.fV x_2.1.fKind).bind fun x_3 =>
      ((bif x_1.fUnknown then
          (bif (!(decide (x_2.1.fKind = 2))) then
            ((schema_empty n x_1.fV).bind fun x_4 =>
            some ((x_4)))
          else
            some ((false)))
        else
          some ((x_3)) : Option Bool)).bind fun y_1 =>
      bif !x_2.2 then
        (some (.br (.inl ())))
      else
        bif !y_1 then
          (some (.br (.inl ())))
        else
          bif (decide ((0 : Int) < s_1)) then
            (need (inR .i64 (s_1 - 1)) <|
            (getI d1 (s_1 - 1)).bind fun x_5 =>
            bif (Op.bytesLess x_1.fName x_5.fName || x_1.fName == x_5.fName) then
              (some (.br (.inl ())))
            else
              need (inR .i64 (s_1 + 1)) <|
              some (.nx (s_1 + 1)))
          else
            need (inR .i64 (s_1 + 1)) <|
            some (.nx (s_1 + 1)))
    else
      some (.br (.inr ()))
def schema_Check (n : Nat) (d0 : List UInt8) (d1 : List TF0) : Option Int :=
  bif (!(kindIn d0)) then
    (some ((90 : Int)))
  else
    (loopF (schema_Check_s1 n d0 d1) n (0 : Int)).bind fun b_6 =>
    (match b_6 with 
    | .inl y_2 => some ((91 : Int)) 
    | .inr y_3 => some ((0 : Int)))
set_option maxRecDepth 20000 in
theorem schema_Check_ok (n : Nat) (M : Mem) (hG : GL M) (d0 : List UInt8) (A1 : Option Addr) (cap1 : Nat) (d1 : List TF0) (h1 : Sli M 8 emb_TF0 A1 cap1 d1) (r : Int) (hF : schema_Check n d0 d1 = some r) : Ok Tryz.prog M 46 [S d0, .slice A1 d1.length cap1] (fun _ v => v = .int .i64 r) := by
 unfold schema_Check at hF
 intro M1 hM0 w0 H w p0
 replace hG := GL.mono hM0 hG
 replace h1 := h1.mono hM0
 refine R_enter 69 Tryz.func46 rfl rfl (by simp) fun a0 f0 => RR (Y f0 1 fun _ f => eT (R_seq (RR (Y16 f p0 (all_ok _) fun _ M_1 w_1 hM_1 p_1 q_1 _ f => ?_))))
 obtain ⟨b_1, b_2, b_3, b_4, b_5, rfl, hA_1⟩ := q_1
 refine Y f 1 fun _ f => Z (v := .tuple #[.map (blkOf b_2 b_3 b_4 b_5 d0), .bool (kindIn d0)]) f (X_all2 (k := d0) (kt := 9) (et := 108) hA_1 p_1 rfl (by kernel_rfl) (by kernel_rfl) (by kernel_rfl) (strKey (by kernel_rfl)) (by kernel_rfl)) fun _ f => Y f 5 fun _ f => eT (RR (Y f 2 fun _ f => eT (RcF f hF (fun h_1 hF_1 => ?_) fun h_1 hF_2 => ?_)))
 ·have k_1 : (kindIn d0) = false := by simpa using h_1
  refine RR (Y f 1 fun _ f => eT (wp_ret (T_r (E_ret1 f rfl (by kernel_rfl : Vc.look _ 4 = some (.int .i64 90)) ?_))))
  obtain rfl := sI hF_1
  exact ⟨_, rfl, M_1, hM_1, p_1, rfl⟩
 ·have k_2 : (kindIn d0) = true := by simpa using h_1
  refine wp_skip (T_n (R_seq (RR (Y f 3 fun _ f => eT (wp_block ?_)))))
  obtain ⟨b_6, hL_1, hF_3⟩ := bS hF_2
  refine wp_mono (Q := fun e a w => (e = .ret ∧ (∃ y_2 : Unit, b_6 = .inl y_2 ∧ ∃ M_6 : Mem, M_1.le M_6 ∧ Frm 69 [(4, .int .i64 91)] a ∧ Hp w0 M_6 (H) w)) ∨ (e = .exit 0 ∧ (∃ y_3 : Unit, b_6 = .inr y_3 ∧ ∃ M_7 : Mem, M_1.le M_7 ∧ Frm 69 [] a ∧ Hp w0 M_7 (H) w))) (R_loop (n := 69) (w0 := w0) (M := M_1) (fun (x : Nat × Int) => match x with | (m_1, s_1) => [(0, S d0), (1, .slice A1 d1.length cap1), (20, .slice A1 d1.length cap1), (21, .int .i64 ((d1.length : Nat) : Int)), (22, .int .i64 s_1)]) (fun (x : Nat × Int) => match x with | (m_1, s_1) => (H)) (fun (x : Nat × Int) (MM : Mem) => match x with | (m_1, s_1) => loopF (schema_Check_s1 n d0 d1) m_1 s_1 = some b_6) (fun (x : Nat × Int) => match x with | (m_1, s_1) => m_1) (n, (0 : Int)) (f.kp) p_1 hL_1 ?_) ?_
  ·rintro ⟨m_1, s_1⟩ M_2 _ w_2 hM_2 I_1 f p_2
   have I_1L := I_1
   obtain ⟨m_2, r_1, rfl, hs_1, hn_1⟩ := loop_step I_1L
   unfold schema_Check_s1 at hs_1
   refine RR (Y f 1 fun _ f => eT (R_seq (RcF f hs_1 (fun h_2 hF_4 => ?_) fun h_2 hF_26 => ?_)))
   ·have k_3 := dI.1 h_2
    refine wp_skip (T_n (R_seq (wp_block (RR (Y f 1 fun _ f => ?_)))))
    obtain ⟨x_1, hx_1, hF_5⟩ := bS hF_4
    obtain ⟨ad_1, c_1, e_1, -, hr_1, hc_1⟩ := Sli.at_ (h1.mono (hM_1.trans hM_2)) hx_1
    obtain ⟨A_1, cap_1, A_2, cap_2, rfl, h_3, h_4⟩ := TF0.opn hr_1
    refine Z f (Y33 e_1 rfl (len := d1.length) (cap := cap1) (k := .i64) (i := s_1) (e := 73) (sz := 8) (getI_nn hx_1) (getI_lt hx_1)) fun _ f => Z (v := .agg #[S x_1.fName, .bool x_1.fUnknown, .int .i8 x_1.fV.fKind, .bool x_1.fV.fBool, .int .i64 x_1.fV.fNum, S x_1.fV.fText, .slice A_1 x_1.fV.fList.length cap_1, .slice A_2 x_1.fV.fKeys.length cap_2]) f (Y35 (cs := [S x_1.fName, .bool x_1.fUnknown, .int .i8 x_1.fV.fKind, .bool x_1.fV.fBool, .int .i64 x_1.fV.fNum, S x_1.fV.fText, .slice A_1 x_1.fV.fList.length cap_1, .slice A_2 x_1.fV.fKeys.length cap_2]) rfl (ad := ad_1.add (s_1.toNat * 8)) (fun j v h => p_2.cell (hc_1 j v h))) fun _ f => Y12 f p_2 (.cells #[S [], .bool false, .int .i8 0, .bool false, .int .i64 0, S [], .slice none 0 0, .slice none 0 0] 73 (0, 0)) fun b_7 w_3 p_3 _ f => Y f 1 fun _ f => Y28 (vs := [S x_1.fName, .bool x_1.fUnknown, .int .i8 x_1.fV.fKind, .bool x_1.fV.fBool, .int .i64 x_1.fV.fNum, S x_1.fV.fText, .slice A_1 x_1.fV.fList.length cap_1, .slice A_2 x_1.fV.fKeys.length cap_2]) (j := 0) f p_3 rfl rfl (by simp [Value.oneCell', S]) (by simp) (by decide) (cs' := #[S x_1.fName, .bool x_1.fUnknown, .int .i8 x_1.fV.fKind, .bool x_1.fV.fBool, .int .i64 x_1.fV.fNum, S x_1.fV.fText, .slice A_1 x_1.fV.fList.length cap_1, .slice A_2 x_1.fV.fKeys.length cap_2]) (by kernel_rfl) fun w_4 p_4 _ f => eT (RR (Y f 2 fun _ f => Z f (Y34 (v := S x_1.fName) rfl (ad := ⟨b_7, 0, none⟩) (p_4.ownCell 0 rfl 0)) fun _ f => ?_))
    obtain ⟨x_2, hx_2, hF_6⟩ := bS hF_5
    refine Y16 f p_4 (schema_Find_ok n _ (GL.mono (hM_1.trans hM_2) hG) d0 x_1.fName x_2 hx_2) fun _ M_3 w_5 hM_3 p_5 q_2 _ f => ?_
    obtain ⟨c_2, rfl, hr_2⟩ := q_2
    obtain rfl := TH0.opn hr_2
    refine Y f 3 fun _ f => Y12 f p_5 (.cells #[S [], .int .i8 0, .bool false] 113 (0, 0)) fun b_8 w_6 p_6 _ f => Y28 (vs := [S x_2.1.fName, .int .i8 x_2.1.fKind, .bool x_2.1.fReplace]) (j := 0) f p_6 rfl rfl (by simp [Value.oneCell', S]) (by simp) (by decide) (cs' := #[S x_2.1.fName, .int .i8 x_2.1.fKind, .bool x_2.1.fReplace]) (by kernel_rfl) fun w_7 p_7 _ f => Y f 1 fun _ f => eT (RR (Y f 2 fun _ f => Z f (Y34 (v := .int .i8 x_2.1.fKind) rfl (ad := ⟨b_8, 1, none⟩) (p_7.ownCell 0 rfl 1)) fun _ f => ?_))
    have p_8 := p_7.pl [1]
    obtain ⟨M_4, hM_4, p_9, hc_2⟩ := p_8.fzOwn
    obtain ⟨x_3, hx_3, hF_7⟩ := bS hF_6
    refine Y18 f p_9 (schema_value_ok n _ (GL.mono (((hM_1.trans hM_2).trans hM_3).trans hM_4) hG) (⟨b_7, 2, none⟩) [.int .i8 x_1.fV.fKind, .bool x_1.fV.fBool, .int .i64 x_1.fV.fNum, S x_1.fV.fText, .slice A_1 x_1.fV.fList.length cap_1, .slice A_2 x_1.fV.fKeys.length cap_2] x_1.fV (TG0.shutx (x := x_1.fV) (h_3.mono (hM_3.trans hM_4)) (h_4.mono (hM_3.trans hM_4))) (fz_at (hc_2) 2 rfl) x_2.1.fKind x_3 hx_3) fun w_8 p_10 _ f => Y f 1 fun _ f => eT (R_seq (RR (Y f 1 fun _ f => Y15 f p_10 hc_2 1 rfl fun _ f => eT ?_)))
    obtain ⟨j_1, hj_1, hF_8⟩ := bS hF_7
    refine R_mid (fun a_37 w_10 => ∃ y_1 : Bool, j_1 = y_1 ∧ ∃ M_5 : Mem, M_4.le M_5 ∧ Frm 69 [(0, S d0), (1, .slice A1 d1.length cap1), (7, .int .i64 s_1), (8, .pointer (some (⟨b_7, 0, none⟩))), (10, .bool x_2.2), (11, .bool y_1), (20, .slice A1 d1.length cap1), (21, .int .i64 ((d1.length : Nat) : Int)), (22, .int .i64 s_1)] a_37 ∧ Hp w0 M_5 ((Ent.obj b_8 (.cells #[S x_2.1.fName, .int .i8 x_2.1.fKind, .bool x_2.1.fReplace] 113 (0, 0))) :: H) w_10) ?_ ?_
    ·refine RcF f hj_1 (fun h_5 hF_9 => ?_) fun h_5 hF_13 => ?_
     ·refine R_reg (Y f 1 fun _ f => Z f (Y34 (v := .int .i8 x_2.1.fKind) rfl (ad := ⟨b_8, 1, none⟩) (p_10.ownCell 0 rfl 1)) fun _ f => Y f 2 fun _ f => ?_)
      rcases cE hF_9 with ⟨h_6, hF_10⟩ | ⟨h_6, hF_12⟩
      ·have k_5 : ¬ (x_2.1.fKind = 2) := (not_iff dI).1 h_6
       have f := f.st 43 (cB h_6)
       refine Y f 1 fun _ f => ?_
       obtain ⟨x_4, hx_4, hF_11⟩ := bS hF_10
       refine Y18 f p_10 (schema_empty_ok n _ (GL.mono (((hM_1.trans hM_2).trans hM_3).trans hM_4) hG) ((⟨b_7, 0, none⟩ : Addr).add 2) [.int .i8 x_1.fV.fKind, .bool x_1.fV.fBool, .int .i64 x_1.fV.fNum, S x_1.fV.fText, .slice A_1 x_1.fV.fList.length cap_1, .slice A_2 x_1.fV.fKeys.length cap_2] x_1.fV (TG0.shutx (x := x_1.fV) (h_3.mono (hM_3.trans hM_4)) (h_4.mono (hM_3.trans hM_4))) (fz_at (hc_2) 2 rfl) x_4 hx_4) fun w_9 p_11 _ f => Y f 2 fun _ f => eT ?_
       exact ⟨(x_4), (sI hF_11).symm, M_4, (mR _), f.kp, p_11⟩
      ·have k_6 : ¬ (¬ (x_2.1.fKind = 2)) := iff_f (not_iff dI) h_6
       have f := f.st 43 (cB h_6)
       refine Y f 4 fun _ f => eT ?_
       exact ⟨(false), (sI hF_12).symm, M_4, (mR _), f.kp, p_10⟩
     ·refine wp_skip (T_n ?_)
      exact ⟨(x_3), (sI hF_13).symm, M_4, (mR _), f.kp, p_10⟩
    ·rintro a_37 w_10 ⟨y_1, hq_1, M_5, hM_5, f, p_12⟩
     subst j_1
     refine T_n (R_seq (R_draw p_12 (by kernel_rfl) (by kernel_rfl) (Y5 default f 3 fun _ f => ?_)))
     rcases cE hF_8 with ⟨h_7, hF_14⟩ | ⟨h_7, hF_15⟩
     ·have k_8 : (x_2.2) = false := by simpa using h_7
      have f := f.st 49 (cB h_7)
      refine Y5 default f 18 fun _ f => Q_end rfl ?_
      intro w_11 p_13
      refine T_n (Y8 f (RR (Y f 1 fun _ f => eT (wp_ret (B_r (T_r (T_r ?_)))))))
      obtain rfl := sI hF_14
      exact .inl ⟨rfl, (), (sI hn_1).symm, M_5, (((hM_2.trans hM_3).trans hM_4).trans hM_5), f.kp, (p_13.dropN 1)⟩
     ·have k_9 : (x_2.2) = true := by simpa using h_7
      have f := f.st 49 (cB h_7)
      refine Y5 default f 4 fun _ f => ?_
      rcases cE hF_15 with ⟨h_8, hF_16⟩ | ⟨h_8, hF_17⟩
      ·have k_10 : (y_1) = false := by simpa using h_8
       have f := f.st 53 (cB h_8)
       refine Y5 default f 14 fun _ f => Q_end rfl ?_
       intro w_12 p_14
       refine T_n (Y8 f (RR (Y f 1 fun _ f => eT (wp_ret (B_r (T_r (T_r ?_)))))))
       obtain rfl := sI hF_16
       exact .inl ⟨rfl, (), (sI hn_1).symm, M_5, (((hM_2.trans hM_3).trans hM_4).trans hM_5), f.kp, (p_14.dropN 1)⟩
      ·have k_11 : (y_1) = true := by simpa using h_8
       have f := f.st 53 (cB h_8)
       refine Y5 default f 3 fun _ f => ?_
       rcases cE hF_17 with ⟨h_9, hF_18⟩ | ⟨h_9, hF_24⟩
       ·have k_12 := dI.1 h_9
        have f := f.st 56 (cB h_9)
        refine Y5 default f 1 fun _ f => Y4 f (fzu hM_5 hc_2) 0 rfl fun _ f => Y5 default f 2 fun _ f => ?_
        obtain ⟨g_1, hF_19⟩ := nS hF_18
        refine Y2 (v := .int .i64 (IntKind.wrap .i64 (s_1 - 1))) f (fun _ pq => by kernel_rfl) fun _ f => ?_
        have f := f.st 61 (congrArg (Value.int .i64) (inR_wrap g_1))
        obtain ⟨x_5, hx_5, hF_20⟩ := bS hF_19
        obtain ⟨ad_2, c_3, e_2, -, hr_3, hc_3⟩ := Sli.at_ (h1.mono ((((hM_1.trans hM_2).trans hM_3).trans hM_4).trans hM_5)) hx_5
        obtain ⟨A_3, cap_3, A_4, cap_4, rfl, h_10, h_11⟩ := TF0.opn hr_3
        refine Y2 (v := .pointer (some (ad_2.add ((s_1 - 1).toNat * 8)))) f (fun _ pq => Y33 e_2 rfl (len := d1.length) (cap := cap1) (k := .i64) (i := s_1 - 1) (e := 73) (sz := 8) (getI_nn hx_5) (getI_lt hx_5)) fun _ f => Y5 default f 1 fun _ f => Y4 f hc_3 0 rfl fun _ f => Y2 (v := .bool (Op.bytesLess x_1.fName x_5.fName || x_1.fName == x_5.fName)) f (fun _ pq => X_strle rfl (l := x_1.fName) (m := x_5.fName) (by kernel_rfl) (by kernel_rfl)) fun _ f => Y5 default f 2 fun _ f => Q_end rfl ?_
        intro w_13 p_15
        refine T_n (RcF f hF_20 (fun h_12 hF_21 => ?_) fun h_12 hF_22 => ?_)
        ·refine RR (Y f 1 fun _ f => eT (wp_ret (B_r (T_r (T_r ?_)))))
         obtain rfl := sI hF_21
         exact .inl ⟨rfl, (), (sI hn_1).symm, M_5, (((hM_2.trans hM_3).trans hM_4).trans hM_5), f.kp, (p_15.dropN 1)⟩
        ·refine wp_skip (B_n (T_n (R_reg ?_)))
         obtain ⟨g_2, hF_23⟩ := nS hF_22
         refine Y f 1 fun _ f => ?_
         have f := f.st 68 (congrArg (Value.int .i64) (inR_wrap g_2))
         refine Y f 1 fun _ f => eT ?_
         obtain rfl := sI hF_23
         exact ⟨⟨m_2, s_1 + 1⟩, Nat.lt_succ_self _, M_5, (((hM_2.trans hM_3).trans hM_4).trans hM_5), hn_1, f.kp, (p_15.dropN 1)⟩
       ·have k_15 := iff_f dI h_9
        have f := f.st 56 (cB h_9)
        refine Y5 default f 11 fun _ f => Q_end rfl ?_
        intro w_14 p_16
        refine T_n (Y7 f (wp_skip (B_n (T_n (R_reg ?_)))))
        obtain ⟨g_3, hF_25⟩ := nS hF_24
        refine Y f 1 fun _ f => ?_
        have f := f.st 68 (congrArg (Value.int .i64) (inR_wrap g_3))
        refine Y f 1 fun _ f => eT ?_
        obtain rfl := sI hF_25
        exact ⟨⟨m_2, s_1 + 1⟩, Nat.lt_succ_self _, M_5, (((hM_2.trans hM_3).trans hM_4).trans hM_5), hn_1, f.kp, (p_16.dropN 1)⟩
   ·have k_16 := iff_f dI h_2
    refine wp_exit (T_x (T_x ?_))
    obtain rfl := sI hF_26
    exact .inr ⟨rfl, (), (sI hn_1).symm, M_2, hM_2, f.kp, p_2⟩
  ·rintro _ _ w_17 (⟨rfl, y_2, rfl, M_6, hM_6, f, p_17⟩ | ⟨rfl, y_3, rfl, M_7, hM_7, f, p_18⟩)
   ·refine B_r (T_r (E_ret1 f rfl (by kernel_rfl : Vc.look _ 4 = some (.int .i64 91)) ?_))
    obtain rfl := sI hF_3
    exact ⟨_, rfl, M_6, (hM_1.trans hM_6), p_17, rfl⟩
   ·refine B_x (T_n (RR (Y f 1 fun _ f => eT (wp_ret (E_ret1 f rfl (by kernel_rfl : Vc.look _ 4 = some (.int .i64 0)) ?_)))))
    obtain rfl := sI hF_3
    exact ⟨_, rfl, M_7, (hM_1.trans hM_7), p_18, rfl⟩
theorem index_any {n : Nat} {α : Type} (d : α) (q : α → Bool) (xs : List α) {step : Int → Option (Lp Int (Sum Int Unit))} (hd : ∀ k : Nat, k < xs.length → step (k : Int) = some (if q (xs.getD k d) then .br (.inl (k : Int)) else .nx ((k : Int) + 1))) (he : step ((xs.length : Nat) : Int) = some (.br (.inr ()))) (hn : xs.length < n) :
  ∃ b, loopF step n 0 = some b ∧ (match b with | .inl i => 0 ≤ i ∧ xs.any q = true | .inr () => xs.any q = false) := by
 refine loop_inv (fun k s => s = (k : Int) ∧ ∀ x ∈ xs.take k, q x = false) _ xs.length ⟨rfl, by simp⟩ (fun k s hk hI => ?_) (fun s hI => ?_) hn
 ·obtain ⟨rfl, hf⟩ := hI
  have hx : xs[k]? = some xs[k] := List.getElem?_eq_getElem hk
  have hg : xs.getD k d = xs[k] := by simp [List.getD, hk]
  rw [hd k hk, hg]
  cases hv : q xs[k] with
  | false =>
   refine .inl ⟨_, rfl, by omega, fun y hy => ?_⟩
   rcases (mem_take_succ hx y).1 hy with h | h
   ·exact hf y h
   ·rw [h]; exact hv
  | true => exact .inr ⟨_, rfl, by omega, List.any_eq_true.2 ⟨_, List.getElem_mem hk, hv⟩⟩
 ·obtain ⟨rfl, hf⟩ := hI
  rw [List.take_length] at hf
  refine ⟨_, he, ?_⟩
  dsimp only
  rw [List.any_eq_false]
  intro x hx
  simp [hf x hx]
def wordV (t : List UInt8) : Bool := bif decide ((t.length : Int) ≤ 64) then Lib.validD t else false
theorem word_run {n : Nat} {t : List UInt8} : print_Word n t = some (wordV t) := by
 unfold print_Word wordV
 by_cases h : (t.length : Int) ≤ 64
 ·rw [decide_eq_true h, cT, cT, valid_run (by omega), bnd]
 ·rw [decide_eq_false h, cF, cF]
def fitV (v : TG0) (k : Int) : Bool := bif !decide (v.fKind = k) then false else decide (checkV v = 0)
def wordy (v : TG0) : Bool := bif fitV v 3 then wordV v.fText else false
def valueV (v : TG0) (k : Int) : Bool := bif fitV v k then (bif decide (k = 3) then wordV v.fText else bif decide (k = 4) then (bif decide (((v.fList.length : Nat) : Int) ≤ 8) then !(v.fList.any fun x => !wordy x) else false) else true) else false
theorem contains_vals {n : Nat} (hn : 6000 < n) {rc : TG0 → Int → Option Bool} {l : List TG0} (hl : l.length ≤ 8) (h : ∀ x ∈ l, rc x 3 = some (wordy x)) : slices_ContainsFuncapi_Value_api_Value_2 n rc l = some (l.any fun x => !wordy x) := by
 unfold slices_ContainsFuncapi_Value_api_Value_2 slices_IndexFuncapi_Value_api_Value_2
 obtain ⟨b, hb, hp⟩ := index_any (n := n) z_TG0 (fun x => !wordy x) l (step := slices_IndexFuncapi_Value_api_Value_2_s1 n rc l) (fun k hk => by
  unfold slices_IndexFuncapi_Value_api_Value_2_s1 schema_value_1_2
  have hm : l.getD k z_TG0 ∈ l := by simp [List.getD, hk]
  rw [decide_eq_true (by omega), cT, getI_at z_TG0 hk, bnd, h _ hm, bnd, bnd]
  cases wordy (l.getD k z_TG0) with
  | true => rw [Bool.not_true, cF, need_i (by omega) (by omega)]; rfl
  | false => rw [Bool.not_false, cT]; rfl) (by
  unfold slices_IndexFuncapi_Value_api_Value_2_s1
  rw [decide_eq_false (by omega), cF]) (by omega)
 rw [hb, bnd]
 cases b with
 | inl i =>
  obtain ⟨h0, h1⟩ := hp
  dsimp only
  rw [bnd, h1, decide_eq_true h0]
 | inr u =>
  have h1 : l.any (fun x => !wordy x) = false := hp
  dsimp only
  rw [bnd, h1]
  rfl
theorem value_b_run {n : Nat} (hn : 6000 < n) {v : TG0} (h : Fine v) (k : Int) {rc : TG0 → Int → Option Bool} (hrec : k = 4 → ∀ x ∈ v.fList, rc x 3 = some (wordy x)) : schema_value_b n rc v k = some (valueV v k) := by
 unfold schema_value_b valueV fitV
 by_cases hk : v.fKind = k
 ·rw [decide_eq_true hk, Bool.not_true, cF, cF, check_run hn h, bnd, bnd]
  by_cases hc : checkV v = 0
  ·rw [decide_eq_true hc, Bool.not_true, cF, cT]
   by_cases h3 : k = 3
   ·rw [decide_eq_true h3, cT, cT, word_run, bnd]
   ·rw [decide_eq_false h3, cF, cF]
    by_cases h4 : k = 4
    ·rw [decide_eq_true h4, cT, cT]
     by_cases h8 : ((v.fList.length : Nat) : Int) ≤ 8
     ·rw [decide_eq_true h8, cT, cT, contains_vals hn (by omega) (hrec h4), bnd]
     ·rw [decide_eq_false h8, cF, cF]
    ·rw [decide_eq_false h4, cF, cF]
  ·rw [decide_eq_false hc, Bool.not_false, cT, cF]
 ·rw [decide_eq_false hk, Bool.not_false, cT, cT, bnd, cT, cF]
theorem value_run {n : Nat} (hn : 6000 < n) {v : TG0} (h : Fine v) (k : Int) : schema_value n v k = some (valueV v k) := by
 unfold schema_value
 obtain ⟨m, rfl⟩ : ∃ m, n = m + 2 := ⟨n - 2, by omega⟩
 refine value_b_run hn h k fun _ x hx => ?_
 exact value_b_run hn (h.part hx) 3 (fun e => absurd e (by decide))
def emptyV (v : TG0) : Bool := bif decide (v.fKind = 0) then decide (checkV v = 0) else false
theorem empty_run {n : Nat} (hn : 6000 < n) {v : TG0} (h : Fine v) : schema_empty n v = some (emptyV v) := by
 unfold schema_empty emptyV
 by_cases hk : v.fKind = 0
 ·rw [decide_eq_true hk, cT, cT, check_run hn h, bnd]
 ·rw [decide_eq_false hk, cF, cF]
def specOf (kind prop : List UInt8) : TH0 := (specAt kind prop).getD z_TH0
def fitG (kind : List UInt8) (g : TF0) : Bool := bif g.fUnknown then (bif !decide ((specOf kind g.fName).fKind = 2) then emptyV g.fV else false) else valueV g.fV (specOf kind g.fName).fKind
def okG (kind : List UInt8) (g : TF0) : Bool := (specAt kind g.fName).isSome && fitG kind g
def upG (gs : List TF0) (k : Nat) : Bool := decide (k = 0) || Op.bytesLess (gs.getD (k - 1) z_TF0).fName (gs.getD k z_TF0).fName
theorem cb_flip (a b : List UInt8) : (Lib.compareBytes a b < 0 ∨ a = b) ↔ ¬ Lib.compareBytes b a < 0 := by
 have h := cb_anti a b
 constructor
 ·rintro (h1 | rfl)
  ·omega
  ·rw [cb_self]; omega
 ·intro h1
  by_cases e : Lib.compareBytes a b = 0
  ·exact .inr (cb_eq _ _ e)
  ·exact .inl (by omega)
theorem less_flip (a b : List UInt8) : (Op.bytesLess a b || a == b) = !Op.bytesLess b a := by
 have h1 := less_cb a b
 have h2 := less_cb b a
 rw [h1, h2]
 rw [Bool.eq_iff_iff]
 simp only [Bool.or_eq_true, decide_eq_true_eq, beq_iff_eq, Bool.not_eq_true', decide_eq_false_iff_not]
 exact cb_flip a b
def checkG (kind : List UInt8) (gs : List TF0) : Int := bif !kindIn kind then 90 else bif (List.range gs.length).any (fun k => !(okG kind (gs.getD k z_TF0) && upG gs k)) then 91 else 0
theorem schemaCheck_run {n : Nat} (hn : 6000 < n) (kind : List UInt8) {gs : List TF0} (hl : gs.length ≤ 60) (hf : ∀ g ∈ gs, Fine g.fV) : schema_Check n kind gs = some (checkG kind gs) := by
 unfold schema_Check checkG
 cases hk : kindIn kind with
 | false => rw [Bool.not_false, cT, cT]
 | true =>
  rw [Bool.not_true, cF, cF]
  have hlp := loop_any (n := n) (step := schema_Check_s1 n kind gs) (fun k => !(okG kind (gs.getD k z_TF0) && upG gs k)) gs.length (.inl ()) (.inr ()) (fun k hk => by
   unfold schema_Check_s1 schema_Find
   have hm : gs.getD k z_TF0 ∈ gs := by simp [List.getD, hk]
   rw [decide_eq_true (by omega), cT, getI_at z_TF0 hk, bnd, bnd, value_run hn (hf _ hm), bnd]
   have e : (bif (gs.getD k z_TF0).fUnknown then (bif !decide ((specOf kind (gs.getD k z_TF0).fName).fKind = 2) then (schema_empty n (gs.getD k z_TF0).fV).bind fun x => some x else some false) else some (valueV (gs.getD k z_TF0).fV (specOf kind (gs.getD k z_TF0).fName).fKind) : Option Bool) = some (fitG kind (gs.getD k z_TF0)) := by
    unfold fitG
    cases (gs.getD k z_TF0).fUnknown with
    | false => rw [cF, cF]
    | true =>
     rw [cT, cT]
     cases decide ((specOf kind (gs.getD k z_TF0).fName).fKind = 2) with
     | true => rw [Bool.not_true, cF, cF]
     | false => rw [Bool.not_false, cT, cT, empty_run hn (hf _ hm), bnd]
   unfold specOf at e
   dsimp only
   rw [e, bnd]
   unfold okG
   cases (specAt kind (gs.getD k z_TF0).fName).isSome with
   | false => rw [Bool.not_false, cT]; rfl
   | true =>
    rw [Bool.not_true, cF]
    cases fitG kind (gs.getD k z_TF0) with
    | false => rw [Bool.not_false, cT]; rfl
    | true =>
     rw [Bool.not_true, cF]
     unfold upG
     by_cases h0 : k = 0
     ·subst h0
      rw [decide_eq_false (by decide), cF, need_i (by omega) (by omega)]
      rfl
     ·have hk1 : k - 1 < gs.length := by omega
      have e1 : (k : Int) - 1 = ((k - 1 : Nat) : Int) := by omega
      rw [decide_eq_true (by omega : (0 : Int) < (k : Int)), cT, need_i (by omega) (by omega), e1, getI_at z_TF0 hk1, bnd, less_flip, decide_eq_false h0]
      cases Op.bytesLess (gs.getD (k - 1) z_TF0).fName (gs.getD k z_TF0).fName with
      | true => rw [Bool.not_true, cF, need_i (by omega) (by omega)]; rfl
      | false => rw [Bool.not_false, cT]; rfl) (by
   unfold schema_Check_s1
   rw [decide_eq_false (by omega), cF]) (by omega)
  rw [hlp, bnd]
  cases (List.range gs.length).any (fun k => !(okG kind (gs.getD k z_TF0) && upG gs k)) with
  | true => rw [cT, cT]
  | false => rw [cF, cF]
theorem great9 {n : Nat} (hn : 6000 < n) (gs : List TF0) : ∃ g, ref09_Great n gs = some g ∧ (g = false → gs.length ≤ 60 ∧ ∀ x ∈ gs, x.fName.length ≤ 200 ∧ Fine x.fV) := by
 unfold ref09_Great
 by_cases hl : (60 : Int) < ((gs.length : Nat) : Int)
 ·exact ⟨true, by rw [decide_eq_true hl, cT], fun h => by cases h⟩
 rw [decide_eq_false hl, cF]
 obtain ⟨b, hb, hp⟩ := loop_inv (step := ref09_Great_s1 n gs) (n := n) (s0 := (0 : Int)) (fun k s => s = (k : Int) ∧ ∀ x ∈ gs.take k, x.fName.length ≤ 200 ∧ Fine x.fV)
  (fun b => match b with | .inl _ => True | .inr _ => ∀ x ∈ gs, x.fName.length ≤ 200 ∧ Fine x.fV) gs.length ⟨rfl, by simp⟩
  (fun k s hk hI => by
   obtain ⟨rfl, hf⟩ := hI
   have hx : gs[k]? = some gs[k] := List.getElem?_eq_getElem hk
   have hg : gs.getD k z_TF0 = gs[k] := by simp [List.getD, hk]
   unfold ref09_Great_s1
   rw [decide_eq_true (by omega), cT, getI_at z_TF0 hk, bnd, hg]
   by_cases h2 : (200 : Int) < (gs[k].fName.length : Int)
   ·exact .inr ⟨_, by rw [decide_eq_true h2, cT], trivial⟩
   obtain ⟨g, hg1, hg2⟩ := great_fine hn gs[k].fV
   rw [decide_eq_false h2, cF, bnd]
   have ex : (⟨gs[k].fV.fKind, (gs[k].fV.fBool), gs[k].fV.fNum, gs[k].fV.fText, gs[k].fV.fList, gs[k].fV.fKeys⟩ : TG0) = gs[k].fV := by cases gs[k].fV; rfl
   rw [ex, hg1, bnd]
   cases g with
   | true => exact .inr ⟨_, cT _ _, trivial⟩
   | false =>
    rw [cF, need_i (by omega) (by omega)]
    refine .inl ⟨_, rfl, by omega, fun y hy => ?_⟩
    rcases (mem_take_succ hx y).1 hy with h | h
    ·exact hf y h
    ·rw [h]; exact ⟨by omega, (hg2 rfl).1⟩)
  (fun s hI => by
   obtain ⟨rfl, hf⟩ := hI
   rw [List.take_length] at hf
   unfold ref09_Great_s1
   rw [decide_eq_false (by omega), cF]
   exact ⟨_, rfl, hf⟩) (by omega)
 rw [hb, bnd]
 cases b with
 | inl u => exact ⟨true, rfl, fun h => by cases h⟩
 | inr u => exact ⟨false, rfl, fun _ => ⟨by omega, hp⟩⟩
def cmp_Or_2_s1 (n : Nat) (d0 : List Int) (s_1 : Int) : Option (Lp Int (Sum Int Unit)) :=
    bif (decide (s_1 < ((d0.length : Nat) : Int))) then
      ((getI d0 s_1).bind fun x_1 =>
      bif (!(decide (x_1 = 0))) then
        (some (.br (.inl x_1)))
      else
        need (inR .i64 (s_1 + 1)) <|
        some (.nx (s_1 + 1)))
    else
      some (.br (.inr ()))
def cmp_Or_2 (n : Nat) (d0 : List Int) : Option Int :=
  (loopF (cmp_Or_2_s1 n d0) n (0 : Int)).bind fun b_1 =>
  (match b_1 with 
  | .inl y_1 => some (y_1) 
  | .inr y_2 => some ((0 : Int)))
theorem cmp_Or_2_ok (n : Nat) (M : Mem) (hG : GL M) (A0 : Option Addr) (cap0 : Nat) (d0 : List Int) (h0 : Sli M 1 (Dat.int .i64) A0 cap0 d0) (r : Int) (hF : cmp_Or_2 n d0 = some r) : Ok Tryz.prog M 88 [.slice A0 d0.length cap0] (fun _ v => v = .int .i64 r) := by
 unfold cmp_Or_2 at hF
 intro M1 hM0 w0 H w p0
 replace hG := GL.mono hM0 hG
 replace h0 := h0.mono hM0
 refine R_enter 18 Tryz.func88 rfl rfl (by simp) fun a0 f0 => RR (Y f0 1 fun _ f => eT (RR (Y f 1 fun _ f => eT (R_seq (RR (Y f 3 fun _ f => eT (wp_block ?_)))))))
 obtain ⟨b_1, hL_1, hF_1⟩ := bS hF
 refine wp_mono (Q := fun e a w => (e = .ret ∧ (∃ y_1 : Int, b_1 = .inl y_1 ∧ ∃ M_2 : Mem, M1.le M_2 ∧ Frm 18 [(2, .int .i64 y_1)] a ∧ Hp w0 M_2 (H) w)) ∨ (e = .exit 0 ∧ (∃ y_2 : Unit, b_1 = .inr y_2 ∧ ∃ M_3 : Mem, M1.le M_3 ∧ Frm 18 [(3, .int .i64 0)] a ∧ Hp w0 M_3 (H) w))) (R_loop (n := 18) (w0 := w0) (M := M1) (fun (x : Nat × Int) => match x with | (m_1, s_1) => [(3, .int .i64 0), (6, .slice A0 d0.length cap0), (7, .int .i64 ((d0.length : Nat) : Int)), (8, .int .i64 s_1)]) (fun (x : Nat × Int) => match x with | (m_1, s_1) => (H)) (fun (x : Nat × Int) (MM : Mem) => match x with | (m_1, s_1) => loopF (cmp_Or_2_s1 n d0) m_1 s_1 = some b_1) (fun (x : Nat × Int) => match x with | (m_1, s_1) => m_1) (n, (0 : Int)) (f.kp) p0 hL_1 ?_) ?_
 ·rintro ⟨m_1, s_1⟩ M_1 _ w_1 hM_1 I_1 f p_1
  have I_1L := I_1
  obtain ⟨m_2, r_1, rfl, hs_1, hn_1⟩ := loop_step I_1L
  unfold cmp_Or_2_s1 at hs_1
  refine RR (Y f 1 fun _ f => eT (R_seq (RcF f hs_1 (fun h_1 hF_2 => ?_) fun h_1 hF_7 => ?_)))
  ·have k_1 := dI.1 h_1
   refine wp_skip (T_n (R_seq (wp_block (RR ?_))))
   obtain ⟨x_1, hx_1, hF_3⟩ := bS hF_2
   obtain ⟨ad_1, c_1, e_1, -, hr_1, hc_1⟩ := Sli.at_ (h0.mono hM_1) hx_1
   obtain rfl : c_1 = [.int .i64 x_1] := hr_1
   refine Z f (Y33 e_1 rfl (len := d0.length) (cap := cap0) (k := .i64) (i := s_1) (e := 34) (sz := 1) (getI_nn hx_1) (getI_lt hx_1)) fun _ f => Y15 f p_1 hc_1 0 rfl fun _ f => Y f 1 fun _ f => eT (RR (Y f 3 fun _ f => eT (RcF f hF_3 (fun h_2 hF_4 => ?_) fun h_2 hF_5 => ?_)))
   ·have k_2 : ¬ (x_1 = 0) := (not_iff dI).1 h_2
    refine RR (Y f 2 fun _ f => eT (wp_ret (B_r (T_r (T_r ?_)))))
    obtain rfl := sI hF_4
    exact .inl ⟨rfl, x_1, (sI hn_1).symm, M_1, hM_1, f.kp, p_1⟩
   ·have k_3 : ¬ (¬ (x_1 = 0)) := iff_f (not_iff dI) h_2
    refine wp_skip (B_n (T_n (R_reg ?_)))
    obtain ⟨g_1, hF_6⟩ := nS hF_5
    refine Y f 1 fun _ f => ?_
    have f := f.st 16 (congrArg (Value.int .i64) (inR_wrap g_1))
    refine Y f 1 fun _ f => eT ?_
    obtain rfl := sI hF_6
    exact ⟨⟨m_2, s_1 + 1⟩, Nat.lt_succ_self _, M_1, hM_1, hn_1, f.kp, p_1⟩
  ·have k_4 := iff_f dI h_1
   refine wp_exit (T_x (T_x ?_))
   obtain rfl := sI hF_7
   exact .inr ⟨rfl, (), (sI hn_1).symm, M_1, hM_1, f.kp, p_1⟩
 ·rintro _ _ w_4 (⟨rfl, y_1, rfl, M_2, hM_2, f, p_2⟩ | ⟨rfl, y_2, rfl, M_3, hM_3, f, p_3⟩)
  ·refine B_r (T_r (E_ret1 f rfl (by kernel_rfl : Vc.look _ 2 = some (.int .i64 y_1)) ?_))
   obtain rfl := sI hF_1
   exact ⟨_, rfl, M_2, hM_2, p_2, rfl⟩
  ·refine B_x (T_n (RR (Y f 2 fun _ f => eT (wp_ret (E_ret1 f rfl (by kernel_rfl : Vc.look _ 2 = some (.int .i64 0)) ?_)))))
   obtain rfl := sI hF_1
   exact ⟨_, rfl, M_3, hM_3, p_3, rfl⟩
def schema_Differ_1 (n : Nat) (d0 : TF0) : Option Bool :=
  some ((d0.fUnknown))
theorem schema_Differ_1_ok (n : Nat) (M : Mem) (hG : GL M) (c0 : List Value) (d0 : TF0) (h0 : Rep M (emb_TF0 d0) c0) (r : Bool) (hF : schema_Differ_1 n d0 = some r) : Ok Tryz.prog M 89 [.agg c0.toArray] (fun _ v => v = .bool r) := by
 unfold schema_Differ_1 at hF
 intro M1 hM0 w0 H w p0
 replace hG := GL.mono hM0 hG
 replace h0 := Rep.mono hM0 _ _ h0
 obtain ⟨A_1, cap_1, A_2, cap_2, rfl, h_1, h_2⟩ := TF0.opn h0
 refine R_enter 5 Tryz.func89 rfl rfl (by simp) fun a0 f0 => RR (Y13 (cs := #[S d0.fName, .bool d0.fUnknown, .int .i8 d0.fV.fKind, .bool d0.fV.fBool, .int .i64 d0.fV.fNum, S d0.fV.fText, .slice A_1 d0.fV.fList.length cap_1, .slice A_2 d0.fV.fKeys.length cap_2]) (T := 73) f0 p0 fun b_1 M_1 w_1 hM_1 hc_1 p_1 _ f => ?_)
 have hc_2 := fz_box hc_1
 refine Y f 1 fun _ f => eT (RR (Y f 1 fun _ f => Y15 f p_1 hc_2 1 rfl fun _ f => Y f 1 fun _ f => eT (wp_ret (E_ret1 f rfl (by kernel_rfl : Vc.look _ 2 = some (.bool d0.fUnknown)) ?_))))
 obtain rfl := sI hF
 exact ⟨_, rfl, M_1, hM_1, p_1, rfl⟩
def slices_IndexFuncapi_Given_api_Given_s1 (n : Nat) (d0 : List TF0) (s_1 : Int) : Option (Lp Int (Sum Int Unit)) :=
    bif (decide (s_1 < ((d0.length : Nat) : Int))) then
      ((getI d0 s_1).bind fun x_1 =>
      (schema_Differ_1 n x_1).bind fun x_2 =>
      bif x_2 then
        (some (.br (.inl s_1)))
      else
        need (inR .i64 (s_1 + 1)) <|
        some (.nx (s_1 + 1)))
    else
      some (.br (.inr ()))
def slices_IndexFuncapi_Given_api_Given (n : Nat) (d0 : List TF0) : Option Int :=
  (loopF (slices_IndexFuncapi_Given_api_Given_s1 n d0) n (0 : Int)).bind fun b_1 =>
  (match b_1 with 
  | .inl y_1 => some (y_1) 
  | .inr y_2 => some ((-1 : Int)))
theorem slices_IndexFuncapi_Given_api_Given_ok (n : Nat) (M : Mem) (hG : GL M) (A0 : Option Addr) (cap0 : Nat) (d0 : List TF0) (h0 : Sli M 8 emb_TF0 A0 cap0 d0) (r : Int) (hF : slices_IndexFuncapi_Given_api_Given n d0 = some r) : Ok Tryz.prog M 59 [.slice A0 d0.length cap0, .func (.func 89) #[] #[]] (fun _ v => v = .int .i64 r) := by
 unfold slices_IndexFuncapi_Given_api_Given at hF
 intro M1 hM0 w0 H w p0
 replace hG := GL.mono hM0 hG
 replace h0 := h0.mono hM0
 refine R_enter 19 Tryz.func59 rfl rfl (by simp) fun a0 f0 => RR (Y f0 1 fun _ f => eT (R_seq (RR (Y f 3 fun _ f => eT (wp_block ?_)))))
 obtain ⟨b_1, hL_1, hF_1⟩ := bS hF
 refine wp_mono (Q := fun e a w => (e = .ret ∧ (∃ y_1 : Int, b_1 = .inl y_1 ∧ ∃ M_2 : Mem, M1.le M_2 ∧ Frm 19 [(4, .int .i64 y_1)] a ∧ Hp w0 M_2 (H) w)) ∨ (e = .exit 0 ∧ (∃ y_2 : Unit, b_1 = .inr y_2 ∧ ∃ M_3 : Mem, M1.le M_3 ∧ Frm 19 [] a ∧ Hp w0 M_3 (H) w))) (R_loop (n := 19) (w0 := w0) (M := M1) (fun (x : Nat × Int) => match x with | (m_1, s_1) => [(0, .slice A0 d0.length cap0), (1, .func (.func 89) #[] #[]), (7, .int .i64 ((d0.length : Nat) : Int)), (8, .int .i64 s_1)]) (fun (x : Nat × Int) => match x with | (m_1, s_1) => (H)) (fun (x : Nat × Int) (MM : Mem) => match x with | (m_1, s_1) => loopF (slices_IndexFuncapi_Given_api_Given_s1 n d0) m_1 s_1 = some b_1) (fun (x : Nat × Int) => match x with | (m_1, s_1) => m_1) (n, (0 : Int)) (f.kp) p0 hL_1 ?_) ?_
 ·rintro ⟨m_1, s_1⟩ M_1 _ w_1 hM_1 I_1 f p_1
  have I_1L := I_1
  obtain ⟨m_2, r_1, rfl, hs_1, hn_1⟩ := loop_step I_1L
  unfold slices_IndexFuncapi_Given_api_Given_s1 at hs_1
  refine RR (Y f 1 fun _ f => eT (R_seq (RcF f hs_1 (fun h_1 hF_2 => ?_) fun h_1 hF_8 => ?_)))
  ·have k_1 := dI.1 h_1
   refine wp_skip (T_n (R_seq (wp_block (RR (Y f 2 fun _ f => eT (RR (Y f 3 fun _ f => ?_)))))))
   obtain ⟨x_1, hx_1, hF_3⟩ := bS hF_2
   obtain ⟨ad_1, c_1, e_1, -, hr_1, hc_1⟩ := Sli.at_ (h0.mono hM_1) hx_1
   obtain ⟨A_1, cap_1, A_2, cap_2, rfl, h_2, h_3⟩ := TF0.opn hr_1
   refine Z f (Y33 e_1 rfl (len := d0.length) (cap := cap0) (k := .i64) (i := s_1) (e := 73) (sz := 8) (getI_nn hx_1) (getI_lt hx_1)) fun _ f => Z (v := .agg #[S x_1.fName, .bool x_1.fUnknown, .int .i8 x_1.fV.fKind, .bool x_1.fV.fBool, .int .i64 x_1.fV.fNum, S x_1.fV.fText, .slice A_1 x_1.fV.fList.length cap_1, .slice A_2 x_1.fV.fKeys.length cap_2]) f (Y35 (cs := [S x_1.fName, .bool x_1.fUnknown, .int .i8 x_1.fV.fKind, .bool x_1.fV.fBool, .int .i64 x_1.fV.fNum, S x_1.fV.fText, .slice A_1 x_1.fV.fList.length cap_1, .slice A_2 x_1.fV.fKeys.length cap_2]) rfl (ad := ad_1.add (s_1.toNat * 8)) (fun j v h => p_1.cell (hc_1 j v h))) fun _ f => ?_
   obtain ⟨x_2, hx_2, hF_4⟩ := bS hF_3
   refine Y18 f p_1 (schema_Differ_1_ok n _ (GL.mono hM_1 hG) _ x_1 (TF0.shutx (x := x_1) h_2 h_3) x_2 hx_2) fun w_2 p_2 _ f => eT (RcF f hF_4 (fun h_4 hF_5 => ?_) fun h_4 hF_6 => ?_)
   ·refine RR (Y f 2 fun _ f => eT (wp_ret (B_r (T_r (T_r ?_)))))
    obtain rfl := sI hF_5
    exact .inl ⟨rfl, s_1, (sI hn_1).symm, M_1, hM_1, f.kp, p_2⟩
   ·refine wp_skip (B_n (T_n (R_reg ?_)))
    obtain ⟨g_1, hF_7⟩ := nS hF_6
    refine Y f 1 fun _ f => ?_
    have f := f.st 18 (congrArg (Value.int .i64) (inR_wrap g_1))
    refine Y f 1 fun _ f => eT ?_
    obtain rfl := sI hF_7
    exact ⟨⟨m_2, s_1 + 1⟩, Nat.lt_succ_self _, M_1, hM_1, hn_1, f.kp, p_2⟩
  ·have k_4 := iff_f dI h_1
   refine wp_exit (T_x (T_x ?_))
   obtain rfl := sI hF_8
   exact .inr ⟨rfl, (), (sI hn_1).symm, M_1, hM_1, f.kp, p_1⟩
 ·rintro _ _ w_5 (⟨rfl, y_1, rfl, M_2, hM_2, f, p_3⟩ | ⟨rfl, y_2, rfl, M_3, hM_3, f, p_4⟩)
  ·refine B_r (T_r (E_ret1 f rfl (by kernel_rfl : Vc.look _ 4 = some (.int .i64 y_1)) ?_))
   obtain rfl := sI hF_1
   exact ⟨_, rfl, M_2, hM_2, p_3, rfl⟩
  ·refine B_x (T_n (RR (Y f 1 fun _ f => eT (wp_ret (E_ret1 f rfl (by kernel_rfl : Vc.look _ 4 = some (.int .i64 (-1))) ?_)))))
   obtain rfl := sI hF_1
   exact ⟨_, rfl, M_3, hM_3, p_4, rfl⟩
def slices_ContainsFuncapi_Given_api_Given (n : Nat) (d0 : List TF0) : Option Bool :=
  (slices_IndexFuncapi_Given_api_Given n d0).bind fun x_1 =>
  some ((decide ((0 : Int) ≤ x_1)))
theorem slices_ContainsFuncapi_Given_api_Given_ok (n : Nat) (M : Mem) (hG : GL M) (A0 : Option Addr) (cap0 : Nat) (d0 : List TF0) (h0 : Sli M 8 emb_TF0 A0 cap0 d0) (r : Bool) (hF : slices_ContainsFuncapi_Given_api_Given n d0 = some r) : Ok Tryz.prog M 44 [.slice A0 d0.length cap0, .func (.func 89) #[] #[]] (fun _ v => v = .bool r) := by
 unfold slices_ContainsFuncapi_Given_api_Given at hF
 intro M1 hM0 w0 H w p0
 replace hG := GL.mono hM0 hG
 replace h0 := h0.mono hM0
 refine R_enter 9 Tryz.func44 rfl rfl (by simp) fun a0 f0 => RR (Y f0 1 fun _ f => eT (RR (Y f 2 fun _ f => ?_)))
 obtain ⟨x_1, hx_1, hF_1⟩ := bS hF
 refine Y18 f p0 (slices_IndexFuncapi_Given_api_Given_ok n _ hG A0 cap0 d0 h0 x_1 hx_1) fun w_1 p_1 _ f => Y f 2 fun _ f => eT (wp_ret (E_ret1 f rfl (by kernel_rfl : Vc.look _ 4 = some (.bool (decide ((0 : Int) ≤ x_1)))) ?_))
 obtain rfl := sI hF_1
 exact ⟨_, rfl, M1, (mR _), p_1, rfl⟩
def schema_byName_s1 (n : Nat) (d0 : List TF0) (s_1 : Int × (List ((List UInt8) × TF0))) : Option (Lp (Int × (List ((List UInt8) × TF0))) (List ((List UInt8) × TF0))) :=
    bif (decide (s_1.1 < ((d0.length : Nat) : Int))) then
      ((getI d0 s_1.1).bind fun x_1 =>
      need (inR .i64 (s_1.1 + 1)) <|
      some (.nx (s_1.1 + 1, mput s_1.2 x_1.fName x_1)))
    else
      some (.br s_1.2)
def schema_byName (n : Nat) (d0 : List TF0) : Option (List ((List UInt8) × TF0)) :=
  (loopF (schema_byName_s1 n d0) n ((0 : Int), ([] : List ((List UInt8) × TF0)))).bind fun y_1 =>
  some (y_1)
theorem schema_byName_ok (n : Nat) (M : Mem) (hG : GL M) (A0 : Option Addr) (cap0 : Nat) (d0 : List TF0) (h0 : Sli M 8 emb_TF0 A0 cap0 d0) (r : (List ((List UInt8) × TF0))) (hF : schema_byName n d0 = some r) : Ok Tryz.prog M 90 [.slice A0 d0.length cap0] (fun M' v => ∃ (b0 : Nat) (m0 : List ((List UInt8) × Value)), v = .map (some b0) ∧ M' b0 = some (mapO S idV m0) ∧ RepMap M' emb_TF0 r m0) := by
 unfold schema_byName at hF
 intro M1 hM0 w0 H w p0
 replace hG := GL.mono hM0 hG
 replace h0 := h0.mono hM0
 refine R_enter 19 Tryz.func90 rfl rfl (by simp) fun a0 f0 => RR (Y f0 1 fun _ f => eT (RR (W_newmap S idV f p0 (by kernel_rfl) (by kernel_rfl) rfl rfl rfl fun bm_1 w_1 p_1 _ f => ?_)))
 have hm_1 : RepMap M1 emb_TF0 ([] : List ((List UInt8) × TF0)) ([] : List ((List UInt8) × Value)) := RepMap.nil
 refine Y f 1 fun _ f => eT (R_seq (RR (Y f 3 fun _ f => eT (wp_block ?_))))
 obtain ⟨b_1, hL_1, hF_1⟩ := bS hF
 refine wp_mono (Q := fun e a w => (e = .exit 0 ∧ (∃ y_1 : (List ((List UInt8) × TF0)), b_1 = y_1 ∧ ∃ M_2 : Mem, M1.le M_2 ∧ ∃ (m_4 : List ((List UInt8) × Value)), RepMap M_2 emb_TF0 y_1 m_4 ∧ Frm 19 [(3, .map (some bm_1))] a ∧ Hp w0 M_2 ((Ent.obj bm_1 (mapO S idV m_4)) :: H) w))) (R_loop (n := 19) (w0 := w0) (M := M1) (fun (x : Nat × (Int × (List ((List UInt8) × TF0))) × (List ((List UInt8) × Value))) => match x with | (m_1, s_1, m_2) => [(3, .map (some bm_1)), (7, .slice A0 d0.length cap0), (8, .int .i64 ((d0.length : Nat) : Int)), (9, .int .i64 s_1.1)]) (fun (x : Nat × (Int × (List ((List UInt8) × TF0))) × (List ((List UInt8) × Value))) => match x with | (m_1, s_1, m_2) => ((Ent.obj bm_1 (mapO S idV m_2)) :: H)) (fun (x : Nat × (Int × (List ((List UInt8) × TF0))) × (List ((List UInt8) × Value))) (MM : Mem) => match x with | (m_1, s_1, m_2) => loopF (schema_byName_s1 n d0) m_1 s_1 = some b_1 ∧ RepMap MM emb_TF0 s_1.2 m_2) (fun (x : Nat × (Int × (List ((List UInt8) × TF0))) × (List ((List UInt8) × Value))) => match x with | (m_1, s_1, m_2) => m_1) (n, ((0 : Int), ([] : List ((List UInt8) × TF0))), ([] : List ((List UInt8) × Value))) (f.kp) p_1 ⟨hL_1, hm_1⟩ ?_) ?_
 ·rintro ⟨m_1, s_1, m_2⟩ M_1 _ w_2 hM_1 I_1 f p_2
  obtain ⟨I_1L, hm_2⟩ := I_1
  obtain ⟨m_3, r_1, rfl, hs_1, hn_1⟩ := loop_step I_1L
  unfold schema_byName_s1 at hs_1
  refine RR (Y f 1 fun _ f => eT (R_seq (RcF f hs_1 (fun h_1 hF_2 => ?_) fun h_1 hF_5 => ?_)))
  ·have k_1 := dI.1 h_1
   refine wp_skip (T_n (R_seq (wp_block (RR ?_))))
   obtain ⟨x_1, hx_1, hF_3⟩ := bS hF_2
   obtain ⟨ad_1, c_1, e_1, -, hr_1, hc_1⟩ := Sli.at_ (h0.mono hM_1) hx_1
   obtain ⟨A_1, cap_1, A_2, cap_2, rfl, h_2, h_3⟩ := TF0.opn hr_1
   refine Z f (Y33 e_1 rfl (len := d0.length) (cap := cap0) (k := .i64) (i := s_1.1) (e := 73) (sz := 8) (getI_nn hx_1) (getI_lt hx_1)) fun _ f => Z (v := .agg #[S x_1.fName, .bool x_1.fUnknown, .int .i8 x_1.fV.fKind, .bool x_1.fV.fBool, .int .i64 x_1.fV.fNum, S x_1.fV.fText, .slice A_1 x_1.fV.fList.length cap_1, .slice A_2 x_1.fV.fKeys.length cap_2]) f (Y35 (cs := [S x_1.fName, .bool x_1.fUnknown, .int .i8 x_1.fV.fKind, .bool x_1.fV.fBool, .int .i64 x_1.fV.fNum, S x_1.fV.fText, .slice A_1 x_1.fV.fList.length cap_1, .slice A_2 x_1.fV.fKeys.length cap_2]) rfl (ad := ad_1.add (s_1.1.toNat * 8)) (fun j v h => p_2.cell (hc_1 j v h))) fun _ f => Y12 f p_2 (.cells #[S [], .bool false, .int .i8 0, .bool false, .int .i64 0, S [], .slice none 0 0, .slice none 0 0] 73 (0, 0)) fun b_2 w_3 p_3 _ f => Y28 (vs := [S x_1.fName, .bool x_1.fUnknown, .int .i8 x_1.fV.fKind, .bool x_1.fV.fBool, .int .i64 x_1.fV.fNum, S x_1.fV.fText, .slice A_1 x_1.fV.fList.length cap_1, .slice A_2 x_1.fV.fKeys.length cap_2]) (j := 0) f p_3 rfl rfl (by simp [Value.oneCell', S]) (by simp) (by decide) (cs' := #[S x_1.fName, .bool x_1.fUnknown, .int .i8 x_1.fV.fKind, .bool x_1.fV.fBool, .int .i64 x_1.fV.fNum, S x_1.fV.fText, .slice A_1 x_1.fV.fList.length cap_1, .slice A_2 x_1.fV.fKeys.length cap_2]) (by kernel_rfl) fun w_4 p_4 _ f => eT (R_reg (Y f 2 fun _ f => Z f (Y34 (v := S x_1.fName) rfl (ad := ⟨b_2, 0, none⟩) (p_4.ownCell 0 rfl 0)) fun _ f => Z (v := .agg #[S x_1.fName, .bool x_1.fUnknown, .int .i8 x_1.fV.fKind, .bool x_1.fV.fBool, .int .i64 x_1.fV.fNum, S x_1.fV.fText, .slice A_1 x_1.fV.fList.length cap_1, .slice A_2 x_1.fV.fKeys.length cap_2]) f (Y35 (cs := [S x_1.fName, .bool x_1.fUnknown, .int .i8 x_1.fV.fKind, .bool x_1.fV.fBool, .int .i64 x_1.fV.fNum, S x_1.fV.fText, .slice A_1 x_1.fV.fList.length cap_1, .slice A_2 x_1.fV.fKeys.length cap_2]) rfl (ad := ⟨b_2, 0, none⟩) (own_cells (p_4.ownCell 0 rfl) 0 rfl)) fun _ f => ?_))
   have p_5 := p_4.pl [1]
   have hm_3 := RepMap.put (k := x_1.fName) (x := x_1) (cs := [S x_1.fName, .bool x_1.fUnknown, .int .i8 x_1.fV.fKind, .bool x_1.fV.fBool, .int .i64 x_1.fV.fNum, S x_1.fV.fText, .slice A_1 x_1.fV.fList.length cap_1, .slice A_2 x_1.fV.fKeys.length cap_2]) (TF0.shutx (x := x_1) h_2 h_3) hm_2
   refine W_mapput (ek := S) (ev := idV) (m := m_2) (k := x_1.fName) (v := .agg [S x_1.fName, .bool x_1.fUnknown, .int .i8 x_1.fV.fKind, .bool x_1.fV.fBool, .int .i64 x_1.fV.fNum, S x_1.fV.fText, .slice A_1 x_1.fV.fList.length cap_1, .slice A_2 x_1.fV.fKeys.length cap_2].toArray) (kt := 9) (et := 73) f p_5 (by kernel_rfl) (by kernel_rfl) rfl (.inl rfl) (by kernel_rfl) (by kernel_rfl) (by kernel_rfl) (by kernel_rfl) (strKey (by kernel_rfl)) fun w_5 p_6 _ f => W_end rfl (B_n (T_n (R_reg ?_)))
   obtain ⟨g_1, hF_4⟩ := nS hF_3
   refine Y f 1 fun _ f => ?_
   have f := f.st 17 (congrArg (Value.int .i64) (inR_wrap g_1))
   refine Y f 1 fun _ f => W_end rfl ?_
   have p_8 := p_6.pl [1]
   refine T_n ?_
   obtain rfl := sI hF_4
   exact ⟨⟨m_3, (s_1.1 + 1, mput s_1.2 x_1.fName x_1), mput m_2 x_1.fName (.agg [S x_1.fName, .bool x_1.fUnknown, .int .i8 x_1.fV.fKind, .bool x_1.fV.fBool, .int .i64 x_1.fV.fNum, S x_1.fV.fText, .slice A_1 x_1.fV.fList.length cap_1, .slice A_2 x_1.fV.fKeys.length cap_2].toArray)⟩, Nat.lt_succ_self _, M_1, hM_1, ⟨hn_1, hm_3⟩, f.kp, (p_8.dropN 1)⟩
  ·have k_2 := iff_f dI h_1
   refine wp_exit (T_x (T_x ?_))
   obtain rfl := sI hF_5
   exact ⟨rfl, s_1.2, (sI hn_1).symm, M_1, hM_1, m_2, hm_2, f.kp, p_2⟩
 ·rintro _ _ w_7 ⟨rfl, y_1, hq_, M_2, hM_2, m_4, hm_4, f, p_7⟩
  subst b_1
  refine B_x (T_n (RR (Y f 2 fun _ f => eT (wp_ret ?_))))
  obtain ⟨M_3, hM_3, p_9, h_4⟩ := p_7.fzObj
  refine E_ret1 f rfl (by kernel_rfl : Vc.look _ 2 = some (.map (some bm_1))) ?_
  obtain rfl := sI hF_1
  exact ⟨_, rfl, M_3, (hM_2.trans hM_3), p_9, ⟨bm_1, m_4, rfl, h_4, (hm_4.mono hM_3)⟩⟩
def schema_Differ_s1_e (n : Nat) (x_5 : (List ((List UInt8) × TF0))) (x_6 : (List ((List UInt8) × TF0))) (s_1 : Int) : Option (Lp Int (Sum Int Unit)) :=
    some (.br (.inl s_1))
def schema_Differ_s1_y (n : Nat) (x_5 : (List ((List UInt8) × TF0))) (x_6 : (List ((List UInt8) × TF0))) (pv_1 : List UInt8 × TH0) (s_1 : Int) : Option (Lp Int (Sum Int Unit)) :=
    ((bif ((mget x_5 pv_1.1).isSome == (mget x_6 pv_1.1).isSome) then
        (bif (!((mget x_6 pv_1.1).getD z_TF0).fUnknown) then
          (bif (!(mget x_5 pv_1.1).isSome) then
            (some ((true)))
          else
            (tree_Equal n (⟨((mget x_5 pv_1.1).getD z_TF0).fV.fKind, (((mget x_5 pv_1.1).getD z_TF0).fV.fBool), ((mget x_5 pv_1.1).getD z_TF0).fV.fNum, ((mget x_5 pv_1.1).getD z_TF0).fV.fText, ((mget x_5 pv_1.1).getD z_TF0).fV.fList, ((mget x_5 pv_1.1).getD z_TF0).fV.fKeys⟩ : TG0) (⟨((mget x_6 pv_1.1).getD z_TF0).fV.fKind, (((mget x_6 pv_1.1).getD z_TF0).fV.fBool), ((mget x_6 pv_1.1).getD z_TF0).fV.fNum, ((mget x_6 pv_1.1).getD z_TF0).fV.fText, ((mget x_6 pv_1.1).getD z_TF0).fV.fList, ((mget x_6 pv_1.1).getD z_TF0).fV.fKeys⟩ : TG0)).bind fun x_7 =>
            some ((x_7)))
        else
          some ((false)))
      else
        some ((false)) : Option Bool)).bind fun y_1 =>
    bif y_1 then
      (some (.nx s_1))
    else
      bif pv_1.2.fReplace then
        (some (.br (.inr ())))
      else
        some (.nx (2 : Int))
def schema_Differ (n : Nat) (d0 : List UInt8) (d1 : List TF0) (d2 : List TF0) : Option (Int × Int) :=
  (schema_Check n d0 d1).bind fun x_1 =>
  (schema_Check n d0 d2).bind fun x_2 =>
  (cmp_Or_2 n [x_1, x_2]).bind fun x_3 =>
  bif (!(decide (x_3 = 0))) then
    (some (((0 : Int), x_3)))
  else
    (slices_ContainsFuncapi_Given_api_Given n d1).bind fun x_4 =>
    bif x_4 then
      (some (((0 : Int), (91 : Int))))
    else
      (schema_byName n d1).bind fun x_5 =>
      (schema_byName n d2).bind fun x_6 =>
      (foldP (schema_Differ_s1_e n x_5 x_6) (schema_Differ_s1_y n x_5 x_6) (propsD d0) (0 : Int)).bind fun b_7 =>
      (match b_7 with 
      | .inl y_2 => some ((y_2, (0 : Int))) 
      | .inr y_3 => some (((3 : Int), (0 : Int))))
set_option maxRecDepth 20000 in
theorem schema_Differ_ok (n : Nat) (M : Mem) (hG : GL M) (d0 : List UInt8) (A1 : Option Addr) (cap1 : Nat) (d1 : List TF0) (h1 : Sli M 8 emb_TF0 A1 cap1 d1) (A2 : Option Addr) (cap2 : Nat) (d2 : List TF0) (h2 : Sli M 8 emb_TF0 A2 cap2 d2) (r : Int × Int) (hF : schema_Differ n d0 d1 d2 = some r) : Ok Tryz.prog M 67 [S d0, .slice A1 d1.length cap1, .slice A2 d2.length cap2] (fun _ v => v = .tuple #[.int .i8 r.1, .int .i64 r.2]) := by
 unfold schema_Differ at hF
 intro M1 hM0 w0 H w p0
 replace hG := GL.mono hM0 hG
 replace h1 := h1.mono hM0
 replace h2 := h2.mono hM0
 refine R_enter 78 Tryz.func67 rfl rfl (by simp) fun a0 f0 => RR (Y f0 2 fun _ f => eT (R_seq (RR (Y f 2 fun _ f => ?_))))
 obtain ⟨x_1, hx_1, hF_1⟩ := bS hF
 refine Y18 f p0 (schema_Check_ok n _ hG d0 A1 cap1 d1 h1 x_1 hx_1) fun w_1 p_1 _ f => Y f 2 fun _ f => ?_
 obtain ⟨x_2, hx_2, hF_2⟩ := bS hF_1
 refine Y18 f p_1 (schema_Check_ok n _ hG d0 A2 cap2 d2 h2 x_2 hx_2) fun w_2 p_2 _ f => V_allocS (k := 2) (c := 2) f p_2 (.cells #[.int .i64 x_1, .int .i64 x_2] 34 (0, 0)) (by kernel_rfl) (fun _ => by kernel_rfl) fun b_1 w_3 p_3 _ f => ?_
 have hr_1 : RepSeq M1 ([x_1, x_2].map (Dat.int .i64)) [.int .i64 x_1, .int .i64 x_2] := ⟨_, _, rfl, rfl, ⟨_, _, rfl, rfl, rfl⟩⟩
 have p_4 : Hp w0 M1 ((Ent.row 34 1 (.slice (some ⟨b_1, 0, none⟩) 2 2) [x_1, x_2].length [.int .i64 x_1, .int .i64 x_2]) :: H) w_3 := p_3.objRow (n := 2) (cap := 2) (size := 1) (by decide) (by decide) (blk_eq (by decide) rfl) rfl rfl
 obtain ⟨M_1, A_1, cap_1, hM_1, hv_1, p_5, h_1, hb_1⟩ := p_4.lend (f := (Dat.int .i64)) (xs := [x_1, x_2]) (szd_int .i64) hr_1
 have f := f.st 24 (hv_1)
 obtain ⟨x_3, hx_3, hF_3⟩ := bS hF_2
 refine Y18 f p_5 (cmp_Or_2_ok n _ (GL.mono hM_1 hG) A_1 cap_1 [x_1, x_2] h_1 x_3 hx_3) fun w_4 p_6 _ f => ?_
 obtain ⟨M_2, hM_2, p_7⟩ := hb_1 _ _ _ (mR _) p_6
 have f := f.st 24 (hv_1.symm)
 refine Y f 1 fun _ f => eT (RR (Y f 2 fun _ f => eT (RcF f hF_3 (fun h_2 hF_4 => ?_) fun h_2 hF_5 => ?_)))
 ·have k_1 : ¬ (x_3 = 0) := (not_iff dI).1 h_2
  refine RR (Y f 3 fun _ f => eT (wp_ret (T_r (E_ret2 f rfl (by kernel_rfl : Vc.look _ 6 = some (.int .i8 0)) (by kernel_rfl : Vc.look _ 7 = some (.int .i64 x_3)) ?_))))
  obtain rfl := sI hF_4
  exact ⟨_, rfl, M_2, hM_2, (p_7.dropN 1), rfl⟩
 ·have k_2 : ¬ (¬ (x_3 = 0)) := iff_f (not_iff dI) h_2
  refine wp_skip (T_n (R_seq (RR (Y f 1 fun _ f => ?_))))
  obtain ⟨x_4, hx_4, hF_6⟩ := bS hF_5
  refine Y18 f p_7 (slices_ContainsFuncapi_Given_api_Given_ok n _ (GL.mono hM_2 hG) A1 cap1 d1 (h1.mono hM_2) x_4 hx_4) fun w_5 p_8 _ f => eT (RcF f hF_6 (fun h_3 hF_7 => ?_) fun h_3 hF_8 => ?_)
  ·refine RR (Y f 2 fun _ f => eT (wp_ret (T_r (E_ret2 f rfl (by kernel_rfl : Vc.look _ 6 = some (.int .i8 0)) (by kernel_rfl : Vc.look _ 7 = some (.int .i64 91)) ?_))))
   obtain rfl := sI hF_7
   exact ⟨_, rfl, M_2, hM_2, (p_8.dropN 1), rfl⟩
  ·refine wp_skip (T_n (RR (Y f 1 fun _ f => ?_)))
   obtain ⟨x_5, hx_5, hF_9⟩ := bS hF_8
   refine Y16 f p_8 (schema_byName_ok n _ (GL.mono hM_2 hG) A1 cap1 d1 (h1.mono hM_2) x_5 hx_5) fun _ M_3 w_6 hM_3 p_9 q_1 _ f => ?_
   obtain ⟨bk_1, m_1, rfl, h0_1, hm_1⟩ := q_1
   refine Y f 1 fun _ f => ?_
   obtain ⟨x_6, hx_6, hF_10⟩ := bS hF_9
   refine Y16 f p_9 (schema_byName_ok n _ (GL.mono (hM_2.trans hM_3) hG) A2 cap2 d2 (h2.mono (hM_2.trans hM_3)) x_6 hx_6) fun _ M_4 w_7 hM_4 p_10 q_2 _ f => ?_
   obtain ⟨bk_2, m_2, rfl, h0_2, hm_2⟩ := q_2
   refine Y f 2 fun _ f => eT (RR (Y f 1 fun _ f => eT (R_seq (RR (Y16 f p_10 (all_ok _) fun _ M_5 w_8 hM_5 p_11 q_3 _ f => ?_)))))
   obtain ⟨b_2, b_3, b_4, b_5, b_6, rfl, hA_1⟩ := q_3
   refine Y f 1 fun _ f => Z (v := .map (blkOf b_3 b_4 b_5 b_6 d0)) f (X_all1 (k := d0) (kt := 9) (et := 108) hA_1 p_11 rfl (by kernel_rfl) (by kernel_rfl) (by kernel_rfl) (strKey (by kernel_rfl)) (by kernel_rfl)) fun _ f => W_rangeM (kt := 9) (et := 113) (kmap_of hA_1 d0) f p_11 (by kernel_rfl) (by kernel_rfl) rfl rfl rfl (by kernel_rfl) (by kernel_rfl) fun r_1 w_9 p_12 _ f => eT (wp_block ?_)
   obtain ⟨b_7, hL_1, hF_11⟩ := bS hF_10
   refine wp_mono (Q := fun e a w => (e = .exit 0 ∧ (∃ y_2 : Int, b_7 = .inl y_2 ∧ ∃ M_8 : Mem, M_5.le M_8 ∧ Frm 78 [(11, .int .i8 y_2)] a ∧ Hp w0 M_8 ((Ent.row 34 1 (.slice (some ⟨b_1, 0, none⟩) 2 2) [x_1, x_2].length [.int .i64 x_1, .int .i64 x_2]) :: H) w)) ∨ (e = .ret ∧ (∃ y_3 : Unit, b_7 = .inr y_3 ∧ ∃ M_9 : Mem, M_5.le M_9 ∧ Frm 78 [(6, .int .i8 3), (7, .int .i64 0)] a ∧ Hp w0 M_9 ((Ent.row 34 1 (.slice (some ⟨b_1, 0, none⟩) 2 2) [x_1, x_2].length [.int .i64 x_1, .int .i64 x_2]) :: H) w))) (R_loop (n := 78) (w0 := w0) (M := M_5) (fun (x : Int × (Array Nat)) => match x with | (s_1, sn_1) => [(9, .map (some bk_1)), (10, .map (some bk_2)), (11, .int .i8 s_1), (38, .pointer (some (⟨r_1, 0, none⟩)))]) (fun (x : Int × (Array Nat)) => match x with | (s_1, sn_1) => ((Ent.obj r_1 (.mapIter (blkOf b_3 b_4 b_5 b_6 d0) (propsD d0).length sn_1 (propsD d0).length)) :: (Ent.row 34 1 (.slice (some ⟨b_1, 0, none⟩) 2 2) [x_1, x_2].length [.int .i64 x_1, .int .i64 x_2]) :: H)) (fun (x : Int × (Array Nat)) (MM : Mem) => match x with | (s_1, sn_1) => (∀ l, l.Perm (leftD (propsD d0) sn_1) → foldO (schema_Differ_s1_e n x_5 x_6) (schema_Differ_s1_y n x_5 x_6) l s_1 = some b_7)) (fun (x : Int × (Array Nat)) => match x with | (s_1, sn_1) => (leftD (propsD d0) sn_1).length) ((0 : Int), #[]) (f.kp) p_12 (foldP_start hL_1) ?_) ?_
   ·rintro ⟨s_1, sn_1⟩ M_6 _ w_10 hM_6 I_1 f p_13
    have I_1L := I_1
    refine RR (W_nextM (kmap_of (hA_1.mono hM_6) d0) f p_13 (by kernel_rfl) (by kernel_rfl) rfl rfl rfl (by kernel_rfl) (fun ho_1 w_11 p_14 _ f => ?_) fun pv_1 j_1 hj_1 w_12 p_15 _ f => ?_)
    ·obtain ⟨r_2, hs_1, hn_1⟩ := foldO_end I_1L ho_1
     unfold schema_Differ_s1_e at hs_1
     refine Y f 1 fun _ f => eT (R_seq (Y7 f (wp_exit (T_x (T_x ?_)))))
     obtain rfl := sI hs_1
     exact .inl ⟨rfl, s_1, (sI hn_1).symm, M_6, hM_6, f.kp, (p_14.dropN 1)⟩
    ·obtain ⟨r_2, hs_1, hn_1⟩ := foldO_go hj_1 I_1L
     unfold schema_Differ_s1_y at hs_1
     refine Y f 1 fun _ f => eT (R_seq (Y8 f (wp_skip (T_n (wp_block (RR (Z (v := .tuple #[S pv_1.1, .agg #[S pv_1.2.fName, .int .i8 pv_1.2.fKind, .bool pv_1.2.fReplace]]) f (X_entryM (m := propsD d0) (kmap_of (hA_1.mono hM_6) d0) p_15 hj_1 0 rfl rfl (by kernel_rfl)) fun _ f => Y f 2 fun _ f => Y12 f p_15 (.cells #[S [], .int .i8 0, .bool false] 113 (0, 0)) fun b_8 w_13 p_16 _ f => Y f 1 fun _ f => Y28 (vs := [S pv_1.2.fName, .int .i8 pv_1.2.fKind, .bool pv_1.2.fReplace]) (j := 0) f p_16 rfl rfl (by simp [Value.oneCell', S]) (by simp) (by decide) (cs' := #[S pv_1.2.fName, .int .i8 pv_1.2.fKind, .bool pv_1.2.fReplace]) (by kernel_rfl) fun w_14 p_17 _ f => eT (RR (Y f 2 fun _ f => ?_)))))))))
     obtain ⟨c_1, hc_1, hr_2⟩ := RepMap.get (k := pv_1.1) (z := z_TF0) (zc := [S [], .bool false, .int .i8 0, .bool false, .int .i64 0, S [], .slice none 0 0, .slice none 0 0]) (TF0.shutx (x := z_TF0) Sli.nil Sli.nil) (hm_1.mono ((hM_4.trans hM_5).trans hM_6))
     obtain ⟨A_2, cap_2, A_3, cap_3, rfl, h_4, h_5⟩ := TF0.opn hr_2
     refine Z (v := .tuple #[.agg #[S ((mget x_5 pv_1.1).getD z_TF0).fName, .bool ((mget x_5 pv_1.1).getD z_TF0).fUnknown, .int .i8 ((mget x_5 pv_1.1).getD z_TF0).fV.fKind, .bool ((mget x_5 pv_1.1).getD z_TF0).fV.fBool, .int .i64 ((mget x_5 pv_1.1).getD z_TF0).fV.fNum, S ((mget x_5 pv_1.1).getD z_TF0).fV.fText, .slice A_2 ((mget x_5 pv_1.1).getD z_TF0).fV.fList.length cap_2, .slice A_3 ((mget x_5 pv_1.1).getD z_TF0).fV.fKeys.length cap_3], .bool (mget x_5 pv_1.1).isSome]) f (X_lookupR2 (ek := S) (kt := 9) (et := 73) hc_1 (RepMap.isSome (hm_1.mono ((hM_4.trans hM_5).trans hM_6))) rfl (by kernel_rfl) (by kernel_rfl) (by kernel_rfl) (strKey (by kernel_rfl)) (by kernel_rfl) (p_17.mem _ _ (((hM_4.trans hM_5).trans hM_6) _ _ h0_1))) fun _ f => Y f 3 fun _ f => Y12 f p_17 (.cells #[S [], .bool false, .int .i8 0, .bool false, .int .i64 0, S [], .slice none 0 0, .slice none 0 0] 73 (0, 0)) fun b_9 w_15 p_18 _ f => Y28 (vs := [S ((mget x_5 pv_1.1).getD z_TF0).fName, .bool ((mget x_5 pv_1.1).getD z_TF0).fUnknown, .int .i8 ((mget x_5 pv_1.1).getD z_TF0).fV.fKind, .bool ((mget x_5 pv_1.1).getD z_TF0).fV.fBool, .int .i64 ((mget x_5 pv_1.1).getD z_TF0).fV.fNum, S ((mget x_5 pv_1.1).getD z_TF0).fV.fText, .slice A_2 ((mget x_5 pv_1.1).getD z_TF0).fV.fList.length cap_2, .slice A_3 ((mget x_5 pv_1.1).getD z_TF0).fV.fKeys.length cap_3]) (j := 0) f p_18 rfl rfl (by simp [Value.oneCell', S]) (by simp) (by decide) (cs' := #[S ((mget x_5 pv_1.1).getD z_TF0).fName, .bool ((mget x_5 pv_1.1).getD z_TF0).fUnknown, .int .i8 ((mget x_5 pv_1.1).getD z_TF0).fV.fKind, .bool ((mget x_5 pv_1.1).getD z_TF0).fV.fBool, .int .i64 ((mget x_5 pv_1.1).getD z_TF0).fV.fNum, S ((mget x_5 pv_1.1).getD z_TF0).fV.fText, .slice A_2 ((mget x_5 pv_1.1).getD z_TF0).fV.fList.length cap_2, .slice A_3 ((mget x_5 pv_1.1).getD z_TF0).fV.fKeys.length cap_3]) (by kernel_rfl) fun w_16 p_19 _ f => Y f 1 fun _ f => eT (RR (Y f 2 fun _ f => ?_))
     obtain ⟨c_2, hc_2, hr_3⟩ := RepMap.get (k := pv_1.1) (z := z_TF0) (zc := [S [], .bool false, .int .i8 0, .bool false, .int .i64 0, S [], .slice none 0 0, .slice none 0 0]) (TF0.shutx (x := z_TF0) Sli.nil Sli.nil) (hm_2.mono (hM_5.trans hM_6))
     obtain ⟨A_4, cap_4, A_5, cap_5, rfl, h_6, h_7⟩ := TF0.opn hr_3
     refine Z (v := .tuple #[.agg #[S ((mget x_6 pv_1.1).getD z_TF0).fName, .bool ((mget x_6 pv_1.1).getD z_TF0).fUnknown, .int .i8 ((mget x_6 pv_1.1).getD z_TF0).fV.fKind, .bool ((mget x_6 pv_1.1).getD z_TF0).fV.fBool, .int .i64 ((mget x_6 pv_1.1).getD z_TF0).fV.fNum, S ((mget x_6 pv_1.1).getD z_TF0).fV.fText, .slice A_4 ((mget x_6 pv_1.1).getD z_TF0).fV.fList.length cap_4, .slice A_5 ((mget x_6 pv_1.1).getD z_TF0).fV.fKeys.length cap_5], .bool (mget x_6 pv_1.1).isSome]) f (X_lookupR2 (ek := S) (kt := 9) (et := 73) hc_2 (RepMap.isSome (hm_2.mono (hM_5.trans hM_6))) rfl (by kernel_rfl) (by kernel_rfl) (by kernel_rfl) (strKey (by kernel_rfl)) (by kernel_rfl) (p_19.mem _ _ ((hM_5.trans hM_6) _ _ h0_2))) fun _ f => Y f 3 fun _ f => Y12 f p_19 (.cells #[S [], .bool false, .int .i8 0, .bool false, .int .i64 0, S [], .slice none 0 0, .slice none 0 0] 73 (0, 0)) fun b_10 w_17 p_20 _ f => Y28 (vs := [S ((mget x_6 pv_1.1).getD z_TF0).fName, .bool ((mget x_6 pv_1.1).getD z_TF0).fUnknown, .int .i8 ((mget x_6 pv_1.1).getD z_TF0).fV.fKind, .bool ((mget x_6 pv_1.1).getD z_TF0).fV.fBool, .int .i64 ((mget x_6 pv_1.1).getD z_TF0).fV.fNum, S ((mget x_6 pv_1.1).getD z_TF0).fV.fText, .slice A_4 ((mget x_6 pv_1.1).getD z_TF0).fV.fList.length cap_4, .slice A_5 ((mget x_6 pv_1.1).getD z_TF0).fV.fKeys.length cap_5]) (j := 0) f p_20 rfl rfl (by simp [Value.oneCell', S]) (by simp) (by decide) (cs' := #[S ((mget x_6 pv_1.1).getD z_TF0).fName, .bool ((mget x_6 pv_1.1).getD z_TF0).fUnknown, .int .i8 ((mget x_6 pv_1.1).getD z_TF0).fV.fKind, .bool ((mget x_6 pv_1.1).getD z_TF0).fV.fBool, .int .i64 ((mget x_6 pv_1.1).getD z_TF0).fV.fNum, S ((mget x_6 pv_1.1).getD z_TF0).fV.fText, .slice A_4 ((mget x_6 pv_1.1).getD z_TF0).fV.fList.length cap_4, .slice A_5 ((mget x_6 pv_1.1).getD z_TF0).fV.fKeys.length cap_5]) (by kernel_rfl) fun w_18 p_21 _ f => Y f 1 fun _ f => eT (R_seq (R_seq ?_))
     obtain ⟨j_2, hj_2, hF_12⟩ := bS hs_1
     refine R_mid (fun a_60 w_20 => ∃ y_1 : Bool, j_2 = y_1 ∧ ∃ M_7 : Mem, M_6.le M_7 ∧ Frm 78 [(9, .map (some bk_1)), (10, .map (some bk_2)), (11, .int .i8 s_1), (13, .pointer (some (⟨b_8, 0, none⟩))), (38, .pointer (some (⟨r_1, 0, none⟩))), (74, .bool y_1)] a_60 ∧ Hp w0 M_7 ((Ent.obj b_10 (.cells #[S ((mget x_6 pv_1.1).getD z_TF0).fName, .bool ((mget x_6 pv_1.1).getD z_TF0).fUnknown, .int .i8 ((mget x_6 pv_1.1).getD z_TF0).fV.fKind, .bool ((mget x_6 pv_1.1).getD z_TF0).fV.fBool, .int .i64 ((mget x_6 pv_1.1).getD z_TF0).fV.fNum, S ((mget x_6 pv_1.1).getD z_TF0).fV.fText, .slice A_4 ((mget x_6 pv_1.1).getD z_TF0).fV.fList.length cap_4, .slice A_5 ((mget x_6 pv_1.1).getD z_TF0).fV.fKeys.length cap_5] 73 (0, 0))) :: (Ent.obj b_9 (.cells #[S ((mget x_5 pv_1.1).getD z_TF0).fName, .bool ((mget x_5 pv_1.1).getD z_TF0).fUnknown, .int .i8 ((mget x_5 pv_1.1).getD z_TF0).fV.fKind, .bool ((mget x_5 pv_1.1).getD z_TF0).fV.fBool, .int .i64 ((mget x_5 pv_1.1).getD z_TF0).fV.fNum, S ((mget x_5 pv_1.1).getD z_TF0).fV.fText, .slice A_2 ((mget x_5 pv_1.1).getD z_TF0).fV.fList.length cap_2, .slice A_3 ((mget x_5 pv_1.1).getD z_TF0).fV.fKeys.length cap_3] 73 (0, 0))) :: (Ent.obj b_8 (.cells #[S pv_1.2.fName, .int .i8 pv_1.2.fKind, .bool pv_1.2.fReplace] 113 (0, 0))) :: (Ent.obj r_1 (.mapIter (blkOf b_3 b_4 b_5 b_6 d0) (propsD d0).length (sn_1.push j_1) (propsD d0).length)) :: (Ent.row 34 1 (.slice (some ⟨b_1, 0, none⟩) 2 2) [x_1, x_2].length [.int .i64 x_1, .int .i64 x_2]) :: H) w_20) ?_ ?_
     ·refine R_reg (Y f 4 fun _ f => ?_)
      rcases cE hj_2 with ⟨h_8, hF_13⟩ | ⟨h_8, hF_19⟩
      ·have f := f.st 59 (cB h_8)
       refine Y f 1 fun _ f => Z f (Y34 (v := .bool ((mget x_6 pv_1.1).getD z_TF0).fUnknown) rfl (ad := ⟨b_10, 1, none⟩) (p_21.ownCell 0 rfl 1)) fun _ f => Y f 3 fun _ f => ?_
       rcases cE hF_13 with ⟨h_9, hF_14⟩ | ⟨h_9, hF_18⟩
       ·have k_6 : (((mget x_6 pv_1.1).getD z_TF0).fUnknown) = false := by simpa using h_9
        have f := f.st 64 (cB h_9)
        refine Y f 3 fun _ f => ?_
        rcases cE hF_14 with ⟨h_10, hF_15⟩ | ⟨h_10, hF_16⟩
        ·have k_7 : ((mget x_5 pv_1.1).isSome) = false := by simpa using h_10
         have f := f.st 67 (cB h_10)
         refine Y f 7 fun _ f => eT ?_
         exact ⟨(true), (sI hF_15).symm, M_6, (mR _), f.kp, p_21⟩
        ·have k_8 : ((mget x_5 pv_1.1).isSome) = true := by simpa using h_10
         have f := f.st 67 (cB h_10)
         refine Y f 1 fun _ f => Z (v := .agg #[.int .i8 ((mget x_5 pv_1.1).getD z_TF0).fV.fKind, .bool ((mget x_5 pv_1.1).getD z_TF0).fV.fBool, .int .i64 ((mget x_5 pv_1.1).getD z_TF0).fV.fNum, S ((mget x_5 pv_1.1).getD z_TF0).fV.fText, .slice A_2 ((mget x_5 pv_1.1).getD z_TF0).fV.fList.length cap_2, .slice A_3 ((mget x_5 pv_1.1).getD z_TF0).fV.fKeys.length cap_3]) f (Y35 (cs := [.int .i8 ((mget x_5 pv_1.1).getD z_TF0).fV.fKind, .bool ((mget x_5 pv_1.1).getD z_TF0).fV.fBool, .int .i64 ((mget x_5 pv_1.1).getD z_TF0).fV.fNum, S ((mget x_5 pv_1.1).getD z_TF0).fV.fText, .slice A_2 ((mget x_5 pv_1.1).getD z_TF0).fV.fList.length cap_2, .slice A_3 ((mget x_5 pv_1.1).getD z_TF0).fV.fKeys.length cap_3]) rfl (ad := ⟨b_9, 2, none⟩) (own_cells (p_21.ownCell 1 rfl) 2 rfl)) fun _ f => Y f 1 fun _ f => Z (v := .agg #[.int .i8 ((mget x_6 pv_1.1).getD z_TF0).fV.fKind, .bool ((mget x_6 pv_1.1).getD z_TF0).fV.fBool, .int .i64 ((mget x_6 pv_1.1).getD z_TF0).fV.fNum, S ((mget x_6 pv_1.1).getD z_TF0).fV.fText, .slice A_4 ((mget x_6 pv_1.1).getD z_TF0).fV.fList.length cap_4, .slice A_5 ((mget x_6 pv_1.1).getD z_TF0).fV.fKeys.length cap_5]) f (Y35 (cs := [.int .i8 ((mget x_6 pv_1.1).getD z_TF0).fV.fKind, .bool ((mget x_6 pv_1.1).getD z_TF0).fV.fBool, .int .i64 ((mget x_6 pv_1.1).getD z_TF0).fV.fNum, S ((mget x_6 pv_1.1).getD z_TF0).fV.fText, .slice A_4 ((mget x_6 pv_1.1).getD z_TF0).fV.fList.length cap_4, .slice A_5 ((mget x_6 pv_1.1).getD z_TF0).fV.fKeys.length cap_5]) rfl (ad := ⟨b_10, 2, none⟩) (own_cells (p_21.ownCell 0 rfl) 2 rfl)) fun _ f => ?_
         obtain ⟨x_7, hx_7, hF_17⟩ := bS hF_16
         refine Y18 f p_21 (tree_Equal_ok n _ (GL.mono ((((hM_2.trans hM_3).trans hM_4).trans hM_5).trans hM_6) hG) _ (⟨((mget x_5 pv_1.1).getD z_TF0).fV.fKind, (((mget x_5 pv_1.1).getD z_TF0).fV.fBool), ((mget x_5 pv_1.1).getD z_TF0).fV.fNum, ((mget x_5 pv_1.1).getD z_TF0).fV.fText, ((mget x_5 pv_1.1).getD z_TF0).fV.fList, ((mget x_5 pv_1.1).getD z_TF0).fV.fKeys⟩ : TG0) (TG0.shut h_4 h_5) _ (⟨((mget x_6 pv_1.1).getD z_TF0).fV.fKind, (((mget x_6 pv_1.1).getD z_TF0).fV.fBool), ((mget x_6 pv_1.1).getD z_TF0).fV.fNum, ((mget x_6 pv_1.1).getD z_TF0).fV.fText, ((mget x_6 pv_1.1).getD z_TF0).fV.fList, ((mget x_6 pv_1.1).getD z_TF0).fV.fKeys⟩ : TG0) (TG0.shut h_6 h_7) x_7 hx_7) fun w_19 p_22 _ f => Y f 2 fun _ f => eT ?_
         exact ⟨(x_7), (sI hF_17).symm, M_6, (mR _), f.kp, p_22⟩
       ·have k_9 : (((mget x_6 pv_1.1).getD z_TF0).fUnknown) = true := by simpa using h_9
        have f := f.st 64 (cB h_9)
        refine Y f 10 fun _ f => eT ?_
        exact ⟨(false), (sI hF_18).symm, M_6, (mR _), f.kp, p_21⟩
      ·have f := f.st 59 (cB h_8)
       refine Y f 15 fun _ f => eT ?_
       exact ⟨(false), (sI hF_19).symm, M_6, (mR _), f.kp, p_21⟩
     ·rintro a_60 w_20 ⟨y_1, hq_1, M_7, hM_7, f, p_23⟩
      subst j_2
      refine T_n (RcF f hF_12 (fun h_11 hF_20 => ?_) fun h_11 hF_21 => ?_)
      ·refine wp_exit (T_x (B_x (T_n ?_)))
       obtain rfl := sI hF_20
       exact ⟨⟨s_1, sn_1.push j_1⟩, leftD_lt hj_1, M_7, (hM_6.trans hM_7), hn_1, f.kp, (p_23.dropN 3)⟩
      ·refine wp_skip (T_n (R_seq (RR (Y f 1 fun _ f => Z f (Y34 (v := .bool pv_1.2.fReplace) rfl (ad := ⟨b_8, 2, none⟩) (p_23.ownCell 2 rfl 2)) fun _ f => eT (RcF f hF_21 (fun h_12 hF_22 => ?_) fun h_12 hF_23 => ?_)))))
       ·refine RR (Y f 2 fun _ f => eT (wp_ret (T_r (B_r (T_r ?_)))))
        obtain rfl := sI hF_22
        exact .inr ⟨rfl, (), (sI hn_1).symm, M_7, (hM_6.trans hM_7), f.kp, (p_23.dropN 4)⟩
       ·refine wp_skip (T_n (R_reg (Y f 1 fun _ f => W_end rfl (B_n (T_n ?_)))))
        obtain rfl := sI hF_23
        exact ⟨⟨(2 : Int), sn_1.push j_1⟩, leftD_lt hj_1, M_7, (hM_6.trans hM_7), hn_1, f.kp, (p_23.dropN 3)⟩
   ·rintro _ _ w_23 (⟨rfl, y_2, rfl, M_8, hM_8, f, p_24⟩ | ⟨rfl, y_3, rfl, M_9, hM_9, f, p_25⟩)
    ·refine B_x (T_n (RR (Y f 3 fun _ f => eT (wp_ret (E_ret2 f rfl (by kernel_rfl : Vc.look _ 6 = some (.int .i8 y_2)) (by kernel_rfl : Vc.look _ 7 = some (.int .i64 0)) ?_)))))
     obtain rfl := sI hF_11
     exact ⟨_, rfl, M_8, ((((hM_2.trans hM_3).trans hM_4).trans hM_5).trans hM_8), (p_24.dropN 1), rfl⟩
    ·refine B_r (T_r (E_ret2 f rfl (by kernel_rfl : Vc.look _ 6 = some (.int .i8 3)) (by kernel_rfl : Vc.look _ 7 = some (.int .i64 0)) ?_))
     obtain rfl := sI hF_11
     exact ⟨_, rfl, M_9, ((((hM_2.trans hM_3).trans hM_4).trans hM_5).trans hM_9), (p_25.dropN 1), rfl⟩
def byN (gs : List TF0) : List (List UInt8 × TF0) := gs.foldl (fun m g => mput m g.fName g) []
theorem byN_snoc (gs : List TF0) (g : TF0) : byN (gs ++ [g]) = mput (byN gs) g.fName g := by unfold byN; rw [List.foldl_append]; rfl
theorem byName_run {n : Nat} (gs : List TF0) (hl : gs.length ≤ 60) (hn : 6000 < n) : schema_byName n gs = some (byN gs) := by
 unfold schema_byName
 have := loop_all (n := n) (step := schema_byName_s1 n gs) (fun k => ((k : Int), byN (gs.take k))) gs.length (byN gs) (fun k hk => by
  unfold schema_byName_s1
  have hx : gs[k]? = some gs[k] := List.getElem?_eq_getElem hk
  have hg : gs.getD k z_TF0 = gs[k] := by simp [List.getD, hk]
  dsimp only
  rw [decide_eq_true (by omega), cT, getI_at z_TF0 hk, bnd, need_i (by omega) (by omega), hg, List.take_add_one, hx]
  have e : byN (gs.take k ++ (some gs[k]).toList) = mput (byN (gs.take k)) gs[k].fName gs[k] := byN_snoc _ _
  rw [e]; rfl) (by
  unfold schema_byName_s1
  dsimp only
  rw [decide_eq_false (by omega), cF, List.take_length]) (by omega)
 have e0 : (((0 : Nat) : Int), byN (gs.take 0)) = ((0 : Int), ([] : List (List UInt8 × TF0))) := rfl
 rw [e0] at this
 rw [this, bnd]
theorem byN_some {k : List UInt8} {g : TF0} : ∀ {m : Nat} {gs : List TF0}, gs.length = m → mget (byN gs) k = some g → g ∈ gs ∧ g.fName = k
 | 0, gs, hm, h => by
  have : gs = [] := List.length_eq_zero_iff.1 hm
  subst this; cases h
 | m + 1, gs, hm, h => by
  obtain ⟨l, x, rfl⟩ : ∃ l x, gs = l ++ [x] := ⟨gs.dropLast, gs.getLast (by intro e; subst e; cases hm), (List.dropLast_concat_getLast _).symm⟩
  rw [byN_snoc, mget_mput] at h
  by_cases hx : x.fName = k
  ·rw [if_pos hx] at h
   cases h
   exact ⟨by simp, hx⟩
  ·rw [if_neg hx] at h
   obtain ⟨h1, h2⟩ := byN_some (m := m) (by simpa using hm) h
   exact ⟨by simp [h1], h2⟩
def sameK (a b : List TF0) (k : List UInt8) : Bool :=
  bif (mget (byN a) k).isSome == (mget (byN b) k).isSome then
    bif !((mget (byN b) k).getD z_TF0).fUnknown then
      bif !(mget (byN a) k).isSome then true else eqV ((mget (byN a) k).getD z_TF0).fV ((mget (byN b) k).getD z_TF0).fV
    else false
  else false
def stepK (a b : List TF0) (p : List UInt8 × TH0) (s : Int) : Lp Int (Sum Int Unit) := bif sameK a b p.1 then .nx s else bif p.2.fReplace then .br (.inr ()) else .nx 2
def endK (a b : List TF0) (l : List (List UInt8 × TH0)) (s : Int) : Sum Int Unit := bif l.any (fun p => !sameK a b p.1 && p.2.fReplace) then .inr () else .inl (bif l.any (fun p => !sameK a b p.1) then 2 else s)
theorem step_run {n : Nat} (hn : 6000 < n) {a b : List TF0} (ha : ∀ g ∈ a, Fine g.fV) (hb : ∀ g ∈ b, Fine g.fV) (p : List UInt8 × TH0) (s : Int) : schema_Differ_s1_y n (byN a) (byN b) p s = some (stepK a b p s) := by
 unfold schema_Differ_s1_y stepK sameK
 cases h1 : (mget (byN a) p.1).isSome == (mget (byN b) p.1).isSome with
 | false =>
  rw [cF, cF, bnd, cF, cF]
  cases p.2.fReplace <;> rfl
 | true =>
  rw [cT, cT]
  cases h2 : ((mget (byN b) p.1).getD z_TF0).fUnknown with
  | true =>
   rw [Bool.not_true, cF, cF, bnd, cF, cF]
   cases p.2.fReplace <;> rfl
  | false =>
   rw [Bool.not_false, cT, cT]
   cases h3 : (mget (byN a) p.1).isSome with
   | false => rw [Bool.not_false, cT, cT, bnd, cT, cT]
   | true =>
    rw [Bool.not_true, cF, cF]
    have h4 : (mget (byN b) p.1).isSome = true := by rw [h3] at h1; simpa using h1.symm
    obtain ⟨x, hx⟩ := Option.isSome_iff_exists.1 h3
    obtain ⟨y, hy⟩ := Option.isSome_iff_exists.1 h4
    have fx := ha x (byN_some rfl hx).1
    have fy := hb y (byN_some rfl hy).1
    have ex : ∀ v : TG0, (⟨v.fKind, (v.fBool), v.fNum, v.fText, v.fList, v.fKeys⟩ : TG0) = v := fun v => by cases v; rfl
    rw [hx, hy, Option.getD_some, Option.getD_some, ex, ex, Equal_run hn fx fy, bnd, bnd]
    cases eqV x.fV y.fV with
    | true => rw [cT, cT]
    | false =>
     rw [cF, cF]
     cases p.2.fReplace <;> rfl
theorem fold_run {n : Nat} (hn : 6000 < n) {a b : List TF0} (ha : ∀ g ∈ a, Fine g.fV) (hb : ∀ g ∈ b, Fine g.fV) : ∀ (l : List (List UInt8 × TH0)) (s : Int), foldO (schema_Differ_s1_e n (byN a) (byN b)) (schema_Differ_s1_y n (byN a) (byN b)) l s = some (endK a b l s)
 | [], s => rfl
 | p :: l, s => by
  unfold foldO
  rw [step_run hn ha hb, bnd]
  unfold stepK endK
  rw [List.any_cons, List.any_cons]
  cases sameK a b p.1 with
  | true =>
   rw [cT]
   dsimp only
   rw [fold_run hn ha hb l s]
   unfold endK
   rw [Bool.not_true, Bool.false_and, Bool.false_or, Bool.false_or]
  | false =>
   rw [cF]
   cases p.2.fReplace with
   | true => rfl
   | false =>
    rw [cF]
    dsimp only
    rw [fold_run hn ha hb l 2]
    unfold endK
    rw [Bool.not_false, Bool.and_false, Bool.false_or, Bool.true_or, cT]
    cases l.any (fun p => !sameK a b p.1) <;> rfl
theorem endK_perm (a b : List TF0) {l l' : List (List UInt8 × TH0)} (h : l.Perm l') (s : Int) : endK a b l s = endK a b l' s := by
 have e : ∀ q : List UInt8 × TH0 → Bool, l.any q = l'.any q := fun q => by
  rw [Bool.eq_iff_iff, List.any_eq_true, List.any_eq_true]
  exact ⟨fun ⟨x, h1, h2⟩ => ⟨x, h.mem_iff.1 h1, h2⟩, fun ⟨x, h1, h2⟩ => ⟨x, h.mem_iff.2 h1, h2⟩⟩
 unfold endK
 rw [e, e]
def differV (kind : List UInt8) (a b : List TF0) : Int × Int :=
  bif !decide (checkG kind a = 0) then (0, checkG kind a) else bif !decide (checkG kind b = 0) then (0, checkG kind b) else
  bif a.any (·.fUnknown) then (0, 91) else match endK a b (propsD kind) 0 with | .inl y => (y, 0) | .inr _ => (3, 0)
theorem or2_run {n : Nat} (hn : 6000 < n) (x y : Int) : cmp_Or_2 n [x, y] = some (bif !decide (x = 0) then x else y) := by
 obtain ⟨n, rfl⟩ : ∃ m, n = m + 3 := ⟨n - 3, by omega⟩
 unfold cmp_Or_2
 have s0 : cmp_Or_2_s1 (n + 3) [x, y] 0 = bif !decide (x = 0) then some (.br (.inl x)) else some (.nx 1) := by
  unfold cmp_Or_2_s1
  have e : getI [x, y] 0 = some x := rfl
  rw [decide_eq_true (by simp only [List.length_cons, List.length_nil]; omega), cT, e, bnd, need_i (by omega) (by omega)]; rfl
 have s1 : cmp_Or_2_s1 (n + 3) [x, y] 1 = bif !decide (y = 0) then some (.br (.inl y)) else some (.nx 2) := by
  unfold cmp_Or_2_s1
  have e : getI [x, y] 1 = some y := rfl
  rw [decide_eq_true (by simp only [List.length_cons, List.length_nil]; omega), cT, e, bnd, need_i (by omega) (by omega)]; rfl
 have s2 : cmp_Or_2_s1 (n + 3) [x, y] 2 = some (.br (.inr ())) := by
  unfold cmp_Or_2_s1
  rw [decide_eq_false (by simp only [List.length_cons, List.length_nil]; omega), cF]
 have l0 : loopF (cmp_Or_2_s1 (n + 3) [x, y]) (n + 3) 0 = some (bif !decide (x = 0) then .inl x else bif !decide (y = 0) then .inl y else .inr ()) := by
  unfold loopF
  rw [s0]
  by_cases hx : x = 0
  ·rw [decide_eq_true hx, Bool.not_true, cF, cF, bnd]
   dsimp only
   unfold loopF
   rw [s1]
   by_cases hy : y = 0
   ·rw [decide_eq_true hy, Bool.not_true, cF, cF, bnd]
    dsimp only
    unfold loopF
    rw [s2, bnd]
   ·rw [decide_eq_false hy, Bool.not_false, cT, cT, bnd]
  ·rw [decide_eq_false hx, Bool.not_false, cT, cT, bnd]
 rw [l0, bnd]
 by_cases hx : x = 0
 ·rw [decide_eq_true hx, Bool.not_true, cF, cF]
  by_cases hy : y = 0
  ·rw [decide_eq_true hy, Bool.not_true, cF]; rw [hy]
  ·rw [decide_eq_false hy, Bool.not_false, cT]
 ·rw [decide_eq_false hx, Bool.not_false, cT, cT]
theorem unknown_run {n : Nat} (hn : 6000 < n) (gs : List TF0) (hl : gs.length ≤ 60) : slices_ContainsFuncapi_Given_api_Given n gs = some (gs.any (·.fUnknown)) := by
 unfold slices_ContainsFuncapi_Given_api_Given slices_IndexFuncapi_Given_api_Given
 obtain ⟨b, hb, hp⟩ := index_any (n := n) z_TF0 (·.fUnknown) gs (step := slices_IndexFuncapi_Given_api_Given_s1 n gs) (fun k hk => by
  unfold slices_IndexFuncapi_Given_api_Given_s1 schema_Differ_1
  rw [decide_eq_true (by omega), cT, getI_at z_TF0 hk, bnd, bnd]
  cases (gs.getD k z_TF0).fUnknown with
  | false => rw [cF, need_i (by omega) (by omega)]; rfl
  | true => rw [cT]; rfl) (by
  unfold slices_IndexFuncapi_Given_api_Given_s1
  rw [decide_eq_false (by omega), cF]) (by omega)
 rw [hb, bnd]
 cases b with
 | inl i =>
  obtain ⟨h0, h1⟩ := hp
  dsimp only
  rw [bnd, h1, decide_eq_true h0]
 | inr u =>
  have h1 : gs.any (·.fUnknown) = false := hp
  dsimp only
  rw [bnd, h1]
  rfl
theorem Differ_run {n : Nat} (hn : 6000 < n) (kind : List UInt8) {a b : List TF0} (la : a.length ≤ 60) (lb : b.length ≤ 60) (ha : ∀ g ∈ a, Fine g.fV) (hb : ∀ g ∈ b, Fine g.fV) : schema_Differ n kind a b = some (differV kind a b) := by
 unfold schema_Differ differV
 rw [schemaCheck_run hn kind la ha, bnd, schemaCheck_run hn kind lb hb, bnd, or2_run hn, bnd]
 by_cases h1 : checkG kind a = 0
 ·rw [decide_eq_true h1, Bool.not_true, cF, cF]
  by_cases h2 : checkG kind b = 0
  ·rw [decide_eq_true h2, Bool.not_true, cF, cF, unknown_run hn a la, bnd]
   cases a.any (·.fUnknown) with
   | true => rw [cT, cT]
   | false =>
    rw [cF, cF, byName_run a la hn, bnd, byName_run b lb hn, bnd, foldP_run (b := endK a b (propsD kind) 0) (fun l hl => by rw [fold_run hn ha hb, endK_perm a b hl]), bnd]
    cases endK a b (propsD kind) 0 <;> rfl
  ·rw [decide_eq_false h2, Bool.not_false, cT, cT]
 ·rw [decide_eq_false h1, Bool.not_false, cT, cT, decide_eq_false h1, Bool.not_false, cT]
theorem getD_in {gs : List TF0} {k : Nat} (hk : k < gs.length) : gs.getD k z_TF0 = gs[k] := by simp [List.getD, hk]
noncomputable instance decV : DecidableEq TG0 := fun a b => Classical.propDecidable _
def ref03_sorted_s2 (n : Nat) (d0 : TG0) (s_1 : Int × List TG0 × List (List UInt8)) (s_2 : Int) : Option (Lp Int Int) :=
    bif (decide (s_2 < ((s_1.2.2.length : Nat) : Int))) then
      ((getI s_1.2.2 s_2).bind fun x_3 =>
      (getI d0.fKeys s_1.1).bind fun x_4 =>
      bif (Op.bytesLess x_3 x_4) then
        (need (inR .i64 (s_2 + 1)) <|
        some (.nx (s_2 + 1)))
      else
        some (.br s_2))
    else
      some (.br s_2)
def ref03_sorted_s1 (n : Nat) (rec_ref03_sorted : TG0 → Option TG0) (d0 : TG0) (s_1 : Int × List TG0 × List (List UInt8)) : Option (Lp (Int × List TG0 × List (List UInt8)) (List TG0 × List (List UInt8))) :=
    bif (decide (s_1.1 < ((d0.fList.length : Nat) : Int))) then
      ((getI d0.fList s_1.1).bind fun x_1 =>
      (rec_ref03_sorted x_1).bind fun x_2 =>
      bif (decide (d0.fKind = 4)) then
        (need ((s_1.2.1.length + 1) * 80 ≤ 140737488355328) <|
        need (inR .i64 (s_1.1 + 1)) <|
        some (.nx (s_1.1 + 1, s_1.2.1 ++ [(⟨x_2.fKind, (x_2.fBool), x_2.fNum, x_2.fText, x_2.fList, x_2.fKeys⟩ : TG0)], s_1.2.2)))
      else
        (loopF (ref03_sorted_s2 n d0 s_1) n (0 : Int)).bind fun y_1 =>
        need (0 ≤ y_1 ∧ y_1 ≤ (s_1.2.2.length : Int)) <|
        need ((([] : List (List UInt8)).length + (s_1.2.2.length - y_1.toNat)) * 16 ≤ 140737488355328) <|
        need (0 ≤ y_1 ∧ y_1 ≤ (s_1.2.1.length : Int)) <|
        need ((([] : List TG0).length + (s_1.2.1.length - y_1.toNat)) * 80 ≤ 140737488355328) <|
        (((getI d0.fKeys s_1.1).bind fun x_5 =>
          need (0 ≤ y_1 ∧ y_1 ≤ (s_1.2.2.length : Int)) <|
          need (((s_1.2.2.take y_1.toNat).length + 1) * 16 ≤ 140737488355328) <|
          need ((((s_1.2.2.take y_1.toNat) ++ [x_5]).length + (([] : List (List UInt8)) ++ (s_1.2.2.take s_1.2.2.length).drop y_1.toNat).length) * 16 ≤ 140737488355328) <|
          some (((s_1.2.2.take y_1.toNat) ++ [x_5]) ++ (([] : List (List UInt8)) ++ (s_1.2.2.take s_1.2.2.length).drop y_1.toNat)) : Option (List (List UInt8)))).bind fun y_2 =>
        ((need (0 ≤ y_1 ∧ y_1 ≤ (s_1.2.1.length : Int)) <|
          need (((s_1.2.1.take y_1.toNat).length + 1) * 80 ≤ 140737488355328) <|
          need ((((s_1.2.1.take y_1.toNat) ++ [(⟨x_2.fKind, (x_2.fBool), x_2.fNum, x_2.fText, x_2.fList, x_2.fKeys⟩ : TG0)]).length + (([] : List TG0) ++ (s_1.2.1.take s_1.2.1.length).drop y_1.toNat).length) * 80 ≤ 140737488355328) <|
          some (((s_1.2.1.take y_1.toNat) ++ [(⟨x_2.fKind, (x_2.fBool), x_2.fNum, x_2.fText, x_2.fList, x_2.fKeys⟩ : TG0)]) ++ (([] : List TG0) ++ (s_1.2.1.take s_1.2.1.length).drop y_1.toNat)) : Option (List TG0))).bind fun y_3 =>
        need (inR .i64 (s_1.1 + 1)) <|
        some (.nx (s_1.1 + 1, y_3, y_2)))
    else
      some (.br (s_1.2.1, s_1.2.2))
def ref03_sorted_b (n : Nat) (rec_ref03_sorted : TG0 → Option TG0) (d0 : TG0) : Option TG0 :=
  (loopF (ref03_sorted_s1 n rec_ref03_sorted d0) n ((0 : Int), ([] : List TG0), ([] : List (List UInt8)))).bind fun y_4 =>
  some ((⟨d0.fKind, (d0.fBool), d0.fNum, d0.fText, y_4.1, y_4.2⟩ : TG0))
set_option maxRecDepth 20000 in
theorem ref03_sorted_b_ok (n : Nat) (rec_ref03_sorted : TG0 → Option TG0) (hrec_ref03_sorted : ∀ (M : Mem) (c0 : List Value) (d0 : TG0) (h0 : Rep M (emb_TG0 d0) c0) (r : TG0) (hF : rec_ref03_sorted d0 = some r), Ok Tryz.prog M 78 [.agg c0.toArray] (fun M' v => ∃ (c0 : List Value), v = .agg c0.toArray ∧ Rep M' (emb_TG0 r) c0)) (M : Mem) (c0 : List Value) (d0 : TG0) (h0 : Rep M (emb_TG0 d0) c0) (r : TG0) (hF : ref03_sorted_b n rec_ref03_sorted d0 = some r) : Ok Tryz.prog M 78 [.agg c0.toArray] (fun M' v => ∃ (c0 : List Value), v = .agg c0.toArray ∧ Rep M' (emb_TG0 r) c0) := by
 unfold ref03_sorted_b at hF
 intro M1 hM0 w0 H w p0
 replace h0 := Rep.mono hM0 _ _ h0
 obtain ⟨A_1, cap_1, A_2, cap_2, rfl, h_1, h_2⟩ := TG0.opn h0
 refine R_enter 97 Tryz.func78 rfl rfl (by simp) fun a0 f0 => RR (Y13 (cs := #[.int .i8 d0.fKind, .bool d0.fBool, .int .i64 d0.fNum, S d0.fText, .slice A_1 d0.fList.length cap_1, .slice A_2 d0.fKeys.length cap_2]) (T := 71) f0 p0 fun b_1 M_1 w_1 hM_1 hc_1 p_1 _ f => ?_)
 have hc_2 := fz_box hc_1
 refine Y12 f p_1 (.cells #[.int .i8 0, .bool false, .int .i64 0, S [], .slice none 0 0, .slice none 0 0] 71 (0, 0)) fun b_2 w_2 p_2 _ f => eT (RR (Y f 1 fun _ f => Y15 f p_2 hc_2 0 rfl fun _ f => Y f 1 fun _ f => Y15 f p_2 hc_2 1 rfl fun _ f => Y f 1 fun _ f => Y15 f p_2 hc_2 2 rfl fun _ f => Y f 1 fun _ f => Y15 f p_2 hc_2 3 rfl fun _ f => Y f 1 fun _ f => ?_))
 refine Y12 f p_2 (.cells #[.int .i8 0, .bool false, .int .i64 0, S [], .slice none 0 0, .slice none 0 0] 71 (0, 0)) fun b_3 w_3 p_3 _ f => Y28 (vs := [.int .i8 d0.fKind, .bool d0.fBool, .int .i64 d0.fNum, S d0.fText, .slice none 0 0, .slice none 0 0]) (j := 0) f p_3 rfl rfl (by simp [Value.oneCell', S]) (by simp) (by decide) (cs' := #[.int .i8 d0.fKind, .bool d0.fBool, .int .i64 d0.fNum, S d0.fText, .slice none 0 0, .slice none 0 0]) (by kernel_rfl) fun w_4 p_4 _ f => eT (R_seq (RR (Y f 1 fun _ f => eT (wp_block ?_))))
 obtain ⟨A_3, cap_3, hv_1⟩ : ∃ A cap, Value.slice none 0 0 = .slice A ([] : List TG0).length cap := ⟨none, 0, rfl⟩
 have p_5 : Hp w0 M_1 ((Ent.row 71 6 (.slice A_3 ([] : List TG0).length cap_3) ([] : List TG0).length []) :: (Ent.obj b_3 (.cells #[.int .i8 d0.fKind, .bool d0.fBool, .int .i64 d0.fNum, S d0.fText, .slice A_3 ([] : List TG0).length cap_3, .slice none 0 0] 71 (0, 0))) :: (Ent.obj b_2 (.cells #[.int .i8 0, .bool false, .int .i64 0, S [], .slice none 0 0, .slice none 0 0] 71 (0, 0))) :: H) w_4 := by rw [← hv_1]; exact p_4.nilRow 71 6
 have hr_1 : RepSeq M_1 (([] : List TG0).map emb_TG0) [] := rfl
 obtain ⟨A_4, cap_4, hv_2⟩ : ∃ A cap, Value.slice none 0 0 = .slice A ([] : List (List UInt8)).length cap := ⟨none, 0, rfl⟩
 have p_6 : Hp w0 M_1 ((Ent.row 9 1 (.slice A_4 ([] : List (List UInt8)).length cap_4) ([] : List (List UInt8)).length []) :: (Ent.row 71 6 (.slice A_3 ([] : List TG0).length cap_3) ([] : List TG0).length []) :: (Ent.obj b_3 (.cells #[.int .i8 d0.fKind, .bool d0.fBool, .int .i64 d0.fNum, S d0.fText, .slice A_3 ([] : List TG0).length cap_3, .slice A_4 ([] : List (List UInt8)).length cap_4] 71 (0, 0))) :: (Ent.obj b_2 (.cells #[.int .i8 0, .bool false, .int .i64 0, S [], .slice none 0 0, .slice none 0 0] 71 (0, 0))) :: H) w_4 := by rw [← hv_2]; exact p_5.nilRow 9 1
 have hr_2 : RepSeq M_1 (([] : List (List UInt8)).map Dat.str) [] := rfl
 have p_10 := p_6.pl [3, 3, 2, 3]
 obtain ⟨b_4, hL_1, hF_1⟩ := bS hF
 refine wp_mono (Q := fun e a w => (e = .exit 0 ∧ (∃ y_4 : List TG0 × List (List UInt8), b_4 = y_4 ∧ ∃ M_14 : Mem, M_1.le M_14 ∧ ∃ (A_44 : Option Addr), ∃ (cap_45 : Nat), ∃ (cs_20 : List Value), ∃ (A_45 : Option Addr), ∃ (cap_46 : Nat), ∃ (cs_21 : List Value), RepSeq M_14 (y_4.1.map emb_TG0) cs_20 ∧ RepSeq M_14 (y_4.2.map Dat.str) cs_21 ∧ Frm 97 [(2, .pointer (some (⟨b_2, 0, none⟩))), (3, .pointer (some (⟨b_3, 0, none⟩)))] a ∧ Hp w0 M_14 ((Ent.row 71 6 (.slice A_44 y_4.1.length cap_45) y_4.1.length cs_20) :: (Ent.row 9 1 (.slice A_45 y_4.2.length cap_46) y_4.2.length cs_21) :: (Ent.obj b_3 (.cells #[.int .i8 d0.fKind, .bool d0.fBool, .int .i64 d0.fNum, S d0.fText, .slice A_44 y_4.1.length cap_45, .slice A_45 y_4.2.length cap_46] 71 (0, 0))) :: (Ent.obj b_2 (.cells #[.int .i8 0, .bool false, .int .i64 0, S [], .slice none 0 0, .slice none 0 0] 71 (0, 0))) :: H) w))) (R_loop (n := 97) (w0 := w0) (M := M_1) (fun (x : Nat × (Int × List TG0 × List (List UInt8)) × (Option Addr) × Nat × (List Value) × (Option Addr) × Nat × (List Value)) => match x with | (m_1, s_1, A_5, cap_5, cs_1, A_6, cap_6, cs_2) => [(1, .pointer (some (⟨b_1, 0, none⟩))), (2, .pointer (some (⟨b_2, 0, none⟩))), (3, .pointer (some (⟨b_3, 0, none⟩))), (4, .int .i64 s_1.1)]) (fun (x : Nat × (Int × List TG0 × List (List UInt8)) × (Option Addr) × Nat × (List Value) × (Option Addr) × Nat × (List Value)) => match x with | (m_1, s_1, A_5, cap_5, cs_1, A_6, cap_6, cs_2) => ((Ent.row 71 6 (.slice A_5 s_1.2.1.length cap_5) s_1.2.1.length cs_1) :: (Ent.row 9 1 (.slice A_6 s_1.2.2.length cap_6) s_1.2.2.length cs_2) :: (Ent.obj b_3 (.cells #[.int .i8 d0.fKind, .bool d0.fBool, .int .i64 d0.fNum, S d0.fText, .slice A_5 s_1.2.1.length cap_5, .slice A_6 s_1.2.2.length cap_6] 71 (0, 0))) :: (Ent.obj b_2 (.cells #[.int .i8 0, .bool false, .int .i64 0, S [], .slice none 0 0, .slice none 0 0] 71 (0, 0))) :: H)) (fun (x : Nat × (Int × List TG0 × List (List UInt8)) × (Option Addr) × Nat × (List Value) × (Option Addr) × Nat × (List Value)) (MM : Mem) => match x with | (m_1, s_1, A_5, cap_5, cs_1, A_6, cap_6, cs_2) => loopF (ref03_sorted_s1 n rec_ref03_sorted d0) m_1 s_1 = some b_4 ∧ RepSeq MM (s_1.2.1.map emb_TG0) cs_1 ∧ RepSeq MM (s_1.2.2.map Dat.str) cs_2) (fun (x : Nat × (Int × List TG0 × List (List UInt8)) × (Option Addr) × Nat × (List Value) × (Option Addr) × Nat × (List Value)) => match x with | (m_1, s_1, A_5, cap_5, cs_1, A_6, cap_6, cs_2) => m_1) (n, ((0 : Int), ([] : List TG0), ([] : List (List UInt8))), A_3, cap_3, [], A_4, cap_4, []) (f.kp) p_10 ⟨hL_1, hr_1, hr_2⟩ ?_) ?_
 ·rintro ⟨m_1, s_1, A_5, cap_5, cs_1, A_6, cap_6, cs_2⟩ M_2 _ w_5 hM_2 I_1 f p_11
  obtain ⟨I_1L, hr_3, hr_4⟩ := I_1
  obtain ⟨m_2, r_1, rfl, hs_1, hn_1⟩ := loop_step I_1L
  unfold ref03_sorted_s1 at hs_1
  refine R_seq (RR (Y f 2 fun _ f => Y15 f p_11 (fzu hM_2 hc_2) 4 rfl fun _ f => Y f 2 fun _ f => eT (RcF f hs_1 (fun h_3 hF_2 => ?_) fun h_3 hF_31 => ?_)))
  ·have k_1 := dI.1 h_3
   refine wp_skip (T_n (R_seq (wp_block (RR (Y f 1 fun _ f => Y15 f p_11 (fzu hM_2 hc_2) 4 rfl fun _ f => Y f 1 fun _ f => ?_)))))
   obtain ⟨x_1, hx_1, hF_3⟩ := bS hF_2
   obtain ⟨ad_1, c_1, e_1, -, hr_5, hc_3⟩ := Sli.at_ (h_1.mono (hM_1.trans hM_2)) hx_1
   obtain ⟨A_7, cap_7, A_8, cap_8, rfl, h_4, h_5⟩ := TG0.opn hr_5
   refine Z f (Y33 e_1 rfl (len := d0.fList.length) (cap := cap_1) (k := .i64) (i := s_1.1) (e := 71) (sz := 6) (getI_nn hx_1) (getI_lt hx_1)) fun _ f => Z (v := .agg #[.int .i8 x_1.fKind, .bool x_1.fBool, .int .i64 x_1.fNum, S x_1.fText, .slice A_7 x_1.fList.length cap_7, .slice A_8 x_1.fKeys.length cap_8]) f (Y35 (cs := [.int .i8 x_1.fKind, .bool x_1.fBool, .int .i64 x_1.fNum, S x_1.fText, .slice A_7 x_1.fList.length cap_7, .slice A_8 x_1.fKeys.length cap_8]) rfl (ad := ad_1.add (s_1.1.toNat * 6)) (fun j v h => p_11.cell (hc_3 j v h))) fun _ f => ?_
   obtain ⟨x_2, hx_2, hF_4⟩ := bS hF_3
   refine Y16 f p_11 (hrec_ref03_sorted _ _ x_1 (TG0.shutx (x := x_1) h_4 h_5) x_2 hx_2) fun _ M_3 w_6 hM_3 p_12 q_1 _ f => ?_
   obtain ⟨c_2, rfl, hr_6⟩ := q_1
   obtain ⟨A_9, cap_9, A_10, cap_10, rfl, h_6, h_7⟩ := TG0.opn hr_6
   refine Y12 f p_12 (.cells #[.int .i8 0, .bool false, .int .i64 0, S [], .slice none 0 0, .slice none 0 0] 71 (0, 0)) fun b_5 w_7 p_13 _ f => Y28 (vs := [.int .i8 x_2.fKind, .bool x_2.fBool, .int .i64 x_2.fNum, S x_2.fText, .slice A_9 x_2.fList.length cap_9, .slice A_10 x_2.fKeys.length cap_10]) (j := 0) f p_13 rfl rfl (by simp [Value.oneCell', S]) (by simp) (by decide) (cs' := #[.int .i8 x_2.fKind, .bool x_2.fBool, .int .i64 x_2.fNum, S x_2.fText, .slice A_9 x_2.fList.length cap_9, .slice A_10 x_2.fKeys.length cap_10]) (by kernel_rfl) fun w_8 p_14 _ f => eT (R_seq (RR (Y f 1 fun _ f => Y15 f p_14 (fzu (hM_2.trans hM_3) hc_2) 0 rfl fun _ f => Y f 1 fun _ f => eT (RcF f hF_4 (fun h_8 hF_5 => ?_) fun h_8 hF_8 => ?_))))
   ·have k_2 := dI.1 h_8
    refine RR (Y f 1 fun _ f => Z f (Y34 (v := .slice A_5 s_1.2.1.length cap_5) rfl (ad := ⟨b_3, 4, none⟩) (p_14.ownCell 3 rfl 4)) fun _ f => Z (v := .agg #[.int .i8 x_2.fKind, .bool x_2.fBool, .int .i64 x_2.fNum, S x_2.fText, .slice A_9 x_2.fList.length cap_9, .slice A_10 x_2.fKeys.length cap_10]) f (Y35 (cs := [.int .i8 x_2.fKind, .bool x_2.fBool, .int .i64 x_2.fNum, S x_2.fText, .slice A_9 x_2.fList.length cap_9, .slice A_10 x_2.fKeys.length cap_10]) rfl (ad := ⟨b_5, 0, none⟩) (own_cells (p_14.ownCell 0 rfl) 0 rfl)) fun _ f => V_allocS (k := 1) (c := 1) f p_14 (.cells #[.int .i8 x_2.fKind, .bool x_2.fBool, .int .i64 x_2.fNum, S x_2.fText, .slice A_9 x_2.fList.length cap_9, .slice A_10 x_2.fKeys.length cap_10] 71 (0, 0)) (by kernel_rfl) (fun _ => by kernel_rfl) fun b_6 w_9 p_15 _ f => ?_)
    have p_16 := p_15.pl [2]
    obtain ⟨g_1, hF_6⟩ := nS hF_5
    refine Y22 (z := .agg #[.int .i8 0, .bool false, .int .i64 0, S [], .slice none 0 0, .slice none 0 0]) (f := emb_TG0) (xs := s_1.2.1) (ys := [(⟨x_2.fKind, (x_2.fBool), x_2.fNum, x_2.fText, x_2.fList, x_2.fKeys⟩ : TG0)]) (news := [.int .i8 x_2.fKind, .bool x_2.fBool, .int .i64 x_2.fNum, S x_2.fText, .slice A_9 x_2.fList.length cap_9, .slice A_10 x_2.fKeys.length cap_10]) (ad := ⟨b_6, 0, none⟩) (m := 1) (c := 1) f p_16 (RepSeq.mono hM_3 _ _ hr_3) (by exact ⟨_, _, rfl, TG0.shut h_6 h_7, rfl⟩) rfl rfl rfl rfl (own_cells (p_16.ownCell 1 rfl) 0 rfl) (by exact g_1) (by have hg_ := g_1; first | omega | (simp only [List.length_cons, List.length_nil] at *; omega)) fun A_11 cap_11 cs_3 w_10 p_17 hr_7 _ f => ?_
    have p_18 := p_17.pl [1]
    have p_19 := p_18.drop
    refine Y f 1 fun _ f => Y27 f p_19 3 rfl rfl (b := b_3) (j := 4) (v := .slice A_11 (s_1.2.1 ++ [(⟨x_2.fKind, (x_2.fBool), x_2.fNum, x_2.fText, x_2.fList, x_2.fKeys⟩ : TG0)]).length cap_11) rfl (by exact rfl) (by simp) (by simp) ((Ent.row 71 6 (.slice A_11 (s_1.2.1 ++ [(⟨x_2.fKind, (x_2.fBool), x_2.fNum, x_2.fText, x_2.fList, x_2.fKeys⟩ : TG0)]).length cap_11) (s_1.2.1 ++ [(⟨x_2.fKind, (x_2.fBool), x_2.fNum, x_2.fText, x_2.fList, x_2.fKeys⟩ : TG0)]).length cs_3) :: (Ent.obj b_5 (.cells #[.int .i8 x_2.fKind, .bool x_2.fBool, .int .i64 x_2.fNum, S x_2.fText, .slice A_9 x_2.fList.length cap_9, .slice A_10 x_2.fKeys.length cap_10] 71 (0, 0))) :: (Ent.row 9 1 (.slice A_6 s_1.2.2.length cap_6) s_1.2.2.length cs_2) :: (Ent.obj b_3 (.cells #[.int .i8 d0.fKind, .bool d0.fBool, .int .i64 d0.fNum, S d0.fText, .slice A_11 (s_1.2.1 ++ [(⟨x_2.fKind, (x_2.fBool), x_2.fNum, x_2.fText, x_2.fList, x_2.fKeys⟩ : TG0)]).length cap_11, .slice A_6 s_1.2.2.length cap_6] 71 (0, 0))) :: (Ent.obj b_2 (.cells #[.int .i8 0, .bool false, .int .i64 0, S [], .slice none 0 0, .slice none 0 0] 71 (0, 0))) :: H) rfl fun w_11 p_20 _ f => eT (wp_exit (T_x (B_x (T_n (R_reg (Y f 1 fun _ f => ?_))))))
    obtain ⟨g_2, hF_7⟩ := nS hF_6
    refine Y f 1 fun _ f => ?_
    have f := f.st 24 (congrArg (Value.int .i64) (inR_wrap g_2))
    refine Y f 1 fun _ f => W_end rfl ?_
    have p_127 := p_20.pl [4, 4, 4, 3, 4]
    refine T_n ?_
    obtain rfl := sI hF_7
    exact ⟨⟨m_2, (s_1.1 + 1, s_1.2.1 ++ [(⟨x_2.fKind, (x_2.fBool), x_2.fNum, x_2.fText, x_2.fList, x_2.fKeys⟩ : TG0)], s_1.2.2), A_11, cap_11, cs_3, A_6, cap_6, cs_2⟩, Nat.lt_succ_self _, M_3, (hM_2.trans hM_3), ⟨hn_1, hr_7, (RepSeq.mono hM_3 _ _ hr_4)⟩, f.kp, (p_127.dropN 1)⟩
   ·have k_3 := iff_f dI h_8
    refine wp_skip (T_n (RR (Y f 1 fun _ f => eT (R_seq (wp_block ?_)))))
    obtain ⟨b_7, hL_2, hF_9⟩ := bS hF_8
    refine wp_mono (Q := fun e a w => (e = .exit 2 ∧ (∃ y_1 : Int, b_7 = y_1 ∧ ∃ M_5 : Mem, M_3.le M_5 ∧ Frm 97 [(1, .pointer (some (⟨b_1, 0, none⟩))), (2, .pointer (some (⟨b_2, 0, none⟩))), (3, .pointer (some (⟨b_3, 0, none⟩))), (4, .int .i64 s_1.1), (5, .pointer (some (⟨b_5, 0, none⟩))), (6, .int .i64 y_1)] a ∧ Hp w0 M_5 ((Ent.obj b_5 (.cells #[.int .i8 x_2.fKind, .bool x_2.fBool, .int .i64 x_2.fNum, S x_2.fText, .slice A_9 x_2.fList.length cap_9, .slice A_10 x_2.fKeys.length cap_10] 71 (0, 0))) :: (Ent.row 71 6 (.slice A_5 s_1.2.1.length cap_5) s_1.2.1.length cs_1) :: (Ent.row 9 1 (.slice A_6 s_1.2.2.length cap_6) s_1.2.2.length cs_2) :: (Ent.obj b_3 (.cells #[.int .i8 d0.fKind, .bool d0.fBool, .int .i64 d0.fNum, S d0.fText, .slice A_5 s_1.2.1.length cap_5, .slice A_6 s_1.2.2.length cap_6] 71 (0, 0))) :: (Ent.obj b_2 (.cells #[.int .i8 0, .bool false, .int .i64 0, S [], .slice none 0 0, .slice none 0 0] 71 (0, 0))) :: H) w))) (R_loop (n := 97) (w0 := w0) (M := M_3) (fun (x : Nat × Int) => match x with | (m_3, s_2) => [(1, .pointer (some (⟨b_1, 0, none⟩))), (2, .pointer (some (⟨b_2, 0, none⟩))), (3, .pointer (some (⟨b_3, 0, none⟩))), (4, .int .i64 s_1.1), (5, .pointer (some (⟨b_5, 0, none⟩))), (6, .int .i64 s_2)]) (fun (x : Nat × Int) => match x with | (m_3, s_2) => ((Ent.obj b_5 (.cells #[.int .i8 x_2.fKind, .bool x_2.fBool, .int .i64 x_2.fNum, S x_2.fText, .slice A_9 x_2.fList.length cap_9, .slice A_10 x_2.fKeys.length cap_10] 71 (0, 0))) :: (Ent.row 71 6 (.slice A_5 s_1.2.1.length cap_5) s_1.2.1.length cs_1) :: (Ent.row 9 1 (.slice A_6 s_1.2.2.length cap_6) s_1.2.2.length cs_2) :: (Ent.obj b_3 (.cells #[.int .i8 d0.fKind, .bool d0.fBool, .int .i64 d0.fNum, S d0.fText, .slice A_5 s_1.2.1.length cap_5, .slice A_6 s_1.2.2.length cap_6] 71 (0, 0))) :: (Ent.obj b_2 (.cells #[.int .i8 0, .bool false, .int .i64 0, S [], .slice none 0 0, .slice none 0 0] 71 (0, 0))) :: H)) (fun (x : Nat × Int) (MM : Mem) => match x with | (m_3, s_2) => loopF (ref03_sorted_s2 n d0 s_1) m_3 s_2 = some b_7) (fun (x : Nat × Int) => match x with | (m_3, s_2) => m_3) (n, (0 : Int)) (f.kp) p_14 hL_2 ?_) ?_
    ·rintro ⟨m_3, s_2⟩ M_4 _ w_12 hM_4 I_2 f p_21
     have I_2L := I_2
     obtain ⟨m_4, r_2, rfl, hs_2, hn_2⟩ := loop_step I_2L
     unfold ref03_sorted_s2 at hs_2
     refine R_seq (R_seq (R_draw p_21 (by kernel_rfl) (by kernel_rfl) (Y5 default f 2 fun _ f => Y2 (v := .slice A_6 s_1.2.2.length cap_6) f (fun _ pq => Y34 (v := .slice A_6 s_1.2.2.length cap_6) rfl (ad := ⟨b_3, 5, none⟩) (pq.ownCell 3 rfl 5)) fun _ f => Y5 default f 3 fun _ f => ?_)))
     rcases cE hs_2 with ⟨h_9, hF_10⟩ | ⟨h_9, hF_16⟩
     ·have k_4 := dI.1 h_9
      have f := f.st 45 (cB h_9)
      refine Y5 default f 1 fun _ f => Y2 (v := .slice A_6 s_1.2.2.length cap_6) f (fun _ pq => Y34 (v := .slice A_6 s_1.2.2.length cap_6) rfl (ad := ⟨b_3, 5, none⟩) (pq.ownCell 3 rfl 5)) fun _ f => Y5 default f 1 fun _ f => ?_
      obtain ⟨x_3, hx_3, hF_11⟩ := bS hF_10
      obtain ⟨b_8, cap_12, hv_3, hcap_1⟩ := p_21.rowAddr 2 rfl (getI_pos hx_3)
      have f := f.st 47 (hv_3)
      refine Y2 (v := .pointer (some ((⟨b_8, 0, none⟩ : Addr).add (s_2.toNat * 1)))) f (fun _ pq => Y32 rfl (ad := ⟨b_8, 0, none⟩) (len := s_1.2.2.length) (cap := cap_12) (k := .i64) (i := s_2) (e := 9) (sz := 1) (getI_nn hx_3) (getI_lt hx_3)) fun _ f => ?_
      have f := f.st 47 (hv_3.symm)
      obtain ⟨c_3, -, hr_8, hc_4⟩ := RepSeq.get s_2.toNat (szd_all szd_str) (RepSeq.mono (hM_3.trans hM_4) _ _ hr_4) (getI_map hx_3)
      obtain rfl : c_3 = [S x_3] := hr_8
      refine Y2 (v := S x_3) f (fun _ pq => Y34 (v := S x_3) rfl (ad := (⟨b_8, 0, none⟩ : Addr).add (s_2.toNat * 1)) (by simpa [Addr.add] using (fun j v h => row_at (pq.rowCell 2 rfl hv_3) hc_4 j v h) 0 _ rfl)) fun _ f => Y5 default f 1 fun _ f => Y4 f (fzu ((hM_2.trans hM_3).trans hM_4) hc_2) 5 rfl fun _ f => Y5 default f 1 fun _ f => ?_
      obtain ⟨x_4, hx_4, hF_12⟩ := bS hF_11
      obtain ⟨ad_2, c_4, e_2, -, hr_9, hc_5⟩ := Sli.at_ (h_2.mono (((hM_1.trans hM_2).trans hM_3).trans hM_4)) hx_4
      obtain rfl : c_4 = [S x_4] := hr_9
      refine Y2 (v := .pointer (some (ad_2.add (s_1.1.toNat * 1)))) f (fun _ pq => Y33 e_2 rfl (len := d0.fKeys.length) (cap := cap_2) (k := .i64) (i := s_1.1) (e := 9) (sz := 1) (getI_nn hx_4) (getI_lt hx_4)) fun _ f => Y4 f hc_5 0 rfl fun _ f => Y2 (v := .bool (Op.bytesLess x_3 x_4)) f (fun _ pq => X_strlt rfl (l := x_3) (m := x_4) (by kernel_rfl) (by kernel_rfl)) fun _ f => Y5 default f 1 fun _ f => Q_end rfl ?_
      intro w_13 p_22
      refine T_n (RcF f hF_12 (fun h_10 hF_13 => ?_) fun h_10 hF_15 => ?_)
      ·refine wp_skip (T_n (wp_block (R_reg (Y f 1 fun _ f => ?_))))
       obtain ⟨g_3, hF_14⟩ := nS hF_13
       refine Y f 1 fun _ f => ?_
       have f := f.st 59 (congrArg (Value.int .i64) (inR_wrap g_3))
       refine Y f 1 fun _ f => W_end rfl (B_n (T_n ?_))
       obtain rfl := sI hF_14
       exact ⟨⟨m_4, s_2 + 1⟩, Nat.lt_succ_self _, M_4, hM_4, hn_2, f.kp, p_22⟩
      ·refine wp_exit (T_x (T_x ?_))
       obtain rfl := sI hF_15
       exact ⟨rfl, s_2, (sI hn_2).symm, M_4, hM_4, f.kp, p_22⟩
     ·have k_7 := iff_f dI h_9
      have f := f.st 45 (cB h_9)
      refine Y5 default f 12 fun _ f => Q_end rfl ?_
      intro w_14 p_23
      refine T_n (Y7 f (wp_exit (T_x (T_x ?_))))
      obtain rfl := sI hF_16
      exact ⟨rfl, s_2, (sI hn_2).symm, M_4, hM_4, f.kp, p_23⟩
    ·rintro _ _ w_16 ⟨rfl, y_1, hq_, M_5, hM_5, f, p_24⟩
     subst b_7
     refine B_x (T_n (RR (Y f 1 fun _ f => eT (RR (Y f 1 fun _ f => eT (RR (Y f 2 fun _ f => Z f (Y34 (v := .slice A_6 s_1.2.2.length cap_6) rfl (ad := ⟨b_3, 5, none⟩) (p_24.ownCell 3 rfl 5)) fun _ f => Y f 1 fun _ f => ?_)))))))
     obtain ⟨g_4, hF_17⟩ := nS hF_9
     obtain ⟨A_12, cap_13, hv_4, hcap_2, hcn_1⟩ := p_24.rowShape 2 rfl
     have f := f.st 62 (hv_4)
     refine Z f (Y38 rfl (A := A_12) (len := s_1.2.2.length) (cap := cap_13) (k := .i64) (a := y_1) (e := 9) (sz := 1) (by omega) (by omega)) fun _ f => ?_
     have f := f.st 62 (hv_4.symm)
     obtain ⟨A_13, cap_14, hv_5⟩ : ∃ A cap, Value.slice none 0 0 = .slice A ([] : List (List UInt8)).length cap := ⟨none, 0, rfl⟩
     have p_25 : Hp w0 M_5 ((Ent.row 9 1 (.slice A_13 ([] : List (List UInt8)).length cap_14) ([] : List (List UInt8)).length []) :: (Ent.obj b_5 (.cells #[.int .i8 x_2.fKind, .bool x_2.fBool, .int .i64 x_2.fNum, S x_2.fText, .slice A_9 x_2.fList.length cap_9, .slice A_10 x_2.fKeys.length cap_10] 71 (0, 0))) :: (Ent.row 71 6 (.slice A_5 s_1.2.1.length cap_5) s_1.2.1.length cs_1) :: (Ent.row 9 1 (.slice A_6 s_1.2.2.length cap_6) s_1.2.2.length cs_2) :: (Ent.obj b_3 (.cells #[.int .i8 d0.fKind, .bool d0.fBool, .int .i64 d0.fNum, S d0.fText, .slice A_5 s_1.2.1.length cap_5, .slice A_6 s_1.2.2.length cap_6] 71 (0, 0))) :: (Ent.obj b_2 (.cells #[.int .i8 0, .bool false, .int .i64 0, S [], .slice none 0 0, .slice none 0 0] 71 (0, 0))) :: H) w_16 := by rw [← hv_5]; exact p_24.nilRow 9 1
     have f := f.st 60 (hv_5)
     have hr_10 : RepSeq M_5 (([] : List (List UInt8)).map Dat.str) [] := rfl
     obtain ⟨g_5, hF_18⟩ := nS hF_17
     refine Y23 (z := S []) (f := Dat.str) (xs := ([] : List (List UInt8))) (ys := s_1.2.2) (lo := y_1.toNat) (hi := s_1.2.2.length) f p_25 szd_str hr_10 (RepSeq.mono (hM_3.trans hM_5) _ _ hr_4) 3 rfl hv_4 (by omega) (by omega) rfl rfl rfl g_5 (by omega) fun A_14 cap_15 cs_4 w_17 p_26 hr_11 _ f => Y f 1 fun _ f => eT (RR (Y f 2 fun _ f => Z f (Y34 (v := .slice A_5 s_1.2.1.length cap_5) rfl (ad := ⟨b_3, 4, none⟩) (p_26.ownCell 4 rfl 4)) fun _ f => Y f 1 fun _ f => ?_))
     obtain ⟨g_6, hF_19⟩ := nS hF_18
     obtain ⟨A_15, cap_16, hv_6, hcap_3, hcn_2⟩ := p_26.rowShape 2 rfl
     have f := f.st 68 (hv_6)
     refine Z f (Y38 rfl (A := A_15) (len := s_1.2.1.length) (cap := cap_16) (k := .i64) (a := y_1) (e := 71) (sz := 6) (by omega) (by omega)) fun _ f => ?_
     have f := f.st 68 (hv_6.symm)
     obtain ⟨A_16, cap_17, hv_7⟩ : ∃ A cap, Value.slice none 0 0 = .slice A ([] : List TG0).length cap := ⟨none, 0, rfl⟩
     have p_27 : Hp w0 M_5 ((Ent.row 71 6 (.slice A_16 ([] : List TG0).length cap_17) ([] : List TG0).length []) :: (Ent.row 9 1 (.slice A_14 (([] : List (List UInt8)) ++ (s_1.2.2.take s_1.2.2.length).drop y_1.toNat).length cap_15) (([] : List (List UInt8)) ++ (s_1.2.2.take s_1.2.2.length).drop y_1.toNat).length cs_4) :: (Ent.obj b_5 (.cells #[.int .i8 x_2.fKind, .bool x_2.fBool, .int .i64 x_2.fNum, S x_2.fText, .slice A_9 x_2.fList.length cap_9, .slice A_10 x_2.fKeys.length cap_10] 71 (0, 0))) :: (Ent.row 71 6 (.slice A_5 s_1.2.1.length cap_5) s_1.2.1.length cs_1) :: (Ent.row 9 1 (.slice A_6 s_1.2.2.length cap_6) s_1.2.2.length cs_2) :: (Ent.obj b_3 (.cells #[.int .i8 d0.fKind, .bool d0.fBool, .int .i64 d0.fNum, S d0.fText, .slice A_5 s_1.2.1.length cap_5, .slice A_6 s_1.2.2.length cap_6] 71 (0, 0))) :: (Ent.obj b_2 (.cells #[.int .i8 0, .bool false, .int .i64 0, S [], .slice none 0 0, .slice none 0 0] 71 (0, 0))) :: H) w_17 := by rw [← hv_7]; exact p_26.nilRow 71 6
     have f := f.st 66 (hv_7)
     have hr_12 : RepSeq M_5 (([] : List TG0).map emb_TG0) [] := rfl
     obtain ⟨g_7, hF_20⟩ := nS hF_19
     refine Y23 (z := .agg #[.int .i8 0, .bool false, .int .i64 0, S [], .slice none 0 0, .slice none 0 0]) (f := emb_TG0) (xs := ([] : List TG0)) (ys := s_1.2.1) (lo := y_1.toNat) (hi := s_1.2.1.length) f p_27 szd_TG0 hr_12 (RepSeq.mono (hM_3.trans hM_5) _ _ hr_3) 3 rfl hv_6 (by omega) (by omega) rfl rfl rfl g_7 (by omega) fun A_17 cap_18 cs_5 w_18 p_28 hr_13 _ f => Y f 1 fun _ f => eT (R_seq ?_)
     obtain ⟨j_1, hj_1, hF_21⟩ := bS hF_20
     refine R_mid (fun a_110 w_40 => ∃ y_2 : List (List UInt8), j_1 = y_2 ∧ ∃ M_9 : Mem, M_5.le M_9 ∧ ∃ (A_30 : Option Addr), ∃ (cap_31 : Nat), ∃ (cs_12 : List Value), RepSeq M_9 (y_2.map Dat.str) cs_12 ∧ Frm 97 [(1, .pointer (some (⟨b_1, 0, none⟩))), (2, .pointer (some (⟨b_2, 0, none⟩))), (3, .pointer (some (⟨b_3, 0, none⟩))), (4, .int .i64 s_1.1), (5, .pointer (some (⟨b_5, 0, none⟩))), (6, .int .i64 y_1), (8, .slice A_17 (([] : List TG0) ++ (s_1.2.1.take s_1.2.1.length).drop y_1.toNat).length cap_18)] a_110 ∧ Hp w0 M_9 ((Ent.row 9 1 (.slice A_30 y_2.length cap_31) y_2.length cs_12) :: (Ent.row 71 6 (.slice A_17 (([] : List TG0) ++ (s_1.2.1.take s_1.2.1.length).drop y_1.toNat).length cap_18) (([] : List TG0) ++ (s_1.2.1.take s_1.2.1.length).drop y_1.toNat).length cs_5) :: (Ent.obj b_5 (.cells #[.int .i8 x_2.fKind, .bool x_2.fBool, .int .i64 x_2.fNum, S x_2.fText, .slice A_9 x_2.fList.length cap_9, .slice A_10 x_2.fKeys.length cap_10] 71 (0, 0))) :: (Ent.row 71 6 (.slice A_5 s_1.2.1.length cap_5) s_1.2.1.length cs_1) :: (Ent.obj b_3 (.cells #[.int .i8 d0.fKind, .bool d0.fBool, .int .i64 d0.fNum, S d0.fText, .slice A_5 s_1.2.1.length cap_5, .slice A_30 y_2.length cap_31] 71 (0, 0))) :: (Ent.obj b_2 (.cells #[.int .i8 0, .bool false, .int .i64 0, S [], .slice none 0 0, .slice none 0 0] 71 (0, 0))) :: H) w_40) ?_ ?_
     ·have p_44 := p_28.pl [6, 6, 5, 5, 4, 6, 6]
      obtain ⟨x_5, hx_5, hF_22⟩ := bS hj_1
      obtain ⟨g_8, hF_23⟩ := nS hF_22
      obtain ⟨g_9, hF_24⟩ := nS hF_23
      obtain ⟨g_10, hF_25⟩ := nS hF_24
      refine R_plan (ks := [13, 14]) (E := [Ent.row 9 1 (.slice A_14 (([] : List (List UInt8)) ++ (s_1.2.2.take s_1.2.2.length).drop y_1.toNat).length cap_15) (([] : List (List UInt8)) ++ (s_1.2.2.take s_1.2.2.length).drop y_1.toNat).length cs_4, Ent.row 9 1 (.slice A_6 s_1.2.2.length cap_6) s_1.2.2.length cs_2]) (Hr := ((Ent.row 71 6 (.slice A_17 (([] : List TG0) ++ (s_1.2.1.take s_1.2.1.length).drop y_1.toNat).length cap_18) (([] : List TG0) ++ (s_1.2.1.take s_1.2.1.length).drop y_1.toNat).length cs_5) :: (Ent.obj b_5 (.cells #[.int .i8 x_2.fKind, .bool x_2.fBool, .int .i64 x_2.fNum, S x_2.fText, .slice A_9 x_2.fList.length cap_9, .slice A_10 x_2.fKeys.length cap_10] 71 (0, 0))) :: (Ent.row 71 6 (.slice A_5 s_1.2.1.length cap_5) s_1.2.1.length cs_1) :: (Ent.obj b_3 (.cells #[.int .i8 d0.fKind, .bool d0.fBool, .int .i64 d0.fNum, S d0.fText, .slice A_5 s_1.2.1.length cap_5, .slice A_6 s_1.2.2.length cap_6] 71 (0, 0))) :: (Ent.obj b_2 (.cells #[.int .i8 0, .bool false, .int .i64 0, S [], .slice none 0 0, .slice none 0 0] 71 (0, 0))) :: H)) (.quiet 0 (.quiet 1 (.quiet 2 (.quiet 4 (.quiet 5 (.quiet 6 (.quiet 7 (.quiet 8 (.quiet 11 (.alt 3 (.alt 9 (.alt 10 (.alt 12 .done .none) .none) .none) (.alt 9 (.alt 3 (.alt 10 (.alt 12 .done .none) .none) .none) .none))))))))))) p_44 (by kernel_rfl) (by kernel_rfl) (by kernel_rfl) (Y1 (v := .pointer (some (⟨b_3, 5, none⟩))) rfl f rfl rfl (fun _ _ => by kernel_rfl) fun _ f => Y1 (v := .slice A_6 s_1.2.2.length cap_6) rfl f rfl rfl (fun _ pq => Y34 (v := .slice A_6 s_1.2.2.length cap_6) rfl (ad := ⟨b_3, 5, none⟩) (pq.ownCell 3 rfl 5)) fun _ f => Y1 (v := .int .i64 y_1) rfl f rfl rfl (fun _ _ => by kernel_rfl) fun _ f => Y1 (v := .pointer (some ((⟨b_1, 0, none⟩ : Addr).add 5))) rfl f rfl rfl (fun _ _ => by kernel_rfl) fun _ f => Y1 (v := .slice A_2 d0.fKeys.length cap_2) rfl f rfl rfl (fun _ pq => Y34 (v := .slice A_2 d0.fKeys.length cap_2) rfl (ad := (⟨b_1, 0, none⟩ : Addr).add 5) (pq.cell ((fzu ((hM_2.trans hM_3).trans hM_5) hc_2) 5 _ rfl))) fun _ f => Y1 (v := .int .i64 s_1.1) rfl f rfl rfl (fun _ _ => by kernel_rfl) fun _ f => ?_)
      obtain ⟨ad_4, c_6, e_4, -, hr_18, hc_7⟩ := Sli.at_ (h_2.mono (((hM_1.trans hM_2).trans hM_3).trans hM_5)) hx_5
      obtain rfl : c_6 = [S x_5] := hr_18
      refine Y1 (v := .pointer (some (ad_4.add (s_1.1.toNat * 1)))) rfl f rfl rfl (fun _ pq => Y33 e_4 rfl (len := d0.fKeys.length) (cap := cap_2) (k := .i64) (i := s_1.1) (e := 9) (sz := 1) (getI_nn hx_5) (getI_lt hx_5)) fun _ f => Y1 (v := S x_5) rfl f rfl rfl (fun _ pq => Y34 (v := S x_5) rfl (ad := ad_4.add (s_1.1.toNat * 1)) (pq.cell (hc_7 0 _ rfl))) fun _ f => Y1 (v := .slice A_14 (([] : List (List UInt8)) ++ (s_1.2.2.take s_1.2.2.length).drop y_1.toNat).length cap_15) rfl f rfl rfl (fun _ _ => by kernel_rfl) fun _ f => N_alt rfl (fun w_22 p_45 => ?_) ?_
      ·obtain ⟨A_22, cap_23, hv_10, hcap_5, hcn_4⟩ := p_45.rowShape 1 rfl
       have f := f.st 73 (hv_10)
       refine Z f (Y39 rfl (A := A_22) (len := s_1.2.2.length) (cap := cap_23) (k' := .i64) (b := y_1) (e := 9) (sz := 1) (by omega) (by omega)) fun _ f => ?_
       have f := f.st 73 (hv_10.symm)
       refine W_end rfl (N_goN 2 (mR _) p_45 rfl (N_alt rfl (fun w_23 p_46 => ?_) ?_))
       ·refine V_allocS (k := 1) (c := 1) f p_46 (.cells #[S x_5] 9 (0, 0)) (by kernel_rfl) (fun _ => by kernel_rfl) fun b_10 w_24 p_47 _ f => W_end rfl (N_goN 3 (mR _) p_47 rfl (N_alt rfl (fun w_25 p_48 => ?_) ?_))
        ·have p_49 := p_48.pl [2]
         have hr_19 : RepSeq M_5 ((s_1.2.2.take y_1.toNat).map Dat.str) (cs_2.take (y_1.toNat * 1)) := by rw [List.map_take]; exact RepSeq.takeD _ (szd_all szd_str) (RepSeq.mono (hM_3.trans hM_5) _ _ hr_4)
         have hl_7 : (s_1.2.2.take y_1.toNat).length = y_1.toNat := by rw [List.length_take]; omega
         have p_50 : Hp w0 M_5 ((Ent.row 9 1 (.slice (cutA A_22 1 0 cap_23) (s_1.2.2.take y_1.toNat).length cap_23) (s_1.2.2.take y_1.toNat).length (cs_2.take (y_1.toNat * 1))) :: (Ent.obj b_10 (.cells #[S x_5] 9 (0, 0))) :: (Ent.row 9 1 (.slice A_14 (([] : List (List UInt8)) ++ (s_1.2.2.take s_1.2.2.length).drop y_1.toNat).length cap_15) (([] : List (List UInt8)) ++ (s_1.2.2.take s_1.2.2.length).drop y_1.toNat).length cs_4) :: (Ent.row 71 6 (.slice A_17 (([] : List TG0) ++ (s_1.2.1.take s_1.2.1.length).drop y_1.toNat).length cap_18) (([] : List TG0) ++ (s_1.2.1.take s_1.2.1.length).drop y_1.toNat).length cs_5) :: (Ent.obj b_5 (.cells #[.int .i8 x_2.fKind, .bool x_2.fBool, .int .i64 x_2.fNum, S x_2.fText, .slice A_9 x_2.fList.length cap_9, .slice A_10 x_2.fKeys.length cap_10] 71 (0, 0))) :: (Ent.row 71 6 (.slice A_5 s_1.2.1.length cap_5) s_1.2.1.length cs_1) :: (Ent.obj b_3 (.cells #[.int .i8 d0.fKind, .bool d0.fBool, .int .i64 d0.fNum, S d0.fText, .slice A_5 s_1.2.1.length cap_5, .slice A_6 s_1.2.2.length cap_6] 71 (0, 0))) :: (Ent.obj b_2 (.cells #[.int .i8 0, .bool false, .int .i64 0, S [], .slice none 0 0, .slice none 0 0] 71 (0, 0))) :: H) w_25 := by rw [hl_7]; exact p_49.rowFront hv_10 (by omega)
         have f := Frm.set f 75 (v := .slice (cutA A_22 1 0 cap_23) y_1.toNat cap_23) (v' := .slice (cutA A_22 1 0 cap_23) (s_1.2.2.take y_1.toNat).length cap_23) (by kernel_rfl) (by rw [hl_7])
         refine Y22 (z := S []) (f := Dat.str) (xs := s_1.2.2.take y_1.toNat) (ys := [x_5]) (news := [S x_5]) (ad := ⟨b_10, 0, none⟩) (m := 1) (c := 1) f p_50 hr_19 (by exact ⟨_, _, rfl, rfl, rfl⟩) rfl rfl rfl rfl (own_cells (p_50.ownCell 1 rfl) 0 rfl) (by exact g_9) (by have hg_ := g_9; first | omega | (simp only [List.length_cons, List.length_nil] at *; omega)) fun A_23 cap_24 cs_8 w_26 p_51 hr_20 _ f => ?_
         have p_52 := p_51.pl [1]
         have p_53 := p_52.drop
         refine W_end rfl (N_goN 2 (mR _) p_53 rfl (N_alt rfl (fun w_27 p_54 => ?_) ?_))
         ·have p_55 := p_54.pl [1]
          obtain ⟨A_24, cap_25, M_7, hv_11, hM_7, p_56, h_12⟩ := p_55.rowSli (f := Dat.str) (xs := ([] : List (List UInt8)) ++ (s_1.2.2.take s_1.2.2.length).drop y_1.toNat) szd_str hr_11
          have f := f.st 83 (hv_11)
          refine Y24 (z := S []) (f := Dat.str) (xs := (s_1.2.2.take y_1.toNat) ++ [x_5]) (ys := ([] : List (List UInt8)) ++ (s_1.2.2.take s_1.2.2.length).drop y_1.toNat) (c := cap_25) f p_56 (RepSeq.mono hM_7 _ _ hr_20) h_12 rfl rfl rfl g_10 (by omega) fun A_25 cap_26 cs_9 w_28 p_57 hr_21 _ f => W_end rfl (N_goN 1 hM_7 p_57 rfl (N_tail fun w_29 p_58 => Y f 1 fun _ f => Y27 f p_58 4 rfl rfl (b := b_3) (j := 5) (v := .slice A_25 (((s_1.2.2.take y_1.toNat) ++ [x_5]) ++ (([] : List (List UInt8)) ++ (s_1.2.2.take s_1.2.2.length).drop y_1.toNat)).length cap_26) rfl (by exact rfl) (by simp) (by simp) ((Ent.row 9 1 (.slice A_25 (((s_1.2.2.take y_1.toNat) ++ [x_5]) ++ (([] : List (List UInt8)) ++ (s_1.2.2.take s_1.2.2.length).drop y_1.toNat)).length cap_26) (((s_1.2.2.take y_1.toNat) ++ [x_5]) ++ (([] : List (List UInt8)) ++ (s_1.2.2.take s_1.2.2.length).drop y_1.toNat)).length cs_9) :: (Ent.row 71 6 (.slice A_17 (([] : List TG0) ++ (s_1.2.1.take s_1.2.1.length).drop y_1.toNat).length cap_18) (([] : List TG0) ++ (s_1.2.1.take s_1.2.1.length).drop y_1.toNat).length cs_5) :: (Ent.obj b_5 (.cells #[.int .i8 x_2.fKind, .bool x_2.fBool, .int .i64 x_2.fNum, S x_2.fText, .slice A_9 x_2.fList.length cap_9, .slice A_10 x_2.fKeys.length cap_10] 71 (0, 0))) :: (Ent.row 71 6 (.slice A_5 s_1.2.1.length cap_5) s_1.2.1.length cs_1) :: (Ent.obj b_3 (.cells #[.int .i8 d0.fKind, .bool d0.fBool, .int .i64 d0.fNum, S d0.fText, .slice A_5 s_1.2.1.length cap_5, .slice A_25 (((s_1.2.2.take y_1.toNat) ++ [x_5]) ++ (([] : List (List UInt8)) ++ (s_1.2.2.take s_1.2.2.length).drop y_1.toNat)).length cap_26] 71 (0, 0))) :: (Ent.obj b_2 (.cells #[.int .i8 0, .bool false, .int .i64 0, S [], .slice none 0 0, .slice none 0 0] 71 (0, 0))) :: H) rfl fun w_30 p_59 _ f => W_end rfl (N_te (T_n ?_))))
          exact ⟨((s_1.2.2.take y_1.toNat) ++ [x_5]) ++ (([] : List (List UInt8)) ++ (s_1.2.2.take s_1.2.2.length).drop y_1.toNat), (sI hF_25).symm, M_7, hM_7, A_25, cap_26, cs_9, hr_21, f.kp, p_59⟩
         exact N_none
        exact N_none
       exact N_none
      refine N_alt rfl (fun w_31 p_60 => ?_) ?_
      ·refine V_allocS (k := 1) (c := 1) f p_60 (.cells #[S x_5] 9 (0, 0)) (by kernel_rfl) (fun _ => by kernel_rfl) fun b_11 w_32 p_61 _ f => W_end rfl (N_goN 3 (mR _) p_61 rfl (N_alt rfl (fun w_33 p_62 => ?_) ?_))
       ·obtain ⟨A_26, cap_27, hv_12, hcap_6, hcn_5⟩ := p_62.rowShape 2 rfl
        have f := f.st 73 (hv_12)
        refine Z f (Y39 rfl (A := A_26) (len := s_1.2.2.length) (cap := cap_27) (k' := .i64) (b := y_1) (e := 9) (sz := 1) (by omega) (by omega)) fun _ f => ?_
        have f := f.st 73 (hv_12.symm)
        refine W_end rfl (N_goN 3 (mR _) p_62 rfl (N_alt rfl (fun w_34 p_63 => ?_) ?_))
        ·have p_64 := p_63.pl [2]
         have hr_22 : RepSeq M_5 ((s_1.2.2.take y_1.toNat).map Dat.str) (cs_2.take (y_1.toNat * 1)) := by rw [List.map_take]; exact RepSeq.takeD _ (szd_all szd_str) (RepSeq.mono (hM_3.trans hM_5) _ _ hr_4)
         have hl_8 : (s_1.2.2.take y_1.toNat).length = y_1.toNat := by rw [List.length_take]; omega
         have p_65 : Hp w0 M_5 ((Ent.row 9 1 (.slice (cutA A_26 1 0 cap_27) (s_1.2.2.take y_1.toNat).length cap_27) (s_1.2.2.take y_1.toNat).length (cs_2.take (y_1.toNat * 1))) :: (Ent.obj b_11 (.cells #[S x_5] 9 (0, 0))) :: (Ent.row 9 1 (.slice A_14 (([] : List (List UInt8)) ++ (s_1.2.2.take s_1.2.2.length).drop y_1.toNat).length cap_15) (([] : List (List UInt8)) ++ (s_1.2.2.take s_1.2.2.length).drop y_1.toNat).length cs_4) :: (Ent.row 71 6 (.slice A_17 (([] : List TG0) ++ (s_1.2.1.take s_1.2.1.length).drop y_1.toNat).length cap_18) (([] : List TG0) ++ (s_1.2.1.take s_1.2.1.length).drop y_1.toNat).length cs_5) :: (Ent.obj b_5 (.cells #[.int .i8 x_2.fKind, .bool x_2.fBool, .int .i64 x_2.fNum, S x_2.fText, .slice A_9 x_2.fList.length cap_9, .slice A_10 x_2.fKeys.length cap_10] 71 (0, 0))) :: (Ent.row 71 6 (.slice A_5 s_1.2.1.length cap_5) s_1.2.1.length cs_1) :: (Ent.obj b_3 (.cells #[.int .i8 d0.fKind, .bool d0.fBool, .int .i64 d0.fNum, S d0.fText, .slice A_5 s_1.2.1.length cap_5, .slice A_6 s_1.2.2.length cap_6] 71 (0, 0))) :: (Ent.obj b_2 (.cells #[.int .i8 0, .bool false, .int .i64 0, S [], .slice none 0 0, .slice none 0 0] 71 (0, 0))) :: H) w_34 := by rw [hl_8]; exact p_64.rowFront hv_12 (by omega)
         have f := Frm.set f 75 (v := .slice (cutA A_26 1 0 cap_27) y_1.toNat cap_27) (v' := .slice (cutA A_26 1 0 cap_27) (s_1.2.2.take y_1.toNat).length cap_27) (by kernel_rfl) (by rw [hl_8])
         refine Y22 (z := S []) (f := Dat.str) (xs := s_1.2.2.take y_1.toNat) (ys := [x_5]) (news := [S x_5]) (ad := ⟨b_11, 0, none⟩) (m := 1) (c := 1) f p_65 hr_22 (by exact ⟨_, _, rfl, rfl, rfl⟩) rfl rfl rfl rfl (own_cells (p_65.ownCell 1 rfl) 0 rfl) (by exact g_9) (by have hg_ := g_9; first | omega | (simp only [List.length_cons, List.length_nil] at *; omega)) fun A_27 cap_28 cs_10 w_35 p_66 hr_23 _ f => ?_
         have p_67 := p_66.pl [1]
         have p_68 := p_67.drop
         refine W_end rfl (N_goN 2 (mR _) p_68 rfl (N_alt rfl (fun w_36 p_69 => ?_) ?_))
         ·have p_70 := p_69.pl [1]
          obtain ⟨A_28, cap_29, M_8, hv_13, hM_8, p_71, h_13⟩ := p_70.rowSli (f := Dat.str) (xs := ([] : List (List UInt8)) ++ (s_1.2.2.take s_1.2.2.length).drop y_1.toNat) szd_str hr_11
          have f := f.st 83 (hv_13)
          refine Y24 (z := S []) (f := Dat.str) (xs := (s_1.2.2.take y_1.toNat) ++ [x_5]) (ys := ([] : List (List UInt8)) ++ (s_1.2.2.take s_1.2.2.length).drop y_1.toNat) (c := cap_29) f p_71 (RepSeq.mono hM_8 _ _ hr_23) h_13 rfl rfl rfl g_10 (by omega) fun A_29 cap_30 cs_11 w_37 p_72 hr_24 _ f => W_end rfl (N_goN 1 hM_8 p_72 rfl (N_tail fun w_38 p_73 => Y f 1 fun _ f => Y27 f p_73 4 rfl rfl (b := b_3) (j := 5) (v := .slice A_29 (((s_1.2.2.take y_1.toNat) ++ [x_5]) ++ (([] : List (List UInt8)) ++ (s_1.2.2.take s_1.2.2.length).drop y_1.toNat)).length cap_30) rfl (by exact rfl) (by simp) (by simp) ((Ent.row 9 1 (.slice A_29 (((s_1.2.2.take y_1.toNat) ++ [x_5]) ++ (([] : List (List UInt8)) ++ (s_1.2.2.take s_1.2.2.length).drop y_1.toNat)).length cap_30) (((s_1.2.2.take y_1.toNat) ++ [x_5]) ++ (([] : List (List UInt8)) ++ (s_1.2.2.take s_1.2.2.length).drop y_1.toNat)).length cs_11) :: (Ent.row 71 6 (.slice A_17 (([] : List TG0) ++ (s_1.2.1.take s_1.2.1.length).drop y_1.toNat).length cap_18) (([] : List TG0) ++ (s_1.2.1.take s_1.2.1.length).drop y_1.toNat).length cs_5) :: (Ent.obj b_5 (.cells #[.int .i8 x_2.fKind, .bool x_2.fBool, .int .i64 x_2.fNum, S x_2.fText, .slice A_9 x_2.fList.length cap_9, .slice A_10 x_2.fKeys.length cap_10] 71 (0, 0))) :: (Ent.row 71 6 (.slice A_5 s_1.2.1.length cap_5) s_1.2.1.length cs_1) :: (Ent.obj b_3 (.cells #[.int .i8 d0.fKind, .bool d0.fBool, .int .i64 d0.fNum, S d0.fText, .slice A_5 s_1.2.1.length cap_5, .slice A_29 (((s_1.2.2.take y_1.toNat) ++ [x_5]) ++ (([] : List (List UInt8)) ++ (s_1.2.2.take s_1.2.2.length).drop y_1.toNat)).length cap_30] 71 (0, 0))) :: (Ent.obj b_2 (.cells #[.int .i8 0, .bool false, .int .i64 0, S [], .slice none 0 0, .slice none 0 0] 71 (0, 0))) :: H) rfl fun w_39 p_74 _ f => W_end rfl (N_te (T_n ?_))))
          exact ⟨((s_1.2.2.take y_1.toNat) ++ [x_5]) ++ (([] : List (List UInt8)) ++ (s_1.2.2.take s_1.2.2.length).drop y_1.toNat), (sI hF_25).symm, M_8, hM_8, A_29, cap_30, cs_11, hr_24, f.kp, p_74⟩
         exact N_none
        exact N_none
       exact N_none
      exact N_none
     ·rintro a_110 w_40 ⟨y_2, hq_1, M_9, hM_9, A_30, cap_31, cs_12, hr_25, f, p_75⟩
      subst j_1
      refine T_n ?_
      obtain ⟨j_2, hj_2, hF_26⟩ := bS hF_21
      refine R_mid (fun a_137 w_62 => ∃ y_3 : List TG0, j_2 = y_3 ∧ ∃ M_13 : Mem, M_9.le M_13 ∧ ∃ (A_43 : Option Addr), ∃ (cap_44 : Nat), ∃ (cs_19 : List Value), RepSeq M_13 (y_3.map emb_TG0) cs_19 ∧ Frm 97 [(1, .pointer (some (⟨b_1, 0, none⟩))), (2, .pointer (some (⟨b_2, 0, none⟩))), (3, .pointer (some (⟨b_3, 0, none⟩))), (4, .int .i64 s_1.1)] a_137 ∧ Hp w0 M_13 ((Ent.row 71 6 (.slice A_43 y_3.length cap_44) y_3.length cs_19) :: (Ent.row 9 1 (.slice A_30 y_2.length cap_31) y_2.length cs_12) :: (Ent.obj b_5 (.cells #[.int .i8 x_2.fKind, .bool x_2.fBool, .int .i64 x_2.fNum, S x_2.fText, .slice A_9 x_2.fList.length cap_9, .slice A_10 x_2.fKeys.length cap_10] 71 (0, 0))) :: (Ent.obj b_3 (.cells #[.int .i8 d0.fKind, .bool d0.fBool, .int .i64 d0.fNum, S d0.fText, .slice A_43 y_3.length cap_44, .slice A_30 y_2.length cap_31] 71 (0, 0))) :: (Ent.obj b_2 (.cells #[.int .i8 0, .bool false, .int .i64 0, S [], .slice none 0 0, .slice none 0 0] 71 (0, 0))) :: H) w_62) ?_ ?_
      ·have p_90 := p_75.pl [5, 5, 4, 3, 5, 5]
       obtain ⟨g_11, hF_27⟩ := nS hj_2
       obtain ⟨g_12, hF_28⟩ := nS hF_27
       obtain ⟨g_13, hF_29⟩ := nS hF_28
       refine R_plan (ks := [9, 10]) (E := [Ent.row 71 6 (.slice A_17 (([] : List TG0) ++ (s_1.2.1.take s_1.2.1.length).drop y_1.toNat).length cap_18) (([] : List TG0) ++ (s_1.2.1.take s_1.2.1.length).drop y_1.toNat).length cs_5, Ent.row 71 6 (.slice A_5 s_1.2.1.length cap_5) s_1.2.1.length cs_1]) (Hr := ((Ent.row 9 1 (.slice A_30 y_2.length cap_31) y_2.length cs_12) :: (Ent.obj b_5 (.cells #[.int .i8 x_2.fKind, .bool x_2.fBool, .int .i64 x_2.fNum, S x_2.fText, .slice A_9 x_2.fList.length cap_9, .slice A_10 x_2.fKeys.length cap_10] 71 (0, 0))) :: (Ent.obj b_3 (.cells #[.int .i8 d0.fKind, .bool d0.fBool, .int .i64 d0.fNum, S d0.fText, .slice A_5 s_1.2.1.length cap_5, .slice A_30 y_2.length cap_31] 71 (0, 0))) :: (Ent.obj b_2 (.cells #[.int .i8 0, .bool false, .int .i64 0, S [], .slice none 0 0, .slice none 0 0] 71 (0, 0))) :: H)) (.quiet 0 (.quiet 1 (.quiet 2 (.quiet 4 (.quiet 7 (.alt 3 (.alt 5 (.alt 6 (.alt 8 .done .none) .none) .none) (.alt 5 (.alt 3 (.alt 6 (.alt 8 .done .none) .none) .none) .none))))))) p_90 (by kernel_rfl) (by kernel_rfl) (by kernel_rfl) (Y1 (v := .pointer (some (⟨b_3, 4, none⟩))) rfl f rfl rfl (fun _ _ => by kernel_rfl) fun _ f => Y1 (v := .slice A_5 s_1.2.1.length cap_5) rfl f rfl rfl (fun _ pq => Y34 (v := .slice A_5 s_1.2.1.length cap_5) rfl (ad := ⟨b_3, 4, none⟩) (pq.ownCell 2 rfl 4)) fun _ f => Y1 (v := .int .i64 y_1) rfl f rfl rfl (fun _ _ => by kernel_rfl) fun _ f => Y1 (v := .agg #[.int .i8 x_2.fKind, .bool x_2.fBool, .int .i64 x_2.fNum, S x_2.fText, .slice A_9 x_2.fList.length cap_9, .slice A_10 x_2.fKeys.length cap_10]) rfl f rfl rfl (fun _ pq => Y35 (cs := [.int .i8 x_2.fKind, .bool x_2.fBool, .int .i64 x_2.fNum, S x_2.fText, .slice A_9 x_2.fList.length cap_9, .slice A_10 x_2.fKeys.length cap_10]) rfl (ad := ⟨b_5, 0, none⟩) (own_cells (pq.ownCell 1 rfl) 0 rfl)) fun _ f => Y1 (v := .slice A_17 (([] : List TG0) ++ (s_1.2.1.take s_1.2.1.length).drop y_1.toNat).length cap_18) rfl f rfl rfl (fun _ _ => by kernel_rfl) fun _ f => N_alt rfl (fun w_44 p_91 => ?_) ?_)
       ·obtain ⟨A_35, cap_36, hv_16, hcap_8, hcn_7⟩ := p_91.rowShape 1 rfl
        have f := f.st 87 (hv_16)
        refine Z f (Y39 rfl (A := A_35) (len := s_1.2.1.length) (cap := cap_36) (k' := .i64) (b := y_1) (e := 71) (sz := 6) (by omega) (by omega)) fun _ f => ?_
        have f := f.st 87 (hv_16.symm)
        refine W_end rfl (N_goN 2 (mR _) p_91 rfl (N_alt rfl (fun w_45 p_92 => ?_) ?_))
        ·refine V_allocS (k := 1) (c := 1) f p_92 (.cells #[.int .i8 x_2.fKind, .bool x_2.fBool, .int .i64 x_2.fNum, S x_2.fText, .slice A_9 x_2.fList.length cap_9, .slice A_10 x_2.fKeys.length cap_10] 71 (0, 0)) (by kernel_rfl) (fun _ => by kernel_rfl) fun b_13 w_46 p_93 _ f => W_end rfl (N_goN 3 (mR _) p_93 rfl (N_alt rfl (fun w_47 p_94 => ?_) ?_))
         ·have p_95 := p_94.pl [2]
          have hr_29 : RepSeq M_9 ((s_1.2.1.take y_1.toNat).map emb_TG0) (cs_1.take (y_1.toNat * 6)) := by rw [List.map_take]; exact RepSeq.takeD _ (szd_all szd_TG0) (RepSeq.mono ((hM_3.trans hM_5).trans hM_9) _ _ hr_3)
          have hl_10 : (s_1.2.1.take y_1.toNat).length = y_1.toNat := by rw [List.length_take]; omega
          have p_96 : Hp w0 M_9 ((Ent.row 71 6 (.slice (cutA A_35 6 0 cap_36) (s_1.2.1.take y_1.toNat).length cap_36) (s_1.2.1.take y_1.toNat).length (cs_1.take (y_1.toNat * 6))) :: (Ent.obj b_13 (.cells #[.int .i8 x_2.fKind, .bool x_2.fBool, .int .i64 x_2.fNum, S x_2.fText, .slice A_9 x_2.fList.length cap_9, .slice A_10 x_2.fKeys.length cap_10] 71 (0, 0))) :: (Ent.row 71 6 (.slice A_17 (([] : List TG0) ++ (s_1.2.1.take s_1.2.1.length).drop y_1.toNat).length cap_18) (([] : List TG0) ++ (s_1.2.1.take s_1.2.1.length).drop y_1.toNat).length cs_5) :: (Ent.row 9 1 (.slice A_30 y_2.length cap_31) y_2.length cs_12) :: (Ent.obj b_5 (.cells #[.int .i8 x_2.fKind, .bool x_2.fBool, .int .i64 x_2.fNum, S x_2.fText, .slice A_9 x_2.fList.length cap_9, .slice A_10 x_2.fKeys.length cap_10] 71 (0, 0))) :: (Ent.obj b_3 (.cells #[.int .i8 d0.fKind, .bool d0.fBool, .int .i64 d0.fNum, S d0.fText, .slice A_5 s_1.2.1.length cap_5, .slice A_30 y_2.length cap_31] 71 (0, 0))) :: (Ent.obj b_2 (.cells #[.int .i8 0, .bool false, .int .i64 0, S [], .slice none 0 0, .slice none 0 0] 71 (0, 0))) :: H) w_47 := by rw [hl_10]; exact p_95.rowFront hv_16 (by omega)
          have f := Frm.set f 89 (v := .slice (cutA A_35 6 0 cap_36) y_1.toNat cap_36) (v' := .slice (cutA A_35 6 0 cap_36) (s_1.2.1.take y_1.toNat).length cap_36) (by kernel_rfl) (by rw [hl_10])
          refine Y22 (z := .agg #[.int .i8 0, .bool false, .int .i64 0, S [], .slice none 0 0, .slice none 0 0]) (f := emb_TG0) (xs := s_1.2.1.take y_1.toNat) (ys := [(⟨x_2.fKind, (x_2.fBool), x_2.fNum, x_2.fText, x_2.fList, x_2.fKeys⟩ : TG0)]) (news := [.int .i8 x_2.fKind, .bool x_2.fBool, .int .i64 x_2.fNum, S x_2.fText, .slice A_9 x_2.fList.length cap_9, .slice A_10 x_2.fKeys.length cap_10]) (ad := ⟨b_13, 0, none⟩) (m := 1) (c := 1) f p_96 hr_29 (by exact ⟨_, _, rfl, TG0.shut (h_6.mono (hM_5.trans hM_9)) (h_7.mono (hM_5.trans hM_9)), rfl⟩) rfl rfl rfl rfl (own_cells (p_96.ownCell 1 rfl) 0 rfl) (by exact g_12) (by have hg_ := g_12; first | omega | (simp only [List.length_cons, List.length_nil] at *; omega)) fun A_36 cap_37 cs_15 w_48 p_97 hr_30 _ f => ?_
          have p_98 := p_97.pl [1]
          have p_99 := p_98.drop
          refine W_end rfl (N_goN 2 (mR _) p_99 rfl (N_alt rfl (fun w_49 p_100 => ?_) ?_))
          ·have p_101 := p_100.pl [1]
           obtain ⟨A_37, cap_38, M_11, hv_17, hM_11, p_102, h_15⟩ := p_101.rowSli (f := emb_TG0) (xs := ([] : List TG0) ++ (s_1.2.1.take s_1.2.1.length).drop y_1.toNat) szd_TG0 (RepSeq.mono hM_9 _ _ hr_13)
           have f := f.st 93 (hv_17)
           refine Y24 (z := .agg #[.int .i8 0, .bool false, .int .i64 0, S [], .slice none 0 0, .slice none 0 0]) (f := emb_TG0) (xs := (s_1.2.1.take y_1.toNat) ++ [(⟨x_2.fKind, (x_2.fBool), x_2.fNum, x_2.fText, x_2.fList, x_2.fKeys⟩ : TG0)]) (ys := ([] : List TG0) ++ (s_1.2.1.take s_1.2.1.length).drop y_1.toNat) (c := cap_38) f p_102 (RepSeq.mono hM_11 _ _ hr_30) h_15 rfl rfl rfl g_13 (by omega) fun A_38 cap_39 cs_16 w_50 p_103 hr_31 _ f => W_end rfl (N_goN 1 hM_11 p_103 rfl (N_tail fun w_51 p_104 => Y f 1 fun _ f => Y27 f p_104 3 rfl rfl (b := b_3) (j := 4) (v := .slice A_38 (((s_1.2.1.take y_1.toNat) ++ [(⟨x_2.fKind, (x_2.fBool), x_2.fNum, x_2.fText, x_2.fList, x_2.fKeys⟩ : TG0)]) ++ (([] : List TG0) ++ (s_1.2.1.take s_1.2.1.length).drop y_1.toNat)).length cap_39) rfl (by exact rfl) (by simp) (by simp) ((Ent.row 71 6 (.slice A_38 (((s_1.2.1.take y_1.toNat) ++ [(⟨x_2.fKind, (x_2.fBool), x_2.fNum, x_2.fText, x_2.fList, x_2.fKeys⟩ : TG0)]) ++ (([] : List TG0) ++ (s_1.2.1.take s_1.2.1.length).drop y_1.toNat)).length cap_39) (((s_1.2.1.take y_1.toNat) ++ [(⟨x_2.fKind, (x_2.fBool), x_2.fNum, x_2.fText, x_2.fList, x_2.fKeys⟩ : TG0)]) ++ (([] : List TG0) ++ (s_1.2.1.take s_1.2.1.length).drop y_1.toNat)).length cs_16) :: (Ent.row 9 1 (.slice A_30 y_2.length cap_31) y_2.length cs_12) :: (Ent.obj b_5 (.cells #[.int .i8 x_2.fKind, .bool x_2.fBool, .int .i64 x_2.fNum, S x_2.fText, .slice A_9 x_2.fList.length cap_9, .slice A_10 x_2.fKeys.length cap_10] 71 (0, 0))) :: (Ent.obj b_3 (.cells #[.int .i8 d0.fKind, .bool d0.fBool, .int .i64 d0.fNum, S d0.fText, .slice A_38 (((s_1.2.1.take y_1.toNat) ++ [(⟨x_2.fKind, (x_2.fBool), x_2.fNum, x_2.fText, x_2.fList, x_2.fKeys⟩ : TG0)]) ++ (([] : List TG0) ++ (s_1.2.1.take s_1.2.1.length).drop y_1.toNat)).length cap_39, .slice A_30 y_2.length cap_31] 71 (0, 0))) :: (Ent.obj b_2 (.cells #[.int .i8 0, .bool false, .int .i64 0, S [], .slice none 0 0, .slice none 0 0] 71 (0, 0))) :: H) rfl fun w_52 p_105 _ f => W_end rfl (N_te (T_n ?_))))
           exact ⟨((s_1.2.1.take y_1.toNat) ++ [(⟨x_2.fKind, (x_2.fBool), x_2.fNum, x_2.fText, x_2.fList, x_2.fKeys⟩ : TG0)]) ++ (([] : List TG0) ++ (s_1.2.1.take s_1.2.1.length).drop y_1.toNat), (sI hF_29).symm, M_11, hM_11, A_38, cap_39, cs_16, hr_31, f.kp, p_105⟩
          exact N_none
         exact N_none
        exact N_none
       refine N_alt rfl (fun w_53 p_106 => ?_) ?_
       ·refine V_allocS (k := 1) (c := 1) f p_106 (.cells #[.int .i8 x_2.fKind, .bool x_2.fBool, .int .i64 x_2.fNum, S x_2.fText, .slice A_9 x_2.fList.length cap_9, .slice A_10 x_2.fKeys.length cap_10] 71 (0, 0)) (by kernel_rfl) (fun _ => by kernel_rfl) fun b_14 w_54 p_107 _ f => W_end rfl (N_goN 3 (mR _) p_107 rfl (N_alt rfl (fun w_55 p_108 => ?_) ?_))
        ·obtain ⟨A_39, cap_40, hv_18, hcap_9, hcn_8⟩ := p_108.rowShape 2 rfl
         have f := f.st 87 (hv_18)
         refine Z f (Y39 rfl (A := A_39) (len := s_1.2.1.length) (cap := cap_40) (k' := .i64) (b := y_1) (e := 71) (sz := 6) (by omega) (by omega)) fun _ f => ?_
         have f := f.st 87 (hv_18.symm)
         refine W_end rfl (N_goN 3 (mR _) p_108 rfl (N_alt rfl (fun w_56 p_109 => ?_) ?_))
         ·have p_110 := p_109.pl [2]
          have hr_32 : RepSeq M_9 ((s_1.2.1.take y_1.toNat).map emb_TG0) (cs_1.take (y_1.toNat * 6)) := by rw [List.map_take]; exact RepSeq.takeD _ (szd_all szd_TG0) (RepSeq.mono ((hM_3.trans hM_5).trans hM_9) _ _ hr_3)
          have hl_11 : (s_1.2.1.take y_1.toNat).length = y_1.toNat := by rw [List.length_take]; omega
          have p_111 : Hp w0 M_9 ((Ent.row 71 6 (.slice (cutA A_39 6 0 cap_40) (s_1.2.1.take y_1.toNat).length cap_40) (s_1.2.1.take y_1.toNat).length (cs_1.take (y_1.toNat * 6))) :: (Ent.obj b_14 (.cells #[.int .i8 x_2.fKind, .bool x_2.fBool, .int .i64 x_2.fNum, S x_2.fText, .slice A_9 x_2.fList.length cap_9, .slice A_10 x_2.fKeys.length cap_10] 71 (0, 0))) :: (Ent.row 71 6 (.slice A_17 (([] : List TG0) ++ (s_1.2.1.take s_1.2.1.length).drop y_1.toNat).length cap_18) (([] : List TG0) ++ (s_1.2.1.take s_1.2.1.length).drop y_1.toNat).length cs_5) :: (Ent.row 9 1 (.slice A_30 y_2.length cap_31) y_2.length cs_12) :: (Ent.obj b_5 (.cells #[.int .i8 x_2.fKind, .bool x_2.fBool, .int .i64 x_2.fNum, S x_2.fText, .slice A_9 x_2.fList.length cap_9, .slice A_10 x_2.fKeys.length cap_10] 71 (0, 0))) :: (Ent.obj b_3 (.cells #[.int .i8 d0.fKind, .bool d0.fBool, .int .i64 d0.fNum, S d0.fText, .slice A_5 s_1.2.1.length cap_5, .slice A_30 y_2.length cap_31] 71 (0, 0))) :: (Ent.obj b_2 (.cells #[.int .i8 0, .bool false, .int .i64 0, S [], .slice none 0 0, .slice none 0 0] 71 (0, 0))) :: H) w_56 := by rw [hl_11]; exact p_110.rowFront hv_18 (by omega)
          have f := Frm.set f 89 (v := .slice (cutA A_39 6 0 cap_40) y_1.toNat cap_40) (v' := .slice (cutA A_39 6 0 cap_40) (s_1.2.1.take y_1.toNat).length cap_40) (by kernel_rfl) (by rw [hl_11])
          refine Y22 (z := .agg #[.int .i8 0, .bool false, .int .i64 0, S [], .slice none 0 0, .slice none 0 0]) (f := emb_TG0) (xs := s_1.2.1.take y_1.toNat) (ys := [(⟨x_2.fKind, (x_2.fBool), x_2.fNum, x_2.fText, x_2.fList, x_2.fKeys⟩ : TG0)]) (news := [.int .i8 x_2.fKind, .bool x_2.fBool, .int .i64 x_2.fNum, S x_2.fText, .slice A_9 x_2.fList.length cap_9, .slice A_10 x_2.fKeys.length cap_10]) (ad := ⟨b_14, 0, none⟩) (m := 1) (c := 1) f p_111 hr_32 (by exact ⟨_, _, rfl, TG0.shut (h_6.mono (hM_5.trans hM_9)) (h_7.mono (hM_5.trans hM_9)), rfl⟩) rfl rfl rfl rfl (own_cells (p_111.ownCell 1 rfl) 0 rfl) (by exact g_12) (by have hg_ := g_12; first | omega | (simp only [List.length_cons, List.length_nil] at *; omega)) fun A_40 cap_41 cs_17 w_57 p_112 hr_33 _ f => ?_
          have p_113 := p_112.pl [1]
          have p_114 := p_113.drop
          refine W_end rfl (N_goN 2 (mR _) p_114 rfl (N_alt rfl (fun w_58 p_115 => ?_) ?_))
          ·have p_116 := p_115.pl [1]
           obtain ⟨A_41, cap_42, M_12, hv_19, hM_12, p_117, h_16⟩ := p_116.rowSli (f := emb_TG0) (xs := ([] : List TG0) ++ (s_1.2.1.take s_1.2.1.length).drop y_1.toNat) szd_TG0 (RepSeq.mono hM_9 _ _ hr_13)
           have f := f.st 93 (hv_19)
           refine Y24 (z := .agg #[.int .i8 0, .bool false, .int .i64 0, S [], .slice none 0 0, .slice none 0 0]) (f := emb_TG0) (xs := (s_1.2.1.take y_1.toNat) ++ [(⟨x_2.fKind, (x_2.fBool), x_2.fNum, x_2.fText, x_2.fList, x_2.fKeys⟩ : TG0)]) (ys := ([] : List TG0) ++ (s_1.2.1.take s_1.2.1.length).drop y_1.toNat) (c := cap_42) f p_117 (RepSeq.mono hM_12 _ _ hr_33) h_16 rfl rfl rfl g_13 (by omega) fun A_42 cap_43 cs_18 w_59 p_118 hr_34 _ f => W_end rfl (N_goN 1 hM_12 p_118 rfl (N_tail fun w_60 p_119 => Y f 1 fun _ f => Y27 f p_119 3 rfl rfl (b := b_3) (j := 4) (v := .slice A_42 (((s_1.2.1.take y_1.toNat) ++ [(⟨x_2.fKind, (x_2.fBool), x_2.fNum, x_2.fText, x_2.fList, x_2.fKeys⟩ : TG0)]) ++ (([] : List TG0) ++ (s_1.2.1.take s_1.2.1.length).drop y_1.toNat)).length cap_43) rfl (by exact rfl) (by simp) (by simp) ((Ent.row 71 6 (.slice A_42 (((s_1.2.1.take y_1.toNat) ++ [(⟨x_2.fKind, (x_2.fBool), x_2.fNum, x_2.fText, x_2.fList, x_2.fKeys⟩ : TG0)]) ++ (([] : List TG0) ++ (s_1.2.1.take s_1.2.1.length).drop y_1.toNat)).length cap_43) (((s_1.2.1.take y_1.toNat) ++ [(⟨x_2.fKind, (x_2.fBool), x_2.fNum, x_2.fText, x_2.fList, x_2.fKeys⟩ : TG0)]) ++ (([] : List TG0) ++ (s_1.2.1.take s_1.2.1.length).drop y_1.toNat)).length cs_18) :: (Ent.row 9 1 (.slice A_30 y_2.length cap_31) y_2.length cs_12) :: (Ent.obj b_5 (.cells #[.int .i8 x_2.fKind, .bool x_2.fBool, .int .i64 x_2.fNum, S x_2.fText, .slice A_9 x_2.fList.length cap_9, .slice A_10 x_2.fKeys.length cap_10] 71 (0, 0))) :: (Ent.obj b_3 (.cells #[.int .i8 d0.fKind, .bool d0.fBool, .int .i64 d0.fNum, S d0.fText, .slice A_42 (((s_1.2.1.take y_1.toNat) ++ [(⟨x_2.fKind, (x_2.fBool), x_2.fNum, x_2.fText, x_2.fList, x_2.fKeys⟩ : TG0)]) ++ (([] : List TG0) ++ (s_1.2.1.take s_1.2.1.length).drop y_1.toNat)).length cap_43, .slice A_30 y_2.length cap_31] 71 (0, 0))) :: (Ent.obj b_2 (.cells #[.int .i8 0, .bool false, .int .i64 0, S [], .slice none 0 0, .slice none 0 0] 71 (0, 0))) :: H) rfl fun w_61 p_120 _ f => W_end rfl (N_te (T_n ?_))))
           exact ⟨((s_1.2.1.take y_1.toNat) ++ [(⟨x_2.fKind, (x_2.fBool), x_2.fNum, x_2.fText, x_2.fList, x_2.fKeys⟩ : TG0)]) ++ (([] : List TG0) ++ (s_1.2.1.take s_1.2.1.length).drop y_1.toNat), (sI hF_29).symm, M_12, hM_12, A_42, cap_43, cs_18, hr_34, f.kp, p_120⟩
          exact N_none
         exact N_none
        exact N_none
       exact N_none
      ·rintro a_137 w_62 ⟨y_3, hq_2, M_13, hM_13, A_43, cap_44, cs_19, hr_35, f, p_121⟩
       subst j_2
       refine B_n (T_n (R_reg (Y f 1 fun _ f => ?_)))
       obtain ⟨g_14, hF_30⟩ := nS hF_26
       refine Y f 1 fun _ f => ?_
       have f := f.st 24 (congrArg (Value.int .i64) (inR_wrap g_14))
       refine Y f 1 fun _ f => W_end rfl ?_
       have p_132 := p_121.pl [4, 4, 3, 3, 4]
       refine T_n ?_
       obtain rfl := sI hF_30
       exact ⟨⟨m_2, (s_1.1 + 1, y_3, y_2), A_43, cap_44, cs_19, A_30, cap_31, cs_12⟩, Nat.lt_succ_self _, M_13, ((((hM_2.trans hM_3).trans hM_5).trans hM_9).trans hM_13), ⟨hn_1, hr_35, (RepSeq.mono hM_13 _ _ hr_25)⟩, f.kp, (p_132.dropN 1)⟩
  ·have k_8 := iff_f dI h_3
   refine wp_exit (T_x (T_x ?_))
   obtain rfl := sI hF_31
   exact ⟨rfl, (s_1.2.1, s_1.2.2), (sI hn_1).symm, M_2, hM_2, A_5, cap_5, cs_1, A_6, cap_6, cs_2, hr_3, hr_4, f.kp, p_11⟩
 ·rintro _ _ w_64 ⟨rfl, y_4, hq_, M_14, hM_14, A_44, cap_45, cs_20, A_45, cap_46, cs_21, hr_36, hr_37, f, p_122⟩
  subst b_4
  refine B_x (T_n (RR (Z (v := .agg #[.int .i8 d0.fKind, .bool d0.fBool, .int .i64 d0.fNum, S d0.fText, .slice A_44 y_4.1.length cap_45, .slice A_45 y_4.2.length cap_46]) f (Y35 (cs := [.int .i8 d0.fKind, .bool d0.fBool, .int .i64 d0.fNum, S d0.fText, .slice A_44 y_4.1.length cap_45, .slice A_45 y_4.2.length cap_46]) rfl (ad := ⟨b_3, 0, none⟩) (own_cells (p_122.ownCell 2 rfl) 0 rfl)) fun _ f => ?_)))
  obtain ⟨A_46, cap_47, M_15, hv_20, hM_15, p_133, h_17⟩ := p_122.rowSli (f := emb_TG0) (xs := y_4.1) szd_TG0 hr_36
  have f := Frm.set f 96 (v := .agg #[.int .i8 d0.fKind, .bool d0.fBool, .int .i64 d0.fNum, S d0.fText, .slice A_44 y_4.1.length cap_45, .slice A_45 y_4.2.length cap_46]) (v' := .agg #[.int .i8 d0.fKind, .bool d0.fBool, .int .i64 d0.fNum, S d0.fText, .slice A_46 y_4.1.length cap_47, .slice A_45 y_4.2.length cap_46]) (by kernel_rfl) (by rw [hv_20])
  have p_134 : Hp w0 M_15 ((Ent.row 9 1 (.slice A_45 y_4.2.length cap_46) y_4.2.length cs_21) :: (Ent.obj b_3 (.cells #[.int .i8 d0.fKind, .bool d0.fBool, .int .i64 d0.fNum, S d0.fText, .slice A_46 y_4.1.length cap_47, .slice A_45 y_4.2.length cap_46] 71 (0, 0))) :: (Ent.obj b_2 (.cells #[.int .i8 0, .bool false, .int .i64 0, S [], .slice none 0 0, .slice none 0 0] 71 (0, 0))) :: H) w_64 := by rw [hv_20] at p_133; exact p_133
  obtain ⟨A_47, cap_48, M_16, hv_21, hM_16, p_135, h_18⟩ := p_134.rowSli (f := Dat.str) (xs := y_4.2) szd_str (RepSeq.mono hM_15 _ _ hr_37)
  have f := Frm.set f 96 (v := .agg #[.int .i8 d0.fKind, .bool d0.fBool, .int .i64 d0.fNum, S d0.fText, .slice A_46 y_4.1.length cap_47, .slice A_45 y_4.2.length cap_46]) (v' := .agg #[.int .i8 d0.fKind, .bool d0.fBool, .int .i64 d0.fNum, S d0.fText, .slice A_46 y_4.1.length cap_47, .slice A_47 y_4.2.length cap_48]) (by kernel_rfl) (by rw [hv_21])
  have p_136 : Hp w0 M_16 ((Ent.obj b_3 (.cells #[.int .i8 d0.fKind, .bool d0.fBool, .int .i64 d0.fNum, S d0.fText, .slice A_46 y_4.1.length cap_47, .slice A_47 y_4.2.length cap_48] 71 (0, 0))) :: (Ent.obj b_2 (.cells #[.int .i8 0, .bool false, .int .i64 0, S [], .slice none 0 0, .slice none 0 0] 71 (0, 0))) :: H) w_64 := by rw [hv_21] at p_135; exact p_135
  have p_137 := p_136.pl [1]
  refine Y28 (vs := [.int .i8 d0.fKind, .bool d0.fBool, .int .i64 d0.fNum, S d0.fText, .slice A_46 y_4.1.length cap_47, .slice A_47 y_4.2.length cap_48]) (j := 0) f p_137 rfl rfl (by simp [Value.oneCell', S]) (by simp) (by decide) (cs' := #[.int .i8 d0.fKind, .bool d0.fBool, .int .i64 d0.fNum, S d0.fText, .slice A_46 y_4.1.length cap_47, .slice A_47 y_4.2.length cap_48]) (by kernel_rfl) fun w_65 p_138 _ f => eT (wp_ret (E_rv1 f rfl (Y10 (cs := [.int .i8 d0.fKind, .bool d0.fBool, .int .i64 d0.fNum, S d0.fText, .slice A_46 y_4.1.length cap_47, .slice A_47 y_4.2.length cap_48]) (ad := ⟨b_2, 0, none⟩) f (own_cells (p_138.ownCell 0 rfl) 0 rfl)) ?_))
  obtain rfl := sI hF_1
  exact ⟨_, rfl, M_16, (((hM_1.trans hM_14).trans hM_15).trans hM_16), (p_138.dropN 2), ⟨[.int .i8 d0.fKind, .bool d0.fBool, .int .i64 d0.fNum, S d0.fText, .slice A_46 y_4.1.length cap_47, .slice A_47 y_4.2.length cap_48], rfl, (TG0.shut (h_17.mono hM_16) h_18)⟩⟩
def ref03_sorted_k (n : Nat) : Nat → TG0 → Option TG0
  | 0 => fun _ => none
  | k + 1 => ref03_sorted_b n (ref03_sorted_k n k)
def ref03_sorted (n : Nat) (d0 : TG0) : Option TG0 := ref03_sorted_k n n d0
theorem ref03_sorted_ok (n : Nat) (M : Mem) (c0 : List Value) (d0 : TG0) (h0 : Rep M (emb_TG0 d0) c0) (r : TG0) (hF : ref03_sorted n d0 = some r) : Ok Tryz.prog M 78 [.agg c0.toArray] (fun M' v => ∃ (c0 : List Value), v = .agg c0.toArray ∧ Rep M' (emb_TG0 r) c0) := by
 have key : ∀ (k : Nat) (M : Mem) (c0 : List Value) (d0 : TG0) (h0 : Rep M (emb_TG0 d0) c0) (r : TG0) (hF : ref03_sorted_k n k d0 = some r), Ok Tryz.prog M 78 [.agg c0.toArray] (fun M' v => ∃ (c0 : List Value), v = .agg c0.toArray ∧ Rep M' (emb_TG0 r) c0) := by
  intro k
  induction k with
  | zero => intro M c0 d0 h0 r hF; simp [ref03_sorted_k] at hF
  | succ k ih => intro M c0 d0 h0 r hF; exact ref03_sorted_b_ok n (ref03_sorted_k n k) ih M c0 d0 h0 r hF
 exact key n M c0 d0 h0 r hF
def ref03_compare_s1 (n : Nat) (rec_ref03_compare : TG0 → TG0 → Option Int) (d0 : TG0) (d1 : TG0) (s_1 : Int) : Option (Lp Int (Sum Int Unit)) :=
    ((bif (decide (s_1 < ((d0.fList.length : Nat) : Int))) then
        (some ((decide (s_1 < ((d1.fList.length : Nat) : Int)))))
      else
        some ((false)) : Option Bool)).bind fun y_1 =>
    bif y_1 then
      (((bif (decide (d0.fKind = 5)) then
          ((getI d0.fKeys s_1).bind fun x_1 =>
          (getI d1.fKeys s_1).bind fun x_2 =>
          some ((!(decide (x_1 = x_2)))))
        else
          some ((false)) : Option Bool)).bind fun y_2 =>
      bif y_2 then
        ((getI d0.fKeys s_1).bind fun x_3 =>
        (getI d1.fKeys s_1).bind fun x_4 =>
        bif (Op.bytesLess x_3 x_4) then
          (some (.br (.inl (-1 : Int))))
        else
          some (.br (.inl (1 : Int))))
      else
        (getI d0.fList s_1).bind fun x_5 =>
        (getI d1.fList s_1).bind fun x_6 =>
        (rec_ref03_compare x_5 x_6).bind fun x_7 =>
        bif (!(decide (x_7 = 0))) then
          (some (.br (.inl x_7)))
        else
          need (inR .i64 (s_1 + 1)) <|
          some (.nx (s_1 + 1)))
    else
      some (.br (.inr ()))
def ref03_compare_b (n : Nat) (rec_ref03_compare : TG0 → TG0 → Option Int) (d0 : TG0) (d1 : TG0) : Option Int :=
  bif (!(decide (d0.fKind = d1.fKind))) then
    (bif (decide (d0.fKind < d1.fKind)) then
      (some ((-1 : Int)))
    else
      some ((1 : Int)))
  else
    bif (!(d0.fBool == d1.fBool)) then
      (bif d1.fBool then
        (some ((-1 : Int)))
      else
        some ((1 : Int)))
    else
      bif (!(decide (d0.fNum = d1.fNum))) then
        (bif (decide (d0.fNum < d1.fNum)) then
          (some ((-1 : Int)))
        else
          some ((1 : Int)))
      else
        bif (!(decide (d0.fText = d1.fText))) then
          (bif (Op.bytesLess d0.fText d1.fText) then
            (some ((-1 : Int)))
          else
            some ((1 : Int)))
        else
          (loopF (ref03_compare_s1 n rec_ref03_compare d0 d1) n (0 : Int)).bind fun b_3 =>
          (match b_3 with 
          | .inl y_3 => some (y_3) 
          | .inr y_4 => bif (!(decide (((d0.fList.length : Nat) : Int) = ((d1.fList.length : Nat) : Int)))) then
              (bif (decide (((d0.fList.length : Nat) : Int) < ((d1.fList.length : Nat) : Int))) then
                (some ((-1 : Int)))
              else
                some ((1 : Int)))
            else
              some ((0 : Int)))
set_option maxRecDepth 20000 in
theorem ref03_compare_b_ok (n : Nat) (rec_ref03_compare : TG0 → TG0 → Option Int) (hrec_ref03_compare : ∀ (M : Mem) (c0 : List Value) (d0 : TG0) (h0 : Rep M (emb_TG0 d0) c0) (c1 : List Value) (d1 : TG0) (h1 : Rep M (emb_TG0 d1) c1) (r : Int) (hF : rec_ref03_compare d0 d1 = some r), Ok Tryz.prog M 77 [.agg c0.toArray, .agg c1.toArray] (fun _ v => v = .int .i64 r)) (M : Mem) (c0 : List Value) (d0 : TG0) (h0 : Rep M (emb_TG0 d0) c0) (c1 : List Value) (d1 : TG0) (h1 : Rep M (emb_TG0 d1) c1) (r : Int) (hF : ref03_compare_b n rec_ref03_compare d0 d1 = some r) : Ok Tryz.prog M 77 [.agg c0.toArray, .agg c1.toArray] (fun _ v => v = .int .i64 r) := by
 unfold ref03_compare_b at hF
 intro M1 hM0 w0 H w p0
 replace h0 := Rep.mono hM0 _ _ h0
 replace h1 := Rep.mono hM0 _ _ h1
 obtain ⟨A_1, cap_1, A_2, cap_2, rfl, h_1, h_2⟩ := TG0.opn h0
 obtain ⟨A_3, cap_3, A_4, cap_4, rfl, h_3, h_4⟩ := TG0.opn h1
 refine R_enter 113 Tryz.func77 rfl rfl (by simp) fun a0 f0 => RR (Y13 (cs := #[.int .i8 d0.fKind, .bool d0.fBool, .int .i64 d0.fNum, S d0.fText, .slice A_1 d0.fList.length cap_1, .slice A_2 d0.fKeys.length cap_2]) (T := 71) f0 p0 fun b_1 M_1 w_1 hM_1 hc_1 p_1 _ f => ?_)
 have hc_2 := fz_box hc_1
 refine Y13 (cs := #[.int .i8 d1.fKind, .bool d1.fBool, .int .i64 d1.fNum, S d1.fText, .slice A_3 d1.fList.length cap_3, .slice A_4 d1.fKeys.length cap_4]) (T := 71) f p_1 fun b_2 M_2 w_2 hM_2 hc_3 p_2 _ f => ?_
 have hc_4 := fz_box hc_3
 refine Y f 1 fun _ f => eT (R_seq (RR (Y f 1 fun _ f => Y15 f p_2 (fzu hM_2 hc_2) 0 rfl fun _ f => Y f 1 fun _ f => Y15 f p_2 hc_4 0 rfl fun _ f => Y f 1 fun _ f => eT (RcF f hF (fun h_5 hF_1 => ?_) fun h_5 hF_4 => ?_))))
 ·have k_1 : ¬ (d0.fKind = d1.fKind) := (not_iff dI).1 h_5
  refine R_seq (RR (Y f 1 fun _ f => Y15 f p_2 (fzu hM_2 hc_2) 0 rfl fun _ f => Y f 1 fun _ f => Y15 f p_2 hc_4 0 rfl fun _ f => Y f 1 fun _ f => eT (RcF f hF_1 (fun h_6 hF_2 => ?_) fun h_6 hF_3 => ?_)))
  ·have k_2 := dI.1 h_6
   refine RR (Y f 1 fun _ f => eT (wp_ret (T_r (T_r (E_ret1 f rfl (by kernel_rfl : Vc.look _ 4 = some (.int .i64 (-1))) ?_)))))
   obtain rfl := sI hF_2
   exact ⟨_, rfl, M_2, (hM_1.trans hM_2), p_2, rfl⟩
  ·have k_3 := iff_f dI h_6
   refine wp_skip (T_n (RR (Y f 1 fun _ f => eT (wp_ret (T_r (E_ret1 f rfl (by kernel_rfl : Vc.look _ 4 = some (.int .i64 1)) ?_))))))
   obtain rfl := sI hF_3
   exact ⟨_, rfl, M_2, (hM_1.trans hM_2), p_2, rfl⟩
 ·have k_4 : ¬ (¬ (d0.fKind = d1.fKind)) := iff_f (not_iff dI) h_5
  refine wp_skip (T_n (R_seq (RR (Y f 1 fun _ f => Y15 f p_2 (fzu hM_2 hc_2) 1 rfl fun _ f => Y f 1 fun _ f => Y15 f p_2 hc_4 1 rfl fun _ f => Y f 1 fun _ f => eT (RcF f hF_4 (fun h_7 hF_5 => ?_) fun h_7 hF_8 => ?_)))))
  ·have k_5 : (d0.fBool == d1.fBool) = false := by simpa using h_7
   refine R_seq (RR (Y f 1 fun _ f => Y15 f p_2 hc_4 1 rfl fun _ f => eT (RcF f hF_5 (fun h_8 hF_6 => ?_) fun h_8 hF_7 => ?_)))
   ·refine RR (Y f 1 fun _ f => eT (wp_ret (T_r (T_r (E_ret1 f rfl (by kernel_rfl : Vc.look _ 4 = some (.int .i64 (-1))) ?_)))))
    obtain rfl := sI hF_6
    exact ⟨_, rfl, M_2, (hM_1.trans hM_2), p_2, rfl⟩
   ·refine wp_skip (T_n (RR (Y f 1 fun _ f => eT (wp_ret (T_r (E_ret1 f rfl (by kernel_rfl : Vc.look _ 4 = some (.int .i64 1)) ?_))))))
    obtain rfl := sI hF_7
    exact ⟨_, rfl, M_2, (hM_1.trans hM_2), p_2, rfl⟩
  ·have k_8 : (d0.fBool == d1.fBool) = true := by simpa using h_7
   refine wp_skip (T_n (R_seq (RR (Y f 1 fun _ f => Y15 f p_2 (fzu hM_2 hc_2) 2 rfl fun _ f => Y f 1 fun _ f => Y15 f p_2 hc_4 2 rfl fun _ f => Y f 1 fun _ f => eT (RcF f hF_8 (fun h_9 hF_9 => ?_) fun h_9 hF_12 => ?_)))))
   ·have k_9 : ¬ (d0.fNum = d1.fNum) := (not_iff dI).1 h_9
    refine R_seq (RR (Y f 1 fun _ f => Y15 f p_2 (fzu hM_2 hc_2) 2 rfl fun _ f => Y f 1 fun _ f => Y15 f p_2 hc_4 2 rfl fun _ f => Y f 1 fun _ f => eT (RcF f hF_9 (fun h_10 hF_10 => ?_) fun h_10 hF_11 => ?_)))
    ·have k_10 := dI.1 h_10
     refine RR (Y f 1 fun _ f => eT (wp_ret (T_r (T_r (E_ret1 f rfl (by kernel_rfl : Vc.look _ 4 = some (.int .i64 (-1))) ?_)))))
     obtain rfl := sI hF_10
     exact ⟨_, rfl, M_2, (hM_1.trans hM_2), p_2, rfl⟩
    ·have k_11 := iff_f dI h_10
     refine wp_skip (T_n (RR (Y f 1 fun _ f => eT (wp_ret (T_r (E_ret1 f rfl (by kernel_rfl : Vc.look _ 4 = some (.int .i64 1)) ?_))))))
     obtain rfl := sI hF_11
     exact ⟨_, rfl, M_2, (hM_1.trans hM_2), p_2, rfl⟩
   ·have k_12 : ¬ (¬ (d0.fNum = d1.fNum)) := iff_f (not_iff dI) h_9
    refine wp_skip (T_n (R_seq (RR (Y f 1 fun _ f => Y15 f p_2 (fzu hM_2 hc_2) 3 rfl fun _ f => Y f 1 fun _ f => Y15 f p_2 hc_4 3 rfl fun _ f => Z f (Y42 rfl (l := d0.fText) (m := d1.fText)) fun _ f => eT (RcF f hF_12 (fun h_11 hF_13 => ?_) fun h_11 hF_16 => ?_)))))
    ·have k_13 : ¬ (d0.fText = d1.fText) := (not_iff dI).1 h_11
     refine R_seq (RR (Y f 1 fun _ f => Y15 f p_2 (fzu hM_2 hc_2) 3 rfl fun _ f => Y f 1 fun _ f => Y15 f p_2 hc_4 3 rfl fun _ f => Z (v := .bool (Op.bytesLess d0.fText d1.fText)) f (X_strlt rfl (l := d0.fText) (m := d1.fText) (by kernel_rfl) (by kernel_rfl)) fun _ f => eT (RcF f hF_13 (fun h_12 hF_14 => ?_) fun h_12 hF_15 => ?_)))
     ·refine RR (Y f 1 fun _ f => eT (wp_ret (T_r (T_r (E_ret1 f rfl (by kernel_rfl : Vc.look _ 4 = some (.int .i64 (-1))) ?_)))))
      obtain rfl := sI hF_14
      exact ⟨_, rfl, M_2, (hM_1.trans hM_2), p_2, rfl⟩
     ·refine wp_skip (T_n (RR (Y f 1 fun _ f => eT (wp_ret (T_r (E_ret1 f rfl (by kernel_rfl : Vc.look _ 4 = some (.int .i64 1)) ?_))))))
      obtain rfl := sI hF_15
      exact ⟨_, rfl, M_2, (hM_1.trans hM_2), p_2, rfl⟩
    ·have k_16 : ¬ (¬ (d0.fText = d1.fText)) := iff_f (not_iff dI) h_11
     refine wp_skip (T_n (R_seq (RR (Y f 1 fun _ f => eT (wp_block ?_)))))
     obtain ⟨b_3, hL_1, hF_17⟩ := bS hF_16
     refine wp_mono (Q := fun e a w => (e = .ret ∧ (∃ y_3 : Int, b_3 = .inl y_3 ∧ ∃ M_6 : Mem, M_2.le M_6 ∧ Frm 113 [(4, .int .i64 y_3)] a ∧ Hp w0 M_6 (H) w)) ∨ (e = .exit 0 ∧ (∃ y_4 : Unit, b_3 = .inr y_4 ∧ ∃ M_7 : Mem, M_2.le M_7 ∧ Frm 113 [(2, .pointer (some (⟨b_1, 0, none⟩))), (3, .pointer (some (⟨b_2, 0, none⟩)))] a ∧ Hp w0 M_7 (H) w))) (R_loop (n := 113) (w0 := w0) (M := M_2) (fun (x : Nat × Int) => match x with | (m_1, s_1) => [(2, .pointer (some (⟨b_1, 0, none⟩))), (3, .pointer (some (⟨b_2, 0, none⟩))), (5, .int .i64 s_1)]) (fun (x : Nat × Int) => match x with | (m_1, s_1) => (H)) (fun (x : Nat × Int) (MM : Mem) => match x with | (m_1, s_1) => loopF (ref03_compare_s1 n rec_ref03_compare d0 d1) m_1 s_1 = some b_3) (fun (x : Nat × Int) => match x with | (m_1, s_1) => m_1) (n, (0 : Int)) (f.kp) p_2 hL_1 ?_) ?_
     ·rintro ⟨m_1, s_1⟩ M_3 _ w_3 hM_3 I_1 f p_3
      have I_1L := I_1
      obtain ⟨m_2, r_1, rfl, hs_1, hn_1⟩ := loop_step I_1L
      unfold ref03_compare_s1 at hs_1
      refine R_seq (R_seq ?_)
      obtain ⟨j_1, hj_1, hF_18⟩ := bS hs_1
      refine R_mid (fun a_58 w_4 => ∃ y_1 : Bool, j_1 = y_1 ∧ ∃ M_4 : Mem, M_3.le M_4 ∧ Frm 113 [(2, .pointer (some (⟨b_1, 0, none⟩))), (3, .pointer (some (⟨b_2, 0, none⟩))), (5, .int .i64 s_1), (55, .bool y_1)] a_58 ∧ Hp w0 M_4 (H) w_4) ?_ ?_
      ·refine R_reg (Y f 2 fun _ f => Y15 f p_3 (fzu (hM_2.trans hM_3) hc_2) 4 rfl fun _ f => Y f 3 fun _ f => ?_)
       rcases cE hj_1 with ⟨h_13, hF_19⟩ | ⟨h_13, hF_20⟩
       ·have k_17 := dI.1 h_13
        have f := f.st 49 (cB h_13)
        refine Y f 2 fun _ f => Y15 f p_3 (fzu hM_3 hc_4) 4 rfl fun _ f => Y f 3 fun _ f => eT ?_
        exact ⟨(decide (s_1 < ((d1.fList.length : Nat) : Int))), (sI hF_19).symm, M_3, (mR _), f.kp, p_3⟩
       ·have k_18 := iff_f dI h_13
        have f := f.st 49 (cB h_13)
        refine Y f 6 fun _ f => eT ?_
        exact ⟨(false), (sI hF_20).symm, M_3, (mR _), f.kp, p_3⟩
      ·rintro a_58 w_4 ⟨y_1, hq_1, M_4, hM_4, f, p_4⟩
       subst j_1
       refine T_n (RcF f hF_18 (fun h_14 hF_21 => ?_) fun h_14 hF_39 => ?_)
       ·refine wp_skip (T_n (R_seq (wp_block (R_seq (R_seq ?_)))))
        obtain ⟨j_2, hj_2, hF_22⟩ := bS hF_21
        refine R_mid (fun a_75 w_7 => ∃ y_2 : Bool, j_2 = y_2 ∧ ∃ M_5 : Mem, M_4.le M_5 ∧ Frm 113 [(2, .pointer (some (⟨b_1, 0, none⟩))), (3, .pointer (some (⟨b_2, 0, none⟩))), (5, .int .i64 s_1), (73, .bool y_2)] a_75 ∧ Hp w0 M_5 (H) w_7) ?_ ?_
        ·refine R_draw p_4 (by kernel_rfl) (by kernel_rfl) (Y5 default f 1 fun _ f => Y4 f (fzu ((hM_2.trans hM_3).trans hM_4) hc_2) 0 rfl fun _ f => Y5 default f 2 fun _ f => ?_)
         rcases cE hj_2 with ⟨h_15, hF_23⟩ | ⟨h_15, hF_26⟩
         ·have k_20 := dI.1 h_15
          have f := f.st 61 (cB h_15)
          refine Y5 default f 1 fun _ f => Y4 f (fzu ((hM_2.trans hM_3).trans hM_4) hc_2) 5 rfl fun _ f => Y5 default f 1 fun _ f => ?_
          obtain ⟨x_1, hx_1, hF_24⟩ := bS hF_23
          obtain ⟨ad_1, c_1, e_1, -, hr_1, hc_5⟩ := Sli.at_ (h_2.mono (((hM_1.trans hM_2).trans hM_3).trans hM_4)) hx_1
          obtain rfl : c_1 = [S x_1] := hr_1
          refine Y2 (v := .pointer (some (ad_1.add (s_1.toNat * 1)))) f (fun _ pq => Y33 e_1 rfl (len := d0.fKeys.length) (cap := cap_2) (k := .i64) (i := s_1) (e := 9) (sz := 1) (getI_nn hx_1) (getI_lt hx_1)) fun _ f => Y4 f hc_5 0 rfl fun _ f => Y5 default f 1 fun _ f => Y4 f (fzu (hM_3.trans hM_4) hc_4) 5 rfl fun _ f => Y5 default f 1 fun _ f => ?_
          obtain ⟨x_2, hx_2, hF_25⟩ := bS hF_24
          obtain ⟨ad_2, c_2, e_2, -, hr_2, hc_6⟩ := Sli.at_ (h_4.mono (((hM_1.trans hM_2).trans hM_3).trans hM_4)) hx_2
          obtain rfl : c_2 = [S x_2] := hr_2
          refine Y2 (v := .pointer (some (ad_2.add (s_1.toNat * 1)))) f (fun _ pq => Y33 e_2 rfl (len := d1.fKeys.length) (cap := cap_4) (k := .i64) (i := s_1) (e := 9) (sz := 1) (getI_nn hx_2) (getI_lt hx_2)) fun _ f => Y4 f hc_6 0 rfl fun _ f => Y2 (v := .bool (!(decide (x_1 = x_2)))) f (fun _ pq => Y42 rfl (l := x_1) (m := x_2)) fun _ f => Y5 default f 1 fun _ f => Q_end rfl ?_
          intro w_5 p_5
          refine T_n ?_
          exact ⟨(!(decide (x_1 = x_2))), (sI hF_25).symm, M_4, (mR _), f.kp, p_5⟩
         ·have k_21 := iff_f dI h_15
          have f := f.st 61 (cB h_15)
          refine Y5 default f 12 fun _ f => Q_end rfl ?_
          intro w_6 p_6
          refine T_n ?_
          exact ⟨(false), (sI hF_26).symm, M_4, (mR _), f.kp, p_6⟩
        ·rintro a_75 w_7 ⟨y_2, hq_2, M_5, hM_5, f, p_7⟩
         subst j_2
         refine T_n (RcF f hF_22 (fun h_16 hF_27 => ?_) fun h_16 hF_32 => ?_)
         ·refine R_seq (R_seq (R_draw p_7 (by kernel_rfl) (by kernel_rfl) (Y5 default f 1 fun _ f => Y4 f (fzu (((hM_2.trans hM_3).trans hM_4).trans hM_5) hc_2) 5 rfl fun _ f => Y5 default f 1 fun _ f => ?_)))
          obtain ⟨x_3, hx_3, hF_28⟩ := bS hF_27
          obtain ⟨ad_3, c_3, e_3, -, hr_3, hc_7⟩ := Sli.at_ (h_2.mono ((((hM_1.trans hM_2).trans hM_3).trans hM_4).trans hM_5)) hx_3
          obtain rfl : c_3 = [S x_3] := hr_3
          refine Y2 (v := .pointer (some (ad_3.add (s_1.toNat * 1)))) f (fun _ pq => Y33 e_3 rfl (len := d0.fKeys.length) (cap := cap_2) (k := .i64) (i := s_1) (e := 9) (sz := 1) (getI_nn hx_3) (getI_lt hx_3)) fun _ f => Y4 f hc_7 0 rfl fun _ f => Y5 default f 1 fun _ f => Y4 f (fzu ((hM_3.trans hM_4).trans hM_5) hc_4) 5 rfl fun _ f => Y5 default f 1 fun _ f => ?_
          obtain ⟨x_4, hx_4, hF_29⟩ := bS hF_28
          obtain ⟨ad_4, c_4, e_4, -, hr_4, hc_8⟩ := Sli.at_ (h_4.mono ((((hM_1.trans hM_2).trans hM_3).trans hM_4).trans hM_5)) hx_4
          obtain rfl : c_4 = [S x_4] := hr_4
          refine Y2 (v := .pointer (some (ad_4.add (s_1.toNat * 1)))) f (fun _ pq => Y33 e_4 rfl (len := d1.fKeys.length) (cap := cap_4) (k := .i64) (i := s_1) (e := 9) (sz := 1) (getI_nn hx_4) (getI_lt hx_4)) fun _ f => Y4 f hc_8 0 rfl fun _ f => Y2 (v := .bool (Op.bytesLess x_3 x_4)) f (fun _ pq => X_strlt rfl (l := x_3) (m := x_4) (by kernel_rfl) (by kernel_rfl)) fun _ f => Q_end rfl ?_
          intro w_8 p_8
          refine T_n (RcF f hF_29 (fun h_17 hF_30 => ?_) fun h_17 hF_31 => ?_)
          ·refine RR (Y f 1 fun _ f => eT (wp_ret (T_r (T_r (B_r (T_r (T_r ?_)))))))
           obtain rfl := sI hF_30
           exact .inl ⟨rfl, (-1 : Int), (sI hn_1).symm, M_5, ((hM_3.trans hM_4).trans hM_5), f.kp, p_8⟩
          ·refine wp_skip (T_n (RR (Y f 1 fun _ f => eT (wp_ret (T_r (B_r (T_r (T_r ?_))))))))
           obtain rfl := sI hF_31
           exact .inl ⟨rfl, (1 : Int), (sI hn_1).symm, M_5, ((hM_3.trans hM_4).trans hM_5), f.kp, p_8⟩
         ·refine wp_skip (T_n (R_seq (R_draw p_7 (by kernel_rfl) (by kernel_rfl) (Y5 default f 1 fun _ f => Y4 f (fzu (((hM_2.trans hM_3).trans hM_4).trans hM_5) hc_2) 4 rfl fun _ f => Y5 default f 1 fun _ f => ?_))))
          obtain ⟨x_5, hx_5, hF_33⟩ := bS hF_32
          obtain ⟨ad_5, c_5, e_5, -, hr_5, hc_9⟩ := Sli.at_ (h_1.mono ((((hM_1.trans hM_2).trans hM_3).trans hM_4).trans hM_5)) hx_5
          obtain ⟨A_5, cap_5, A_6, cap_6, rfl, h_18, h_19⟩ := TG0.opn hr_5
          refine Y2 (v := .pointer (some (ad_5.add (s_1.toNat * 6)))) f (fun _ pq => Y33 e_5 rfl (len := d0.fList.length) (cap := cap_1) (k := .i64) (i := s_1) (e := 71) (sz := 6) (getI_nn hx_5) (getI_lt hx_5)) fun _ f => Y2 (v := .agg #[.int .i8 x_5.fKind, .bool x_5.fBool, .int .i64 x_5.fNum, S x_5.fText, .slice A_5 x_5.fList.length cap_5, .slice A_6 x_5.fKeys.length cap_6]) f (fun _ pq => Y35 (cs := [.int .i8 x_5.fKind, .bool x_5.fBool, .int .i64 x_5.fNum, S x_5.fText, .slice A_5 x_5.fList.length cap_5, .slice A_6 x_5.fKeys.length cap_6]) rfl (ad := ad_5.add (s_1.toNat * 6)) (fun j v h => pq.cell (hc_9 j v h))) fun _ f => Y5 default f 1 fun _ f => Y4 f (fzu ((hM_3.trans hM_4).trans hM_5) hc_4) 4 rfl fun _ f => Y5 default f 1 fun _ f => ?_
          obtain ⟨x_6, hx_6, hF_34⟩ := bS hF_33
          obtain ⟨ad_6, c_6, e_6, -, hr_6, hc_10⟩ := Sli.at_ (h_3.mono ((((hM_1.trans hM_2).trans hM_3).trans hM_4).trans hM_5)) hx_6
          obtain ⟨A_7, cap_7, A_8, cap_8, rfl, h_20, h_21⟩ := TG0.opn hr_6
          refine Y2 (v := .pointer (some (ad_6.add (s_1.toNat * 6)))) f (fun _ pq => Y33 e_6 rfl (len := d1.fList.length) (cap := cap_3) (k := .i64) (i := s_1) (e := 71) (sz := 6) (getI_nn hx_6) (getI_lt hx_6)) fun _ f => Y2 (v := .agg #[.int .i8 x_6.fKind, .bool x_6.fBool, .int .i64 x_6.fNum, S x_6.fText, .slice A_7 x_6.fList.length cap_7, .slice A_8 x_6.fKeys.length cap_8]) f (fun _ pq => Y35 (cs := [.int .i8 x_6.fKind, .bool x_6.fBool, .int .i64 x_6.fNum, S x_6.fText, .slice A_7 x_6.fList.length cap_7, .slice A_8 x_6.fKeys.length cap_8]) rfl (ad := ad_6.add (s_1.toNat * 6)) (fun j v h => pq.cell (hc_10 j v h))) fun _ f => ?_
          obtain ⟨x_7, hx_7, hF_35⟩ := bS hF_34
          refine Y3 f (hrec_ref03_compare _ _ x_5 (TG0.shutx (x := x_5) h_18 h_19) _ x_6 (TG0.shutx (x := x_6) h_20 h_21) x_7 hx_7) fun _ f => Y5 default f 1 fun _ f => Q_end rfl ?_
          intro w_10 p_10
          refine T_n (RR (Y f 2 fun _ f => eT (RcF f hF_35 (fun h_22 hF_36 => ?_) fun h_22 hF_37 => ?_)))
          ·have k_26 : ¬ (x_7 = 0) := (not_iff dI).1 h_22
           refine RR (Y f 2 fun _ f => eT (wp_ret (B_r (T_r (T_r ?_)))))
           obtain rfl := sI hF_36
           exact .inl ⟨rfl, x_7, (sI hn_1).symm, M_5, ((hM_3.trans hM_4).trans hM_5), f.kp, p_10⟩
          ·have k_27 : ¬ (¬ (x_7 = 0)) := iff_f (not_iff dI) h_22
           refine wp_skip (B_n (T_n (R_reg (Y f 1 fun _ f => ?_))))
           obtain ⟨g_1, hF_38⟩ := nS hF_37
           refine Y f 1 fun _ f => ?_
           have f := f.st 57 (congrArg (Value.int .i64) (inR_wrap g_1))
           refine Y f 1 fun _ f => eT ?_
           obtain rfl := sI hF_38
           exact ⟨⟨m_2, s_1 + 1⟩, Nat.lt_succ_self _, M_5, ((hM_3.trans hM_4).trans hM_5), hn_1, f.kp, p_10⟩
       ·refine wp_exit (T_x (T_x ?_))
        obtain rfl := sI hF_39
        exact .inr ⟨rfl, (), (sI hn_1).symm, M_4, (hM_3.trans hM_4), f.kp, p_4⟩
     ·rintro _ _ w_13 (⟨rfl, y_3, rfl, M_6, hM_6, f, p_11⟩ | ⟨rfl, y_4, rfl, M_7, hM_7, f, p_12⟩)
      ·refine B_r (T_r (E_ret1 f rfl (by kernel_rfl : Vc.look _ 4 = some (.int .i64 y_3)) ?_))
       obtain rfl := sI hF_17
       exact ⟨_, rfl, M_6, ((hM_1.trans hM_2).trans hM_6), p_11, rfl⟩
      ·refine B_x (T_n (R_seq (RR (Y f 1 fun _ f => Y15 f p_12 (fzu (hM_2.trans hM_7) hc_2) 4 rfl fun _ f => Y f 2 fun _ f => Y15 f p_12 (fzu hM_7 hc_4) 4 rfl fun _ f => Y f 2 fun _ f => eT (RcF f hF_17 (fun h_23 hF_40 => ?_) fun h_23 hF_43 => ?_)))))
       ·have k_29 : ¬ (((d0.fList.length : Nat) : Int) = ((d1.fList.length : Nat) : Int)) := (not_iff dI).1 h_23
        refine R_seq (RR (Y f 1 fun _ f => Y15 f p_12 (fzu (hM_2.trans hM_7) hc_2) 4 rfl fun _ f => Y f 2 fun _ f => Y15 f p_12 (fzu hM_7 hc_4) 4 rfl fun _ f => Y f 2 fun _ f => eT (RcF f hF_40 (fun h_24 hF_41 => ?_) fun h_24 hF_42 => ?_)))
        ·have k_30 := dI.1 h_24
         refine RR (Y f 1 fun _ f => eT (wp_ret (T_r (T_r (E_ret1 f rfl (by kernel_rfl : Vc.look _ 4 = some (.int .i64 (-1))) ?_)))))
         obtain rfl := sI hF_41
         exact ⟨_, rfl, M_7, ((hM_1.trans hM_2).trans hM_7), p_12, rfl⟩
        ·have k_31 := iff_f dI h_24
         refine wp_skip (T_n (RR (Y f 1 fun _ f => eT (wp_ret (T_r (E_ret1 f rfl (by kernel_rfl : Vc.look _ 4 = some (.int .i64 1)) ?_))))))
         obtain rfl := sI hF_42
         exact ⟨_, rfl, M_7, ((hM_1.trans hM_2).trans hM_7), p_12, rfl⟩
       ·have k_32 : ¬ (¬ (((d0.fList.length : Nat) : Int) = ((d1.fList.length : Nat) : Int))) := iff_f (not_iff dI) h_23
        refine wp_skip (T_n (RR (Y f 1 fun _ f => eT (wp_ret (E_ret1 f rfl (by kernel_rfl : Vc.look _ 4 = some (.int .i64 0)) ?_)))))
        obtain rfl := sI hF_43
        exact ⟨_, rfl, M_7, ((hM_1.trans hM_2).trans hM_7), p_12, rfl⟩
def ref03_compare_k (n : Nat) : Nat → TG0 → TG0 → Option Int
  | 0 => fun _ _ => none
  | k + 1 => ref03_compare_b n (ref03_compare_k n k)
def ref03_compare (n : Nat) (d0 : TG0) (d1 : TG0) : Option Int := ref03_compare_k n n d0 d1
theorem ref03_compare_ok (n : Nat) (M : Mem) (c0 : List Value) (d0 : TG0) (h0 : Rep M (emb_TG0 d0) c0) (c1 : List Value) (d1 : TG0) (h1 : Rep M (emb_TG0 d1) c1) (r : Int) (hF : ref03_compare n d0 d1 = some r) : Ok Tryz.prog M 77 [.agg c0.toArray, .agg c1.toArray] (fun _ v => v = .int .i64 r) := by
 have key : ∀ (k : Nat) (M : Mem) (c0 : List Value) (d0 : TG0) (h0 : Rep M (emb_TG0 d0) c0) (c1 : List Value) (d1 : TG0) (h1 : Rep M (emb_TG0 d1) c1) (r : Int) (hF : ref03_compare_k n k d0 d1 = some r), Ok Tryz.prog M 77 [.agg c0.toArray, .agg c1.toArray] (fun _ v => v = .int .i64 r) := by
  intro k
  induction k with
  | zero => intro M c0 d0 h0 c1 d1 h1 r hF; simp [ref03_compare_k] at hF
  | succ k ih => intro M c0 d0 h0 c1 d1 h1 r hF; exact ref03_compare_b_ok n (ref03_compare_k n k) ih M c0 d0 h0 c1 d1 h1 r hF
 exact key n M c0 d0 h0 c1 d1 h1 r hF
def ref03_Equal (n : Nat) (d0 : TG0) (d1 : TG0) : Option Bool :=
  (ref03_Check n d0).bind fun x_1 =>
  bif (decide (x_1 = 0)) then
    ((ref03_Check n d1).bind fun x_2 =>
    bif (decide (x_2 = 0)) then
      ((ref03_sorted n d0).bind fun x_3 =>
      (ref03_sorted n d1).bind fun x_4 =>
      (ref03_compare n x_3 x_4).bind fun x_5 =>
      some ((decide (x_5 = 0))))
    else
      some ((false)))
  else
    some ((false))
theorem ref03_Equal_ok (n : Nat) (M : Mem) (c0 : List Value) (d0 : TG0) (h0 : Rep M (emb_TG0 d0) c0) (c1 : List Value) (d1 : TG0) (h1 : Rep M (emb_TG0 d1) c1) (r : Bool) (hF : ref03_Equal n d0 d1 = some r) : Ok Tryz.prog M 57 [.agg c0.toArray, .agg c1.toArray] (fun _ v => v = .bool r) := by
 unfold ref03_Equal at hF
 intro M1 hM0 w0 H w p0
 replace h0 := Rep.mono hM0 _ _ h0
 replace h1 := Rep.mono hM0 _ _ h1
 obtain ⟨A_1, cap_1, A_2, cap_2, rfl, h_1, h_2⟩ := TG0.opn h0
 obtain ⟨A_3, cap_3, A_4, cap_4, rfl, h_3, h_4⟩ := TG0.opn h1
 refine R_enter 21 Tryz.func57 rfl rfl (by simp) fun a0 f0 => RR (Y13 (cs := #[.int .i8 d0.fKind, .bool d0.fBool, .int .i64 d0.fNum, S d0.fText, .slice A_1 d0.fList.length cap_1, .slice A_2 d0.fKeys.length cap_2]) (T := 71) f0 p0 fun b_1 M_1 w_1 hM_1 hc_1 p_1 _ f => ?_)
 have hc_2 := fz_box hc_1
 refine Y13 (cs := #[.int .i8 d1.fKind, .bool d1.fBool, .int .i64 d1.fNum, S d1.fText, .slice A_3 d1.fList.length cap_3, .slice A_4 d1.fKeys.length cap_4]) (T := 71) f p_1 fun b_2 M_2 w_2 hM_2 hc_3 p_2 _ f => ?_
 have hc_4 := fz_box hc_3
 refine Y f 1 fun _ f => eT (R_seq (R_mix (E := []) (Hr := (H)) [(0, true), (1, true), (2, true), (3, true), (4, true), (5, true), (6, true), (7, true), (8, true), (9, true), (11, true), (10, false), (12, false), (13, false), (14, true), (15, true), (16, true)] p_2 (by kernel_rfl) (by kernel_rfl) rfl (by kernel_rfl) (M_eq (v := .agg #[.int .i8 d0.fKind, .bool d0.fBool, .int .i64 d0.fNum, S d0.fText, .slice A_1 d0.fList.length cap_1, .slice A_2 d0.fKeys.length cap_2]) f (by kernel_rfl) (by kernel_rfl) rfl rfl (fun _ pq => Y35 (cs := [.int .i8 d0.fKind, .bool d0.fBool, .int .i64 d0.fNum, S d0.fText, .slice A_1 d0.fList.length cap_1, .slice A_2 d0.fKeys.length cap_2]) rfl (ad := ⟨b_1, 0, none⟩) (fun j v h => pq.cell ((fzu hM_2 hc_2) j v h))) fun _ f => ?_)))
 obtain ⟨x_1, hx_1, hF_1⟩ := bS hF
 refine M_okv (v := .int .i64 x_1) f (by kernel_rfl) (by kernel_rfl) rfl rfl (fun _ => by kernel_rfl) (ref03_Check_ok n _ _ d0 (TG0.shutx (x := d0) (h_1.mono (hM_1.trans hM_2)) (h_2.mono (hM_1.trans hM_2))) x_1 hx_1) fun _ f => Y0 default f 2 fun _ f => ?_
 rcases cE hF_1 with ⟨h_5, hF_2⟩ | ⟨h_5, hF_9⟩
 ·have k_1 := dI.1 h_5
  have f := f.st 8 (cB h_5)
  refine M_eq (v := .agg #[.int .i8 d1.fKind, .bool d1.fBool, .int .i64 d1.fNum, S d1.fText, .slice A_3 d1.fList.length cap_3, .slice A_4 d1.fKeys.length cap_4]) f (by kernel_rfl) (by kernel_rfl) rfl rfl (fun _ pq => Y35 (cs := [.int .i8 d1.fKind, .bool d1.fBool, .int .i64 d1.fNum, S d1.fText, .slice A_3 d1.fList.length cap_3, .slice A_4 d1.fKeys.length cap_4]) rfl (ad := ⟨b_2, 0, none⟩) (fun j v h => pq.cell (hc_4 j v h))) fun _ f => ?_
  obtain ⟨x_2, hx_2, hF_3⟩ := bS hF_2
  refine M_okv (v := .int .i64 x_2) f (by kernel_rfl) (by kernel_rfl) rfl rfl (fun _ => by kernel_rfl) (ref03_Check_ok n _ _ d1 (TG0.shutx (x := d1) (h_3.mono (hM_1.trans hM_2)) (h_4.mono (hM_1.trans hM_2))) x_2 hx_2) fun _ f => Y0 default f 3 fun _ f => ?_
  rcases cE hF_3 with ⟨h_6, hF_4⟩ | ⟨h_6, hF_8⟩
  ·have k_2 := dI.1 h_6
   have f := f.st 13 (cB h_6)
   refine M_eq (v := .agg #[.int .i8 d0.fKind, .bool d0.fBool, .int .i64 d0.fNum, S d0.fText, .slice A_1 d0.fList.length cap_1, .slice A_2 d0.fKeys.length cap_2]) f (by kernel_rfl) (by kernel_rfl) rfl rfl (fun _ pq => Y35 (cs := [.int .i8 d0.fKind, .bool d0.fBool, .int .i64 d0.fNum, S d0.fText, .slice A_1 d0.fList.length cap_1, .slice A_2 d0.fKeys.length cap_2]) rfl (ad := ⟨b_1, 0, none⟩) (fun j v h => pq.cell ((fzu hM_2 hc_2) j v h))) fun _ f => M_eq (v := .agg #[.int .i8 d1.fKind, .bool d1.fBool, .int .i64 d1.fNum, S d1.fText, .slice A_3 d1.fList.length cap_3, .slice A_4 d1.fKeys.length cap_4]) f (by kernel_rfl) (by kernel_rfl) rfl rfl (fun _ pq => Y35 (cs := [.int .i8 d1.fKind, .bool d1.fBool, .int .i64 d1.fNum, S d1.fText, .slice A_3 d1.fList.length cap_3, .slice A_4 d1.fKeys.length cap_4]) rfl (ad := ⟨b_2, 0, none⟩) (fun j v h => pq.cell (hc_4 j v h))) fun _ f => M_fix (E := []) fun w_5 p_5 => ?_
   obtain ⟨x_3, hx_3, hF_5⟩ := bS hF_4
   refine Y16 f p_5 (ref03_sorted_ok n _ _ d0 (TG0.shutx (x := d0) (h_1.mono (hM_1.trans hM_2)) (h_2.mono (hM_1.trans hM_2))) x_3 hx_3) fun _ M_3 w_6 hM_3 p_6 q_1 _ f => ?_
   obtain ⟨c_1, rfl, hr_1⟩ := q_1
   obtain ⟨A_5, cap_5, A_6, cap_6, rfl, h_7, h_8⟩ := TG0.opn hr_1
   refine W_end rfl (M_go (M1 := M_3) (E := []) hM_3 p_6 (M_fix (E := []) fun w_7 p_7 => ?_))
   obtain ⟨x_4, hx_4, hF_6⟩ := bS hF_5
   refine Y16 f p_7 (ref03_sorted_ok n _ _ d1 (TG0.shutx (x := d1) (h_3.mono ((hM_1.trans hM_2).trans hM_3)) (h_4.mono ((hM_1.trans hM_2).trans hM_3))) x_4 hx_4) fun _ M_4 w_8 hM_4 p_8 q_2 _ f => ?_
   obtain ⟨c_2, rfl, hr_2⟩ := q_2
   obtain ⟨A_7, cap_7, A_8, cap_8, rfl, h_9, h_10⟩ := TG0.opn hr_2
   refine W_end rfl (M_go (M1 := M_4) (E := []) (hM_3.trans hM_4) p_8 (M_fix (E := []) fun w_9 p_9 => ?_))
   obtain ⟨x_5, hx_5, hF_7⟩ := bS hF_6
   refine Y18 f p_9 (ref03_compare_ok n _ _ x_3 (TG0.shutx (x := x_3) (h_7.mono hM_4) (h_8.mono hM_4)) _ x_4 (TG0.shutx (x := x_4) h_9 h_10) x_5 hx_5) fun w_10 p_10 _ f => W_end rfl (M_go (M1 := M_4) (E := []) (hM_3.trans hM_4) p_10 (Y0 default f 3 fun _ f => M_end rfl fun w_11 p_11 => T_n (wp_ret (E_ret1 f rfl (by kernel_rfl : Vc.look _ 4 = some (.bool (decide (x_5 = 0)))) ?_))))
   obtain rfl := sI hF_7
   exact ⟨_, rfl, M_4, (((hM_1.trans hM_2).trans hM_3).trans hM_4), p_11, rfl⟩
  ·have k_3 := iff_f dI h_6
   have f := f.st 13 (cB h_6)
   refine Y0 default f 2 fun _ f => M_fix (E := []) fun w_12 p_12 => Y f 1 fun _ f => W_end rfl (M_go (M1 := M_2) (E := []) (mR _) p_12 (M_fix (E := []) fun w_13 p_13 => Y f 1 fun _ f => W_end rfl (M_go (M1 := M_2) (E := []) (mR _) p_13 (M_fix (E := []) fun w_14 p_14 => Y f 1 fun _ f => ?_))))
   refine W_end rfl (M_go (M1 := M_2) (E := []) (mR _) p_14 (Y0 default f 3 fun _ f => M_end rfl fun w_15 p_15 => T_n (wp_ret (E_ret1 f rfl (by kernel_rfl : Vc.look _ 4 = some (.bool false)) ?_))))
   obtain rfl := sI hF_8
   exact ⟨_, rfl, M_2, (hM_1.trans hM_2), p_15, rfl⟩
 ·have k_4 := iff_f dI h_5
  have f := f.st 8 (cB h_5)
  refine Y0 default f 7 fun _ f => M_fix (E := []) fun w_16 p_16 => Y f 1 fun _ f => W_end rfl (M_go (M1 := M_2) (E := []) (mR _) p_16 (M_fix (E := []) fun w_17 p_17 => Y f 1 fun _ f => W_end rfl (M_go (M1 := M_2) (E := []) (mR _) p_17 (M_fix (E := []) fun w_18 p_18 => Y f 1 fun _ f => ?_))))
  refine W_end rfl (M_go (M1 := M_2) (E := []) (mR _) p_18 (Y0 default f 3 fun _ f => M_end rfl fun w_19 p_19 => T_n (wp_ret (E_ret1 f rfl (by kernel_rfl : Vc.look _ 4 = some (.bool false)) ?_))))
  obtain rfl := sI hF_9
  exact ⟨_, rfl, M_2, (hM_1.trans hM_2), p_19, rfl⟩
def foldP (l : List KV) : List KV := l.foldl (fun acc p => insP p acc) []
end Go.Proofs.YtocefedhenhbfabGreatDoor
end

section
namespace Go.Proofs.YtocefedhenhbfabGreatDoor
open Go Go.Vc Go.RowKit
open Go Go.Vc Go.RowKit
end Go.Proofs.YtocefedhenhbfabGreatDoor
end

section
namespace Go.Proofs.YtocefedhenhbfabGreatDoor
open Go Go.Vc Go.RowKit
def ref09_Same_s1 (n : Nat) (d0 : List TF0) (d1 : List TF0) (s_1 : Int) : Option (Lp Int (Sum Unit Unit)) :=
    bif (decide (s_1 < ((d0.length : Nat) : Int))) then
      ((getI d0 s_1).bind fun x_1 =>
      (getI d1 s_1).bind fun x_2 =>
      bif (!(decide (x_1.fName = x_2.fName))) then
        (some (.br (.inl ())))
      else
        (getI d0 s_1).bind fun x_3 =>
        (getI d1 s_1).bind fun x_4 =>
        bif (!(x_3.fUnknown == x_4.fUnknown)) then
          (some (.br (.inl ())))
        else
          (getI d0 s_1).bind fun x_5 =>
          (getI d1 s_1).bind fun x_6 =>
          (ref03_Same n (⟨x_5.fV.fKind, (x_5.fV.fBool), x_5.fV.fNum, x_5.fV.fText, x_5.fV.fList, x_5.fV.fKeys⟩ : TG0) (⟨x_6.fV.fKind, (x_6.fV.fBool), x_6.fV.fNum, x_6.fV.fText, x_6.fV.fList, x_6.fV.fKeys⟩ : TG0)).bind fun x_7 =>
          bif !x_7 then
            ((getI d0 s_1).bind fun x_8 =>
            (getI d1 s_1).bind fun x_9 =>
            (ref03_Equal n (⟨x_8.fV.fKind, (x_8.fV.fBool), x_8.fV.fNum, x_8.fV.fText, x_8.fV.fList, x_8.fV.fKeys⟩ : TG0) (⟨x_9.fV.fKind, (x_9.fV.fBool), x_9.fV.fNum, x_9.fV.fText, x_9.fV.fList, x_9.fV.fKeys⟩ : TG0)).bind fun x_10 =>
            bif !x_10 then
              (some (.br (.inl ())))
            else
              need (inR .i64 (s_1 + 1)) <|
              some (.nx (s_1 + 1)))
          else
            need (inR .i64 (s_1 + 1)) <|
            some (.nx (s_1 + 1)))
    else
      some (.br (.inr ()))
def ref09_Same (n : Nat) (d0 : List TF0) (d1 : List TF0) : Option Bool :=
  bif (!(decide (((d0.length : Nat) : Int) = ((d1.length : Nat) : Int)))) then
    (some ((false)))
  else
    (loopF (ref09_Same_s1 n d0 d1) n (0 : Int)).bind fun b_1 =>
    (match b_1 with 
    | .inl y_1 => some ((false)) 
    | .inr y_2 => some ((true)))
set_option maxRecDepth 20000 in
theorem ref09_Same_ok (n : Nat) (M : Mem) (hG : GL M) (A0 : Option Addr) (cap0 : Nat) (d0 : List TF0) (h0 : Sli M 8 emb_TF0 A0 cap0 d0) (A1 : Option Addr) (cap1 : Nat) (d1 : List TF0) (h1 : Sli M 8 emb_TF0 A1 cap1 d1) (r : Bool) (hF : ref09_Same n d0 d1 = some r) : Ok Tryz.prog M 41 [.slice A0 d0.length cap0, .slice A1 d1.length cap1] (fun _ v => v = .bool r) := by
 unfold ref09_Same at hF
 intro M1 hM0 w0 H w p0
 replace hG := GL.mono hM0 hG
 replace h0 := h0.mono hM0
 replace h1 := h1.mono hM0
 refine R_enter 69 Tryz.func41 rfl rfl (by simp) fun a0 f0 => RR (Y f0 1 fun _ f => eT (R_seq (RR (Y f 5 fun _ f => eT (RcF f hF (fun h_1 hF_1 => ?_) fun h_1 hF_2 => ?_)))))
 ·have k_1 : ¬ (((d0.length : Nat) : Int) = ((d1.length : Nat) : Int)) := (not_iff dI).1 h_1
  refine RR (Y f 1 fun _ f => eT (wp_ret (T_r (E_ret1 f rfl (by kernel_rfl : Vc.look _ 4 = some (.bool false)) ?_))))
  obtain rfl := sI hF_1
  exact ⟨_, rfl, M1, (mR _), p0, rfl⟩
 ·have k_2 : ¬ (¬ (((d0.length : Nat) : Int) = ((d1.length : Nat) : Int))) := iff_f (not_iff dI) h_1
  refine wp_skip (T_n (R_seq (RR (Y f 1 fun _ f => eT (wp_block ?_)))))
  obtain ⟨b_1, hL_1, hF_3⟩ := bS hF_2
  refine wp_mono (Q := fun e a w => (e = .ret ∧ (∃ y_1 : Unit, b_1 = .inl y_1 ∧ ∃ M_2 : Mem, M1.le M_2 ∧ Frm 69 [(4, .bool false)] a ∧ Hp w0 M_2 (H) w)) ∨ (e = .exit 0 ∧ (∃ y_2 : Unit, b_1 = .inr y_2 ∧ ∃ M_3 : Mem, M1.le M_3 ∧ Frm 69 [] a ∧ Hp w0 M_3 (H) w))) (R_loop (n := 69) (w0 := w0) (M := M1) (fun (x : Nat × Int) => match x with | (m_1, s_1) => [(0, .slice A0 d0.length cap0), (1, .slice A1 d1.length cap1), (5, .int .i64 s_1)]) (fun (x : Nat × Int) => match x with | (m_1, s_1) => (H)) (fun (x : Nat × Int) (MM : Mem) => match x with | (m_1, s_1) => loopF (ref09_Same_s1 n d0 d1) m_1 s_1 = some b_1) (fun (x : Nat × Int) => match x with | (m_1, s_1) => m_1) (n, (0 : Int)) (f.kp) p0 hL_1 ?_) ?_
  ·rintro ⟨m_1, s_1⟩ M_1 _ w_1 hM_1 I_1 f p_1
   have I_1L := I_1
   obtain ⟨m_2, r_1, rfl, hs_1, hn_1⟩ := loop_step I_1L
   unfold ref09_Same_s1 at hs_1
   refine R_seq (RR (Y f 4 fun _ f => eT (RcF f hs_1 (fun h_2 hF_4 => ?_) fun h_2 hF_25 => ?_)))
   ·have k_3 := dI.1 h_2
    refine wp_skip (T_n (R_seq (wp_block (R_seq (R_draw p_1 (by kernel_rfl) (by kernel_rfl) (Y5 default f 2 fun _ f => ?_))))))
    obtain ⟨x_1, hx_1, hF_5⟩ := bS hF_4
    obtain ⟨ad_1, c_1, e_1, -, hr_1, hc_1⟩ := Sli.at_ (h0.mono hM_1) hx_1
    obtain ⟨A_1, cap_1, A_2, cap_2, rfl, h_3, h_4⟩ := TF0.opn hr_1
    refine Y2 (v := .pointer (some (ad_1.add (s_1.toNat * 8)))) f (fun _ pq => Y33 e_1 rfl (len := d0.length) (cap := cap0) (k := .i64) (i := s_1) (e := 73) (sz := 8) (getI_nn hx_1) (getI_lt hx_1)) fun _ f => Y5 default f 1 fun _ f => Y4 f hc_1 0 rfl fun _ f => Y5 default f 2 fun _ f => ?_
    obtain ⟨x_2, hx_2, hF_6⟩ := bS hF_5
    obtain ⟨ad_2, c_2, e_2, -, hr_2, hc_2⟩ := Sli.at_ (h1.mono hM_1) hx_2
    obtain ⟨A_3, cap_3, A_4, cap_4, rfl, h_5, h_6⟩ := TF0.opn hr_2
    refine Y2 (v := .pointer (some (ad_2.add (s_1.toNat * 8)))) f (fun _ pq => Y33 e_2 rfl (len := d1.length) (cap := cap1) (k := .i64) (i := s_1) (e := 73) (sz := 8) (getI_nn hx_2) (getI_lt hx_2)) fun _ f => Y5 default f 1 fun _ f => Y4 f hc_2 0 rfl fun _ f => Y2 (v := .bool (!(decide (x_1.fName = x_2.fName)))) f (fun _ pq => Y42 rfl (l := x_1.fName) (m := x_2.fName)) fun _ f => Y5 default f 1 fun _ f => ?_
    rcases cE hF_6 with ⟨h_7, hF_7⟩ | ⟨h_7, hF_8⟩
    ·have k_4 : ¬ (x_1.fName = x_2.fName) := (not_iff dI).1 h_7
     have f := f.st 28 (cB h_7)
     refine Y5 default f 40 fun _ f => Q_end rfl ?_
     intro w_2 p_2
     refine T_n (Y8 f (RR (Y f 1 fun _ f => eT (wp_ret (B_r (T_r (T_r ?_)))))))
     obtain rfl := sI hF_7
     exact .inl ⟨rfl, (), (sI hn_1).symm, M_1, hM_1, f.kp, p_2⟩
    ·have k_5 : ¬ (¬ (x_1.fName = x_2.fName)) := iff_f (not_iff dI) h_7
     have f := f.st 28 (cB h_7)
     refine Y5 default f 2 fun _ f => ?_
     obtain ⟨x_3, hx_3, hF_9⟩ := bS hF_8
     obtain ⟨ad_3, c_3, e_3, -, hr_3, hc_3⟩ := Sli.at_ (h0.mono hM_1) hx_3
     obtain ⟨A_5, cap_5, A_6, cap_6, rfl, h_8, h_9⟩ := TF0.opn hr_3
     refine Y2 (v := .pointer (some (ad_3.add (s_1.toNat * 8)))) f (fun _ pq => Y33 e_3 rfl (len := d0.length) (cap := cap0) (k := .i64) (i := s_1) (e := 73) (sz := 8) (getI_nn hx_3) (getI_lt hx_3)) fun _ f => Y5 default f 1 fun _ f => Y4 f hc_3 1 rfl fun _ f => Y5 default f 2 fun _ f => ?_
     obtain ⟨x_4, hx_4, hF_10⟩ := bS hF_9
     obtain ⟨ad_4, c_4, e_4, -, hr_4, hc_4⟩ := Sli.at_ (h1.mono hM_1) hx_4
     obtain ⟨A_7, cap_7, A_8, cap_8, rfl, h_10, h_11⟩ := TF0.opn hr_4
     refine Y2 (v := .pointer (some (ad_4.add (s_1.toNat * 8)))) f (fun _ pq => Y33 e_4 rfl (len := d1.length) (cap := cap1) (k := .i64) (i := s_1) (e := 73) (sz := 8) (getI_nn hx_4) (getI_lt hx_4)) fun _ f => Y5 default f 1 fun _ f => Y4 f hc_4 1 rfl fun _ f => Y5 default f 3 fun _ f => ?_
     rcases cE hF_10 with ⟨h_12, hF_11⟩ | ⟨h_12, hF_12⟩
     ·have k_6 : (x_3.fUnknown == x_4.fUnknown) = false := by simpa using h_12
      have f := f.st 41 (cB h_12)
      refine Y5 default f 27 fun _ f => Q_end rfl ?_
      intro w_3 p_3
      refine T_n (Y8 f (RR (Y f 1 fun _ f => eT (wp_ret (B_r (T_r (T_r ?_)))))))
      obtain rfl := sI hF_11
      exact .inl ⟨rfl, (), (sI hn_1).symm, M_1, hM_1, f.kp, p_3⟩
     ·have k_7 : (x_3.fUnknown == x_4.fUnknown) = true := by simpa using h_12
      have f := f.st 41 (cB h_12)
      refine Y5 default f 2 fun _ f => ?_
      obtain ⟨x_5, hx_5, hF_13⟩ := bS hF_12
      obtain ⟨ad_5, c_5, e_5, -, hr_5, hc_5⟩ := Sli.at_ (h0.mono hM_1) hx_5
      obtain ⟨A_9, cap_9, A_10, cap_10, rfl, h_13, h_14⟩ := TF0.opn hr_5
      refine Y2 (v := .pointer (some (ad_5.add (s_1.toNat * 8)))) f (fun _ pq => Y33 e_5 rfl (len := d0.length) (cap := cap0) (k := .i64) (i := s_1) (e := 73) (sz := 8) (getI_nn hx_5) (getI_lt hx_5)) fun _ f => Y5 default f 1 fun _ f => Y2 (v := .agg #[.int .i8 x_5.fV.fKind, .bool x_5.fV.fBool, .int .i64 x_5.fV.fNum, S x_5.fV.fText, .slice A_9 x_5.fV.fList.length cap_9, .slice A_10 x_5.fV.fKeys.length cap_10]) f (fun _ pq => Y35 (cs := [.int .i8 x_5.fV.fKind, .bool x_5.fV.fBool, .int .i64 x_5.fV.fNum, S x_5.fV.fText, .slice A_9 x_5.fV.fList.length cap_9, .slice A_10 x_5.fV.fKeys.length cap_10]) rfl (ad := (ad_5.add (s_1.toNat * 8)).add 2) (fz_part (base := ad_5.add (s_1.toNat * 8)) (fun j v h => pq.cell (hc_5 j v h)) 2 rfl)) fun _ f => Y5 default f 2 fun _ f => ?_
      obtain ⟨x_6, hx_6, hF_14⟩ := bS hF_13
      obtain ⟨ad_6, c_6, e_6, -, hr_6, hc_6⟩ := Sli.at_ (h1.mono hM_1) hx_6
      obtain ⟨A_11, cap_11, A_12, cap_12, rfl, h_15, h_16⟩ := TF0.opn hr_6
      refine Y2 (v := .pointer (some (ad_6.add (s_1.toNat * 8)))) f (fun _ pq => Y33 e_6 rfl (len := d1.length) (cap := cap1) (k := .i64) (i := s_1) (e := 73) (sz := 8) (getI_nn hx_6) (getI_lt hx_6)) fun _ f => Y5 default f 1 fun _ f => Y2 (v := .agg #[.int .i8 x_6.fV.fKind, .bool x_6.fV.fBool, .int .i64 x_6.fV.fNum, S x_6.fV.fText, .slice A_11 x_6.fV.fList.length cap_11, .slice A_12 x_6.fV.fKeys.length cap_12]) f (fun _ pq => Y35 (cs := [.int .i8 x_6.fV.fKind, .bool x_6.fV.fBool, .int .i64 x_6.fV.fNum, S x_6.fV.fText, .slice A_11 x_6.fV.fList.length cap_11, .slice A_12 x_6.fV.fKeys.length cap_12]) rfl (ad := (ad_6.add (s_1.toNat * 8)).add 2) (fz_part (base := ad_6.add (s_1.toNat * 8)) (fun j v h => pq.cell (hc_6 j v h)) 2 rfl)) fun _ f => ?_
      obtain ⟨x_7, hx_7, hF_15⟩ := bS hF_14
      refine Y3 f (ref03_Same_ok n _ _ (⟨x_5.fV.fKind, (x_5.fV.fBool), x_5.fV.fNum, x_5.fV.fText, x_5.fV.fList, x_5.fV.fKeys⟩ : TG0) (TG0.shut h_13 h_14) _ (⟨x_6.fV.fKind, (x_6.fV.fBool), x_6.fV.fNum, x_6.fV.fText, x_6.fV.fList, x_6.fV.fKeys⟩ : TG0) (TG0.shut h_15 h_16) x_7 hx_7) fun _ f => Y5 default f 2 fun _ f => ?_
      rcases cE hF_15 with ⟨h_17, hF_16⟩ | ⟨h_17, hF_23⟩
      ·have k_8 : (x_7) = false := by simpa using h_17
       have f := f.st 54 (cB h_17)
       refine Y5 default f 2 fun _ f => ?_
       obtain ⟨x_8, hx_8, hF_17⟩ := bS hF_16
       obtain ⟨ad_7, c_7, e_7, -, hr_7, hc_7⟩ := Sli.at_ (h0.mono hM_1) hx_8
       obtain ⟨A_13, cap_13, A_14, cap_14, rfl, h_18, h_19⟩ := TF0.opn hr_7
       refine Y2 (v := .pointer (some (ad_7.add (s_1.toNat * 8)))) f (fun _ pq => Y33 e_7 rfl (len := d0.length) (cap := cap0) (k := .i64) (i := s_1) (e := 73) (sz := 8) (getI_nn hx_8) (getI_lt hx_8)) fun _ f => Y5 default f 1 fun _ f => Y2 (v := .agg #[.int .i8 x_8.fV.fKind, .bool x_8.fV.fBool, .int .i64 x_8.fV.fNum, S x_8.fV.fText, .slice A_13 x_8.fV.fList.length cap_13, .slice A_14 x_8.fV.fKeys.length cap_14]) f (fun _ pq => Y35 (cs := [.int .i8 x_8.fV.fKind, .bool x_8.fV.fBool, .int .i64 x_8.fV.fNum, S x_8.fV.fText, .slice A_13 x_8.fV.fList.length cap_13, .slice A_14 x_8.fV.fKeys.length cap_14]) rfl (ad := (ad_7.add (s_1.toNat * 8)).add 2) (fz_part (base := ad_7.add (s_1.toNat * 8)) (fun j v h => pq.cell (hc_7 j v h)) 2 rfl)) fun _ f => Y5 default f 2 fun _ f => ?_
       obtain ⟨x_9, hx_9, hF_18⟩ := bS hF_17
       obtain ⟨ad_8, c_8, e_8, -, hr_8, hc_8⟩ := Sli.at_ (h1.mono hM_1) hx_9
       obtain ⟨A_15, cap_15, A_16, cap_16, rfl, h_20, h_21⟩ := TF0.opn hr_8
       refine Y2 (v := .pointer (some (ad_8.add (s_1.toNat * 8)))) f (fun _ pq => Y33 e_8 rfl (len := d1.length) (cap := cap1) (k := .i64) (i := s_1) (e := 73) (sz := 8) (getI_nn hx_9) (getI_lt hx_9)) fun _ f => Y5 default f 1 fun _ f => Y2 (v := .agg #[.int .i8 x_9.fV.fKind, .bool x_9.fV.fBool, .int .i64 x_9.fV.fNum, S x_9.fV.fText, .slice A_15 x_9.fV.fList.length cap_15, .slice A_16 x_9.fV.fKeys.length cap_16]) f (fun _ pq => Y35 (cs := [.int .i8 x_9.fV.fKind, .bool x_9.fV.fBool, .int .i64 x_9.fV.fNum, S x_9.fV.fText, .slice A_15 x_9.fV.fList.length cap_15, .slice A_16 x_9.fV.fKeys.length cap_16]) rfl (ad := (ad_8.add (s_1.toNat * 8)).add 2) (fz_part (base := ad_8.add (s_1.toNat * 8)) (fun j v h => pq.cell (hc_8 j v h)) 2 rfl)) fun _ f => ?_
       obtain ⟨x_10, hx_10, hF_19⟩ := bS hF_18
       refine Y3 f (ref03_Equal_ok n _ _ (⟨x_8.fV.fKind, (x_8.fV.fBool), x_8.fV.fNum, x_8.fV.fText, x_8.fV.fList, x_8.fV.fKeys⟩ : TG0) (TG0.shut h_18 h_19) _ (⟨x_9.fV.fKind, (x_9.fV.fBool), x_9.fV.fNum, x_9.fV.fText, x_9.fV.fList, x_9.fV.fKeys⟩ : TG0) (TG0.shut h_20 h_21) x_10 hx_10) fun _ f => Y5 default f 3 fun _ f => Q_end rfl ?_
       intro w_6 p_6
       refine T_n (RcF f hF_19 (fun h_22 hF_20 => ?_) fun h_22 hF_21 => ?_)
       ·have k_9 : (x_10) = false := by simpa using h_22
        refine RR (Y f 1 fun _ f => eT (wp_ret (B_r (T_r (T_r ?_)))))
        obtain rfl := sI hF_20
        exact .inl ⟨rfl, (), (sI hn_1).symm, M_1, hM_1, f.kp, p_6⟩
       ·have k_10 : (x_10) = true := by simpa using h_22
        refine wp_skip (B_n (T_n (R_reg (Y f 1 fun _ f => ?_))))
        obtain ⟨g_1, hF_22⟩ := nS hF_21
        refine Y f 1 fun _ f => ?_
        have f := f.st 16 (congrArg (Value.int .i64) (inR_wrap g_1))
        refine Y f 1 fun _ f => eT ?_
        obtain rfl := sI hF_22
        exact ⟨⟨m_2, s_1 + 1⟩, Nat.lt_succ_self _, M_1, hM_1, hn_1, f.kp, p_6⟩
      ·have k_11 : (x_7) = true := by simpa using h_17
       have f := f.st 54 (cB h_17)
       refine Y5 default f 14 fun _ f => Q_end rfl ?_
       intro w_7 p_7
       refine T_n (Y7 f (wp_skip (B_n (T_n (R_reg (Y f 1 fun _ f => ?_))))))
       obtain ⟨g_2, hF_24⟩ := nS hF_23
       refine Y f 1 fun _ f => ?_
       have f := f.st 16 (congrArg (Value.int .i64) (inR_wrap g_2))
       refine Y f 1 fun _ f => eT ?_
       obtain rfl := sI hF_24
       exact ⟨⟨m_2, s_1 + 1⟩, Nat.lt_succ_self _, M_1, hM_1, hn_1, f.kp, p_7⟩
   ·have k_12 := iff_f dI h_2
    refine wp_exit (T_x (T_x ?_))
    obtain rfl := sI hF_25
    exact .inr ⟨rfl, (), (sI hn_1).symm, M_1, hM_1, f.kp, p_1⟩
  ·rintro _ _ w_10 (⟨rfl, y_1, rfl, M_2, hM_2, f, p_8⟩ | ⟨rfl, y_2, rfl, M_3, hM_3, f, p_9⟩)
   ·refine B_r (T_r (E_ret1 f rfl (by kernel_rfl : Vc.look _ 4 = some (.bool false)) ?_))
    obtain rfl := sI hF_3
    exact ⟨_, rfl, M_2, hM_2, p_8, rfl⟩
   ·refine B_x (T_n (RR (Y f 1 fun _ f => eT (wp_ret (E_ret1 f rfl (by kernel_rfl : Vc.look _ 4 = some (.bool true)) ?_)))))
    obtain rfl := sI hF_3
    exact ⟨_, rfl, M_3, hM_3, p_9, rfl⟩
end Go.Proofs.YtocefedhenhbfabGreatDoor
end

section
namespace Go.Proofs.YtocefedhenhbfabGreatDoor
open Go Go.Vc Go.RowKit
open Go Go.Vc Go.RowKit
end Go.Proofs.YtocefedhenhbfabGreatDoor
end

section
namespace Go.Num
def dig (c : UInt8) : Bool := 48 ≤ c && c ≤ 57
def nd : List UInt8 → Nat → Nat
  | [], k => k
  | c :: r, k => if dig c then nd r (k + 1) else k
def vl : List UInt8 → Nat → Nat
  | [], v => v
  | c :: r, v => if dig c then vl r (10 * v + (c.toNat - 48)) else v
def neg (l : List UInt8) : Bool := decide (l.getD 0 0 = 45)
def fst (l : List UInt8) : Nat := if neg l then 1 else 0
def big : Nat := 9007199254740992
def scanL (l : List UInt8) (at_ : Int) : Int × Int × Int :=
  let f := fst l
  let k := nd (l.drop f) f
  let v := vl (l.drop f) 0
  if l.getD f 0 = 48 ∧ f + 2 ≤ k then (0, at_ + (f + 1), 20)
  else if k = f ∨ l.getD k 0 = 46 ∨ l.getD k 0 = 101 ∨ l.getD k 0 = 69 then (0, at_ + k, 20)
  else if big < v ∨ (neg l = true ∧ v = 0) then (0, at_, 20)
  else (if neg l then -(v : Int) else v, at_ + k, 0)
def scan (s : List UInt8) (at_ : Int) : Int × Int × Int :=
  if at_ < 0 ∨ (s.length : Int) < at_ then (0, 0, 2) else scanL (s.drop at_.toNat) at_
theorem dig_iff (c : UInt8) : dig c = true ↔ 48 ≤ c.toNat ∧ c.toNat ≤ 57 := by
 simp [dig, UInt8.le_iff_toNat_le]
theorem nd_ge : ∀ (l : List UInt8) (k : Nat), k ≤ nd l k
 | [], k => Nat.le_refl _
 | c :: r, k => by
  simp only [nd]
  split
  ·have := nd_ge r (k + 1); omega
  ·exact Nat.le_refl _
theorem drop_cons (l : List UInt8) (k : Nat) (h : k < l.length) : l.drop k = l.getD k 0 :: l.drop (k + 1) := by
 rw [List.drop_eq_getElem_cons h]; simp [List.getD, h]
theorem nd_step (l : List UInt8) (k : Nat) (h : k < l.length) (hd : dig (l.getD k 0) = true) : nd (l.drop k) k = nd (l.drop (k + 1)) (k + 1) := by
 rw [drop_cons l k h]; simp only [nd, hd, if_true]
theorem nd_stop (l : List UInt8) (k : Nat) (hd : dig (l.getD k 0) = false) : nd (l.drop k) k = k := by
 by_cases h : k < l.length
 ·rw [drop_cons l k h]; simp only [nd, hd]; rfl
 ·rw [List.drop_eq_nil_of_le (by omega)]; rfl
theorem vl_step (l : List UInt8) (k v : Nat) (h : k < l.length) (hd : dig (l.getD k 0) = true) : vl (l.drop k) v = vl (l.drop (k + 1)) (10 * v + ((l.getD k 0).toNat - 48)) := by
 rw [drop_cons l k h]; simp only [vl, hd, if_true]
theorem vl_stop (l : List UInt8) (k v : Nat) (hd : dig (l.getD k 0) = false) : vl (l.drop k) v = v := by
 by_cases h : k < l.length
 ·rw [drop_cons l k h]; simp only [vl, hd]; rfl
 ·rw [List.drop_eq_nil_of_le (by omega)]; rfl
structure ScanI (l : List UInt8) (k : Nat) (v : Nat) : Prop where
  ge : fst l ≤ k
  le : k ≤ l.length
  nd : nd (l.drop k) k = nd (l.drop (fst l)) (fst l)
  vl : vl (l.drop k) v = vl (l.drop (fst l)) 0
  zero : fst l + 2 ≤ k → l.getD (fst l) 0 ≠ 48
  one : fst l + 1 ≤ k → dig (l.getD (fst l) 0) = true
theorem fst_le (l : List UInt8) : fst l ≤ l.length := by
 unfold fst neg
 split
 ·rename_i h
  cases l with
  | nil => simp at h
  | cons c r => simp
 ·omega
theorem ScanI.start (l : List UInt8) : ScanI l (fst l) 0 := ⟨Nat.le_refl _, fst_le l, rfl, rfl, fun h => by omega, fun h => by omega⟩
theorem ScanI.step {l : List UInt8} {k v : Nat} (h : ScanI l k v) (hd : dig (l.getD k 0) = true) (hk : k < l.length) (hz : ¬ (k = fst l + 1 ∧ l.getD (fst l) 0 = 48)) : ScanI l (k + 1) (10 * v + ((l.getD k 0).toNat - 48)) := by
 refine ⟨by have := h.ge; omega, by omega, by rw [← nd_step l k hk hd]; exact h.nd, by rw [← vl_step l k v hk hd]; exact h.vl, fun hge h0 => ?_, fun hge => ?_⟩
 ·rcases Nat.lt_or_ge k (fst l + 2) with hlt | hge2
  ·exact hz ⟨by omega, h0⟩
  ·exact h.zero hge2 h0
 ·rcases Nat.lt_or_ge k (fst l + 1) with hlt | hge2
  ·have : k = fst l := by have := h.ge; omega
   subst this; exact hd
  ·exact h.one hge2
theorem ScanI.lt {l : List UInt8} {k v : Nat} (_ : ScanI l k v) (hd : dig (l.getD k 0) = true) : k < l.length := by
 rcases Nat.lt_or_ge k l.length with h | h
 ·exact h
 ·have : l.getD k 0 = 0 := by simp [List.getD, List.getElem?_eq_none h]
  rw [this] at hd; simp [dig] at hd
theorem ScanI.early {l : List UInt8} {k v : Nat} (h : ScanI l k v) (at_ : Int) (hd : dig (l.getD k 0) = true) (hk : k = fst l + 1) (h0 : l.getD (fst l) 0 = 48) : scanL l at_ = (0, at_ + k, 20) := by
 have h1 := h.nd
 rw [nd_step l k (h.lt hd) hd] at h1
 have h2 := nd_ge (l.drop (k + 1)) (k + 1)
 unfold scanL
 simp only []
 rw [if_pos ⟨h0, by omega⟩, hk]
 simp
theorem ScanI.stop {l : List UInt8} {k v : Nat} (h : ScanI l k v) (at_ : Int) (hd : dig (l.getD k 0) = false) :
  scanL l at_ = if k = fst l ∨ l.getD k 0 = 46 ∨ l.getD k 0 = 101 ∨ l.getD k 0 = 69 then (0, at_ + k, 20)
   else if big < v ∨ (neg l = true ∧ v = 0) then (0, at_, 20)
   else (if neg l then -(v : Int) else v, at_ + k, 0) := by
 have h1 := h.nd
 rw [nd_stop l k hd] at h1
 have h2 := h.vl
 rw [vl_stop l k v hd] at h2
 unfold scanL
 simp only []
 rw [← h1, ← h2, if_neg]
 rintro ⟨h3, h4⟩
 exact h.zero h4 h3
theorem fst_le1 (l : List UInt8) : fst l ≤ 1 := by unfold fst; split <;> omega
theorem byte_of {c : UInt8} {n : Int} (d : UInt8) (h : ((c.toNat : Nat) : Int) = n) (hd : (d.toNat : Int) = n) : c = d := UInt8.toNat_inj.1 (by omega)
theorem to_byte {c d : UInt8} {n : Int} (h : c = d) (hd : (d.toNat : Int) = n) : ((c.toNat : Nat) : Int) = n := by rw [h]; exact hd
theorem dig_prog (c : UInt8) : decide (((c.toNat : Int) - 48) % 256 < 10) = dig c := by
 rw [Bool.eq_iff_iff, dig_iff]
 have := c.toNat_lt
 simp only [decide_eq_true_eq]
 omega
def KeepP (n : Int) (v : Nat) : Prop := 0 ≤ n ∧ n ≤ 90071992547409929 ∧ (v ≤ 9007199254740992 → n = v) ∧ (9007199254740992 < v → 9007199254740992 < n)
theorem KeepP.start : KeepP 0 0 := ⟨by omega, by omega, fun _ => rfl, fun h => by omega⟩
theorem KeepP.more {n : Int} {v : Nat} (c : UInt8) (h : KeepP n v) (hd : dig c = true) (hn : n ≤ 9007199254740992) : KeepP (10 * n + ((c.toNat : Int) - 48) % 256) (10 * v + (c.toNat - 48)) := by
 obtain ⟨h1, h2, h3, h4⟩ := h
 rw [dig_iff] at hd
 have hv : v ≤ 9007199254740992 := by
  rcases Nat.lt_or_ge 9007199254740992 v with h | h
  ·have := h4 h; omega
  ·exact h
 have := h3 hv
 refine ⟨by omega, by omega, fun _ => by omega, fun _ => by omega⟩
theorem KeepP.full {n : Int} {v d : Nat} (h : KeepP n v) (hn : ¬ n ≤ 9007199254740992) : KeepP n (10 * v + d) := by
 obtain ⟨h1, h2, h3, h4⟩ := h
 have hv : 9007199254740992 < v := by
  rcases Nat.lt_or_ge 9007199254740992 v with h | h
  ·exact h
  ·have := h3 h; omega
 exact ⟨h1, h2, fun h => by omega, fun _ => by omega⟩
theorem KeepP.fits {n : Int} {v : Nat} (h : KeepP n v) : (decide (-9007199254740992 ≤ n) && decide (n ≤ 9007199254740992)) = decide (v ≤ 9007199254740992) := by
 obtain ⟨h1, h2, h3, h4⟩ := h
 rw [Bool.eq_iff_iff]
 simp only [Bool.and_eq_true, decide_eq_true_eq]
 constructor
 ·rintro ⟨_, h⟩
  rcases Nat.lt_or_ge 9007199254740992 v with h' | h'
  ·have := h4 h'; omega
  ·exact h'
 ·intro h; have := h3 h; omega
theorem scan_inside {s : List UInt8} {at_ : Int} (h : ¬ (at_ < 0 ∨ (s.length : Int) < at_)) : scan s at_ = scanL (s.drop at_.toNat) at_ := by unfold scan; rw [if_neg h]
theorem scan_out {s : List UInt8} {at_ : Int} (h : at_ < 0 ∨ (s.length : Int) < at_) : scan s at_ = (0, 0, 2) := by unfold scan; rw [if_pos h]
def fitsB (n : Int) : Bool := decide (-9007199254740992 ≤ n ∧ n ≤ 9007199254740992)
theorem fits_eq (n : Int) : (decide ((-9007199254740992 : Int) ≤ n) && decide (n ≤ 9007199254740992)) = fitsB n := by simp [fitsB]
theorem neg_byte (l : List UInt8) : decide (((l.getD 0 0).toNat : Int) = 45) = neg l := by
 unfold neg
 rw [Bool.eq_iff_iff]
 simp only [decide_eq_true_eq]
 exact ⟨fun h => byte_of 45 h rfl, fun h => to_byte h rfl⟩
theorem fst_t {l : List UInt8} (h : neg l = true) : fst l = 1 := by simp [fst, h]
theorem fst_f {l : List UInt8} (h : neg l = false) : fst l = 0 := by simp [fst, h]
theorem notboth {l : List UInt8} {k : Nat} (h : ¬ ((k : Int) = (fst l : Int) + 1 ∧ ((l.getD (fst l) 0).toNat : Int) = 48)) : ¬ (k = fst l + 1 ∧ l.getD (fst l) 0 = 48) :=
 fun ⟨h1, h2⟩ => h ⟨by omega, to_byte h2 rfl⟩
theorem isboth {l : List UInt8} {k : Nat} (h : (k : Int) = (fst l : Int) + 1 ∧ ((l.getD (fst l) 0).toNat : Int) = 48) : k = fst l + 1 ∧ l.getD (fst l) 0 = 48 :=
 ⟨by omega, byte_of 48 h.2 rfl⟩
theorem KeepP.fitsEq {n : Int} {v : Nat} (h : KeepP n v) : fitsB n = decide (v ≤ 9007199254740992) := by rw [← fits_eq]; exact h.fits
section
variable {l : List UInt8} {k v : Nat} {n at_ sl : Int} (I : ScanI l k v) (hd : dig (l.getD k 0) = false)
include I hd
theorem ScanI.e1 (h : (k : Int) = (fst l : Int) ∨ (at_ + (k : Int) < sl ∧ (((l.getD k 0).toNat : Int) = 46 ∨ (((l.getD k 0).toNat : Int) = 101 ∨ ((l.getD k 0).toNat : Int) = 69)))) : scanL l at_ = (0, at_ + k, 20) := by
 rw [I.stop at_ hd, if_pos]
 rcases h with h | ⟨_, h | h | h⟩
 ·exact .inl (by omega)
 ·exact .inr (.inl (byte_of 46 h rfl))
 ·exact .inr (.inr (.inl (byte_of 101 h rfl)))
 ·exact .inr (.inr (.inr (byte_of 69 h rfl)))
omit I hd in
theorem ScanI.no (hsl : sl = at_ + l.length) (h : ¬ ((k : Int) = (fst l : Int) ∨ (at_ + (k : Int) < sl ∧ (((l.getD k 0).toNat : Int) = 46 ∨ (((l.getD k 0).toNat : Int) = 101 ∨ ((l.getD k 0).toNat : Int) = 69))))) :
  ¬ (k = fst l ∨ l.getD k 0 = 46 ∨ l.getD k 0 = 101 ∨ l.getD k 0 = 69) := by
 have hk : l.getD k 0 ≠ 0 → k < l.length := fun h0 => by
  rcases Nat.lt_or_ge k l.length with h | h
  ·exact h
  ·exact absurd (by simp [List.getD, List.getElem?_eq_none h]) h0
 rintro (h1 | h1 | h1 | h1)
 ·exact h (.inl (by omega))
 ·have := hk (by rw [h1]; decide); exact h (.inr ⟨by omega, .inl (to_byte h1 rfl)⟩)
 ·have := hk (by rw [h1]; decide); exact h (.inr ⟨by omega, .inr (.inl (to_byte h1 rfl))⟩)
 ·have := hk (by rw [h1]; decide); exact h (.inr ⟨by omega, .inr (.inr (to_byte h1 rfl))⟩)
theorem ScanI.e2 (hno : ¬ (k = fst l ∨ l.getD k 0 = 46 ∨ l.getD k 0 = 101 ∨ l.getD k 0 = 69)) (h : 9007199254740992 < v ∨ (neg l = true ∧ v = 0)) : scanL l at_ = (0, at_, 20) := by
 rw [I.stop at_ hd, if_neg hno, if_pos (by unfold big; exact h)]
theorem ScanI.e3 (hno : ¬ (k = fst l ∨ l.getD k 0 = 46 ∨ l.getD k 0 = 101 ∨ l.getD k 0 = 69)) (h : ¬ (9007199254740992 < v ∨ (neg l = true ∧ v = 0))) : scanL l at_ = (if neg l then -(v : Int) else v, at_ + k, 0) := by
 rw [I.stop at_ hd, if_neg hno, if_neg (by unfold big; exact h)]
end
theorem KeepP.bad {l : List UInt8} {n : Int} {v : Nat} (K : KeepP n v) : (¬ (fitsB n = true) ∨ (neg l = true ∧ n = 0)) ↔ (9007199254740992 < v ∨ (neg l = true ∧ v = 0)) := by
 rw [K.fitsEq]
 obtain ⟨h1, h2, h3, h4⟩ := K
 simp only [decide_eq_true_eq]
 constructor
 ·rintro (h | ⟨a, h⟩)
  ·exact .inl (by omega)
  ·rcases Nat.lt_or_ge 9007199254740992 v with hv | hv
   ·exact .inl hv
   ·exact .inr ⟨a, by have := h3 hv; omega⟩
 ·rintro (h | ⟨a, h⟩)
  ·exact .inl (by omega)
  ·exact .inr ⟨a, by have := h3 (by omega); omega⟩
theorem KeepP.val {n : Int} {v : Nat} {b : Prop} (K : KeepP n v) (h : ¬ (9007199254740992 < v ∨ b)) : n = v := by
 obtain ⟨h1, h2, h3, h4⟩ := K
 exact h3 (by have : ¬ 9007199254740992 < v := fun x => h (.inl x); omega)
def KeepR (n : Int) (gr : Bool) (v : Nat) : Prop := 0 ≤ n ∧ n ≤ 9007199254740992 ∧ (v ≤ 9007199254740992 → n = v ∧ gr = false) ∧ (9007199254740992 < v → n = 9007199254740992 ∧ gr = true)
theorem KeepR.bad {l : List UInt8} {n : Int} {gr : Bool} {v : Nat} (K : KeepR n gr v) : (gr = true ∨ (neg l = true ∧ n = 0)) ↔ (9007199254740992 < v ∨ (neg l = true ∧ v = 0)) := by
 obtain ⟨h1, h2, h3, h4⟩ := K
 constructor
 ·rintro (h | ⟨a, h⟩)
  ·rcases Nat.lt_or_ge 9007199254740992 v with hv | hv
   ·exact .inl hv
   ·rw [(h3 hv).2] at h; cases h
  ·rcases Nat.lt_or_ge 9007199254740992 v with hv | hv
   ·exact .inl hv
   ·exact .inr ⟨a, by have := (h3 hv).1; omega⟩
 ·rintro (h | ⟨a, h⟩)
  ·exact .inl (h4 h).2
  ·exact .inr ⟨a, by have := (h3 (by omega)).1; omega⟩
def read (s : List UInt8) : Int × Int := if (scan s 0).2.2 = 0 ∧ (scan s 0).2.1 = s.length then ((scan s 0).1, 0) else (0, 20)
def dch (n : Nat) : UInt8 := UInt8.ofNat (48 + n % 10)
def digsF : Nat → Nat → List UInt8
  | 0, _ => []
  | f + 1, n => if n < 10 then [dch n] else digsF f (n / 10) ++ [dch n]
def digs (n : Nat) : List UInt8 := digsF (n + 1) n
theorem digsF_more : ∀ (f g n : Nat), n < f → n < g → digsF f n = digsF g n
 | 0, _, n, h, _ => by omega
 | f + 1, 0, n, _, h => by omega
 | f + 1, g + 1, n, h1, h2 => by
  simp only [digsF]
  split
  ·rfl
  ·rw [digsF_more f g (n / 10) (by omega) (by omega)]
theorem digs_lt {n : Nat} (h : n < 10) : digs n = [dch n] := by unfold digs; simp only [digsF]; rw [if_pos h]
theorem digs_ge {n : Nat} (h : ¬ n < 10) : digs n = digs (n / 10) ++ [dch n] := by
 unfold digs
 rw [digsF, if_neg h, digsF_more n (n / 10 + 1) (n / 10) (by omega) (by omega)]
theorem dch_toNat (n : Nat) : (dch n).toNat = 48 + n % 10 := by
 unfold dch; rw [UInt8.toNat_ofNat']; omega
theorem dch_int (n : Nat) : (48 + (n : Int) % 10) % 256 = ((dch n).toNat : Int) := by rw [dch_toNat]; omega
theorem digs_len : ∀ (k n : Nat), n < 10 ^ (k + 1) → (digs n).length ≤ k + 1
 | 0, n, h => by rw [digs_lt (by omega)]; simp
 | k + 1, n, h => by
  by_cases h10 : n < 10
  ·rw [digs_lt h10]; simp
  ·rw [digs_ge h10]
   have := digs_len k (n / 10) (by rw [Nat.pow_succ] at h; omega)
   simp; omega
theorem digs_len16 {n : Nat} (h : n ≤ 9007199254740992) : (digs n).length ≤ 16 := digs_len 15 n (by omega)
def text (n : Int) : List UInt8 × Int := if fitsB n then (if n < 0 then 45 :: digs (-n).toNat else digs n.toNat, 0) else ([], 20)
theorem fitsB_iff {n : Int} : fitsB n = true ↔ -9007199254740992 ≤ n ∧ n ≤ 9007199254740992 := by simp [fitsB]
theorem text_no {n : Int} (h : fitsB n = false) : text n = ([], 20) := by simp [text, h]
theorem text_neg {n : Int} (h : fitsB n = true) (h0 : n < 0) : text n = (45 :: digs (-n).toNat, 0) := by simp [text, h, h0]
theorem text_pos {n : Int} (h : fitsB n = true) (h0 : ¬ n < 0) : text n = (digs n.toNat, 0) := by simp [text, h, h0]
end Go.Num
end

section
namespace Go.Proofs.YtocefedhenhbfabGreatDoor
open Go Go.Vc Go.RowKit Go.Num
theorem tup3 {x : Int × Int × Int} {a b c : Int} (h : x = (a, b, c)) : Value.tuple #[.int .i64 a, .int .i64 b, .int .i64 c] = .tuple #[.int .i64 x.1, .int .i64 x.2.1, .int .i64 x.2.2] := by rw [h]
theorem tup2 {x : Int × Int} {a b : Int} (h : x = (a, b)) : Value.tuple #[.int .i64 a, .int .i64 b] = .tuple #[.int .i64 x.1, .int .i64 x.2] := by rw [h]
theorem fits_ok (M : Mem) (n : Int) : Ok Tryz.prog M 105 [.int .i64 n] (fun _ v => v = .bool (fitsB n)) := by
 intro M hM0 w0 H w p0
 refine R_enter 9 Tryz.func105 rfl rfl (by simp) fun a0 f0 => RR (Y f0 1 fun _ f => eT (R_seq (R_mid (fun a_2 w_1 => Frm 9 [(2, .bool ((decide ((-9007199254740992 : Int) ≤ n)) && (decide (n ≤ 9007199254740992))))] a_2 ∧ Hp w0 M (H) w_1) ?_ ?_)))
 ·refine R_reg (Y f 3 fun _ f => ?_)
  rcases bE (decide ((-9007199254740992 : Int) ≤ n)) with h_1 | h_1
  ·have k_1 := dI.1 h_1
   have f := f.st 5 (cB h_1)
   refine Y f 4 fun _ f => eT ?_
   have f := Frm.set f 2 (v := .bool (decide (n ≤ 9007199254740992))) (v' := .bool ((decide ((-9007199254740992 : Int) ≤ n)) && (decide (n ≤ 9007199254740992)))) (by kernel_rfl) (by simp only [h_1, Bool.and_true, Bool.true_and, Bool.false_and, Bool.and_false, Bool.or_true, Bool.true_or, Bool.or_false, Bool.false_or, Bool.not_true, Bool.not_false, cond_true, cond_false])
   exact ⟨f.kp, p0⟩
  ·have k_2 := iff_f dI h_1
   have f := f.st 5 (cB h_1)
   refine Y f 4 fun _ f => eT ?_
   have f := Frm.set f 2 (v := .bool false) (v' := .bool ((decide ((-9007199254740992 : Int) ≤ n)) && (decide (n ≤ 9007199254740992)))) (by kernel_rfl) (by simp only [h_1, Bool.and_true, Bool.true_and, Bool.false_and, Bool.and_false, Bool.or_true, Bool.true_or, Bool.or_false, Bool.false_or, Bool.not_true, Bool.not_false, cond_true, cond_false])
   exact ⟨f.kp, p0⟩
 ·rintro a_2 w_1 ⟨f, p_1⟩
  refine T_n (wp_ret (E_ret1 f rfl (by kernel_rfl : Vc.look _ 2 = some (.bool ((decide ((-9007199254740992 : Int) ≤ n)) && (decide (n ≤ 9007199254740992))))) (⟨_, rfl, M, (mR _), p_1, ?_⟩)))
  exact cB (fits_eq _)
theorem digit_ok (M : Mem) (c : UInt8) : Ok Tryz.prog M 123 [.int .u8 (c.toNat : Int)] (fun _ v => v = .bool (dig c)) := by
 intro M hM0 w0 H w p0
 refine R_enter 6 Tryz.func123 rfl rfl (by simp) fun a0 f0 => RR (Y f0 1 fun _ f => eT (RR (Y f 1 fun _ f => Y f 1 fun _ f => ?_)))
 have f := Frm.set f 4 (v := .int .u8 (IntKind.wrap .u8 ((c.toNat : Int) - 48))) (v' := .int .u8 (((c.toNat : Int) - 48) % 256)) (by kernel_rfl) (congrArg (Value.int .u8) (IntKind.wrap_u8 _))
 refine Y f 2 fun _ f => eT (wp_ret (E_ret1 f rfl (by kernel_rfl : Vc.look _ 2 = some (.bool (decide ((((c.toNat : Int) - 48) % 256) < 10)))) (⟨_, rfl, M, (mR _), p0, ?_⟩)))
 exact cB (dig_prog c)
theorem scanP_ok (M : Mem) (s : List UInt8) (at_ : Int) (hs : s.length ≤ 140737488351232) : Ok Tryz.prog M 116 [S s, .int .i64 at_] (fun _ v => v = .tuple #[.int .i64 (scan s at_).1, .int .i64 (scan s at_).2.1, .int .i64 (scan s at_).2.2]) := by
 intro M hM0 w0 H w p0
 refine R_enter 110 Tryz.func116 rfl rfl (by simp) fun a0 f0 => RR (Y f0 3 fun _ f => eT (R_seq (R_seq (R_mid (fun a_2 w_1 => Frm 110 [(0, S s), (1, .int .i64 at_), (4, .int .i64 0), (19, .bool ((decide (at_ < 0)) || (decide ((s.length : Int) < at_))))] a_2 ∧ Hp w0 M (H) w_1) ?_ ?_))))
 ·refine R_reg (Y f 3 fun _ f => ?_)
  rcases bE (decide (at_ < 0)) with h_1 | h_1
  ·have k_1 := dI.1 h_1
   have f := f.st 14 (cB h_1)
   refine Y f 5 fun _ f => eT ?_
   have f := Frm.set f 19 (v := .bool true) (v' := .bool ((decide (at_ < 0)) || (decide ((s.length : Int) < at_)))) (by kernel_rfl) (by simp only [h_1, Bool.and_true, Bool.true_and, Bool.false_and, Bool.and_false, Bool.or_true, Bool.true_or, Bool.or_false, Bool.false_or, Bool.not_true, Bool.not_false, cond_true, cond_false])
   exact ⟨f.kp, p0⟩
  ·have k_2 := iff_f dI h_1
   have f := f.st 14 (cB h_1)
   refine Y f 5 fun _ f => eT ?_
   have f := Frm.set f 19 (v := .bool (decide ((s.length : Int) < at_))) (v' := .bool ((decide (at_ < 0)) || (decide ((s.length : Int) < at_)))) (by kernel_rfl) (by simp only [h_1, Bool.and_true, Bool.true_and, Bool.false_and, Bool.and_false, Bool.or_true, Bool.true_or, Bool.or_false, Bool.false_or, Bool.not_true, Bool.not_false, cond_true, cond_false])
   exact ⟨f.kp, p0⟩
 ·rintro a_2 w_1 ⟨f, p_1⟩
  refine T_n (Y6 f (b := (decide (at_ < 0)) || (decide ((s.length : Int) < at_))) (fun h_2 => ?_) fun h_2 => ?_)
  ·have k_3 : (at_ < 0) ∨ ((s.length : Int) < at_) := (or_iff dI dI).1 h_2
   refine RR (Y f 3 fun _ f => eT (wp_ret (T_r (E_ret3 f rfl (by kernel_rfl : Vc.look _ 4 = some (.int .i64 0)) (by kernel_rfl : Vc.look _ 5 = some (.int .i64 0)) (by kernel_rfl : Vc.look _ 6 = some (.int .i64 2)) (⟨_, rfl, M, (mR _), p_1, ?_⟩)))))
   exact tup3 (scan_out (by omega))
  ·have k_4 : ¬ ((at_ < 0) ∨ ((s.length : Int) < at_)) := iff_f (or_iff dI dI) h_2
   refine wp_skip (T_n (RR (Y f 2 fun _ f => Z (v := S (s.drop at_.toNat)) f (X_strFrom rfl (l := s) (k := .i64) (a := at_) (by kernel_rfl) (by kernel_rfl) (by kernel_rfl) (by omega) (by omega)) fun _ f => ?_)))
   obtain ⟨l, hl⟩ : ∃ l, l = s.drop at_.toNat := ⟨_, rfl⟩
   have hll : (l.length : Int) = s.length - at_ := by rw [hl, List.length_drop]; omega
   have hf1 := fst_le1 l
   have hf2 := fst_le l
   have hsc : scan s at_ = scanL l at_ := by rw [hl]; exact scan_inside (by omega)
   have f := Frm.set f 22 (v := S (s.drop at_.toNat)) (v' := S l) (by kernel_rfl) (by rw [hl])
   refine W_bytes f p_1 (by kernel_rfl) (by kernel_rfl) rfl rfl rfl (l := l) (by kernel_rfl) (e := 5) (by kernel_rfl) (by kernel_rfl) (by kernel_rfl) fun b_1 cap_1 w_2 hcap_1 p_2 _ f => V_allocS (k := 1) (c := 1) f p_2 (.cells #[.int .u8 0] 5 (0, 0)) (by kernel_rfl) (fun _ => by kernel_rfl) fun b_2 w_3 p_3 _ f => W_bytes_push f p_3 (by kernel_rfl) (by kernel_rfl) rfl rfl rfl (l := l) (c := 0) (by kernel_rfl) (by kernel_rfl) (by kernel_rfl) (by kernel_rfl) rfl (by omega) (by omega) fun ad_1 cap_2 M_1 w_4 hM_1 p_4 kb_1 hc_1 _ f => ?_
   have kz_1 := KB.z kb_1
   refine Y f 1 fun _ f => eT (RR (Y f 1 fun _ f => Z f (Y32 rfl (ad := ad_1) (len := l.length + 1) (cap := cap_2) (k := .i64) (i := 0) (e := 5) (sz := 1) (by omega) (by omega)) fun _ f => Z f (Y34 (v := .int .u8 ((l.getD 0 0).toNat : Int)) rfl (ad := ad_1.add (((0 : Int)).toNat * 1)) (p_4.cell (KZ.get kz_1 (by omega) (by omega)))) fun _ f => ?_))
   have hb_1 := byte_lt (l.getD 0 0)
   refine Y f 1 fun _ f => ?_
   have f := Frm.set f 29 (v := .bool (decide (((l.getD 0 0).toNat : Int) = 45))) (v' := .bool (neg l)) (by kernel_rfl) (cB (neg_byte l))
   refine Y f 1 fun _ f => eT (RR (Y f 1 fun _ f => eT (R_seq (RR ?_))))
   refine Y f 1 fun _ f => eT (R_mid (fun a_20 w_5 => Frm 110 [(0, S s), (1, .int .i64 at_), (4, .int .i64 0), (7, .slice (some ad_1) (l.length + 1) cap_2), (8, .bool (neg l)), (9, .int .i64 (fst l : Int))] a_20 ∧ Hp w0 M_1 (H) w_5) ?_ ?_)
   ·refine Y6 f (b := neg l) (fun h_3 => ?_) fun h_3 => ?_
    ·refine R_reg (Y f 1 fun _ f => eT ?_)
     have f := Frm.set f 9 (v := .int .i64 1) (v' := .int .i64 (fst l : Int)) (by kernel_rfl) (by rw [fst_t h_3]; rfl)
     exact ⟨f.kp, p_4⟩
    ·refine wp_skip (T_n ?_)
     have f := Frm.set f 9 (v := .int .i64 0) (v' := .int .i64 (fst l : Int)) (by kernel_rfl) (by rw [fst_f h_3]; rfl)
     exact ⟨f.kp, p_4⟩
   ·rintro a_20 w_5 ⟨f, p_5⟩
    refine T_n (RR (Y f 2 fun _ f => eT (R_seq (wp_block ?_))))
    have f := Frm.set f 9 (v := .int .i64 (fst l : Int)) (v' := .int .i64 ((fst l) : Int)) (by kernel_rfl) (by first | rfl | (congr 1; omega) | simp)
    refine R_loop (n := 110) (w0 := w0) (M := M_1) (fun (x : Nat × Int × Nat) => match x with | (k, n, v) => [(0, S s), (1, .int .i64 at_), (4, .int .i64 n), (7, .slice (some ad_1) (l.length + 1) cap_2), (8, .bool (neg l)), (9, .int .i64 (k : Int)), (10, .int .i64 (fst l : Int))]) (fun (x : Nat × Int × Nat) => match x with | (k, n, v) => (H)) (fun (x : Nat × Int × Nat) (_ : Mem) => match x with | (k, n, v) => (ScanI l k v) ∧ (KeepP n v)) (fun (x : Nat × Int × Nat) => match x with | (k, n, v) => l.length + 1 - k) (fst l, 0, 0) (f.kp) p_5 ?_ ?_
    ·exact ⟨ScanI.start l, KeepP.start⟩
    ·rintro ⟨k, n, v⟩ M_2 _ w_6 hM_2 I_1 f p_6
     replace I_1 : (ScanI l k v) ∧ (KeepP n v) := I_1
     obtain ⟨I_s, K_s⟩ := I_1
     have hk1 := I_s.ge
     have hk2 := I_s.le
     obtain ⟨hn1, hn2, hn3, hn4⟩ := id K_s
     refine R_seq (RR (Y f 2 fun _ f => Z f (Y32 rfl (ad := ad_1) (len := l.length + 1) (cap := cap_2) (k := .i64) (i := (k : Int)) (e := 5) (sz := 1) (by omega) (by omega)) fun _ f => Z f (Y34 (v := .int .u8 ((l.getD k 0).toNat : Int)) rfl (ad := ad_1.add (((k : Int)).toNat * 1)) (p_6.cell (KZ.get (kz_1.mono hM_2) (by omega) (by omega)))) fun _ f => ?_))
     have hb_2 := byte_lt (l.getD k 0)
     refine Y18 f p_6 (digit_ok _ (l.getD k 0)) fun w_7 p_7 _ f => eT (Y6 f (b := dig (l.getD k 0)) (fun h_4 => ?_) fun h_4 => ?_)
     ·refine wp_skip (T_n (R_seq (wp_block (R_seq (R_seq (R_mid (fun a_28 w_8 => Frm 110 [(0, S s), (1, .int .i64 at_), (4, .int .i64 n), (7, .slice (some ad_1) (l.length + 1) cap_2), (8, .bool (neg l)), (9, .int .i64 (k : Int)), (10, .int .i64 (fst l : Int)), (49, .bool ((decide ((k : Int) = ((fst l : Int) + 1))) && (decide (((l.getD (fst l) 0).toNat : Int) = 48))))] a_28 ∧ Hp w0 M_2 (H) w_8) ?_ ?_))))))
      ·refine R_reg (Y f 2 fun _ f => Y f 1 fun _ f => ?_)
       have f := Frm.set f 41 (v := .int .i64 (IntKind.wrap .i64 ((fst l : Int) + 1))) (v' := .int .i64 ((fst l : Int) + 1)) (by kernel_rfl) (congrArg (Value.int .i64) (IntWalk.i64_in _ (by omega)))
       refine Y f 2 fun _ f => ?_
       rcases bE (decide ((k : Int) = ((fst l : Int) + 1))) with h_5 | h_5
       ·have k_8 := dI.1 h_5
        have f := f.st 43 (cB h_5)
        refine Y f 2 fun _ f => Z f (Y32 rfl (ad := ad_1) (len := l.length + 1) (cap := cap_2) (k := .i64) (i := (fst l : Int)) (e := 5) (sz := 1) (by omega) (by omega)) fun _ f => Z f (Y34 (v := .int .u8 ((l.getD (fst l) 0).toNat : Int)) rfl (ad := ad_1.add (((fst l : Int)).toNat * 1)) (p_7.cell (KZ.get (kz_1.mono hM_2) (by omega) (by omega)))) fun _ f => ?_
        have hb_3 := byte_lt (l.getD (fst l) 0)
        refine Y f 2 fun _ f => eT ?_
        have f := Frm.set f 49 (v := .bool (decide (((l.getD (fst l) 0).toNat : Int) = 48))) (v' := .bool ((decide ((k : Int) = ((fst l : Int) + 1))) && (decide (((l.getD (fst l) 0).toNat : Int) = 48)))) (by kernel_rfl) (by simp only [h_5, Bool.and_true, Bool.true_and, Bool.false_and, Bool.and_false, Bool.or_true, Bool.true_or, Bool.or_false, Bool.false_or, Bool.not_true, Bool.not_false, cond_true, cond_false])
        exact ⟨f.kp, p_7⟩
       ·have k_9 := iff_f dI h_5
        have f := f.st 43 (cB h_5)
        refine Y f 6 fun _ f => eT ?_
        have f := Frm.set f 49 (v := .bool false) (v' := .bool ((decide ((k : Int) = ((fst l : Int) + 1))) && (decide (((l.getD (fst l) 0).toNat : Int) = 48)))) (by kernel_rfl) (by simp only [h_5, Bool.and_true, Bool.true_and, Bool.false_and, Bool.and_false, Bool.or_true, Bool.true_or, Bool.or_false, Bool.false_or, Bool.not_true, Bool.not_false, cond_true, cond_false])
        exact ⟨f.kp, p_7⟩
      ·rintro a_28 w_8 ⟨f, p_8⟩
       refine T_n (Y6 f (b := (decide ((k : Int) = ((fst l : Int) + 1))) && (decide (((l.getD (fst l) 0).toNat : Int) = 48))) (fun h_6 => ?_) fun h_6 => ?_)
       ·have k_10 : ((k : Int) = ((fst l : Int) + 1)) ∧ (((l.getD (fst l) 0).toNat : Int) = 48) := (and_iff dI dI).1 h_6
        refine RR (Y f 2 fun _ f => Y f 1 fun _ f => ?_)
        have f := Frm.set f 52 (v := .int .i64 (IntKind.wrap .i64 (at_ + (k : Int)))) (v' := .int .i64 (at_ + (k : Int))) (by kernel_rfl) (congrArg (Value.int .i64) (IntWalk.i64_in _ (by omega)))
        refine Y f 3 fun _ f => eT (wp_ret (T_r (B_r (T_r (T_r (B_r (T_r (E_ret3 f rfl (by kernel_rfl : Vc.look _ 4 = some (.int .i64 0)) (by kernel_rfl : Vc.look _ 5 = some (.int .i64 (at_ + (k : Int)))) (by kernel_rfl : Vc.look _ 6 = some (.int .i64 20)) ?_))))))))
        refine ⟨_, rfl, M_2, (hM_1.trans hM_2), p_8, ?_⟩
        obtain ⟨e1, e2⟩ := isboth k_10
        exact tup3 (hsc.trans (I_s.early at_ h_4 e1 e2))
       ·have k_11 : ¬ (((k : Int) = ((fst l : Int) + 1)) ∧ (((l.getD (fst l) 0).toNat : Int) = 48)) := iff_f (and_iff dI dI) h_6
        refine wp_skip (T_n (RR (Y f 2 fun _ f => eT (Y6 f (b := decide (n ≤ 9007199254740992)) (fun h_7 => ?_) fun h_7 => ?_))))
        ·have k_12 := dI.1 h_7
         refine R_reg (Y f 1 fun _ f => Y f 1 fun _ f => ?_)
         have f := Frm.set f 56 (v := .int .i64 (IntKind.wrap .i64 ((10 : Int) * n))) (v' := .int .i64 ((10 : Int) * n)) (by kernel_rfl) (congrArg (Value.int .i64) (IntWalk.i64_in _ (by omega)))
         refine Y f 2 fun _ f => Z f (Y32 rfl (ad := ad_1) (len := l.length + 1) (cap := cap_2) (k := .i64) (i := (k : Int)) (e := 5) (sz := 1) (by omega) (by omega)) fun _ f => Z f (Y34 (v := .int .u8 ((l.getD k 0).toNat : Int)) rfl (ad := ad_1.add (((k : Int)).toNat * 1)) (p_8.cell (KZ.get (kz_1.mono hM_2) (by omega) (by omega)))) fun _ f => ?_
         have hb_4 := byte_lt (l.getD k 0)
         refine Y f 1 fun _ f => ?_
         have f := Frm.set f 61 (v := .int .u8 (IntKind.wrap .u8 (((l.getD k 0).toNat : Int) - 48))) (v' := .int .u8 ((((l.getD k 0).toNat : Int) - 48) % 256)) (by kernel_rfl) (congrArg (Value.int .u8) (IntKind.wrap_u8 _))
         refine Y f 1 fun _ f => ?_
         have f := Frm.set f 62 (v := .int .i64 (IntKind.wrap .i64 ((((l.getD k 0).toNat : Int) - 48) % 256))) (v' := .int .i64 ((((l.getD k 0).toNat : Int) - 48) % 256)) (by kernel_rfl) (congrArg (Value.int .i64) (IntWalk.i64_in _ (by omega)))
         refine Y f 1 fun _ f => ?_
         have f := Frm.set f 63 (v := .int .i64 (IntKind.wrap .i64 (((10 : Int) * n) + ((((l.getD k 0).toNat : Int) - 48) % 256)))) (v' := .int .i64 (((10 : Int) * n) + ((((l.getD k 0).toNat : Int) - 48) % 256))) (by kernel_rfl) (congrArg (Value.int .i64) (IntWalk.i64_in _ (by omega)))
         refine Y f 1 fun _ f => W_end rfl (B_n (T_n (R_reg (Y f 1 fun _ f => Y f 1 fun _ f => ?_))))
         have f := Frm.set f 38 (v := .int .i64 (IntKind.wrap .i64 ((k : Int) + 1))) (v' := .int .i64 ((k : Int) + 1)) (by kernel_rfl) (congrArg (Value.int .i64) (IntWalk.i64_in _ (by omega)))
         refine Y f 1 fun _ f => eT ?_
         have hkl := I_s.lt h_4
         have hzz := notboth k_11
         have f := Frm.set f 9 (v := .int .i64 ((k : Int) + 1)) (v' := .int .i64 ((k + 1) : Int)) (by kernel_rfl) (by first | rfl | (congr 1; omega) | simp)
         refine ⟨((k + 1, ((10 : Int) * n) + ((((l.getD k 0).toNat : Int) - 48) % 256), 10 * v + ((l.getD k 0).toNat - 48)) : Nat × Int × Nat), ?_, M_2, hM_2, ?_, f.kp, p_8⟩
         ·show l.length + 1 - (k + 1) < l.length + 1 - k; omega
         ·exact ⟨I_s.step h_4 hkl hzz, K_s.more _ h_4 k_12⟩
        ·have k_13 := iff_f dI h_7
         refine wp_skip (B_n (T_n (R_reg (Y f 1 fun _ f => Y f 1 fun _ f => ?_))))
         have f := Frm.set f 38 (v := .int .i64 (IntKind.wrap .i64 ((k : Int) + 1))) (v' := .int .i64 ((k : Int) + 1)) (by kernel_rfl) (congrArg (Value.int .i64) (IntWalk.i64_in _ (by omega)))
         refine Y f 1 fun _ f => eT ?_
         have hkl := I_s.lt h_4
         have hzz := notboth k_11
         have f := Frm.set f 9 (v := .int .i64 ((k : Int) + 1)) (v' := .int .i64 ((k + 1) : Int)) (by kernel_rfl) (by first | rfl | (congr 1; omega) | simp)
         refine ⟨((k + 1, n, 10 * v + ((l.getD k 0).toNat - 48)) : Nat × Int × Nat), ?_, M_2, hM_2, ?_, f.kp, p_8⟩
         ·show l.length + 1 - (k + 1) < l.length + 1 - k; omega
         ·exact ⟨I_s.step h_4 hkl hzz, K_s.full k_13⟩
     ·refine wp_exit (T_x (T_x (B_x (T_n (R_seq (RR (Y f 2 fun _ f => Z f (Y32 rfl (ad := ad_1) (len := l.length + 1) (cap := cap_2) (k := .i64) (i := (k : Int)) (e := 5) (sz := 1) (by omega) (by omega)) fun _ f => Z f (Y34 (v := .int .u8 ((l.getD k 0).toNat : Int)) rfl (ad := ad_1.add (((k : Int)).toNat * 1)) (p_7.cell (KZ.get (kz_1.mono hM_2) (by omega) (by omega)))) fun _ f => ?_)))))))
      have hb_5 := byte_lt (l.getD k 0)
      refine Y f 1 fun _ f => eT (wp_block (R_seq (RR (Y f 4 fun _ f => eT (R_mid (fun a_61 w_9 => Frm 110 [(1, .int .i64 at_), (4, .int .i64 n), (8, .bool (neg l)), (9, .int .i64 (k : Int)), (68, .bool ((decide ((k : Int) = (fst l : Int))) || ((decide ((at_ + (k : Int)) < (s.length : Int))) && ((decide (((l.getD k 0).toNat : Int) = 46)) || ((decide (((l.getD k 0).toNat : Int) = 101)) || (decide (((l.getD k 0).toNat : Int) = 69)))))))] a_61 ∧ Hp w0 M_2 (H) w_9) ?_ ?_)))))
      ·refine Y6 f (b := decide ((k : Int) = (fst l : Int))) (fun h_8 => ?_) fun h_8 => ?_
       ·have k_15 := dI.1 h_8
        refine wp_skip (T_n ?_)
        have f := Frm.set f 68 (v := .bool (decide ((k : Int) = (fst l : Int)))) (v' := .bool ((decide ((k : Int) = (fst l : Int))) || ((decide ((at_ + (k : Int)) < (s.length : Int))) && ((decide (((l.getD k 0).toNat : Int) = 46)) || ((decide (((l.getD k 0).toNat : Int) = 101)) || (decide (((l.getD k 0).toNat : Int) = 69))))))) (by kernel_rfl) (by simp only [h_8, Bool.and_true, Bool.true_and, Bool.false_and, Bool.and_false, Bool.or_true, Bool.true_or, Bool.or_false, Bool.false_or, Bool.not_true, Bool.not_false, cond_true, cond_false])
        exact ⟨f.kp, p_7⟩
       ·have k_16 := iff_f dI h_8
        refine R_mid (fun a_62 w_10 => Frm 110 [(1, .int .i64 at_), (4, .int .i64 n), (8, .bool (neg l)), (9, .int .i64 (k : Int)), (68, .bool ((decide ((at_ + (k : Int)) < (s.length : Int))) && ((decide (((l.getD k 0).toNat : Int) = 46)) || ((decide (((l.getD k 0).toNat : Int) = 101)) || (decide (((l.getD k 0).toNat : Int) = 69))))))] a_62 ∧ Hp w0 M_2 (H) w_10) ?_ ?_
        ·refine R_reg (Y f 2 fun _ f => Y f 1 fun _ f => ?_)
         have f := Frm.set f 74 (v := .int .i64 (IntKind.wrap .i64 (at_ + (k : Int)))) (v' := .int .i64 (at_ + (k : Int))) (by kernel_rfl) (congrArg (Value.int .i64) (IntWalk.i64_in _ (by omega)))
         refine Y f 4 fun _ f => ?_
         rcases bE (decide ((at_ + (k : Int)) < (s.length : Int))) with h_9 | h_9
         ·have k_17 := dI.1 h_9
          have f := f.st 78 (cB h_9)
          refine Y f 3 fun _ f => ?_
          rcases bE (decide (((l.getD k 0).toNat : Int) = 46)) with h_10 | h_10
          ·have k_18 := dI.1 h_10
           have f := f.st 81 (cB h_10)
           refine Y f 9 fun _ f => eT ?_
           have f := Frm.set f 68 (v := .bool true) (v' := .bool ((decide ((at_ + (k : Int)) < (s.length : Int))) && ((decide (((l.getD k 0).toNat : Int) = 46)) || ((decide (((l.getD k 0).toNat : Int) = 101)) || (decide (((l.getD k 0).toNat : Int) = 69)))))) (by kernel_rfl) (by simp only [h_9, h_10, Bool.and_true, Bool.true_and, Bool.false_and, Bool.and_false, Bool.or_true, Bool.true_or, Bool.or_false, Bool.false_or, Bool.not_true, Bool.not_false, cond_true, cond_false])
           exact ⟨f.kp, p_7⟩
          ·have k_19 := iff_f dI h_10
           have f := f.st 81 (cB h_10)
           refine Y f 4 fun _ f => ?_
           rcases bE (decide (((l.getD k 0).toNat : Int) = 101)) with h_11 | h_11
           ·have k_20 := dI.1 h_11
            have f := f.st 85 (cB h_11)
            refine Y f 5 fun _ f => eT ?_
            have f := Frm.set f 68 (v := .bool true) (v' := .bool ((decide ((at_ + (k : Int)) < (s.length : Int))) && ((decide (((l.getD k 0).toNat : Int) = 46)) || ((decide (((l.getD k 0).toNat : Int) = 101)) || (decide (((l.getD k 0).toNat : Int) = 69)))))) (by kernel_rfl) (by simp only [h_9, h_10, h_11, Bool.and_true, Bool.true_and, Bool.false_and, Bool.and_false, Bool.or_true, Bool.true_or, Bool.or_false, Bool.false_or, Bool.not_true, Bool.not_false, cond_true, cond_false])
            exact ⟨f.kp, p_7⟩
           ·have k_21 := iff_f dI h_11
            have f := f.st 85 (cB h_11)
            refine Y f 5 fun _ f => eT ?_
            have f := Frm.set f 68 (v := .bool (decide (((l.getD k 0).toNat : Int) = 69))) (v' := .bool ((decide ((at_ + (k : Int)) < (s.length : Int))) && ((decide (((l.getD k 0).toNat : Int) = 46)) || ((decide (((l.getD k 0).toNat : Int) = 101)) || (decide (((l.getD k 0).toNat : Int) = 69)))))) (by kernel_rfl) (by simp only [h_9, h_10, h_11, Bool.and_true, Bool.true_and, Bool.false_and, Bool.and_false, Bool.or_true, Bool.true_or, Bool.or_false, Bool.false_or, Bool.not_true, Bool.not_false, cond_true, cond_false])
            exact ⟨f.kp, p_7⟩
         ·have k_22 := iff_f dI h_9
          have f := f.st 78 (cB h_9)
          refine Y f 12 fun _ f => eT ?_
          have f := Frm.set f 68 (v := .bool false) (v' := .bool ((decide ((at_ + (k : Int)) < (s.length : Int))) && ((decide (((l.getD k 0).toNat : Int) = 46)) || ((decide (((l.getD k 0).toNat : Int) = 101)) || (decide (((l.getD k 0).toNat : Int) = 69)))))) (by kernel_rfl) (by simp only [h_9, Bool.and_true, Bool.true_and, Bool.false_and, Bool.and_false, Bool.or_true, Bool.true_or, Bool.or_false, Bool.false_or, Bool.not_true, Bool.not_false, cond_true, cond_false])
          exact ⟨f.kp, p_7⟩
        ·rintro a_62 w_10 ⟨f, p_10⟩
         refine T_n ?_
         have f := Frm.set f 68 (v := .bool ((decide ((at_ + (k : Int)) < (s.length : Int))) && ((decide (((l.getD k 0).toNat : Int) = 46)) || ((decide (((l.getD k 0).toNat : Int) = 101)) || (decide (((l.getD k 0).toNat : Int) = 69)))))) (v' := .bool ((decide ((k : Int) = (fst l : Int))) || ((decide ((at_ + (k : Int)) < (s.length : Int))) && ((decide (((l.getD k 0).toNat : Int) = 46)) || ((decide (((l.getD k 0).toNat : Int) = 101)) || (decide (((l.getD k 0).toNat : Int) = 69))))))) (by kernel_rfl) (by simp only [h_8, Bool.and_true, Bool.true_and, Bool.false_and, Bool.and_false, Bool.or_true, Bool.true_or, Bool.or_false, Bool.false_or, Bool.not_true, Bool.not_false, cond_true, cond_false])
         exact ⟨f.kp, p_10⟩
      ·rintro a_61 w_9 ⟨f, p_9⟩
       refine T_n (Y6 f (b := (decide ((k : Int) = (fst l : Int))) || ((decide ((at_ + (k : Int)) < (s.length : Int))) && ((decide (((l.getD k 0).toNat : Int) = 46)) || ((decide (((l.getD k 0).toNat : Int) = 101)) || (decide (((l.getD k 0).toNat : Int) = 69)))))) (fun h_12 => ?_) fun h_12 => ?_)
       ·have k_23 : ((k : Int) = (fst l : Int)) ∨ (((at_ + (k : Int)) < (s.length : Int)) ∧ ((((l.getD k 0).toNat : Int) = 46) ∨ ((((l.getD k 0).toNat : Int) = 101) ∨ (((l.getD k 0).toNat : Int) = 69)))) := (or_iff dI (and_iff dI (or_iff dI (or_iff dI dI)))).1 h_12
        refine RR (Y f 2 fun _ f => Y f 1 fun _ f => ?_)
        have f := Frm.set f 92 (v := .int .i64 (IntKind.wrap .i64 (at_ + (k : Int)))) (v' := .int .i64 (at_ + (k : Int))) (by kernel_rfl) (congrArg (Value.int .i64) (IntWalk.i64_in _ (by omega)))
        refine Y f 3 fun _ f => eT (wp_ret (B_r (T_r (E_ret3 f rfl (by kernel_rfl : Vc.look _ 4 = some (.int .i64 0)) (by kernel_rfl : Vc.look _ 5 = some (.int .i64 (at_ + (k : Int)))) (by kernel_rfl : Vc.look _ 6 = some (.int .i64 20)) (⟨_, rfl, M_2, (hM_1.trans hM_2), p_9, ?_⟩)))))
        exact tup3 (hsc.trans (I_s.e1 h_4 k_23))
       ·have k_24 : ¬ (((k : Int) = (fst l : Int)) ∨ (((at_ + (k : Int)) < (s.length : Int)) ∧ ((((l.getD k 0).toNat : Int) = 46) ∨ ((((l.getD k 0).toNat : Int) = 101) ∨ (((l.getD k 0).toNat : Int) = 69))))) := iff_f (or_iff dI (and_iff dI (or_iff dI (or_iff dI dI)))) h_12
        refine R_seq (RR (Y f 1 fun _ f => Y18 f p_9 (fits_ok _ (n)) fun w_11 p_11 _ f => Y f 2 fun _ f => eT (R_mid (fun a_78 w_12 => Frm 110 [(1, .int .i64 at_), (4, .int .i64 n), (8, .bool (neg l)), (9, .int .i64 (k : Int)), (93, .bool ((!(fitsB n)) || ((neg l) && (decide (n = 0)))))] a_78 ∧ Hp w0 M_2 (H) w_12) ?_ ?_)))
        ·refine Y6 f (b := !(fitsB n)) (fun h_13 => ?_) fun h_13 => ?_
         ·have k_25 : (fitsB n) = false := by simpa using h_13
          refine wp_skip (T_n ?_)
          have f := Frm.set f 93 (v := .bool (!(fitsB n))) (v' := .bool ((!(fitsB n)) || ((neg l) && (decide (n = 0))))) (by kernel_rfl) (by simp only [h_13, Bool.and_true, Bool.true_and, Bool.false_and, Bool.and_false, Bool.or_true, Bool.true_or, Bool.or_false, Bool.false_or, Bool.not_true, Bool.not_false, cond_true, cond_false])
          exact ⟨f.kp, p_11⟩
         ·have k_26 : (fitsB n) = true := by simpa using h_13
          refine R_mid (fun a_79 w_13 => Frm 110 [(1, .int .i64 at_), (4, .int .i64 n), (8, .bool (neg l)), (9, .int .i64 (k : Int)), (93, .bool ((neg l) && (decide (n = 0))))] a_79 ∧ Hp w0 M_2 (H) w_13) ?_ ?_
          ·refine R_reg (Y f 2 fun _ f => ?_)
           rcases bE (neg l) with h_14 | h_14
           ·have f := f.st 98 (cB h_14)
            refine Y f 4 fun _ f => eT ?_
            have f := Frm.set f 93 (v := .bool (decide (n = 0))) (v' := .bool ((neg l) && (decide (n = 0)))) (by kernel_rfl) (by simp only [h_14, Bool.and_true, Bool.true_and, Bool.false_and, Bool.and_false, Bool.or_true, Bool.true_or, Bool.or_false, Bool.false_or, Bool.not_true, Bool.not_false, cond_true, cond_false])
            exact ⟨f.kp, p_11⟩
           ·have f := f.st 98 (cB h_14)
            refine Y f 4 fun _ f => eT ?_
            have f := Frm.set f 93 (v := .bool false) (v' := .bool ((neg l) && (decide (n = 0)))) (by kernel_rfl) (by simp only [h_14, Bool.and_true, Bool.true_and, Bool.false_and, Bool.and_false, Bool.or_true, Bool.true_or, Bool.or_false, Bool.false_or, Bool.not_true, Bool.not_false, cond_true, cond_false])
            exact ⟨f.kp, p_11⟩
          ·rintro a_79 w_13 ⟨f, p_13⟩
           refine T_n ?_
           have f := Frm.set f 93 (v := .bool ((neg l) && (decide (n = 0)))) (v' := .bool ((!(fitsB n)) || ((neg l) && (decide (n = 0))))) (by kernel_rfl) (by simp only [h_13, Bool.and_true, Bool.true_and, Bool.false_and, Bool.and_false, Bool.or_true, Bool.true_or, Bool.or_false, Bool.false_or, Bool.not_true, Bool.not_false, cond_true, cond_false])
           exact ⟨f.kp, p_13⟩
        ·rintro a_78 w_12 ⟨f, p_12⟩
         refine T_n (Y6 f (b := (!(fitsB n)) || ((neg l) && (decide (n = 0)))) (fun h_15 => ?_) fun h_15 => ?_)
         ·have k_29 : (¬ ((fitsB n) = true)) ∨ (((neg l) = true) ∧ (n = 0)) := (or_iff (not_iff Iff.rfl) (and_iff Iff.rfl dI)).1 h_15
          refine RR (Y f 4 fun _ f => eT (wp_ret (B_r (T_r (E_ret3 f rfl (by kernel_rfl : Vc.look _ 4 = some (.int .i64 0)) (by kernel_rfl : Vc.look _ 5 = some (.int .i64 at_)) (by kernel_rfl : Vc.look _ 6 = some (.int .i64 20)) (⟨_, rfl, M_2, (hM_1.trans hM_2), p_12, ?_⟩))))))
          have hno := ScanI.no (l := l) (k := k) (sl := s.length) (at_ := at_) (by omega) k_24
          exact tup3 (hsc.trans (I_s.e2 h_4 hno (K_s.bad.1 k_29)))
         ·have k_30 : ¬ ((¬ ((fitsB n) = true)) ∨ (((neg l) = true) ∧ (n = 0))) := iff_f (or_iff (not_iff Iff.rfl) (and_iff Iff.rfl dI)) h_15
          refine wp_skip (B_n (T_n (R_seq (RR (Y f 1 fun _ f => eT (Y6 f (b := neg l) (fun h_16 => ?_) fun h_16 => ?_))))))
          ·refine R_reg (Y f 1 fun _ f => Y f 1 fun _ f => ?_)
           have f := Frm.set f 105 (v := .int .i64 (IntKind.wrap .i64 (0 - n))) (v' := .int .i64 (-n)) (by kernel_rfl) (congrArg (Value.int .i64) ((IntWalk.i64_in _ (by omega)).trans (Int.zero_sub _)))
           refine Y f 1 fun _ f => eT (RR (Y f 3 fun _ f => Y f 1 fun _ f => ?_))
           have f := Frm.set f 109 (v := .int .i64 (IntKind.wrap .i64 (at_ + (k : Int)))) (v' := .int .i64 (at_ + (k : Int))) (by kernel_rfl) (congrArg (Value.int .i64) (IntWalk.i64_in _ (by omega)))
           refine Y f 3 fun _ f => eT (wp_ret (E_ret3 f rfl (by kernel_rfl : Vc.look _ 4 = some (.int .i64 (-n))) (by kernel_rfl : Vc.look _ 5 = some (.int .i64 (at_ + (k : Int)))) (by kernel_rfl : Vc.look _ 6 = some (.int .i64 0)) (⟨_, rfl, M_2, (hM_1.trans hM_2), p_12, ?_⟩)))
           have hno := ScanI.no (l := l) (k := k) (sl := s.length) (at_ := at_) (by omega) k_24
           have hbb := fun x => k_30 (K_s.bad.2 x)
           exact tup3 (hsc.trans ((I_s.e3 h_4 hno hbb).trans (by rw [h_16, K_s.val hbb]; rfl)))
          ·refine wp_skip (T_n (RR (Y f 3 fun _ f => Y f 1 fun _ f => ?_)))
           have f := Frm.set f 109 (v := .int .i64 (IntKind.wrap .i64 (at_ + (k : Int)))) (v' := .int .i64 (at_ + (k : Int))) (by kernel_rfl) (congrArg (Value.int .i64) (IntWalk.i64_in _ (by omega)))
           refine Y f 3 fun _ f => eT (wp_ret (E_ret3 f rfl (by kernel_rfl : Vc.look _ 4 = some (.int .i64 n)) (by kernel_rfl : Vc.look _ 5 = some (.int .i64 (at_ + (k : Int)))) (by kernel_rfl : Vc.look _ 6 = some (.int .i64 0)) (⟨_, rfl, M_2, (hM_1.trans hM_2), p_12, ?_⟩)))
           have hno := ScanI.no (l := l) (k := k) (sl := s.length) (at_ := at_) (by omega) k_24
           have hbb := fun x => k_30 (K_s.bad.2 x)
           exact tup3 (hsc.trans ((I_s.e3 h_4 hno hbb).trans (by rw [h_16, K_s.val hbb]; rfl)))
theorem readP_ok (M : Mem) (s : List UInt8) (hs : s.length ≤ 140737488351232) : Ok Tryz.prog M 104 [S s] (fun _ v => v = .tuple #[.int .i64 (read s).1, .int .i64 (read s).2]) := by
 intro M hM0 w0 H w p0
 refine R_enter 22 Tryz.func104 rfl rfl (by simp) fun a0 f0 => RR (Y f0 2 fun _ f => eT (R_seq (RR (Y f 1 fun _ f => Y18 f p0 (scanP_ok _ s 0 (by first | omega | decide | assumption | (simp only [List.length_append, List.length_cons, List.length_nil]; omega))) fun w_1 p_1 _ f => ?_))))
 refine Y f 7 fun _ f => eT (R_seq (R_mid (fun a_5 w_2 => Frm 22 [(4, .int .i64 (scan s 0).1), (20, .bool ((decide ((scan s 0).2.2 = 0)) && (decide ((scan s 0).2.1 = (s.length : Int)))))] a_5 ∧ Hp w0 M (H) w_2) ?_ ?_))
 ·refine R_reg (Y f 3 fun _ f => ?_)
  rcases bE (decide ((scan s 0).2.2 = 0)) with h_1 | h_1
  ·have k_1 := dI.1 h_1
   have f := f.st 15 (cB h_1)
   refine Y f 5 fun _ f => eT ?_
   have f := Frm.set f 20 (v := .bool (decide ((scan s 0).2.1 = (s.length : Int)))) (v' := .bool ((decide ((scan s 0).2.2 = 0)) && (decide ((scan s 0).2.1 = (s.length : Int))))) (by kernel_rfl) (by simp only [h_1, Bool.and_true, Bool.true_and, Bool.false_and, Bool.and_false, Bool.or_true, Bool.true_or, Bool.or_false, Bool.false_or, Bool.not_true, Bool.not_false, cond_true, cond_false])
   exact ⟨f.kp, p_1⟩
  ·have k_2 := iff_f dI h_1
   have f := f.st 15 (cB h_1)
   refine Y f 5 fun _ f => eT ?_
   have f := Frm.set f 20 (v := .bool false) (v' := .bool ((decide ((scan s 0).2.2 = 0)) && (decide ((scan s 0).2.1 = (s.length : Int))))) (by kernel_rfl) (by simp only [h_1, Bool.and_true, Bool.true_and, Bool.false_and, Bool.and_false, Bool.or_true, Bool.true_or, Bool.or_false, Bool.false_or, Bool.not_true, Bool.not_false, cond_true, cond_false])
   exact ⟨f.kp, p_1⟩
 ·rintro a_5 w_2 ⟨f, p_2⟩
  refine T_n (Y6 f (b := (decide ((scan s 0).2.2 = 0)) && (decide ((scan s 0).2.1 = (s.length : Int)))) (fun h_2 => ?_) fun h_2 => ?_)
  ·have k_3 : ((scan s 0).2.2 = 0) ∧ ((scan s 0).2.1 = (s.length : Int)) := (and_iff dI dI).1 h_2
   refine RR (Y f 3 fun _ f => eT (wp_ret (T_r (E_ret2 f rfl (by kernel_rfl : Vc.look _ 2 = some (.int .i64 (scan s 0).1)) (by kernel_rfl : Vc.look _ 3 = some (.int .i64 0)) (⟨_, rfl, M, (mR _), p_2, ?_⟩)))))
   exact tup2 (if_pos (by omega))
  ·have k_4 : ¬ (((scan s 0).2.2 = 0) ∧ ((scan s 0).2.1 = (s.length : Int))) := iff_f (and_iff dI dI) h_2
   refine wp_skip (T_n (RR (Y f 2 fun _ f => eT (wp_ret (E_ret2 f rfl (by kernel_rfl : Vc.look _ 2 = some (.int .i64 0)) (by kernel_rfl : Vc.look _ 3 = some (.int .i64 20)) (⟨_, rfl, M, (mR _), p_2, ?_⟩))))))
   exact tup2 (if_neg (by omega))
theorem textIn_ok (M : Mem) (bp bo n : Nat) : ∀ (hn : n ≤ 9007199254740992) (v : Value) (k : Nat) (xs : List Value) (hk : k ≤ 1000), OkH Tryz.prog M [Ent.obj bp (.cells #[.func (.func 106) #[] #[.pointer (some (⟨bp, 0, none⟩)), .pointer (some (⟨bo, 0, none⟩))]] 154 (0, 0)), Ent.obj bo (.cells #[v] 153 (0, 0)), Ent.row 5 1 v k xs] 106 [.int .i64 (n : Int), .pointer (some (⟨bp, 0, none⟩)), .pointer (some (⟨bo, 0, none⟩))] (fun _ E2 r => r = .tuple #[] ∧ ∃ v2, E2 = [Ent.obj bp (.cells #[.func (.func 106) #[] #[.pointer (some (⟨bp, 0, none⟩)), .pointer (some (⟨bo, 0, none⟩))]] 154 (0, 0)), Ent.obj bo (.cells #[v2] 153 (0, 0)), Ent.row 5 1 v2 (k + (digs n).length) (xs ++ byteCs (digs n))]) := by
 induction n using Nat.strongRecOn generalizing M
 rename_i n ih
 intro hn v k xs hk
 have hl1 := digs_len16 hn
 have hl2 := digs_len16 (n := n / 10) (by omega)
 intro M hM0 w0 H w p0
 refine R_enter 17 Tryz.func106 rfl rfl (by simp) fun a0 f0 => R_seq (RR (Y f0 2 fun _ f => eT (Y6 f (b := decide ((9 : Int) < (n : Int))) (fun h_1 => ?_) fun h_1 => ?_)))
 ·have k_1 := dI.1 h_1
  refine R_reg (Z f (Y34 (v := .func (.func 106) #[] #[.pointer (some (⟨bp, 0, none⟩)), .pointer (some (⟨bo, 0, none⟩))]) rfl (ad := ⟨bp, 0, none⟩) (p0.ownCell 0 rfl 0)) fun _ f => Y f 1 fun _ f => Y f 1 fun _ f => ?_)
  have f := Frm.set f 8 (v := .int .i64 (IntKind.wrap .i64 ((n : Int).tdiv 10))) (v' := .int .i64 ((n : Int) / 10)) (by kernel_rfl) (congrArg (Value.int .i64) (quo_i64 (by omega) (by decide) (by omega)))
  have f := Frm.set f 8 (v := .int .i64 ((n : Int) / 10)) (v' := .int .i64 ((n / 10 : Nat) : Int)) (by kernel_rfl) (congrArg (Value.int .i64) (by omega))
  refine Y17 (E := [Ent.obj bp (.cells #[.func (.func 106) #[] #[.pointer (some (⟨bp, 0, none⟩)), .pointer (some (⟨bo, 0, none⟩))]] 154 (0, 0)), Ent.obj bo (.cells #[v] 153 (0, 0)), Ent.row 5 1 v k xs]) (H := (H)) f p0 (ih (n / 10) (by omega) _ (by omega) v k xs hk) fun v_1 M_1 E_1 w_1 hM_1 p_1 q_1 _ f => ?_
  obtain ⟨rfl, v2, rfl⟩ := q_1
  have p_2 : Hp w0 M ((Ent.obj bp (.cells #[.func (.func 106) #[] #[.pointer (some (⟨bp, 0, none⟩)), .pointer (some (⟨bo, 0, none⟩))]] 154 (0, 0))) :: (Ent.obj bo (.cells #[v2] 153 (0, 0))) :: (Ent.row 5 1 v2 (k + (digs (n / 10)).length) (xs ++ byteCs (digs (n / 10)))) :: H) w_1 := p_1.less hM_1
  refine eT (R_reg (Z f (Y34 (v := v2) rfl (ad := ⟨bo, 0, none⟩) (p_2.ownCell 1 rfl 0)) fun _ f => Y f 1 fun _ f => Y f 1 fun _ f => ?_))
  have f := Frm.set f 12 (v := .int .i64 ((n : Int).tmod 10)) (v' := .int .i64 ((n : Int) % 10)) (by kernel_rfl) (congrArg (Value.int .i64) (rem_nn (by omega)))
  refine Y f 1 fun _ f => ?_
  have f := Frm.set f 13 (v := .int .i64 (IntKind.wrap .i64 ((48 : Int) + ((n : Int) % 10)))) (v' := .int .i64 ((48 : Int) + ((n : Int) % 10))) (by kernel_rfl) (congrArg (Value.int .i64) (IntWalk.i64_in _ (by omega)))
  refine Y f 1 fun _ f => ?_
  have f := Frm.set f 14 (v := .int .u8 (IntKind.wrap .u8 ((48 : Int) + ((n : Int) % 10)))) (v' := .int .u8 (((48 : Int) + ((n : Int) % 10)) % 256)) (by kernel_rfl) (congrArg (Value.int .u8) (IntKind.wrap_u8 _))
  have f := Frm.set f 14 (v := .int .u8 (((48 : Int) + ((n : Int) % 10)) % 256)) (v' := .int .u8 ((dch n).toNat : Int)) (by kernel_rfl) (congrArg (Value.int .u8) (dch_int n))
  refine V_allocS (k := 1) (c := 1) f p_2 (.cells #[.int .u8 ((dch n).toNat : Int)] 5 (0, 0)) (by kernel_rfl) (fun _ => by kernel_rfl) fun b_1 w_2 p_3 _ f => ?_
  have p_4 := p_3.pl [3]
  refine W_append (d := 16) (t := 153) (e := 5) (z := .int .u8 0) (v := v2) (size := 1) (bytes := 1) (k := k + (digs (n / 10)).length) (m := 1) (c := 1) (xs := xs ++ byteCs (digs (n / 10))) (news := [.int .u8 ((dch n).toNat : Int)]) (ad := ⟨b_1, 0, none⟩) f p_4 (by kernel_rfl) (by kernel_rfl) rfl rfl rfl (by kernel_rfl) (by kernel_rfl) (by kernel_rfl) (by kernel_rfl) (rfl) (own_cells (p_4.ownCell 1 rfl) 0 rfl) (all_one (by kernel_rfl)) (by omega) (by omega) fun v_2 w_3 p_5 _ f => ?_
  have p_6 := p_5.pl [1]
  have p_7 := p_6.drop
  refine Y27 f p_7 2 rfl rfl (b := bo) (j := 0) (v := v_2) (row_one (p_7.rowAt 0 rfl)) (by exact rfl) (by simp) (by simp) ((Ent.row 5 1 v_2 ((k + (digs (n / 10)).length) + 1) ((xs ++ byteCs (digs (n / 10))) ++ [.int .u8 ((dch n).toNat : Int)])) :: (Ent.obj bp (.cells #[.func (.func 106) #[] #[.pointer (some (⟨bp, 0, none⟩)), .pointer (some (⟨bo, 0, none⟩))]] 154 (0, 0))) :: (Ent.obj bo (.cells #[v_2] 153 (0, 0))) :: H) rfl fun w_4 p_8 _ f => W_end rfl (E_end0 f rfl  ?_)
  have p_9 : Hp w0 M ((Ent.row 5 1 v_2 (k + (digs n).length) (xs ++ byteCs (digs n))) :: (Ent.obj bp (.cells #[.func (.func 106) #[] #[.pointer (some (⟨bp, 0, none⟩)), .pointer (some (⟨bo, 0, none⟩))]] 154 (0, 0))) :: (Ent.obj bo (.cells #[v_2] 153 (0, 0))) :: H) w_4 := p_8.rowEq (by rw [digs_ge (n := n) (by omega)]; simp; omega) (by rw [digs_ge (n := n) (by omega), byteCs_append, List.append_assoc]; rfl)
  have p_11 := p_9.pl [2, 2]
  exact ⟨_, rfl, M, [Ent.obj bp (.cells #[.func (.func 106) #[] #[.pointer (some (⟨bp, 0, none⟩)), .pointer (some (⟨bo, 0, none⟩))]] 154 (0, 0)), Ent.obj bo (.cells #[v_2] 153 (0, 0)), Ent.row 5 1 v_2 (k + (digs n).length) (xs ++ byteCs (digs n))], mR _, p_11, rfl, v_2, rfl⟩
 ·have k_2 := iff_f dI h_1
  refine wp_skip (T_n (R_reg (Z f (Y34 (v := v) rfl (ad := ⟨bo, 0, none⟩) (p0.ownCell 1 rfl 0)) fun _ f => Y f 1 fun _ f => Y f 1 fun _ f => ?_)))
  have f := Frm.set f 12 (v := .int .i64 ((n : Int).tmod 10)) (v' := .int .i64 ((n : Int) % 10)) (by kernel_rfl) (congrArg (Value.int .i64) (rem_nn (by omega)))
  refine Y f 1 fun _ f => ?_
  have f := Frm.set f 13 (v := .int .i64 (IntKind.wrap .i64 ((48 : Int) + ((n : Int) % 10)))) (v' := .int .i64 ((48 : Int) + ((n : Int) % 10))) (by kernel_rfl) (congrArg (Value.int .i64) (IntWalk.i64_in _ (by omega)))
  refine Y f 1 fun _ f => ?_
  have f := Frm.set f 14 (v := .int .u8 (IntKind.wrap .u8 ((48 : Int) + ((n : Int) % 10)))) (v' := .int .u8 (((48 : Int) + ((n : Int) % 10)) % 256)) (by kernel_rfl) (congrArg (Value.int .u8) (IntKind.wrap_u8 _))
  have f := Frm.set f 14 (v := .int .u8 (((48 : Int) + ((n : Int) % 10)) % 256)) (v' := .int .u8 ((dch n).toNat : Int)) (by kernel_rfl) (congrArg (Value.int .u8) (dch_int n))
  refine V_allocS (k := 1) (c := 1) f p0 (.cells #[.int .u8 ((dch n).toNat : Int)] 5 (0, 0)) (by kernel_rfl) (fun _ => by kernel_rfl) fun b_2 w_5 p_12 _ f => ?_
  have p_13 := p_12.pl [3]
  refine W_append (d := 16) (t := 153) (e := 5) (z := .int .u8 0) (v := v) (size := 1) (bytes := 1) (k := k) (m := 1) (c := 1) (xs := xs) (news := [.int .u8 ((dch n).toNat : Int)]) (ad := ⟨b_2, 0, none⟩) f p_13 (by kernel_rfl) (by kernel_rfl) rfl rfl rfl (by kernel_rfl) (by kernel_rfl) (by kernel_rfl) (by kernel_rfl) (rfl) (own_cells (p_13.ownCell 1 rfl) 0 rfl) (all_one (by kernel_rfl)) (by omega) (by omega) fun v_3 w_6 p_14 _ f => ?_
  have p_15 := p_14.pl [1]
  have p_16 := p_15.drop
  refine Y27 f p_16 2 rfl rfl (b := bo) (j := 0) (v := v_3) (row_one (p_16.rowAt 0 rfl)) (by exact rfl) (by simp) (by simp) ((Ent.row 5 1 v_3 (k + 1) (xs ++ [.int .u8 ((dch n).toNat : Int)])) :: (Ent.obj bp (.cells #[.func (.func 106) #[] #[.pointer (some (⟨bp, 0, none⟩)), .pointer (some (⟨bo, 0, none⟩))]] 154 (0, 0))) :: (Ent.obj bo (.cells #[v_3] 153 (0, 0))) :: H) rfl fun w_7 p_17 _ f => W_end rfl (E_end0 f rfl  ?_)
  have p_18 : Hp w0 M ((Ent.row 5 1 v_3 (k + (digs n).length) (xs ++ byteCs (digs n))) :: (Ent.obj bp (.cells #[.func (.func 106) #[] #[.pointer (some (⟨bp, 0, none⟩)), .pointer (some (⟨bo, 0, none⟩))]] 154 (0, 0))) :: (Ent.obj bo (.cells #[v_3] 153 (0, 0))) :: H) w_7 := p_17.rowEq (by rw [digs_lt (n := n) (by omega)]; rfl) (by rw [digs_lt (n := n) (by omega)]; rfl)
  have p_20 := p_18.pl [2, 2]
  exact ⟨_, rfl, M, [Ent.obj bp (.cells #[.func (.func 106) #[] #[.pointer (some (⟨bp, 0, none⟩)), .pointer (some (⟨bo, 0, none⟩))]] 154 (0, 0)), Ent.obj bo (.cells #[v_3] 153 (0, 0)), Ent.row 5 1 v_3 (k + (digs n).length) (xs ++ byteCs (digs n))], mR _, p_20, rfl, v_3, rfl⟩
theorem textP_ok (M : Mem) (n : Int) : Ok Tryz.prog M 87 [.int .i64 n] (fun _ v => v = .tuple #[S (text n).1, .int .i64 (text n).2]) := by
 intro M hM0 w0 H w p0
 refine R_enter 25 Tryz.func87 rfl rfl (by simp) fun a0 f0 => RR (Y f0 2 fun _ f => eT (R_seq (RR (Y f 1 fun _ f => Y18 f p0 (fits_ok _ (n)) fun w_1 p_1 _ f => ?_))))
 refine Y f 1 fun _ f => eT (Y6 f (b := !(fitsB n)) (fun h_1 => ?_) fun h_1 => ?_)
 ·have k_1 : (fitsB n) = false := by simpa using h_1
  refine RR (Y f 2 fun _ f => eT (wp_ret (T_r (E_ret2 f rfl (by kernel_rfl : Vc.look _ 2 = some (S [])) (by kernel_rfl : Vc.look _ 3 = some (.int .i64 20)) (⟨_, rfl, M, (mR _), (p_1.dropN 0), ?_⟩)))))
  rw [text_no k_1]
 ·have k_2 : (fitsB n) = true := by simpa using h_1
  refine wp_skip (T_n (R_seq ?_))
  have hfit := k_2
  have hfit2 := fitsB_iff.1 hfit
  refine R_reg (Y12 f p_1 (.cells #[.slice none 0 0] 153 (0, 0)) fun b_1 w_2 p_2 _ f => eT (RR (Y12 f p_2 (.cells #[.nilFunc] 154 (0, 0)) fun b_2 w_3 p_3 _ f => eT (RR ?_))))
  refine Y f 1 fun _ f => Y27 f p_3 0 rfl rfl (b := b_2) (j := 0) (v := .func (.func 106) #[] #[.pointer (some (⟨b_2, 0, none⟩)), .pointer (some (⟨b_1, 0, none⟩))]) rfl (by exact rfl) (by simp) (by simp) ((Ent.obj b_2 (.cells #[.func (.func 106) #[] #[.pointer (some (⟨b_2, 0, none⟩)), .pointer (some (⟨b_1, 0, none⟩))]] 154 (0, 0))) :: (Ent.obj b_1 (.cells #[.slice none 0 0] 153 (0, 0))) :: H) rfl fun w_4 p_4 _ f => eT (R_seq (wp_block (RR (Y f 1 fun _ f => ?_))))
  have p_5 := p_4.nilRow 5 1
  refine Y f 2 fun _ f => eT (Y6 f (b := decide (n < 0)) (fun h_2 => ?_) fun h_2 => ?_)
  ·have k_3 := dI.1 h_2
   refine RR (Z f (Y34 (v := .slice none 0 0) rfl (ad := ⟨b_1, 0, none⟩) (p_5.ownCell 2 rfl 0)) fun _ f => V_allocS (k := 1) (c := 1) f p_5 (.cells #[.int .u8 45] 5 (0, 0)) (by kernel_rfl) (fun _ => by kernel_rfl) fun b_3 w_5 p_6 _ f => ?_)
   have p_7 := p_6.pl [1]
   refine W_append (d := 18) (t := 153) (e := 5) (z := .int .u8 0) (v := .slice none 0 0) (size := 1) (bytes := 1) (k := 0) (m := 1) (c := 1) (xs := []) (news := [.int .u8 45]) (ad := ⟨b_3, 0, none⟩) f p_7 (by kernel_rfl) (by kernel_rfl) rfl rfl rfl (by kernel_rfl) (by kernel_rfl) (by kernel_rfl) (by kernel_rfl) (rfl) (own_cells (p_7.ownCell 1 rfl) 0 rfl) (all_one (by kernel_rfl)) (by omega) (by omega) fun v_1 w_6 p_8 _ f => ?_
   have p_9 := p_8.pl [1]
   have p_10 := p_9.drop
   refine Y27 f p_10 2 rfl rfl (b := b_1) (j := 0) (v := v_1) (row_one (p_10.rowAt 0 rfl)) (by exact rfl) (by simp) (by simp) ((Ent.row 5 1 v_1 (0 + 1) ([] ++ [.int .u8 45])) :: (Ent.obj b_2 (.cells #[.func (.func 106) #[] #[.pointer (some (⟨b_2, 0, none⟩)), .pointer (some (⟨b_1, 0, none⟩))]] 154 (0, 0))) :: (Ent.obj b_1 (.cells #[v_1] 153 (0, 0))) :: H) rfl fun w_7 p_11 _ f => eT (R_reg (Z f (Y34 (v := .func (.func 106) #[] #[.pointer (some (⟨b_2, 0, none⟩)), .pointer (some (⟨b_1, 0, none⟩))]) rfl (ad := ⟨b_2, 0, none⟩) (p_11.ownCell 1 rfl 0)) fun _ f => Y f 1 fun _ f => Y f 1 fun _ f => ?_))
   have f := Frm.set f 21 (v := .int .i64 (IntKind.wrap .i64 (0 - n))) (v' := .int .i64 (-n)) (by kernel_rfl) (congrArg (Value.int .i64) ((IntWalk.i64_in _ (by omega)).trans (Int.zero_sub _)))
   have f := Frm.set f 21 (v := .int .i64 (-n)) (v' := .int .i64 ((-n).toNat : Int)) (by kernel_rfl) (congrArg (Value.int .i64) (by omega))
   have p_13 := p_11.pl [2, 2]
   refine Y17 (E := [Ent.obj b_2 (.cells #[.func (.func 106) #[] #[.pointer (some (⟨b_2, 0, none⟩)), .pointer (some (⟨b_1, 0, none⟩))]] 154 (0, 0)), Ent.obj b_1 (.cells #[v_1] 153 (0, 0)), Ent.row 5 1 v_1 (0 + 1) ([] ++ [.int .u8 45])]) (H := (H)) f p_13 (textIn_ok _ b_2 b_1 ((-n).toNat) (by omega) (v_1) (0 + 1) ([] ++ [.int .u8 45]) (by omega)) fun v_2 M_1 E_1 w_8 hM_1 p_14 q_1 _ f => ?_
   obtain ⟨rfl, v3, rfl⟩ := q_1
   have p_15 : Hp w0 M ((Ent.obj b_2 (.cells #[.func (.func 106) #[] #[.pointer (some (⟨b_2, 0, none⟩)), .pointer (some (⟨b_1, 0, none⟩))]] 154 (0, 0))) :: (Ent.obj b_1 (.cells #[v3] 153 (0, 0))) :: (Ent.row 5 1 v3 ((0 + 1) + (digs (-n).toNat).length) (([] ++ [.int .u8 45]) ++ byteCs (digs (-n).toNat))) :: H) w_8 := p_14.less hM_1
   refine W_end rfl (B_n (T_n (RR (Z f (Y34 (v := v3) rfl (ad := ⟨b_1, 0, none⟩) (p_15.ownCell 1 rfl 0)) fun _ f => ?_))))
   have p_16 := p_15.pl [2]
   have p_17 : Hp w0 M ((Ent.row 5 1 v3 (45 :: digs (-n).toNat).length (byteCs (45 :: digs (-n).toNat))) :: (Ent.obj b_2 (.cells #[.func (.func 106) #[] #[.pointer (some (⟨b_2, 0, none⟩)), .pointer (some (⟨b_1, 0, none⟩))]] 154 (0, 0))) :: (Ent.obj b_1 (.cells #[v3] 153 (0, 0))) :: H) w_8 := p_16.rowEq (by simp <;> omega) (by simp [byteCs])
   refine Z (v := S (45 :: digs (-n).toNat)) f (X_string_row rfl (l := 45 :: digs (-n).toNat) (v := v3) (by kernel_rfl) (e := 5) (by kernel_rfl) (by kernel_rfl) (by kernel_rfl) (p_17.rowAt 0 rfl)) fun _ f => Y f 2 fun _ f => eT (wp_ret (E_ret2 f rfl (by kernel_rfl : Vc.look _ 2 = some (S (45 :: digs (-n).toNat))) (by kernel_rfl : Vc.look _ 3 = some (.int .i64 0)) (⟨_, rfl, M, (mR _), (p_17.dropN 3), ?_⟩)))
   rw [text_neg hfit k_3]
  ·have k_4 := iff_f dI h_2
   refine R_reg (Z f (Y34 (v := .func (.func 106) #[] #[.pointer (some (⟨b_2, 0, none⟩)), .pointer (some (⟨b_1, 0, none⟩))]) rfl (ad := ⟨b_2, 0, none⟩) (p_5.ownCell 1 rfl 0)) fun _ f => Y f 1 fun _ f => ?_)
   have f := Frm.set f 11 (v := .int .i64 n) (v' := .int .i64 (n.toNat : Int)) (by kernel_rfl) (congrArg (Value.int .i64) (by omega))
   have p_19 := p_5.pl [2, 2]
   refine Y17 (E := [Ent.obj b_2 (.cells #[.func (.func 106) #[] #[.pointer (some (⟨b_2, 0, none⟩)), .pointer (some (⟨b_1, 0, none⟩))]] 154 (0, 0)), Ent.obj b_1 (.cells #[.slice none 0 0] 153 (0, 0)), Ent.row 5 1 (.slice none 0 0) 0 []]) (H := (H)) f p_19 (textIn_ok _ b_2 b_1 (n.toNat) (by omega) (.slice none 0 0) (0) ([]) (by omega)) fun v_3 M_2 E_2 w_9 hM_2 p_20 q_2 _ f => ?_
   obtain ⟨rfl, v3, rfl⟩ := q_2
   have p_21 : Hp w0 M ((Ent.obj b_2 (.cells #[.func (.func 106) #[] #[.pointer (some (⟨b_2, 0, none⟩)), .pointer (some (⟨b_1, 0, none⟩))]] 154 (0, 0))) :: (Ent.obj b_1 (.cells #[v3] 153 (0, 0))) :: (Ent.row 5 1 v3 (0 + (digs n.toNat).length) ([] ++ byteCs (digs n.toNat))) :: H) w_9 := p_20.less hM_2
   refine W_end rfl (B_n (T_n (RR (Z f (Y34 (v := v3) rfl (ad := ⟨b_1, 0, none⟩) (p_21.ownCell 1 rfl 0)) fun _ f => ?_))))
   have p_22 := p_21.pl [2]
   have p_23 : Hp w0 M ((Ent.row 5 1 v3 (digs n.toNat).length (byteCs (digs n.toNat))) :: (Ent.obj b_2 (.cells #[.func (.func 106) #[] #[.pointer (some (⟨b_2, 0, none⟩)), .pointer (some (⟨b_1, 0, none⟩))]] 154 (0, 0))) :: (Ent.obj b_1 (.cells #[v3] 153 (0, 0))) :: H) w_9 := p_22.rowEq (by simp) (by simp)
   refine Z (v := S (digs n.toNat)) f (X_string_row rfl (l := digs n.toNat) (v := v3) (by kernel_rfl) (e := 5) (by kernel_rfl) (by kernel_rfl) (by kernel_rfl) (p_23.rowAt 0 rfl)) fun _ f => Y f 2 fun _ f => eT (wp_ret (E_ret2 f rfl (by kernel_rfl : Vc.look _ 2 = some (S (digs n.toNat))) (by kernel_rfl : Vc.look _ 3 = some (.int .i64 0)) (⟨_, rfl, M, (mR _), (p_23.dropN 3), ?_⟩)))
   rw [text_pos hfit k_4]
end Go.Proofs.YtocefedhenhbfabGreatDoor
end

section
namespace Go.Num
open Go
theorem text_fit {n : Int} (h : (text n).2 = 0) : fitsB n = true := by
 cases hf : fitsB n with
 | true => rfl
 | false => rw [text_no hf] at h; simp at h
end Go.Num
namespace Go.Num
open Go
theorem text_zero (n : Int) : (text n).2 = 0 ↔ fitsB n = true := ⟨text_fit, fun h => by simp [text, h]⟩
theorem text_len {n : Int} (h : fitsB n = true) : (text n).1.length ≤ 17 := by
 have h2 := fitsB_iff.1 h
 by_cases h0 : n < 0
 ·rw [text_neg h h0]; have := digs_len16 (n := (-n).toNat) (by omega); simp; omega
 ·rw [text_pos h h0]; have := digs_len16 (n := n.toNat) (by omega); dsimp only; omega
end Go.Num
end

section
namespace Go.Proofs.YtocefedhenhbfabGreatDoor
open Go Go.Vc Go.RowKit Go.Num
def h_numText (_ : Nat) (x : Int) : Option (List UInt8 × Int) := some (Go.Num.text x)
theorem h_numText_ok (n : Nat) (M : Mem) (x : Int) (r : List UInt8 × Int) (hF : h_numText n x = some r) : Ok Tryz.prog M 87 [.int .i64 x] (fun _ v => v = .tuple #[S r.1, .int .i64 r.2]) := by
 obtain rfl := Option.some.inj hF
 exact textP_ok M x
def h_numRead (_ : Nat) (s : List UInt8) : Option (Int × Int) := need (s.length ≤ 140737488351232) (some (Go.Num.read s))
theorem h_numRead_ok (n : Nat) (M : Mem) (s : List UInt8) (r : Int × Int) (hF : h_numRead n s = some r) : Ok Tryz.prog M 104 [S s] (fun _ v => v = .tuple #[.int .i64 r.1, .int .i64 r.2]) := by
 unfold h_numRead at hF
 obtain ⟨g, hF⟩ := need_some hF
 obtain rfl := Option.some.inj hF
 exact readP_ok M s g
end Go.Proofs.YtocefedhenhbfabGreatDoor
end
