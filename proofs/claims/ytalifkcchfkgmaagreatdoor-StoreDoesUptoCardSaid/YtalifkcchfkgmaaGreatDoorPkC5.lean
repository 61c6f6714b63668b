/-
  Texts of this claim, packed (what nothing names is left out): R2, R3, SchemaP6, Num, NumC, TextC, Num2, NumH, VkH, T1. Own work, partly printed by own programs. No condition.
-/
import Derived.Test.YtalifkcchfkgmaaGreatDoorPkC4
import Derived.Test.YtalifkcchfkgmaaGreatDoorPkC3
import Derived.Test.YtalifkcchfkgmaaGreatDoorPkC1
import Derived.Test.YtalifkcchfkgmaaGreatDoorRows
import GoSem.Op.String
import Derived.Test.YtalifkcchfkgmaaGreatDoorPkC2
import Derived.Laws.StructEq
set_option linter.unusedVariables false
set_option linter.unusedSimpArgs false
set_option maxHeartbeats 2000000
section
namespace Go.Proofs.YtalifkcchfkgmaaGreatDoor
open Go Go.Vc Go.RowKit
def ref09_value_s1 (n : Nat) (d0 : TC0) (s_1 : Int) : Option (Lp Int (Sum Unit Unit)) :=
    bif (decide (s_1 < ((d0.fList.length : Nat) : Int))) then
      ((getI d0.fList s_1).bind fun x_3 =>
      bif (!(decide (x_3.fKind = 3))) then
        (some (.br (.inl ())))
      else
        (getI d0.fList s_1).bind fun x_4 =>
        (ref05_Word n x_4.fText).bind fun x_5 =>
        bif !x_5 then
          (some (.br (.inl ())))
        else
          need (inR .i64 (s_1 + 1)) <|
          some (.nx (s_1 + 1)))
    else
      some (.br (.inr ()))
def ref09_value (n : Nat) (d0 : TC0) (d1 : Int) : Option Bool :=
  ((bif (!(decide (d0.fKind = d1))) then
      (some ((true)))
    else
      (ref03_Check n d0).bind fun x_1 =>
      some ((!(decide (x_1 = 0)))) : Option Bool)).bind fun y_1 =>
  bif y_1 then
    (some ((false)))
  else
    bif (decide (d1 = 3)) then
      ((ref05_Word n d0.fText).bind fun x_2 =>
      some ((x_2)))
    else
      ((bif (decide (d1 = 4)) then
          (some ((decide ((8 : Int) < ((d0.fList.length : Nat) : Int)))))
        else
          some ((false)) : Option Bool)).bind fun y_2 =>
      bif y_2 then
        (some ((false)))
      else
        (loopF (ref09_value_s1 n d0) n (0 : Int)).bind fun b_2 =>
        (match b_2 with 
        | .inl y_3 => some ((false)) 
        | .inr y_4 => some ((true)))
theorem ref09_value_ok (n : Nat) (M : Mem) (hG : GL M) (c0 : List Value) (d0 : TC0) (h0 : Rep M (emb_TC0 d0) c0) (d1 : Int) (r : Bool) (hF : ref09_value n d0 d1 = some r) : Ok Tryz.prog M 57 [.agg c0.toArray, .int .i8 d1] (fun _ v => v = .bool r) := by
 unfold ref09_value at hF
 intro M1 hM0 w0 H w p0
 replace hG := GL.mono hM0 hG
 replace h0 := Rep.mono hM0 _ _ h0
 obtain ⟨A_1, cap_1, A_2, cap_2, rfl, h_1, h_2⟩ := TC0.opn h0
 refine R_enter 52 Tryz.func57 rfl rfl (by simp) fun a0 f0 => RR (Y13 (cs := #[.int .i8 d0.fKind, .bool d0.fBool, .int .i64 d0.fNum, S d0.fText, .slice A_1 d0.fList.length cap_1, .slice A_2 d0.fKeys.length cap_2]) (T := 76) f0 p0 fun b_1 M_1 w_1 hM_1 hc_1 p_1 _ f => ?_)
 have hc_2 := fz_box hc_1
 refine Y f 1 fun _ f => eT (R_seq (R_seq ?_))
 obtain ⟨j_1, hj_1, hF_1⟩ := bS hF
 refine R_mid (fun a_10 w_3 => ∃ y_1 : Bool, j_1 = y_1 ∧ ∃ M_2 : Mem, M_1.le M_2 ∧ Frm 52 [(1, .int .i8 d1), (2, .pointer (some (⟨b_1, 0, none⟩))), (14, .bool y_1)] a_10 ∧ Hp w0 M_2 (H) w_3) ?_ ?_
 ·refine R_reg (Y f 1 fun _ f => Y15 f p_1 hc_2 0 rfl fun _ f => Y f 3 fun _ f => ?_)
  rcases cE hj_1 with ⟨h_3, hF_2⟩ | ⟨h_3, hF_3⟩
  ·have k_1 : ¬ (d0.fKind = d1) := (not_iff dI).1 h_3
   have f := f.st 10 (cB h_3)
   refine Y f 4 fun _ f => eT ?_
   exact ⟨(true), (sI hF_2).symm, M_1, (mR _), f.kp, p_1⟩
  ·have k_2 : ¬ (¬ (d0.fKind = d1)) := iff_f (not_iff dI) h_3
   have f := f.st 10 (cB h_3)
   refine Z (v := .agg #[.int .i8 d0.fKind, .bool d0.fBool, .int .i64 d0.fNum, S d0.fText, .slice A_1 d0.fList.length cap_1, .slice A_2 d0.fKeys.length cap_2]) f (Y33 (cs := [.int .i8 d0.fKind, .bool d0.fBool, .int .i64 d0.fNum, S d0.fText, .slice A_1 d0.fList.length cap_1, .slice A_2 d0.fKeys.length cap_2]) rfl (ad := ⟨b_1, 0, none⟩) (fun j v h => p_1.cell (hc_2 j v h))) fun _ f => ?_
   obtain ⟨x_1, hx_1, hF_4⟩ := bS hF_3
   refine Y18 f p_1 (ref03_Check_ok n _ _ d0 (TC0.shutx (x := d0) (h_1.mono hM_1) (h_2.mono hM_1)) x_1 hx_1) fun w_2 p_2 _ f => Y f 2 fun _ f => eT ?_
   exact ⟨(!(decide (x_1 = 0))), (sI hF_4).symm, M_1, (mR _), f.kp, p_2⟩
 ·rintro a_10 w_3 ⟨y_1, hq_1, M_2, hM_2, f, p_3⟩
  subst j_1
  refine T_n (RcF f hF_1 (fun h_4 hF_5 => ?_) fun h_4 hF_6 => ?_)
  ·refine RR (Y f 1 fun _ f => eT (wp_ret (T_r (E_ret1 f rfl (by kernel_rfl : Vc.look _ 4 = some (.bool false)) ?_))))
   obtain rfl := sI hF_5
   exact ⟨_, rfl, M_2, (hM_1.trans hM_2), p_3, rfl⟩
  ·refine wp_skip (T_n (R_seq (RR (Y f 2 fun _ f => eT (RcF f hF_6 (fun h_5 hF_7 => ?_) fun h_5 hF_9 => ?_)))))
   ·have k_5 := dI.1 h_5
    refine RR (Y f 1 fun _ f => Y15 f p_3 (fzu hM_2 hc_2) 3 rfl fun _ f => ?_)
    obtain ⟨x_2, hx_2, hF_8⟩ := bS hF_7
    refine Y18 f p_3 (ref05_Word_ok n _ (GL.mono (hM_1.trans hM_2) hG) d0.fText x_2 hx_2) fun w_4 p_4 _ f => Y f 1 fun _ f => eT (wp_ret (T_r (E_ret1 f rfl (by kernel_rfl : Vc.look _ 4 = some (.bool x_2)) ?_)))
    obtain rfl := sI hF_8
    exact ⟨_, rfl, M_2, (hM_1.trans hM_2), p_4, rfl⟩
   ·have k_6 := iff_f dI h_5
    refine wp_skip (T_n (R_seq (R_seq ?_)))
    obtain ⟨j_2, hj_2, hF_10⟩ := bS hF_9
    refine R_mid (fun a_22 w_5 => ∃ y_2 : Bool, j_2 = y_2 ∧ ∃ M_3 : Mem, M_2.le M_3 ∧ Frm 52 [(2, .pointer (some (⟨b_1, 0, none⟩))), (27, .bool y_2)] a_22 ∧ Hp w0 M_3 (H) w_5) ?_ ?_
    ·refine R_reg (Y f 3 fun _ f => ?_)
     rcases cE hj_2 with ⟨h_6, hF_11⟩ | ⟨h_6, hF_12⟩
     ·have k_7 := dI.1 h_6
      have f := f.st 22 (cB h_6)
      refine Y f 1 fun _ f => Y15 f p_3 (fzu hM_2 hc_2) 4 rfl fun _ f => Y f 3 fun _ f => eT ?_
      exact ⟨(decide ((8 : Int) < ((d0.fList.length : Nat) : Int))), (sI hF_11).symm, M_2, (mR _), f.kp, p_3⟩
     ·have k_8 := iff_f dI h_6
      have f := f.st 22 (cB h_6)
      refine Y f 5 fun _ f => eT ?_
      exact ⟨(false), (sI hF_12).symm, M_2, (mR _), f.kp, p_3⟩
    ·rintro a_22 w_5 ⟨y_2, hq_2, M_3, hM_3, f, p_5⟩
     subst j_2
     refine T_n (RcF f hF_10 (fun h_7 hF_13 => ?_) fun h_7 hF_14 => ?_)
     ·refine RR (Y f 1 fun _ f => eT (wp_ret (T_r (E_ret1 f rfl (by kernel_rfl : Vc.look _ 4 = some (.bool false)) ?_))))
      obtain rfl := sI hF_13
      exact ⟨_, rfl, M_3, ((hM_1.trans hM_2).trans hM_3), p_5, rfl⟩
     ·refine wp_skip (T_n (R_seq (RR (Y f 1 fun _ f => eT (wp_block ?_)))))
      obtain ⟨b_2, hL_1, hF_15⟩ := bS hF_14
      refine wp_mono (Q := fun e a w => (e = .ret ∧ (∃ y_3 : Unit, b_2 = .inl y_3 ∧ ∃ M_5 : Mem, M_3.le M_5 ∧ Frm 52 [(4, .bool false)] a ∧ Hp w0 M_5 (H) w)) ∨ (e = .exit 0 ∧ (∃ y_4 : Unit, b_2 = .inr y_4 ∧ ∃ M_6 : Mem, M_3.le M_6 ∧ Frm 52 [] a ∧ Hp w0 M_6 (H) w))) (R_loop (n := 52) (w0 := w0) (M := M_3) (fun (x : Nat × Int) => match x with | (m_1, s_1) => [(2, .pointer (some (⟨b_1, 0, none⟩))), (5, .int .i64 s_1)]) (fun (x : Nat × Int) => match x with | (m_1, s_1) => (H)) (fun (x : Nat × Int) (MM : Mem) => match x with | (m_1, s_1) => loopF (ref09_value_s1 n d0) m_1 s_1 = some b_2) (fun (x : Nat × Int) => match x with | (m_1, s_1) => m_1) (n, (0 : Int)) (f.kp) p_5 hL_1 ?_) ?_
      ·rintro ⟨m_1, s_1⟩ M_4 _ w_6 hM_4 I_1 f p_6
       have I_1L := I_1
       obtain ⟨m_2, r_1, rfl, hs_1, hn_1⟩ := loop_step I_1L
       unfold ref09_value_s1 at hs_1
       refine R_seq (RR (Y f 2 fun _ f => Y15 f p_6 (fzu ((hM_2.trans hM_3).trans hM_4) hc_2) 4 rfl fun _ f => Y f 2 fun _ f => eT (RcF f hs_1 (fun h_8 hF_16 => ?_) fun h_8 hF_25 => ?_)))
       ·have k_11 := dI.1 h_8
        refine wp_skip (T_n (R_seq (wp_block (RR (Y f 1 fun _ f => Y15 f p_6 (fzu ((hM_2.trans hM_3).trans hM_4) hc_2) 4 rfl fun _ f => Y f 1 fun _ f => ?_)))))
        obtain ⟨x_3, hx_3, hF_17⟩ := bS hF_16
        obtain ⟨ad_1, c_1, e_1, -, hr_1, hc_3⟩ := Sli.at_ (h_1.mono (((hM_1.trans hM_2).trans hM_3).trans hM_4)) hx_3
        obtain ⟨A_3, cap_3, A_4, cap_4, rfl, h_9, h_10⟩ := TC0.opn hr_1
        refine Z f (Y31 e_1 rfl (len := d0.fList.length) (cap := cap_1) (k := .i64) (i := s_1) (e := 76) (sz := 6) (getI_nn hx_3) (getI_lt hx_3)) fun _ f => Y f 1 fun _ f => Y15 f p_6 hc_3 0 rfl fun _ f => Y f 2 fun _ f => ?_
        rcases cE hF_17 with ⟨h_11, hF_18⟩ | ⟨h_11, hF_19⟩
        ·have k_12 : ¬ (x_3.fKind = 3) := (not_iff dI).1 h_11
         have f := f.st 42 (cB h_11)
         refine Y f 9 fun _ f => eT (Y8 f (RR (Y f 1 fun _ f => eT (wp_ret (B_r (T_r (T_r ?_)))))))
         obtain rfl := sI hF_18
         exact .inl ⟨rfl, (), (sI hn_1).symm, M_4, hM_4, f.kp, p_6⟩
        ·have k_13 : ¬ (¬ (x_3.fKind = 3)) := iff_f (not_iff dI) h_11
         have f := f.st 42 (cB h_11)
         refine Y f 1 fun _ f => Y15 f p_6 (fzu ((hM_2.trans hM_3).trans hM_4) hc_2) 4 rfl fun _ f => Y f 1 fun _ f => ?_
         obtain ⟨x_4, hx_4, hF_20⟩ := bS hF_19
         obtain ⟨ad_2, c_2, e_2, -, hr_2, hc_4⟩ := Sli.at_ (h_1.mono (((hM_1.trans hM_2).trans hM_3).trans hM_4)) hx_4
         obtain ⟨A_5, cap_5, A_6, cap_6, rfl, h_12, h_13⟩ := TC0.opn hr_2
         refine Z f (Y31 e_2 rfl (len := d0.fList.length) (cap := cap_1) (k := .i64) (i := s_1) (e := 76) (sz := 6) (getI_nn hx_4) (getI_lt hx_4)) fun _ f => Y f 1 fun _ f => Y15 f p_6 hc_4 3 rfl fun _ f => ?_
         obtain ⟨x_5, hx_5, hF_21⟩ := bS hF_20
         refine Y18 f p_6 (ref05_Word_ok n _ (GL.mono (((hM_1.trans hM_2).trans hM_3).trans hM_4) hG) x_4.fText x_5 hx_5) fun w_7 p_7 _ f => Y f 2 fun _ f => eT (RcF f hF_21 (fun h_14 hF_22 => ?_) fun h_14 hF_23 => ?_)
         ·have k_14 : (x_5) = false := by simpa using h_14
          refine RR (Y f 1 fun _ f => eT (wp_ret (B_r (T_r (T_r ?_)))))
          obtain rfl := sI hF_22
          exact .inl ⟨rfl, (), (sI hn_1).symm, M_4, hM_4, f.kp, p_7⟩
         ·have k_15 : (x_5) = true := by simpa using h_14
          refine wp_skip (B_n (T_n (R_reg (Y f 1 fun _ f => ?_))))
          obtain ⟨g_1, hF_24⟩ := nS hF_23
          refine Y f 1 fun _ f => ?_
          have f := f.st 34 (congrArg (Value.int .i64) (inR_wrap g_1))
          refine Y f 1 fun _ f => eT ?_
          obtain rfl := sI hF_24
          exact ⟨⟨m_2, s_1 + 1⟩, Nat.lt_succ_self _, M_4, hM_4, hn_1, f.kp, p_7⟩
       ·have k_16 := iff_f dI h_8
        refine wp_exit (T_x (T_x ?_))
        obtain rfl := sI hF_25
        exact .inr ⟨rfl, (), (sI hn_1).symm, M_4, hM_4, f.kp, p_6⟩
      ·rintro _ _ w_10 (⟨rfl, y_3, rfl, M_5, hM_5, f, p_8⟩ | ⟨rfl, y_4, rfl, M_6, hM_6, f, p_9⟩)
       ·refine B_r (T_r (E_ret1 f rfl (by kernel_rfl : Vc.look _ 4 = some (.bool false)) ?_))
        obtain rfl := sI hF_15
        exact ⟨_, rfl, M_5, (((hM_1.trans hM_2).trans hM_3).trans hM_5), p_8, rfl⟩
       ·refine B_x (T_n (RR (Y f 1 fun _ f => eT (wp_ret (E_ret1 f rfl (by kernel_rfl : Vc.look _ 4 = some (.bool true)) ?_)))))
        obtain rfl := sI hF_15
        exact ⟨_, rfl, M_6, (((hM_1.trans hM_2).trans hM_3).trans hM_6), p_9, rfl⟩
def ref09_Check_s1 (n : Nat) (d0 : List UInt8) (d1 : List TE0) (s_1 : Int) : Option (Lp Int (Sum Unit Unit)) :=
    bif (decide (s_1 < ((d1.length : Nat) : Int))) then
      ((getI d1 s_1).bind fun x_2 =>
      (ref09_Find n d0 x_2.fName).bind fun x_3 =>
      ((bif !x_3.2 then
          (some ((true)))
        else
          bif (decide ((0 : Int) < s_1)) then
            ((getI d1 s_1).bind fun x_4 =>
            need (inR .i64 (s_1 - 1)) <|
            (getI d1 (s_1 - 1)).bind fun x_5 =>
            some ((Op.bytesLess x_4.fName x_5.fName || x_4.fName == x_5.fName)))
          else
            some ((false)) : Option Bool)).bind fun y_1 =>
      bif y_1 then
        (some (.br (.inl ())))
      else
        (getI d1 s_1).bind fun x_6 =>
        bif x_6.fUnknown then
          (((bif (decide (x_3.1.fKind = 2)) then
              (some ((true)))
            else
              (getI d1 s_1).bind fun x_7 =>
              (ref03_Same n (⟨x_7.fV.fKind, (x_7.fV.fBool), x_7.fV.fNum, x_7.fV.fText, x_7.fV.fList, x_7.fV.fKeys⟩ : TC0) z_TC0).bind fun x_8 =>
              some ((!x_8)) : Option Bool)).bind fun y_2 =>
          bif y_2 then
            (some (.br (.inl ())))
          else
            need (inR .i64 (s_1 + 1)) <|
            some (.nx (s_1 + 1)))
        else
          (getI d1 s_1).bind fun x_9 =>
          (ref09_value n (⟨x_9.fV.fKind, (x_9.fV.fBool), x_9.fV.fNum, x_9.fV.fText, x_9.fV.fList, x_9.fV.fKeys⟩ : TC0) x_3.1.fKind).bind fun x_10 =>
          bif !x_10 then
            (some (.br (.inl ())))
          else
            need (inR .i64 (s_1 + 1)) <|
            some (.nx (s_1 + 1)))
    else
      some (.br (.inr ()))
def ref09_Check (n : Nat) (d0 : List UInt8) (d1 : List TE0) : Option Int :=
  (ref09_Specs n d0).bind fun x_1 =>
  bif (!(decide (x_1.2 = 0))) then
    (some (x_1.2))
  else
    (loopF (ref09_Check_s1 n d0 d1) n (0 : Int)).bind fun b_1 =>
    (match b_1 with 
    | .inl y_3 => some ((91 : Int)) 
    | .inr y_4 => some ((0 : Int)))
theorem ref09_Check_ok (n : Nat) (M : Mem) (hG : GL M) (d0 : List UInt8) (A1 : Option Addr) (cap1 : Nat) (d1 : List TE0) (h1 : Sli M 8 emb_TE0 A1 cap1 d1) (r : Int) (hF : ref09_Check n d0 d1 = some r) : Ok Tryz.prog M 33 [S d0, .slice A1 d1.length cap1] (fun _ v => v = .int .i64 r) := by
 unfold ref09_Check at hF
 intro M1 hM0 w0 H w p0
 replace hG := GL.mono hM0 hG
 replace h1 := h1.mono hM0
 refine R_enter 81 Tryz.func33 rfl rfl (by simp) fun a0 f0 => RR (Y f0 1 fun _ f => eT (RR (Y f 1 fun _ f => ?_)))
 obtain ⟨x_1, hx_1, hF_1⟩ := bS hF
 refine Y16 f p0 (ref09_Specs_ok n _ hG d0 x_1 hx_1) fun _ M_1 w_1 hM_1 p_1 q_1 _ f => ?_
 obtain ⟨A_1, cap_1, rfl, h_1⟩ := q_1
 refine Y f 5 fun _ f => eT (R_seq (RR (Y f 2 fun _ f => eT (RcF f hF_1 (fun h_2 hF_2 => ?_) fun h_2 hF_3 => ?_))))
 ·have k_1 : ¬ (x_1.2 = 0) := (not_iff dI).1 h_2
  refine RR (Y f 2 fun _ f => eT (wp_ret (T_r (E_ret1 f rfl (by kernel_rfl : Vc.look _ 4 = some (.int .i64 x_1.2)) ?_))))
  obtain rfl := sI hF_2
  exact ⟨_, rfl, M_1, hM_1, p_1, rfl⟩
 ·have k_2 : ¬ (¬ (x_1.2 = 0)) := iff_f (not_iff dI) h_2
  refine wp_skip (T_n (R_seq (RR (Y f 1 fun _ f => eT (wp_block ?_)))))
  obtain ⟨b_1, hL_1, hF_4⟩ := bS hF_3
  refine wp_mono (Q := fun e a w => (e = .ret ∧ (∃ y_3 : Unit, b_1 = .inl y_3 ∧ ∃ M_6 : Mem, M_1.le M_6 ∧ Frm 81 [(4, .int .i64 91)] a ∧ Hp w0 M_6 (H) w)) ∨ (e = .exit 0 ∧ (∃ y_4 : Unit, b_1 = .inr y_4 ∧ ∃ M_7 : Mem, M_1.le M_7 ∧ Frm 81 [] a ∧ Hp w0 M_7 (H) w))) (R_loop (n := 81) (w0 := w0) (M := M_1) (fun (x : Nat × Int) => match x with | (m_1, s_1) => [(0, S d0), (1, .slice A1 d1.length cap1), (7, .int .i64 s_1)]) (fun (x : Nat × Int) => match x with | (m_1, s_1) => (H)) (fun (x : Nat × Int) (MM : Mem) => match x with | (m_1, s_1) => loopF (ref09_Check_s1 n d0 d1) m_1 s_1 = some b_1) (fun (x : Nat × Int) => match x with | (m_1, s_1) => m_1) (n, (0 : Int)) (f.kp) p_1 hL_1 ?_) ?_
  ·rintro ⟨m_1, s_1⟩ M_2 _ w_2 hM_2 I_1 f p_2
   have I_1L := I_1
   obtain ⟨m_2, r_1, rfl, hs_1, hn_1⟩ := loop_step I_1L
   unfold ref09_Check_s1 at hs_1
   refine R_seq (RR (Y f 4 fun _ f => eT (RcF f hs_1 (fun h_3 hF_5 => ?_) fun h_3 hF_34 => ?_)))
   ·have k_3 := dI.1 h_3
    refine wp_skip (T_n (R_seq (wp_block (RR (Y f 3 fun _ f => ?_)))))
    obtain ⟨x_2, hx_2, hF_6⟩ := bS hF_5
    obtain ⟨ad_1, c_1, e_1, -, hr_1, hc_1⟩ := Sli.at_ (h1.mono (hM_1.trans hM_2)) hx_2
    obtain ⟨A_2, cap_2, A_3, cap_3, rfl, h_4, h_5⟩ := TE0.opn hr_1
    refine Z f (Y31 e_1 rfl (len := d1.length) (cap := cap1) (k := .i64) (i := s_1) (e := 78) (sz := 8) (getI_nn hx_2) (getI_lt hx_2)) fun _ f => Y f 1 fun _ f => Y15 f p_2 hc_1 0 rfl fun _ f => ?_
    obtain ⟨x_3, hx_3, hF_7⟩ := bS hF_6
    refine Y16 f p_2 (ref09_Find_ok n _ (GL.mono (hM_1.trans hM_2) hG) d0 x_2.fName x_3 hx_3) fun _ M_3 w_3 hM_3 p_3 q_2 _ f => ?_
    obtain ⟨c_2, rfl, hr_2⟩ := q_2
    obtain rfl := TF0.opn hr_2
    refine Y f 3 fun _ f => Y12 f p_3 (.cells #[S [], .int .i8 0, .bool false] 64 (0, 0)) fun b_2 w_4 p_4 _ f => Y28 (vs := [S x_3.1.fName, .int .i8 x_3.1.fKind, .bool x_3.1.fReplace]) (j := 0) f p_4 rfl rfl (by simp [Value.oneCell', S]) (by simp) (by decide) (cs' := #[S x_3.1.fName, .int .i8 x_3.1.fKind, .bool x_3.1.fReplace]) (by kernel_rfl) fun w_5 p_5 _ f => Y f 1 fun _ f => eT (R_seq (R_seq ?_))
    obtain ⟨j_1, hj_1, hF_8⟩ := bS hF_7
    refine R_mid (fun a_34 w_9 => ∃ y_1 : Bool, j_1 = y_1 ∧ ∃ M_4 : Mem, M_3.le M_4 ∧ Frm 81 [(0, S d0), (1, .slice A1 d1.length cap1), (7, .int .i64 s_1), (8, .pointer (some (⟨b_2, 0, none⟩))), (53, .bool y_1)] a_34 ∧ Hp w0 M_4 ((Ent.obj b_2 (.cells #[S x_3.1.fName, .int .i8 x_3.1.fKind, .bool x_3.1.fReplace] 64 (0, 0))) :: H) w_9) ?_ ?_
    ·refine R_draw p_5 (by kernel_rfl) (by kernel_rfl) (Y5 default f 3 fun _ f => ?_)
     rcases cE hj_1 with ⟨h_6, hF_9⟩ | ⟨h_6, hF_10⟩
     ·have k_4 : (x_3.2) = false := by simpa using h_6
      have f := f.st 36 (cB h_6)
      refine Y5 default f 17 fun _ f => Q_end rfl ?_
      intro w_6 p_6
      refine T_n ?_
      exact ⟨(true), (sI hF_9).symm, M_3, (mR _), f.kp, p_6⟩
     ·have k_5 : (x_3.2) = true := by simpa using h_6
      have f := f.st 36 (cB h_6)
      refine Y5 default f 3 fun _ f => ?_
      rcases cE hF_10 with ⟨h_7, hF_11⟩ | ⟨h_7, hF_15⟩
      ·have k_6 := dI.1 h_7
       have f := f.st 39 (cB h_7)
       refine Y5 default f 2 fun _ f => ?_
       obtain ⟨x_4, hx_4, hF_12⟩ := bS hF_11
       obtain ⟨ad_2, c_3, e_2, -, hr_3, hc_2⟩ := Sli.at_ (h1.mono ((hM_1.trans hM_2).trans hM_3)) hx_4
       obtain ⟨A_4, cap_4, A_5, cap_5, rfl, h_8, h_9⟩ := TE0.opn hr_3
       refine Y2 (v := .pointer (some (ad_2.add (s_1.toNat * 8)))) f (fun _ pq => Y31 e_2 rfl (len := d1.length) (cap := cap1) (k := .i64) (i := s_1) (e := 78) (sz := 8) (getI_nn hx_4) (getI_lt hx_4)) fun _ f => Y5 default f 1 fun _ f => Y4 f hc_2 0 rfl fun _ f => Y5 default f 2 fun _ f => ?_
       obtain ⟨g_1, hF_13⟩ := nS hF_12
       refine Y2 (v := .int .i64 (IntKind.wrap .i64 (s_1 - 1))) f (fun _ pq => by kernel_rfl) fun _ f => ?_
       have f := f.st 47 (congrArg (Value.int .i64) (inR_wrap g_1))
       obtain ⟨x_5, hx_5, hF_14⟩ := bS hF_13
       obtain ⟨ad_3, c_4, e_3, -, hr_4, hc_3⟩ := Sli.at_ (h1.mono ((hM_1.trans hM_2).trans hM_3)) hx_5
       obtain ⟨A_6, cap_6, A_7, cap_7, rfl, h_10, h_11⟩ := TE0.opn hr_4
       refine Y2 (v := .pointer (some (ad_3.add ((s_1 - 1).toNat * 8)))) f (fun _ pq => Y31 e_3 rfl (len := d1.length) (cap := cap1) (k := .i64) (i := s_1 - 1) (e := 78) (sz := 8) (getI_nn hx_5) (getI_lt hx_5)) fun _ f => Y5 default f 1 fun _ f => Y4 f hc_3 0 rfl fun _ f => Y2 (v := .bool (Op.bytesLess x_4.fName x_5.fName || x_4.fName == x_5.fName)) f (fun _ pq => X_strle rfl (l := x_4.fName) (m := x_5.fName) (by kernel_rfl) (by kernel_rfl)) fun _ f => Y5 default f 2 fun _ f => Q_end rfl ?_
       intro w_7 p_7
       refine T_n ?_
       exact ⟨(Op.bytesLess x_4.fName x_5.fName || x_4.fName == x_5.fName), (sI hF_14).symm, M_3, (mR _), f.kp, p_7⟩
      ·have k_7 := iff_f dI h_7
       have f := f.st 39 (cB h_7)
       refine Y5 default f 14 fun _ f => Q_end rfl ?_
       intro w_8 p_8
       refine T_n ?_
       exact ⟨(false), (sI hF_15).symm, M_3, (mR _), f.kp, p_8⟩
    ·rintro a_34 w_9 ⟨y_1, hq_1, M_4, hM_4, f, p_9⟩
     subst j_1
     refine T_n (RcF f hF_8 (fun h_12 hF_16 => ?_) fun h_12 hF_17 => ?_)
     ·refine RR (Y f 1 fun _ f => eT (wp_ret (T_r (B_r (T_r (T_r ?_))))))
      obtain rfl := sI hF_16
      exact .inl ⟨rfl, (), (sI hn_1).symm, M_4, ((hM_2.trans hM_3).trans hM_4), f.kp, (p_9.dropN 1)⟩
     ·refine wp_skip (T_n (R_seq (RR (Y f 2 fun _ f => ?_))))
      obtain ⟨x_6, hx_6, hF_18⟩ := bS hF_17
      obtain ⟨ad_4, c_5, e_4, -, hr_5, hc_4⟩ := Sli.at_ (h1.mono (((hM_1.trans hM_2).trans hM_3).trans hM_4)) hx_6
      obtain ⟨A_8, cap_8, A_9, cap_9, rfl, h_13, h_14⟩ := TE0.opn hr_5
      refine Z f (Y31 e_4 rfl (len := d1.length) (cap := cap1) (k := .i64) (i := s_1) (e := 78) (sz := 8) (getI_nn hx_6) (getI_lt hx_6)) fun _ f => Y f 1 fun _ f => Y15 f p_9 hc_4 1 rfl fun _ f => eT (RcF f hF_18 (fun h_15 hF_19 => ?_) fun h_15 hF_28 => ?_)
      ·refine R_seq (R_seq ?_)
       obtain ⟨j_2, hj_2, hF_20⟩ := bS hF_19
       refine R_mid (fun a_51 w_11 => ∃ y_2 : Bool, j_2 = y_2 ∧ ∃ M_5 : Mem, M_4.le M_5 ∧ Frm 81 [(0, S d0), (1, .slice A1 d1.length cap1), (7, .int .i64 s_1), (71, .bool y_2)] a_51 ∧ Hp w0 M_5 ((Ent.obj b_2 (.cells #[S x_3.1.fName, .int .i8 x_3.1.fKind, .bool x_3.1.fReplace] 64 (0, 0))) :: H) w_11) ?_ ?_
       ·refine R_reg (Y f 1 fun _ f => Z f (Y32 (v := .int .i8 x_3.1.fKind) rfl (ad := ⟨b_2, 1, none⟩) (p_9.ownCell 0 rfl 1)) fun _ f => Y f 2 fun _ f => ?_)
        rcases cE hj_2 with ⟨h_16, hF_21⟩ | ⟨h_16, hF_22⟩
        ·have k_11 := dI.1 h_16
         have f := f.st 62 (cB h_16)
         refine Y f 9 fun _ f => eT ?_
         exact ⟨(true), (sI hF_21).symm, M_4, (mR _), f.kp, p_9⟩
        ·have k_12 := iff_f dI h_16
         have f := f.st 62 (cB h_16)
         refine Y f 2 fun _ f => ?_
         obtain ⟨x_7, hx_7, hF_23⟩ := bS hF_22
         obtain ⟨ad_5, c_6, e_5, -, hr_6, hc_5⟩ := Sli.at_ (h1.mono (((hM_1.trans hM_2).trans hM_3).trans hM_4)) hx_7
         obtain ⟨A_10, cap_10, A_11, cap_11, rfl, h_17, h_18⟩ := TE0.opn hr_6
         refine Z f (Y31 e_5 rfl (len := d1.length) (cap := cap1) (k := .i64) (i := s_1) (e := 78) (sz := 8) (getI_nn hx_7) (getI_lt hx_7)) fun _ f => Y f 1 fun _ f => Z (v := .agg #[.int .i8 x_7.fV.fKind, .bool x_7.fV.fBool, .int .i64 x_7.fV.fNum, S x_7.fV.fText, .slice A_10 x_7.fV.fList.length cap_10, .slice A_11 x_7.fV.fKeys.length cap_11]) f (Y33 (cs := [.int .i8 x_7.fV.fKind, .bool x_7.fV.fBool, .int .i64 x_7.fV.fNum, S x_7.fV.fText, .slice A_10 x_7.fV.fList.length cap_10, .slice A_11 x_7.fV.fKeys.length cap_11]) rfl (ad := (ad_5.add (s_1.toNat * 8)).add 2) (fz_part (base := ad_5.add (s_1.toNat * 8)) (fun j v h => p_9.cell (hc_5 j v h)) 2 rfl)) fun _ f => Y f 1 fun _ f => ?_
         obtain ⟨x_8, hx_8, hF_24⟩ := bS hF_23
         refine Y18 f p_9 (ref03_Same_ok n _ _ (⟨x_7.fV.fKind, (x_7.fV.fBool), x_7.fV.fNum, x_7.fV.fText, x_7.fV.fList, x_7.fV.fKeys⟩ : TC0) (TC0.shut h_17 h_18) _ z_TC0 (TC0.shut Sli.nil Sli.nil) x_8 hx_8) fun w_10 p_10 _ f => Y f 2 fun _ f => eT ?_
         exact ⟨(!x_8), (sI hF_24).symm, M_4, (mR _), f.kp, p_10⟩
       ·rintro a_51 w_11 ⟨y_2, hq_2, M_5, hM_5, f, p_11⟩
        subst j_2
        refine T_n (RcF f hF_20 (fun h_19 hF_25 => ?_) fun h_19 hF_26 => ?_)
        ·refine RR (Y f 1 fun _ f => eT (wp_ret (T_r (T_r (B_r (T_r (T_r ?_)))))))
         obtain rfl := sI hF_25
         exact .inl ⟨rfl, (), (sI hn_1).symm, M_5, (((hM_2.trans hM_3).trans hM_4).trans hM_5), f.kp, (p_11.dropN 1)⟩
        ·refine wp_skip (T_n (wp_exit (T_x (B_x (T_n (R_reg (Y f 1 fun _ f => ?_)))))))
         obtain ⟨g_2, hF_27⟩ := nS hF_26
         refine Y f 1 fun _ f => ?_
         have f := f.st 23 (congrArg (Value.int .i64) (inR_wrap g_2))
         refine Y f 1 fun _ f => eT ?_
         obtain rfl := sI hF_27
         exact ⟨⟨m_2, s_1 + 1⟩, Nat.lt_succ_self _, M_5, (((hM_2.trans hM_3).trans hM_4).trans hM_5), hn_1, f.kp, (p_11.dropN 1)⟩
      ·refine wp_skip (T_n (R_seq (R_draw p_9 (by kernel_rfl) (by kernel_rfl) (Y5 default f 2 fun _ f => ?_))))
       obtain ⟨x_9, hx_9, hF_29⟩ := bS hF_28
       obtain ⟨ad_6, c_7, e_6, -, hr_7, hc_6⟩ := Sli.at_ (h1.mono (((hM_1.trans hM_2).trans hM_3).trans hM_4)) hx_9
       obtain ⟨A_12, cap_12, A_13, cap_13, rfl, h_20, h_21⟩ := TE0.opn hr_7
       refine Y2 (v := .pointer (some (ad_6.add (s_1.toNat * 8)))) f (fun _ pq => Y31 e_6 rfl (len := d1.length) (cap := cap1) (k := .i64) (i := s_1) (e := 78) (sz := 8) (getI_nn hx_9) (getI_lt hx_9)) fun _ f => Y5 default f 1 fun _ f => Y2 (v := .agg #[.int .i8 x_9.fV.fKind, .bool x_9.fV.fBool, .int .i64 x_9.fV.fNum, S x_9.fV.fText, .slice A_12 x_9.fV.fList.length cap_12, .slice A_13 x_9.fV.fKeys.length cap_13]) f (fun _ pq => Y33 (cs := [.int .i8 x_9.fV.fKind, .bool x_9.fV.fBool, .int .i64 x_9.fV.fNum, S x_9.fV.fText, .slice A_12 x_9.fV.fList.length cap_12, .slice A_13 x_9.fV.fKeys.length cap_13]) rfl (ad := (ad_6.add (s_1.toNat * 8)).add 2) (fz_part (base := ad_6.add (s_1.toNat * 8)) (fun j v h => pq.cell (hc_6 j v h)) 2 rfl)) fun _ f => Y5 default f 1 fun _ f => Y2 (v := .int .i8 x_3.1.fKind) f (fun _ pq => Y32 (v := .int .i8 x_3.1.fKind) rfl (ad := ⟨b_2, 1, none⟩) (pq.ownCell 0 rfl 1)) fun _ f => ?_
       obtain ⟨x_10, hx_10, hF_30⟩ := bS hF_29
       refine Y3 f (ref09_value_ok n _ (GL.mono (((hM_1.trans hM_2).trans hM_3).trans hM_4) hG) _ (⟨x_9.fV.fKind, (x_9.fV.fBool), x_9.fV.fNum, x_9.fV.fText, x_9.fV.fList, x_9.fV.fKeys⟩ : TC0) (TC0.shut h_20 h_21) x_3.1.fKind x_10 hx_10) fun _ f => Y5 default f 1 fun _ f => Q_end rfl ?_
       intro w_13 p_13
       refine T_n (RcF f hF_30 (fun h_22 hF_31 => ?_) fun h_22 hF_32 => ?_)
       ·have k_16 : (x_10) = false := by simpa using h_22
        refine RR (Y f 1 fun _ f => eT (wp_ret (B_r (T_r (T_r ?_)))))
        obtain rfl := sI hF_31
        exact .inl ⟨rfl, (), (sI hn_1).symm, M_4, ((hM_2.trans hM_3).trans hM_4), f.kp, (p_13.dropN 1)⟩
       ·have k_17 : (x_10) = true := by simpa using h_22
        refine wp_skip (B_n (T_n (R_reg (Y f 1 fun _ f => ?_))))
        obtain ⟨g_3, hF_33⟩ := nS hF_32
        refine Y f 1 fun _ f => ?_
        have f := f.st 23 (congrArg (Value.int .i64) (inR_wrap g_3))
        refine Y f 1 fun _ f => eT ?_
        obtain rfl := sI hF_33
        exact ⟨⟨m_2, s_1 + 1⟩, Nat.lt_succ_self _, M_4, ((hM_2.trans hM_3).trans hM_4), hn_1, f.kp, (p_13.dropN 1)⟩
   ·have k_18 := iff_f dI h_3
    refine wp_exit (T_x (T_x ?_))
    obtain rfl := sI hF_34
    exact .inr ⟨rfl, (), (sI hn_1).symm, M_2, hM_2, f.kp, p_2⟩
  ·rintro _ _ w_16 (⟨rfl, y_3, rfl, M_6, hM_6, f, p_14⟩ | ⟨rfl, y_4, rfl, M_7, hM_7, f, p_15⟩)
   ·refine B_r (T_r (E_ret1 f rfl (by kernel_rfl : Vc.look _ 4 = some (.int .i64 91)) ?_))
    obtain rfl := sI hF_4
    exact ⟨_, rfl, M_6, (hM_1.trans hM_6), p_14, rfl⟩
   ·refine B_x (T_n (RR (Y f 1 fun _ f => eT (wp_ret (E_ret1 f rfl (by kernel_rfl : Vc.look _ 4 = some (.int .i64 0)) ?_)))))
    obtain rfl := sI hF_4
    exact ⟨_, rfl, M_7, (hM_1.trans hM_7), p_15, rfl⟩
def ref09_Same_s1 (n : Nat) (d0 : List TE0) (d1 : List TE0) (s_1 : Int) : Option (Lp Int (Sum Unit Unit)) :=
    bif (decide (s_1 < ((d0.length : Nat) : Int))) then
      ((getI d0 s_1).bind fun x_1 =>
      (getI d1 s_1).bind fun x_2 =>
      bif (!(decide (x_1.fName = x_2.fName))) then
        (some (.br (.inl ())))
      else
        (getI d0 s_1).bind fun x_3 =>
        (getI d1 s_1).bind fun x_4 =>
        bif (!(x_3.fUnknown == x_4.fUnknown)) then
          (some (.br (.inl ())))
        else
          (getI d0 s_1).bind fun x_5 =>
          (getI d1 s_1).bind fun x_6 =>
          (ref03_Same n (⟨x_5.fV.fKind, (x_5.fV.fBool), x_5.fV.fNum, x_5.fV.fText, x_5.fV.fList, x_5.fV.fKeys⟩ : TC0) (⟨x_6.fV.fKind, (x_6.fV.fBool), x_6.fV.fNum, x_6.fV.fText, x_6.fV.fList, x_6.fV.fKeys⟩ : TC0)).bind fun x_7 =>
          bif !x_7 then
            ((getI d0 s_1).bind fun x_8 =>
            (getI d1 s_1).bind fun x_9 =>
            (ref03_Equal n (⟨x_8.fV.fKind, (x_8.fV.fBool), x_8.fV.fNum, x_8.fV.fText, x_8.fV.fList, x_8.fV.fKeys⟩ : TC0) (⟨x_9.fV.fKind, (x_9.fV.fBool), x_9.fV.fNum, x_9.fV.fText, x_9.fV.fList, x_9.fV.fKeys⟩ : TC0)).bind fun x_10 =>
            bif !x_10 then
              (some (.br (.inl ())))
            else
              need (inR .i64 (s_1 + 1)) <|
              some (.nx (s_1 + 1)))
          else
            need (inR .i64 (s_1 + 1)) <|
            some (.nx (s_1 + 1)))
    else
      some (.br (.inr ()))
def ref09_Same (n : Nat) (d0 : List TE0) (d1 : List TE0) : Option Bool :=
  bif (!(decide (((d0.length : Nat) : Int) = ((d1.length : Nat) : Int)))) then
    (some ((false)))
  else
    (loopF (ref09_Same_s1 n d0 d1) n (0 : Int)).bind fun b_1 =>
    (match b_1 with 
    | .inl y_1 => some ((false)) 
    | .inr y_2 => some ((true)))
theorem ref09_Same_ok (n : Nat) (M : Mem) (hG : GL M) (A0 : Option Addr) (cap0 : Nat) (d0 : List TE0) (h0 : Sli M 8 emb_TE0 A0 cap0 d0) (A1 : Option Addr) (cap1 : Nat) (d1 : List TE0) (h1 : Sli M 8 emb_TE0 A1 cap1 d1) (r : Bool) (hF : ref09_Same n d0 d1 = some r) : Ok Tryz.prog M 22 [.slice A0 d0.length cap0, .slice A1 d1.length cap1] (fun _ v => v = .bool r) := by
 unfold ref09_Same at hF
 intro M1 hM0 w0 H w p0
 replace hG := GL.mono hM0 hG
 replace h0 := h0.mono hM0
 replace h1 := h1.mono hM0
 refine R_enter 69 Tryz.func22 rfl rfl (by simp) fun a0 f0 => RR (Y f0 1 fun _ f => eT (R_seq (RR (Y f 5 fun _ f => eT (RcF f hF (fun h_1 hF_1 => ?_) fun h_1 hF_2 => ?_)))))
 ·have k_1 : ¬ (((d0.length : Nat) : Int) = ((d1.length : Nat) : Int)) := (not_iff dI).1 h_1
  refine RR (Y f 1 fun _ f => eT (wp_ret (T_r (E_ret1 f rfl (by kernel_rfl : Vc.look _ 4 = some (.bool false)) ?_))))
  obtain rfl := sI hF_1
  exact ⟨_, rfl, M1, (mR _), p0, rfl⟩
 ·have k_2 : ¬ (¬ (((d0.length : Nat) : Int) = ((d1.length : Nat) : Int))) := iff_f (not_iff dI) h_1
  refine wp_skip (T_n (R_seq (RR (Y f 1 fun _ f => eT (wp_block ?_)))))
  obtain ⟨b_1, hL_1, hF_3⟩ := bS hF_2
  refine wp_mono (Q := fun e a w => (e = .ret ∧ (∃ y_1 : Unit, b_1 = .inl y_1 ∧ ∃ M_2 : Mem, M1.le M_2 ∧ Frm 69 [(4, .bool false)] a ∧ Hp w0 M_2 (H) w)) ∨ (e = .exit 0 ∧ (∃ y_2 : Unit, b_1 = .inr y_2 ∧ ∃ M_3 : Mem, M1.le M_3 ∧ Frm 69 [] a ∧ Hp w0 M_3 (H) w))) (R_loop (n := 69) (w0 := w0) (M := M1) (fun (x : Nat × Int) => match x with | (m_1, s_1) => [(0, .slice A0 d0.length cap0), (1, .slice A1 d1.length cap1), (5, .int .i64 s_1)]) (fun (x : Nat × Int) => match x with | (m_1, s_1) => (H)) (fun (x : Nat × Int) (MM : Mem) => match x with | (m_1, s_1) => loopF (ref09_Same_s1 n d0 d1) m_1 s_1 = some b_1) (fun (x : Nat × Int) => match x with | (m_1, s_1) => m_1) (n, (0 : Int)) (f.kp) p0 hL_1 ?_) ?_
  ·rintro ⟨m_1, s_1⟩ M_1 _ w_1 hM_1 I_1 f p_1
   have I_1L := I_1
   obtain ⟨m_2, r_1, rfl, hs_1, hn_1⟩ := loop_step I_1L
   unfold ref09_Same_s1 at hs_1
   refine R_seq (RR (Y f 4 fun _ f => eT (RcF f hs_1 (fun h_2 hF_4 => ?_) fun h_2 hF_25 => ?_)))
   ·have k_3 := dI.1 h_2
    refine wp_skip (T_n (R_seq (wp_block (R_seq (R_draw p_1 (by kernel_rfl) (by kernel_rfl) (Y5 default f 2 fun _ f => ?_))))))
    obtain ⟨x_1, hx_1, hF_5⟩ := bS hF_4
    obtain ⟨ad_1, c_1, e_1, -, hr_1, hc_1⟩ := Sli.at_ (h0.mono hM_1) hx_1
    obtain ⟨A_1, cap_1, A_2, cap_2, rfl, h_3, h_4⟩ := TE0.opn hr_1
    refine Y2 (v := .pointer (some (ad_1.add (s_1.toNat * 8)))) f (fun _ pq => Y31 e_1 rfl (len := d0.length) (cap := cap0) (k := .i64) (i := s_1) (e := 78) (sz := 8) (getI_nn hx_1) (getI_lt hx_1)) fun _ f => Y5 default f 1 fun _ f => Y4 f hc_1 0 rfl fun _ f => Y5 default f 2 fun _ f => ?_
    obtain ⟨x_2, hx_2, hF_6⟩ := bS hF_5
    obtain ⟨ad_2, c_2, e_2, -, hr_2, hc_2⟩ := Sli.at_ (h1.mono hM_1) hx_2
    obtain ⟨A_3, cap_3, A_4, cap_4, rfl, h_5, h_6⟩ := TE0.opn hr_2
    refine Y2 (v := .pointer (some (ad_2.add (s_1.toNat * 8)))) f (fun _ pq => Y31 e_2 rfl (len := d1.length) (cap := cap1) (k := .i64) (i := s_1) (e := 78) (sz := 8) (getI_nn hx_2) (getI_lt hx_2)) fun _ f => Y5 default f 1 fun _ f => Y4 f hc_2 0 rfl fun _ f => Y2 (v := .bool (!(decide (x_1.fName = x_2.fName)))) f (fun _ pq => Y39 rfl (l := x_1.fName) (m := x_2.fName)) fun _ f => Y5 default f 1 fun _ f => ?_
    rcases cE hF_6 with ⟨h_7, hF_7⟩ | ⟨h_7, hF_8⟩
    ·have k_4 : ¬ (x_1.fName = x_2.fName) := (not_iff dI).1 h_7
     have f := f.st 28 (cB h_7)
     refine Y5 default f 40 fun _ f => Q_end rfl ?_
     intro w_2 p_2
     refine T_n (Y8 f (RR (Y f 1 fun _ f => eT (wp_ret (B_r (T_r (T_r ?_)))))))
     obtain rfl := sI hF_7
     exact .inl ⟨rfl, (), (sI hn_1).symm, M_1, hM_1, f.kp, p_2⟩
    ·have k_5 : ¬ (¬ (x_1.fName = x_2.fName)) := iff_f (not_iff dI) h_7
     have f := f.st 28 (cB h_7)
     refine Y5 default f 2 fun _ f => ?_
     obtain ⟨x_3, hx_3, hF_9⟩ := bS hF_8
     obtain ⟨ad_3, c_3, e_3, -, hr_3, hc_3⟩ := Sli.at_ (h0.mono hM_1) hx_3
     obtain ⟨A_5, cap_5, A_6, cap_6, rfl, h_8, h_9⟩ := TE0.opn hr_3
     refine Y2 (v := .pointer (some (ad_3.add (s_1.toNat * 8)))) f (fun _ pq => Y31 e_3 rfl (len := d0.length) (cap := cap0) (k := .i64) (i := s_1) (e := 78) (sz := 8) (getI_nn hx_3) (getI_lt hx_3)) fun _ f => Y5 default f 1 fun _ f => Y4 f hc_3 1 rfl fun _ f => Y5 default f 2 fun _ f => ?_
     obtain ⟨x_4, hx_4, hF_10⟩ := bS hF_9
     obtain ⟨ad_4, c_4, e_4, -, hr_4, hc_4⟩ := Sli.at_ (h1.mono hM_1) hx_4
     obtain ⟨A_7, cap_7, A_8, cap_8, rfl, h_10, h_11⟩ := TE0.opn hr_4
     refine Y2 (v := .pointer (some (ad_4.add (s_1.toNat * 8)))) f (fun _ pq => Y31 e_4 rfl (len := d1.length) (cap := cap1) (k := .i64) (i := s_1) (e := 78) (sz := 8) (getI_nn hx_4) (getI_lt hx_4)) fun _ f => Y5 default f 1 fun _ f => Y4 f hc_4 1 rfl fun _ f => Y5 default f 3 fun _ f => ?_
     rcases cE hF_10 with ⟨h_12, hF_11⟩ | ⟨h_12, hF_12⟩
     ·have k_6 : (x_3.fUnknown == x_4.fUnknown) = false := by simpa using h_12
      have f := f.st 41 (cB h_12)
      refine Y5 default f 27 fun _ f => Q_end rfl ?_
      intro w_3 p_3
      refine T_n (Y8 f (RR (Y f 1 fun _ f => eT (wp_ret (B_r (T_r (T_r ?_)))))))
      obtain rfl := sI hF_11
      exact .inl ⟨rfl, (), (sI hn_1).symm, M_1, hM_1, f.kp, p_3⟩
     ·have k_7 : (x_3.fUnknown == x_4.fUnknown) = true := by simpa using h_12
      have f := f.st 41 (cB h_12)
      refine Y5 default f 2 fun _ f => ?_
      obtain ⟨x_5, hx_5, hF_13⟩ := bS hF_12
      obtain ⟨ad_5, c_5, e_5, -, hr_5, hc_5⟩ := Sli.at_ (h0.mono hM_1) hx_5
      obtain ⟨A_9, cap_9, A_10, cap_10, rfl, h_13, h_14⟩ := TE0.opn hr_5
      refine Y2 (v := .pointer (some (ad_5.add (s_1.toNat * 8)))) f (fun _ pq => Y31 e_5 rfl (len := d0.length) (cap := cap0) (k := .i64) (i := s_1) (e := 78) (sz := 8) (getI_nn hx_5) (getI_lt hx_5)) fun _ f => Y5 default f 1 fun _ f => Y2 (v := .agg #[.int .i8 x_5.fV.fKind, .bool x_5.fV.fBool, .int .i64 x_5.fV.fNum, S x_5.fV.fText, .slice A_9 x_5.fV.fList.length cap_9, .slice A_10 x_5.fV.fKeys.length cap_10]) f (fun _ pq => Y33 (cs := [.int .i8 x_5.fV.fKind, .bool x_5.fV.fBool, .int .i64 x_5.fV.fNum, S x_5.fV.fText, .slice A_9 x_5.fV.fList.length cap_9, .slice A_10 x_5.fV.fKeys.length cap_10]) rfl (ad := (ad_5.add (s_1.toNat * 8)).add 2) (fz_part (base := ad_5.add (s_1.toNat * 8)) (fun j v h => pq.cell (hc_5 j v h)) 2 rfl)) fun _ f => Y5 default f 2 fun _ f => ?_
      obtain ⟨x_6, hx_6, hF_14⟩ := bS hF_13
      obtain ⟨ad_6, c_6, e_6, -, hr_6, hc_6⟩ := Sli.at_ (h1.mono hM_1) hx_6
      obtain ⟨A_11, cap_11, A_12, cap_12, rfl, h_15, h_16⟩ := TE0.opn hr_6
      refine Y2 (v := .pointer (some (ad_6.add (s_1.toNat * 8)))) f (fun _ pq => Y31 e_6 rfl (len := d1.length) (cap := cap1) (k := .i64) (i := s_1) (e := 78) (sz := 8) (getI_nn hx_6) (getI_lt hx_6)) fun _ f => Y5 default f 1 fun _ f => Y2 (v := .agg #[.int .i8 x_6.fV.fKind, .bool x_6.fV.fBool, .int .i64 x_6.fV.fNum, S x_6.fV.fText, .slice A_11 x_6.fV.fList.length cap_11, .slice A_12 x_6.fV.fKeys.length cap_12]) f (fun _ pq => Y33 (cs := [.int .i8 x_6.fV.fKind, .bool x_6.fV.fBool, .int .i64 x_6.fV.fNum, S x_6.fV.fText, .slice A_11 x_6.fV.fList.length cap_11, .slice A_12 x_6.fV.fKeys.length cap_12]) rfl (ad := (ad_6.add (s_1.toNat * 8)).add 2) (fz_part (base := ad_6.add (s_1.toNat * 8)) (fun j v h => pq.cell (hc_6 j v h)) 2 rfl)) fun _ f => ?_
      obtain ⟨x_7, hx_7, hF_15⟩ := bS hF_14
      refine Y3 f (ref03_Same_ok n _ _ (⟨x_5.fV.fKind, (x_5.fV.fBool), x_5.fV.fNum, x_5.fV.fText, x_5.fV.fList, x_5.fV.fKeys⟩ : TC0) (TC0.shut h_13 h_14) _ (⟨x_6.fV.fKind, (x_6.fV.fBool), x_6.fV.fNum, x_6.fV.fText, x_6.fV.fList, x_6.fV.fKeys⟩ : TC0) (TC0.shut h_15 h_16) x_7 hx_7) fun _ f => Y5 default f 2 fun _ f => ?_
      rcases cE hF_15 with ⟨h_17, hF_16⟩ | ⟨h_17, hF_23⟩
      ·have k_8 : (x_7) = false := by simpa using h_17
       have f := f.st 54 (cB h_17)
       refine Y5 default f 2 fun _ f => ?_
       obtain ⟨x_8, hx_8, hF_17⟩ := bS hF_16
       obtain ⟨ad_7, c_7, e_7, -, hr_7, hc_7⟩ := Sli.at_ (h0.mono hM_1) hx_8
       obtain ⟨A_13, cap_13, A_14, cap_14, rfl, h_18, h_19⟩ := TE0.opn hr_7
       refine Y2 (v := .pointer (some (ad_7.add (s_1.toNat * 8)))) f (fun _ pq => Y31 e_7 rfl (len := d0.length) (cap := cap0) (k := .i64) (i := s_1) (e := 78) (sz := 8) (getI_nn hx_8) (getI_lt hx_8)) fun _ f => Y5 default f 1 fun _ f => Y2 (v := .agg #[.int .i8 x_8.fV.fKind, .bool x_8.fV.fBool, .int .i64 x_8.fV.fNum, S x_8.fV.fText, .slice A_13 x_8.fV.fList.length cap_13, .slice A_14 x_8.fV.fKeys.length cap_14]) f (fun _ pq => Y33 (cs := [.int .i8 x_8.fV.fKind, .bool x_8.fV.fBool, .int .i64 x_8.fV.fNum, S x_8.fV.fText, .slice A_13 x_8.fV.fList.length cap_13, .slice A_14 x_8.fV.fKeys.length cap_14]) rfl (ad := (ad_7.add (s_1.toNat * 8)).add 2) (fz_part (base := ad_7.add (s_1.toNat * 8)) (fun j v h => pq.cell (hc_7 j v h)) 2 rfl)) fun _ f => Y5 default f 2 fun _ f => ?_
       obtain ⟨x_9, hx_9, hF_18⟩ := bS hF_17
       obtain ⟨ad_8, c_8, e_8, -, hr_8, hc_8⟩ := Sli.at_ (h1.mono hM_1) hx_9
       obtain ⟨A_15, cap_15, A_16, cap_16, rfl, h_20, h_21⟩ := TE0.opn hr_8
       refine Y2 (v := .pointer (some (ad_8.add (s_1.toNat * 8)))) f (fun _ pq => Y31 e_8 rfl (len := d1.length) (cap := cap1) (k := .i64) (i := s_1) (e := 78) (sz := 8) (getI_nn hx_9) (getI_lt hx_9)) fun _ f => Y5 default f 1 fun _ f => Y2 (v := .agg #[.int .i8 x_9.fV.fKind, .bool x_9.fV.fBool, .int .i64 x_9.fV.fNum, S x_9.fV.fText, .slice A_15 x_9.fV.fList.length cap_15, .slice A_16 x_9.fV.fKeys.length cap_16]) f (fun _ pq => Y33 (cs := [.int .i8 x_9.fV.fKind, .bool x_9.fV.fBool, .int .i64 x_9.fV.fNum, S x_9.fV.fText, .slice A_15 x_9.fV.fList.length cap_15, .slice A_16 x_9.fV.fKeys.length cap_16]) rfl (ad := (ad_8.add (s_1.toNat * 8)).add 2) (fz_part (base := ad_8.add (s_1.toNat * 8)) (fun j v h => pq.cell (hc_8 j v h)) 2 rfl)) fun _ f => ?_
       obtain ⟨x_10, hx_10, hF_19⟩ := bS hF_18
       refine Y3 f (ref03_Equal_ok n _ _ (⟨x_8.fV.fKind, (x_8.fV.fBool), x_8.fV.fNum, x_8.fV.fText, x_8.fV.fList, x_8.fV.fKeys⟩ : TC0) (TC0.shut h_18 h_19) _ (⟨x_9.fV.fKind, (x_9.fV.fBool), x_9.fV.fNum, x_9.fV.fText, x_9.fV.fList, x_9.fV.fKeys⟩ : TC0) (TC0.shut h_20 h_21) x_10 hx_10) fun _ f => Y5 default f 3 fun _ f => Q_end rfl ?_
       intro w_6 p_6
       refine T_n (RcF f hF_19 (fun h_22 hF_20 => ?_) fun h_22 hF_21 => ?_)
       ·have k_9 : (x_10) = false := by simpa using h_22
        refine RR (Y f 1 fun _ f => eT (wp_ret (B_r (T_r (T_r ?_)))))
        obtain rfl := sI hF_20
        exact .inl ⟨rfl, (), (sI hn_1).symm, M_1, hM_1, f.kp, p_6⟩
       ·have k_10 : (x_10) = true := by simpa using h_22
        refine wp_skip (B_n (T_n (R_reg (Y f 1 fun _ f => ?_))))
        obtain ⟨g_1, hF_22⟩ := nS hF_21
        refine Y f 1 fun _ f => ?_
        have f := f.st 16 (congrArg (Value.int .i64) (inR_wrap g_1))
        refine Y f 1 fun _ f => eT ?_
        obtain rfl := sI hF_22
        exact ⟨⟨m_2, s_1 + 1⟩, Nat.lt_succ_self _, M_1, hM_1, hn_1, f.kp, p_6⟩
      ·have k_11 : (x_7) = true := by simpa using h_17
       have f := f.st 54 (cB h_17)
       refine Y5 default f 14 fun _ f => Q_end rfl ?_
       intro w_7 p_7
       refine T_n (Y7 f (wp_skip (B_n (T_n (R_reg (Y f 1 fun _ f => ?_))))))
       obtain ⟨g_2, hF_24⟩ := nS hF_23
       refine Y f 1 fun _ f => ?_
       have f := f.st 16 (congrArg (Value.int .i64) (inR_wrap g_2))
       refine Y f 1 fun _ f => eT ?_
       obtain rfl := sI hF_24
       exact ⟨⟨m_2, s_1 + 1⟩, Nat.lt_succ_self _, M_1, hM_1, hn_1, f.kp, p_7⟩
   ·have k_12 := iff_f dI h_2
    refine wp_exit (T_x (T_x ?_))
    obtain rfl := sI hF_25
    exact .inr ⟨rfl, (), (sI hn_1).symm, M_1, hM_1, f.kp, p_1⟩
  ·rintro _ _ w_10 (⟨rfl, y_1, rfl, M_2, hM_2, f, p_8⟩ | ⟨rfl, y_2, rfl, M_3, hM_3, f, p_9⟩)
   ·refine B_r (T_r (E_ret1 f rfl (by kernel_rfl : Vc.look _ 4 = some (.bool false)) ?_))
    obtain rfl := sI hF_3
    exact ⟨_, rfl, M_2, hM_2, p_8, rfl⟩
   ·refine B_x (T_n (RR (Y f 1 fun _ f => eT (wp_ret (E_ret1 f rfl (by kernel_rfl : Vc.look _ 4 = some (.bool true)) ?_)))))
    obtain rfl := sI hF_3
    exact ⟨_, rfl, M_3, hM_3, p_9, rfl⟩
def ref09_get_s1 (n : Nat) (d0 : List TE0) (d1 : List UInt8) (s_1 : Int × List UInt8 × Bool × Int × Bool × Int × List UInt8 × List TC0 × List (List UInt8)) : Option (Lp (Int × List UInt8 × Bool × Int × Bool × Int × List UInt8 × List TC0 × List (List UInt8)) (Sum (List UInt8 × Bool × Int × Bool × Int × List UInt8 × List TC0 × List (List UInt8)) (List UInt8 × Bool × Int × Bool × Int × List UInt8 × List TC0 × List (List UInt8)))) :=
    bif (decide (s_1.1 < ((d0.length : Nat) : Int))) then
      ((getI d0 s_1.1).bind fun x_1 =>
      bif (decide (x_1.fName = d1)) then
        ((getI d0 s_1.1).bind fun x_2 =>
        some (.br (.inl (x_2.fName, (x_2.fUnknown), x_2.fV.fKind, (x_2.fV.fBool), x_2.fV.fNum, x_2.fV.fText, x_2.fV.fList, x_2.fV.fKeys))))
      else
        need (inR .i64 (s_1.1 + 1)) <|
        some (.nx (s_1.1 + 1, s_1.2.1, (s_1.2.2.1), s_1.2.2.2.1, (s_1.2.2.2.2.1), s_1.2.2.2.2.2.1, s_1.2.2.2.2.2.2.1, s_1.2.2.2.2.2.2.2.1, s_1.2.2.2.2.2.2.2.2)))
    else
      some (.br (.inr (s_1.2.1, (s_1.2.2.1), s_1.2.2.2.1, (s_1.2.2.2.2.1), s_1.2.2.2.2.2.1, s_1.2.2.2.2.2.2.1, s_1.2.2.2.2.2.2.2.1, s_1.2.2.2.2.2.2.2.2)))
def ref09_get (n : Nat) (d0 : List TE0) (d1 : List UInt8) : Option (TE0 × Bool) :=
  (loopF (ref09_get_s1 n d0 d1) n ((0 : Int), ([] : List UInt8), (false), (0 : Int), (false), (0 : Int), ([] : List UInt8), ([] : List TC0), ([] : List (List UInt8)))).bind fun b_2 =>
  (match b_2 with 
  | .inl y_1 => some (((⟨y_1.1, (y_1.2.1), (⟨y_1.2.2.1, (y_1.2.2.2.1), y_1.2.2.2.2.1, y_1.2.2.2.2.2.1, y_1.2.2.2.2.2.2.1, y_1.2.2.2.2.2.2.2⟩ : TC0)⟩ : TE0), (true))) 
  | .inr y_2 => some (((⟨([] : List UInt8), (false), z_TC0⟩ : TE0), (false))))
theorem ref09_get_ok (n : Nat) (M : Mem) (hG : GL M) (A0 : Option Addr) (cap0 : Nat) (d0 : List TE0) (h0 : Sli M 8 emb_TE0 A0 cap0 d0) (d1 : List UInt8) (r : TE0 × Bool) (hF : ref09_get n d0 d1 = some r) : Ok Tryz.prog M 66 [.slice A0 d0.length cap0, S d1] (fun M' v => ∃ (c0 : List Value), v = .tuple #[.agg c0.toArray, .bool r.2] ∧ Rep M' (emb_TE0 r.1) c0) := by
 unfold ref09_get at hF
 intro M1 hM0 w0 H w p0
 replace hG := GL.mono hM0 hG
 replace h0 := h0.mono hM0
 refine R_enter 25 Tryz.func66 rfl rfl (by simp) fun a0 f0 => RR (Y12 f0 p0 (.cells #[S [], .bool false, .int .i8 0, .bool false, .int .i64 0, S [], .slice none 0 0, .slice none 0 0] 78 (0, 0)) fun b_1 w_1 p_1 _ f => Y f 1 fun _ f => eT (R_seq (RR (Y f 1 fun _ f => eT (wp_block ?_)))))
 obtain ⟨b_2, hL_1, hF_1⟩ := bS hF
 refine wp_mono (Q := fun e a w => (e = .ret ∧ (∃ y_1 : List UInt8 × Bool × Int × Bool × Int × List UInt8 × List TC0 × List (List UInt8), b_2 = .inl y_1 ∧ ∃ M_2 : Mem, M1.le M_2 ∧ ∃ (A_7 : Option Addr), ∃ (cap_7 : Nat), ∃ (A_8 : Option Addr), ∃ (cap_8 : Nat), Sli M_2 6 emb_TC0 A_7 cap_7 y_1.2.2.2.2.2.2.1 ∧ Sli M_2 1 Dat.str A_8 cap_8 y_1.2.2.2.2.2.2.2 ∧ Frm 25 [(4, .pointer (some (⟨b_1, 0, none⟩))), (5, .bool true)] a ∧ Hp w0 M_2 ((Ent.obj b_1 (.cells #[S y_1.1, .bool y_1.2.1, .int .i8 y_1.2.2.1, .bool y_1.2.2.2.1, .int .i64 y_1.2.2.2.2.1, S y_1.2.2.2.2.2.1, .slice A_7 y_1.2.2.2.2.2.2.1.length cap_7, .slice A_8 y_1.2.2.2.2.2.2.2.length cap_8] 78 (0, 0))) :: H) w)) ∨ (e = .exit 0 ∧ (∃ y_2 : List UInt8 × Bool × Int × Bool × Int × List UInt8 × List TC0 × List (List UInt8), b_2 = .inr y_2 ∧ ∃ M_3 : Mem, M1.le M_3 ∧ ∃ (A_9 : Option Addr), ∃ (cap_9 : Nat), ∃ (A_10 : Option Addr), ∃ (cap_10 : Nat), Sli M_3 6 emb_TC0 A_9 cap_9 y_2.2.2.2.2.2.2.1 ∧ Sli M_3 1 Dat.str A_10 cap_10 y_2.2.2.2.2.2.2.2 ∧ Frm 25 [(4, .pointer (some (⟨b_1, 0, none⟩)))] a ∧ Hp w0 M_3 ((Ent.obj b_1 (.cells #[S y_2.1, .bool y_2.2.1, .int .i8 y_2.2.2.1, .bool y_2.2.2.2.1, .int .i64 y_2.2.2.2.2.1, S y_2.2.2.2.2.2.1, .slice A_9 y_2.2.2.2.2.2.2.1.length cap_9, .slice A_10 y_2.2.2.2.2.2.2.2.length cap_10] 78 (0, 0))) :: H) w))) (R_loop (n := 25) (w0 := w0) (M := M1) (fun (x : Nat × (Int × List UInt8 × Bool × Int × Bool × Int × List UInt8 × List TC0 × List (List UInt8)) × (Option Addr) × Nat × (Option Addr) × Nat) => match x with | (m_1, s_1, A_1, cap_1, A_2, cap_2) => [(0, .slice A0 d0.length cap0), (1, S d1), (4, .pointer (some (⟨b_1, 0, none⟩))), (6, .int .i64 s_1.1)]) (fun (x : Nat × (Int × List UInt8 × Bool × Int × Bool × Int × List UInt8 × List TC0 × List (List UInt8)) × (Option Addr) × Nat × (Option Addr) × Nat) => match x with | (m_1, s_1, A_1, cap_1, A_2, cap_2) => ((Ent.obj b_1 (.cells #[S s_1.2.1, .bool s_1.2.2.1, .int .i8 s_1.2.2.2.1, .bool s_1.2.2.2.2.1, .int .i64 s_1.2.2.2.2.2.1, S s_1.2.2.2.2.2.2.1, .slice A_1 s_1.2.2.2.2.2.2.2.1.length cap_1, .slice A_2 s_1.2.2.2.2.2.2.2.2.length cap_2] 78 (0, 0))) :: H)) (fun (x : Nat × (Int × List UInt8 × Bool × Int × Bool × Int × List UInt8 × List TC0 × List (List UInt8)) × (Option Addr) × Nat × (Option Addr) × Nat) (MM : Mem) => match x with | (m_1, s_1, A_1, cap_1, A_2, cap_2) => loopF (ref09_get_s1 n d0 d1) m_1 s_1 = some b_2 ∧ Sli MM 6 emb_TC0 A_1 cap_1 s_1.2.2.2.2.2.2.2.1 ∧ Sli MM 1 Dat.str A_2 cap_2 s_1.2.2.2.2.2.2.2.2) (fun (x : Nat × (Int × List UInt8 × Bool × Int × Bool × Int × List UInt8 × List TC0 × List (List UInt8)) × (Option Addr) × Nat × (Option Addr) × Nat) => match x with | (m_1, s_1, A_1, cap_1, A_2, cap_2) => m_1) (n, ((0 : Int), ([] : List UInt8), (false), (0 : Int), (false), (0 : Int), ([] : List UInt8), ([] : List TC0), ([] : List (List UInt8))), none, 0, none, 0) (f.kp) p_1 ⟨hL_1, Sli.nil, Sli.nil⟩ ?_) ?_
 ·rintro ⟨m_1, s_1, A_1, cap_1, A_2, cap_2⟩ M_1 _ w_2 hM_1 I_1 f p_2
  obtain ⟨I_1L, h_1, h_2⟩ := I_1
  obtain ⟨m_2, r_1, rfl, hs_1, hn_1⟩ := loop_step I_1L
  unfold ref09_get_s1 at hs_1
  refine R_seq (RR (Y f 4 fun _ f => eT (RcF f hs_1 (fun h_3 hF_2 => ?_) fun h_3 hF_8 => ?_)))
  ·have k_1 := dI.1 h_3
   refine wp_skip (T_n (R_seq (wp_block (RR (Y f 2 fun _ f => ?_)))))
   obtain ⟨x_1, hx_1, hF_3⟩ := bS hF_2
   obtain ⟨ad_1, c_1, e_1, -, hr_1, hc_1⟩ := Sli.at_ (h0.mono hM_1) hx_1
   obtain ⟨A_3, cap_3, A_4, cap_4, rfl, h_4, h_5⟩ := TE0.opn hr_1
   refine Z f (Y31 e_1 rfl (len := d0.length) (cap := cap0) (k := .i64) (i := s_1.1) (e := 78) (sz := 8) (getI_nn hx_1) (getI_lt hx_1)) fun _ f => Y f 1 fun _ f => Y15 f p_2 hc_1 0 rfl fun _ f => Y f 1 fun _ f => Z f (Y38 rfl (l := x_1.fName) (m := d1)) fun _ f => eT (RcF f hF_3 (fun h_6 hF_4 => ?_) fun h_6 hF_6 => ?_)
   ·have k_2 := dI.1 h_6
    refine RR (Y f 2 fun _ f => ?_)
    obtain ⟨x_2, hx_2, hF_5⟩ := bS hF_4
    obtain ⟨ad_2, c_2, e_2, -, hr_2, hc_2⟩ := Sli.at_ (h0.mono hM_1) hx_2
    obtain ⟨A_5, cap_5, A_6, cap_6, rfl, h_7, h_8⟩ := TE0.opn hr_2
    refine Z f (Y31 e_2 rfl (len := d0.length) (cap := cap0) (k := .i64) (i := s_1.1) (e := 78) (sz := 8) (getI_nn hx_2) (getI_lt hx_2)) fun _ f => Z (v := .agg #[S x_2.fName, .bool x_2.fUnknown, .int .i8 x_2.fV.fKind, .bool x_2.fV.fBool, .int .i64 x_2.fV.fNum, S x_2.fV.fText, .slice A_5 x_2.fV.fList.length cap_5, .slice A_6 x_2.fV.fKeys.length cap_6]) f (Y33 (cs := [S x_2.fName, .bool x_2.fUnknown, .int .i8 x_2.fV.fKind, .bool x_2.fV.fBool, .int .i64 x_2.fV.fNum, S x_2.fV.fText, .slice A_5 x_2.fV.fList.length cap_5, .slice A_6 x_2.fV.fKeys.length cap_6]) rfl (ad := ad_2.add (s_1.1.toNat * 8)) (fun j v h => p_2.cell (hc_2 j v h))) fun _ f => Y28 (vs := [S x_2.fName, .bool x_2.fUnknown, .int .i8 x_2.fV.fKind, .bool x_2.fV.fBool, .int .i64 x_2.fV.fNum, S x_2.fV.fText, .slice A_5 x_2.fV.fList.length cap_5, .slice A_6 x_2.fV.fKeys.length cap_6]) (j := 0) f p_2 rfl rfl (by simp [Value.oneCell', S]) (by simp) (by decide) (cs' := #[S x_2.fName, .bool x_2.fUnknown, .int .i8 x_2.fV.fKind, .bool x_2.fV.fBool, .int .i64 x_2.fV.fNum, S x_2.fV.fText, .slice A_5 x_2.fV.fList.length cap_5, .slice A_6 x_2.fV.fKeys.length cap_6]) (by kernel_rfl) fun w_3 p_3 _ f => Y f 1 fun _ f => eT (wp_ret (B_r (T_r (T_r ?_))))
    obtain rfl := sI hF_5
    exact .inl ⟨rfl, (x_2.fName, (x_2.fUnknown), x_2.fV.fKind, (x_2.fV.fBool), x_2.fV.fNum, x_2.fV.fText, x_2.fV.fList, x_2.fV.fKeys), (sI hn_1).symm, M_1, hM_1, A_5, cap_5, A_6, cap_6, h_7, h_8, f.kp, p_3⟩
   ·have k_3 := iff_f dI h_6
    refine wp_skip (B_n (T_n (R_reg (Y f 1 fun _ f => ?_))))
    obtain ⟨g_1, hF_7⟩ := nS hF_6
    refine Y f 1 fun _ f => ?_
    have f := f.st 12 (congrArg (Value.int .i64) (inR_wrap g_1))
    refine Y f 1 fun _ f => eT ?_
    obtain rfl := sI hF_7
    exact ⟨⟨m_2, (s_1.1 + 1, s_1.2.1, (s_1.2.2.1), s_1.2.2.2.1, (s_1.2.2.2.2.1), s_1.2.2.2.2.2.1, s_1.2.2.2.2.2.2.1, s_1.2.2.2.2.2.2.2.1, s_1.2.2.2.2.2.2.2.2), A_1, cap_1, A_2, cap_2⟩, Nat.lt_succ_self _, M_1, hM_1, ⟨hn_1, h_1, h_2⟩, f.kp, p_2⟩
  ·have k_4 := iff_f dI h_3
   refine wp_exit (T_x (T_x ?_))
   obtain rfl := sI hF_8
   exact .inr ⟨rfl, (s_1.2.1, (s_1.2.2.1), s_1.2.2.2.1, (s_1.2.2.2.2.1), s_1.2.2.2.2.2.1, s_1.2.2.2.2.2.2.1, s_1.2.2.2.2.2.2.2.1, s_1.2.2.2.2.2.2.2.2), (sI hn_1).symm, M_1, hM_1, A_1, cap_1, A_2, cap_2, h_1, h_2, f.kp, p_2⟩
 ·rintro _ _ w_6 (⟨rfl, y_1, rfl, M_2, hM_2, A_7, cap_7, A_8, cap_8, h_9, h_10, f, p_4⟩ | ⟨rfl, y_2, rfl, M_3, hM_3, A_9, cap_9, A_10, cap_10, h_11, h_12, f, p_5⟩)
  ·refine B_r (T_r (E_rv2 f rfl (Y10 (cs := [S y_1.1, .bool y_1.2.1, .int .i8 y_1.2.2.1, .bool y_1.2.2.2.1, .int .i64 y_1.2.2.2.2.1, S y_1.2.2.2.2.2.1, .slice A_7 y_1.2.2.2.2.2.2.1.length cap_7, .slice A_8 y_1.2.2.2.2.2.2.2.length cap_8]) (ad := ⟨b_1, 0, none⟩) f (own_cells (p_4.ownCell 0 rfl) 0 rfl)) (Y11 (v := .bool true) f) ?_))
   obtain rfl := sI hF_1
   exact ⟨_, rfl, M_2, hM_2, (p_4.dropN 1), ⟨[S y_1.1, .bool y_1.2.1, .int .i8 y_1.2.2.1, .bool y_1.2.2.2.1, .int .i64 y_1.2.2.2.2.1, S y_1.2.2.2.2.2.1, .slice A_7 y_1.2.2.2.2.2.2.1.length cap_7, .slice A_8 y_1.2.2.2.2.2.2.2.length cap_8], rfl, (TE0.shut h_9 h_10)⟩⟩
  ·refine B_x (T_n (RR (Y f 1 fun _ f => Y28 (vs := [S [], .bool false, .int .i8 0, .bool false, .int .i64 0, S [], .slice none 0 0, .slice none 0 0]) (j := 0) f p_5 rfl rfl (by simp [Value.oneCell', S]) (by simp) (by decide) (cs' := #[S [], .bool false, .int .i8 0, .bool false, .int .i64 0, S [], .slice none 0 0, .slice none 0 0]) (by kernel_rfl) fun w_7 p_6 _ f => Y f 1 fun _ f => eT (wp_ret (E_rv2 f rfl (Y10 (cs := [S [], .bool false, .int .i8 0, .bool false, .int .i64 0, S [], .slice none 0 0, .slice none 0 0]) (ad := ⟨b_1, 0, none⟩) f (own_cells (p_6.ownCell 0 rfl) 0 rfl)) (Y11 (v := .bool false) f) ?_)))))
   obtain rfl := sI hF_1
   exact ⟨_, rfl, M_3, hM_3, (p_6.dropN 1), ⟨[S [], .bool false, .int .i8 0, .bool false, .int .i64 0, S [], .slice none 0 0, .slice none 0 0], rfl, (TE0.shut Sli.nil Sli.nil)⟩⟩
def ref09_Differ_s1 (n : Nat) (d1 : List TE0) (s_1 : Int) : Option (Lp Int (Sum Unit Unit)) :=
    bif (decide (s_1 < ((d1.length : Nat) : Int))) then
      ((getI d1 s_1).bind fun x_3 =>
      bif x_3.fUnknown then
        (some (.br (.inl ())))
      else
        need (inR .i64 (s_1 + 1)) <|
        some (.nx (s_1 + 1)))
    else
      some (.br (.inr ()))
def ref09_Differ_s2 (n : Nat) (d1 : List TE0) (d2 : List TE0) (x_4 : List TF0 × Int) (s_2 : Int × Int) : Option (Lp (Int × Int) (Sum Unit Int)) :=
    bif (decide (s_2.2 < ((x_4.1.length : Nat) : Int))) then
      ((getI x_4.1 s_2.2).bind fun x_5 =>
      (ref09_get n d1 x_5.fName).bind fun x_6 =>
      (getI x_4.1 s_2.2).bind fun x_7 =>
      (ref09_get n d2 x_7.fName).bind fun x_8 =>
      ((bif (x_6.2 == x_8.2) then
          (bif !x_6.2 then
            (some ((true)))
          else
            bif !x_8.1.fUnknown then
              ((ref03_Equal n (⟨x_6.1.fV.fKind, (x_6.1.fV.fBool), x_6.1.fV.fNum, x_6.1.fV.fText, x_6.1.fV.fList, x_6.1.fV.fKeys⟩ : TC0) (⟨x_8.1.fV.fKind, (x_8.1.fV.fBool), x_8.1.fV.fNum, x_8.1.fV.fText, x_8.1.fV.fList, x_8.1.fV.fKeys⟩ : TC0)).bind fun x_9 =>
              some ((x_9)))
            else
              some ((false)))
        else
          some ((false)) : Option Bool)).bind fun y_3 =>
      bif y_3 then
        (need (inR .i64 (s_2.2 + 1)) <|
        some (.nx (s_2.1, s_2.2 + 1)))
      else
        (getI x_4.1 s_2.2).bind fun x_10 =>
        bif x_10.fReplace then
          (some (.br (.inl ())))
        else
          need (inR .i64 (s_2.2 + 1)) <|
          some (.nx ((2 : Int), s_2.2 + 1)))
    else
      some (.br (.inr s_2.1))
def ref09_Differ (n : Nat) (d0 : List UInt8) (d1 : List TE0) (d2 : List TE0) : Option (Int × Int) :=
  (ref09_Check n d0 d1).bind fun x_1 =>
  bif (!(decide (x_1 = 0))) then
    (some (((0 : Int), x_1)))
  else
    (ref09_Check n d0 d2).bind fun x_2 =>
    bif (!(decide (x_2 = 0))) then
      (some (((0 : Int), x_2)))
    else
      (loopF (ref09_Differ_s1 n d1) n (0 : Int)).bind fun b_1 =>
      (match b_1 with 
      | .inl y_1 => some (((0 : Int), (91 : Int))) 
      | .inr y_2 => (ref09_Specs n d0).bind fun x_4 =>
        (loopF (ref09_Differ_s2 n d1 d2 x_4) n ((0 : Int), (0 : Int))).bind fun b_2 =>
        (match b_2 with 
        | .inl y_4 => some (((3 : Int), (0 : Int))) 
        | .inr y_5 => some ((y_5, (0 : Int)))))
theorem ref09_Differ_ok (n : Nat) (M : Mem) (hG : GL M) (d0 : List UInt8) (A1 : Option Addr) (cap1 : Nat) (d1 : List TE0) (h1 : Sli M 8 emb_TE0 A1 cap1 d1) (A2 : Option Addr) (cap2 : Nat) (d2 : List TE0) (h2 : Sli M 8 emb_TE0 A2 cap2 d2) (r : Int × Int) (hF : ref09_Differ n d0 d1 d2 = some r) : Ok Tryz.prog M 36 [S d0, .slice A1 d1.length cap1, .slice A2 d2.length cap2] (fun _ v => v = .tuple #[.int .i8 r.1, .int .i64 r.2]) := by
 unfold ref09_Differ at hF
 intro M1 hM0 w0 H w p0
 replace hG := GL.mono hM0 hG
 replace h1 := h1.mono hM0
 replace h2 := h2.mono hM0
 refine R_enter 97 Tryz.func36 rfl rfl (by simp) fun a0 f0 => RR (Y f0 2 fun _ f => eT (RR (Y f 2 fun _ f => ?_)))
 obtain ⟨x_1, hx_1, hF_1⟩ := bS hF
 refine Y18 f p0 (ref09_Check_ok n _ hG d0 A1 cap1 d1 h1 x_1 hx_1) fun w_1 p_1 _ f => Y f 1 fun _ f => eT (R_seq (RR (Y f 2 fun _ f => eT (RcF f hF_1 (fun h_1 hF_2 => ?_) fun h_1 hF_3 => ?_))))
 ·have k_1 : ¬ (x_1 = 0) := (not_iff dI).1 h_1
  refine RR (Y f 3 fun _ f => eT (wp_ret (T_r (E_ret2 f rfl (by kernel_rfl : Vc.look _ 6 = some (.int .i8 0)) (by kernel_rfl : Vc.look _ 7 = some (.int .i64 x_1)) ?_))))
  obtain rfl := sI hF_2
  exact ⟨_, rfl, M1, (mR _), p_1, rfl⟩
 ·have k_2 : ¬ (¬ (x_1 = 0)) := iff_f (not_iff dI) h_1
  refine wp_skip (T_n (RR (Y f 2 fun _ f => ?_)))
  obtain ⟨x_2, hx_2, hF_4⟩ := bS hF_3
  refine Y18 f p_1 (ref09_Check_ok n _ hG d0 A2 cap2 d2 h2 x_2 hx_2) fun w_2 p_2 _ f => Y f 1 fun _ f => eT (R_seq (RR (Y f 2 fun _ f => eT (RcF f hF_4 (fun h_2 hF_5 => ?_) fun h_2 hF_6 => ?_))))
  ·have k_3 : ¬ (x_2 = 0) := (not_iff dI).1 h_2
   refine RR (Y f 3 fun _ f => eT (wp_ret (T_r (E_ret2 f rfl (by kernel_rfl : Vc.look _ 6 = some (.int .i8 0)) (by kernel_rfl : Vc.look _ 7 = some (.int .i64 x_2)) ?_))))
   obtain rfl := sI hF_5
   exact ⟨_, rfl, M1, (mR _), p_2, rfl⟩
  ·have k_4 : ¬ (¬ (x_2 = 0)) := iff_f (not_iff dI) h_2
   refine wp_skip (T_n (R_seq (RR (Y f 1 fun _ f => eT (wp_block ?_)))))
   obtain ⟨b_1, hL_1, hF_7⟩ := bS hF_6
   refine wp_mono (Q := fun e a w => (e = .ret ∧ (∃ y_1 : Unit, b_1 = .inl y_1 ∧ ∃ M_2 : Mem, M1.le M_2 ∧ Frm 97 [(6, .int .i8 0), (7, .int .i64 91)] a ∧ Hp w0 M_2 (H) w)) ∨ (e = .exit 0 ∧ (∃ y_2 : Unit, b_1 = .inr y_2 ∧ ∃ M_3 : Mem, M1.le M_3 ∧ Frm 97 [(0, S d0), (1, .slice A1 d1.length cap1), (2, .slice A2 d2.length cap2)] a ∧ Hp w0 M_3 (H) w))) (R_loop (n := 97) (w0 := w0) (M := M1) (fun (x : Nat × Int) => match x with | (m_1, s_1) => [(0, S d0), (1, .slice A1 d1.length cap1), (2, .slice A2 d2.length cap2), (9, .int .i64 s_1)]) (fun (x : Nat × Int) => match x with | (m_1, s_1) => (H)) (fun (x : Nat × Int) (MM : Mem) => match x with | (m_1, s_1) => loopF (ref09_Differ_s1 n d1) m_1 s_1 = some b_1) (fun (x : Nat × Int) => match x with | (m_1, s_1) => m_1) (n, (0 : Int)) (f.kp) p_2 hL_1 ?_) ?_
   ·rintro ⟨m_1, s_1⟩ M_1 _ w_3 hM_1 I_1 f p_3
    have I_1L := I_1
    obtain ⟨m_2, r_1, rfl, hs_1, hn_1⟩ := loop_step I_1L
    unfold ref09_Differ_s1 at hs_1
    refine R_seq (RR (Y f 4 fun _ f => eT (RcF f hs_1 (fun h_3 hF_8 => ?_) fun h_3 hF_13 => ?_)))
    ·have k_5 := dI.1 h_3
     refine wp_skip (T_n (R_seq (wp_block (RR (Y f 2 fun _ f => ?_)))))
     obtain ⟨x_3, hx_3, hF_9⟩ := bS hF_8
     obtain ⟨ad_1, c_1, e_1, -, hr_1, hc_1⟩ := Sli.at_ (h1.mono hM_1) hx_3
     obtain ⟨A_1, cap_1, A_2, cap_2, rfl, h_4, h_5⟩ := TE0.opn hr_1
     refine Z f (Y31 e_1 rfl (len := d1.length) (cap := cap1) (k := .i64) (i := s_1) (e := 78) (sz := 8) (getI_nn hx_3) (getI_lt hx_3)) fun _ f => Y f 1 fun _ f => Y15 f p_3 hc_1 1 rfl fun _ f => eT (RcF f hF_9 (fun h_6 hF_10 => ?_) fun h_6 hF_11 => ?_)
     ·refine RR (Y f 2 fun _ f => eT (wp_ret (B_r (T_r (T_r ?_)))))
      obtain rfl := sI hF_10
      exact .inl ⟨rfl, (), (sI hn_1).symm, M_1, hM_1, f.kp, p_3⟩
     ·refine wp_skip (B_n (T_n (R_reg (Y f 1 fun _ f => ?_))))
      obtain ⟨g_1, hF_12⟩ := nS hF_11
      refine Y f 1 fun _ f => ?_
      have f := f.st 35 (congrArg (Value.int .i64) (inR_wrap g_1))
      refine Y f 1 fun _ f => eT ?_
      obtain rfl := sI hF_12
      exact ⟨⟨m_2, s_1 + 1⟩, Nat.lt_succ_self _, M_1, hM_1, hn_1, f.kp, p_3⟩
    ·have k_8 := iff_f dI h_3
     refine wp_exit (T_x (T_x ?_))
     obtain rfl := sI hF_13
     exact .inr ⟨rfl, (), (sI hn_1).symm, M_1, hM_1, f.kp, p_3⟩
   ·rintro _ _ w_6 (⟨rfl, y_1, rfl, M_2, hM_2, f, p_4⟩ | ⟨rfl, y_2, rfl, M_3, hM_3, f, p_5⟩)
    ·refine B_r (T_r (E_ret2 f rfl (by kernel_rfl : Vc.look _ 6 = some (.int .i8 0)) (by kernel_rfl : Vc.look _ 7 = some (.int .i64 91)) ?_))
     obtain rfl := sI hF_7
     exact ⟨_, rfl, M_2, hM_2, p_4, rfl⟩
    ·refine B_x (T_n (RR (Y f 1 fun _ f => ?_)))
     obtain ⟨x_4, hx_4, hF_14⟩ := bS hF_7
     refine Y16 f p_5 (ref09_Specs_ok n _ (GL.mono hM_3 hG) d0 x_4 hx_4) fun _ M_4 w_7 hM_4 p_6 q_1 _ f => ?_
     obtain ⟨A_3, cap_3, rfl, h_7⟩ := q_1
     refine Y f 5 fun _ f => eT (RR (Y f 1 fun _ f => eT (R_seq (RR (Y f 1 fun _ f => eT (wp_block ?_))))))
     obtain ⟨b_2, hL_2, hF_15⟩ := bS hF_14
     refine wp_mono (Q := fun e a w => (e = .ret ∧ (∃ y_4 : Unit, b_2 = .inl y_4 ∧ ∃ M_9 : Mem, M_4.le M_9 ∧ Frm 97 [(6, .int .i8 3), (7, .int .i64 0)] a ∧ Hp w0 M_9 (H) w)) ∨ (e = .exit 2 ∧ (∃ y_5 : Int, b_2 = .inr y_5 ∧ ∃ M_10 : Mem, M_4.le M_10 ∧ Frm 97 [(12, .int .i8 y_5)] a ∧ Hp w0 M_10 (H) w))) (R_loop (n := 97) (w0 := w0) (M := M_4) (fun (x : Nat × (Int × Int)) => match x with | (m_3, s_2) => [(1, .slice A1 d1.length cap1), (2, .slice A2 d2.length cap2), (10, .slice A_3 x_4.1.length cap_3), (12, .int .i8 s_2.1), (13, .int .i64 s_2.2)]) (fun (x : Nat × (Int × Int)) => match x with | (m_3, s_2) => (H)) (fun (x : Nat × (Int × Int)) (MM : Mem) => match x with | (m_3, s_2) => loopF (ref09_Differ_s2 n d1 d2 x_4) m_3 s_2 = some b_2) (fun (x : Nat × (Int × Int)) => match x with | (m_3, s_2) => m_3) (n, ((0 : Int), (0 : Int))) (f.kp) p_6 hL_2 ?_) ?_
     ·rintro ⟨m_3, s_2⟩ M_5 _ w_8 hM_5 I_2 f p_7
      have I_2L := I_2
      obtain ⟨m_4, r_2, rfl, hs_2, hn_2⟩ := loop_step I_2L
      unfold ref09_Differ_s2 at hs_2
      refine R_seq (RR (Y f 4 fun _ f => eT (RcF f hs_2 (fun h_8 hF_16 => ?_) fun h_8 hF_36 => ?_)))
      ·have k_9 := dI.1 h_8
       refine wp_skip (T_n (R_seq (wp_block (RR (Y f 3 fun _ f => ?_)))))
       obtain ⟨x_5, hx_5, hF_17⟩ := bS hF_16
       obtain ⟨ad_2, c_2, e_2, -, hr_2, hc_2⟩ := Sli.at_ (h_7.mono hM_5) hx_5
       obtain rfl := TF0.opn hr_2
       refine Z f (Y31 e_2 rfl (len := x_4.1.length) (cap := cap_3) (k := .i64) (i := s_2.2) (e := 64) (sz := 3) (getI_nn hx_5) (getI_lt hx_5)) fun _ f => Y f 1 fun _ f => Y15 f p_7 hc_2 0 rfl fun _ f => ?_
       obtain ⟨x_6, hx_6, hF_18⟩ := bS hF_17
       refine Y16 f p_7 (ref09_get_ok n _ (GL.mono ((hM_3.trans hM_4).trans hM_5) hG) A1 cap1 d1 (h1.mono ((hM_3.trans hM_4).trans hM_5)) x_5.fName x_6 hx_6) fun _ M_6 w_9 hM_6 p_8 q_2 _ f => ?_
       obtain ⟨c_3, rfl, hr_3⟩ := q_2
       obtain ⟨A_4, cap_4, A_5, cap_5, rfl, h_9, h_10⟩ := TE0.opn hr_3
       refine Y f 3 fun _ f => Y12 f p_8 (.cells #[S [], .bool false, .int .i8 0, .bool false, .int .i64 0, S [], .slice none 0 0, .slice none 0 0] 78 (0, 0)) fun b_3 w_10 p_9 _ f => Y28 (vs := [S x_6.1.fName, .bool x_6.1.fUnknown, .int .i8 x_6.1.fV.fKind, .bool x_6.1.fV.fBool, .int .i64 x_6.1.fV.fNum, S x_6.1.fV.fText, .slice A_4 x_6.1.fV.fList.length cap_4, .slice A_5 x_6.1.fV.fKeys.length cap_5]) (j := 0) f p_9 rfl rfl (by simp [Value.oneCell', S]) (by simp) (by decide) (cs' := #[S x_6.1.fName, .bool x_6.1.fUnknown, .int .i8 x_6.1.fV.fKind, .bool x_6.1.fV.fBool, .int .i64 x_6.1.fV.fNum, S x_6.1.fV.fText, .slice A_4 x_6.1.fV.fList.length cap_4, .slice A_5 x_6.1.fV.fKeys.length cap_5]) (by kernel_rfl) fun w_11 p_10 _ f => Y f 1 fun _ f => eT (RR (Y f 3 fun _ f => ?_))
       obtain ⟨x_7, hx_7, hF_19⟩ := bS hF_18
       obtain ⟨ad_3, c_4, e_3, -, hr_4, hc_3⟩ := Sli.at_ (h_7.mono (hM_5.trans hM_6)) hx_7
       obtain rfl := TF0.opn hr_4
       refine Z f (Y31 e_3 rfl (len := x_4.1.length) (cap := cap_3) (k := .i64) (i := s_2.2) (e := 64) (sz := 3) (getI_nn hx_7) (getI_lt hx_7)) fun _ f => Y f 1 fun _ f => Y15 f p_10 hc_3 0 rfl fun _ f => ?_
       obtain ⟨x_8, hx_8, hF_20⟩ := bS hF_19
       refine Y16 f p_10 (ref09_get_ok n _ (GL.mono (((hM_3.trans hM_4).trans hM_5).trans hM_6) hG) A2 cap2 d2 (h2.mono (((hM_3.trans hM_4).trans hM_5).trans hM_6)) x_7.fName x_8 hx_8) fun _ M_7 w_12 hM_7 p_11 q_3 _ f => ?_
       obtain ⟨c_5, rfl, hr_5⟩ := q_3
       obtain ⟨A_6, cap_6, A_7, cap_7, rfl, h_11, h_12⟩ := TE0.opn hr_5
       refine Y f 3 fun _ f => Y12 f p_11 (.cells #[S [], .bool false, .int .i8 0, .bool false, .int .i64 0, S [], .slice none 0 0, .slice none 0 0] 78 (0, 0)) fun b_4 w_13 p_12 _ f => Y28 (vs := [S x_8.1.fName, .bool x_8.1.fUnknown, .int .i8 x_8.1.fV.fKind, .bool x_8.1.fV.fBool, .int .i64 x_8.1.fV.fNum, S x_8.1.fV.fText, .slice A_6 x_8.1.fV.fList.length cap_6, .slice A_7 x_8.1.fV.fKeys.length cap_7]) (j := 0) f p_12 rfl rfl (by simp [Value.oneCell', S]) (by simp) (by decide) (cs' := #[S x_8.1.fName, .bool x_8.1.fUnknown, .int .i8 x_8.1.fV.fKind, .bool x_8.1.fV.fBool, .int .i64 x_8.1.fV.fNum, S x_8.1.fV.fText, .slice A_6 x_8.1.fV.fList.length cap_6, .slice A_7 x_8.1.fV.fKeys.length cap_7]) (by kernel_rfl) fun w_14 p_13 _ f => Y f 1 fun _ f => eT (R_seq (R_seq ?_))
       obtain ⟨j_1, hj_1, hF_21⟩ := bS hF_20
       refine R_mid (fun a_65 w_16 => ∃ y_3 : Bool, j_1 = y_3 ∧ ∃ M_8 : Mem, M_7.le M_8 ∧ Frm 97 [(1, .slice A1 d1.length cap1), (2, .slice A2 d2.length cap2), (10, .slice A_3 x_4.1.length cap_3), (12, .int .i8 s_2.1), (13, .int .i64 s_2.2), (90, .bool y_3)] a_65 ∧ Hp w0 M_8 ((Ent.obj b_4 (.cells #[S x_8.1.fName, .bool x_8.1.fUnknown, .int .i8 x_8.1.fV.fKind, .bool x_8.1.fV.fBool, .int .i64 x_8.1.fV.fNum, S x_8.1.fV.fText, .slice A_6 x_8.1.fV.fList.length cap_6, .slice A_7 x_8.1.fV.fKeys.length cap_7] 78 (0, 0))) :: (Ent.obj b_3 (.cells #[S x_6.1.fName, .bool x_6.1.fUnknown, .int .i8 x_6.1.fV.fKind, .bool x_6.1.fV.fBool, .int .i64 x_6.1.fV.fNum, S x_6.1.fV.fText, .slice A_4 x_6.1.fV.fList.length cap_4, .slice A_5 x_6.1.fV.fKeys.length cap_5] 78 (0, 0))) :: H) w_16) ?_ ?_
       ·refine R_reg (Y f 4 fun _ f => ?_)
        rcases cE hj_1 with ⟨h_13, hF_22⟩ | ⟨h_13, hF_28⟩
        ·have f := f.st 75 (cB h_13)
         refine Y f 3 fun _ f => ?_
         rcases cE hF_22 with ⟨h_14, hF_23⟩ | ⟨h_14, hF_24⟩
         ·have k_11 : (x_6.2) = false := by simpa using h_14
          have f := f.st 78 (cB h_14)
          refine Y f 12 fun _ f => eT ?_
          exact ⟨(true), (sI hF_23).symm, M_7, (mR _), f.kp, p_13⟩
         ·have k_12 : (x_6.2) = true := by simpa using h_14
          have f := f.st 78 (cB h_14)
          refine Y f 1 fun _ f => Z f (Y32 (v := .bool x_8.1.fUnknown) rfl (ad := ⟨b_4, 1, none⟩) (p_13.ownCell 0 rfl 1)) fun _ f => Y f 2 fun _ f => ?_
          rcases cE hF_24 with ⟨h_15, hF_25⟩ | ⟨h_15, hF_27⟩
          ·have k_13 : (x_8.1.fUnknown) = false := by simpa using h_15
           have f := f.st 82 (cB h_15)
           refine Y f 1 fun _ f => Z (v := .agg #[.int .i8 x_6.1.fV.fKind, .bool x_6.1.fV.fBool, .int .i64 x_6.1.fV.fNum, S x_6.1.fV.fText, .slice A_4 x_6.1.fV.fList.length cap_4, .slice A_5 x_6.1.fV.fKeys.length cap_5]) f (Y33 (cs := [.int .i8 x_6.1.fV.fKind, .bool x_6.1.fV.fBool, .int .i64 x_6.1.fV.fNum, S x_6.1.fV.fText, .slice A_4 x_6.1.fV.fList.length cap_4, .slice A_5 x_6.1.fV.fKeys.length cap_5]) rfl (ad := ⟨b_3, 2, none⟩) (own_cells (p_13.ownCell 1 rfl) 2 rfl)) fun _ f => Y f 1 fun _ f => Z (v := .agg #[.int .i8 x_8.1.fV.fKind, .bool x_8.1.fV.fBool, .int .i64 x_8.1.fV.fNum, S x_8.1.fV.fText, .slice A_6 x_8.1.fV.fList.length cap_6, .slice A_7 x_8.1.fV.fKeys.length cap_7]) f (Y33 (cs := [.int .i8 x_8.1.fV.fKind, .bool x_8.1.fV.fBool, .int .i64 x_8.1.fV.fNum, S x_8.1.fV.fText, .slice A_6 x_8.1.fV.fList.length cap_6, .slice A_7 x_8.1.fV.fKeys.length cap_7]) rfl (ad := ⟨b_4, 2, none⟩) (own_cells (p_13.ownCell 0 rfl) 2 rfl)) fun _ f => ?_
           obtain ⟨x_9, hx_9, hF_26⟩ := bS hF_25
           refine Y18 f p_13 (ref03_Equal_ok n _ _ (⟨x_6.1.fV.fKind, (x_6.1.fV.fBool), x_6.1.fV.fNum, x_6.1.fV.fText, x_6.1.fV.fList, x_6.1.fV.fKeys⟩ : TC0) (TC0.shut (h_9.mono hM_7) (h_10.mono hM_7)) _ (⟨x_8.1.fV.fKind, (x_8.1.fV.fBool), x_8.1.fV.fNum, x_8.1.fV.fText, x_8.1.fV.fList, x_8.1.fV.fKeys⟩ : TC0) (TC0.shut h_11 h_12) x_9 hx_9) fun w_15 p_14 _ f => Y f 3 fun _ f => eT ?_
           exact ⟨(x_9), (sI hF_26).symm, M_7, (mR _), f.kp, p_14⟩
          ·have k_14 : (x_8.1.fUnknown) = true := by simpa using h_15
           have f := f.st 82 (cB h_15)
           refine Y f 8 fun _ f => eT ?_
           exact ⟨(false), (sI hF_27).symm, M_7, (mR _), f.kp, p_13⟩
        ·have f := f.st 75 (cB h_13)
         refine Y f 15 fun _ f => eT ?_
         exact ⟨(false), (sI hF_28).symm, M_7, (mR _), f.kp, p_13⟩
       ·rintro a_65 w_16 ⟨y_3, hq_1, M_8, hM_8, f, p_15⟩
        subst j_1
        refine T_n (RcF f hF_21 (fun h_16 hF_29 => ?_) fun h_16 hF_31 => ?_)
        ·refine wp_exit (T_x (B_x (T_n (R_reg (Y f 1 fun _ f => ?_)))))
         obtain ⟨g_2, hF_30⟩ := nS hF_29
         refine Y f 1 fun _ f => ?_
         have f := f.st 51 (congrArg (Value.int .i64) (inR_wrap g_2))
         refine Y f 1 fun _ f => eT ?_
         obtain rfl := sI hF_30
         exact ⟨⟨m_4, (s_2.1, s_2.2 + 1)⟩, Nat.lt_succ_self _, M_8, (((hM_5.trans hM_6).trans hM_7).trans hM_8), hn_2, f.kp, (p_15.dropN 2)⟩
        ·refine wp_skip (T_n (R_seq (RR (Y f 2 fun _ f => ?_))))
         obtain ⟨x_10, hx_10, hF_32⟩ := bS hF_31
         obtain ⟨ad_4, c_6, e_4, -, hr_6, hc_4⟩ := Sli.at_ (h_7.mono (((hM_5.trans hM_6).trans hM_7).trans hM_8)) hx_10
         obtain rfl := TF0.opn hr_6
         refine Z f (Y31 e_4 rfl (len := x_4.1.length) (cap := cap_3) (k := .i64) (i := s_2.2) (e := 64) (sz := 3) (getI_nn hx_10) (getI_lt hx_10)) fun _ f => Y f 1 fun _ f => Y15 f p_15 hc_4 2 rfl fun _ f => eT (RcF f hF_32 (fun h_17 hF_33 => ?_) fun h_17 hF_34 => ?_)
         ·refine RR (Y f 2 fun _ f => eT (wp_ret (T_r (B_r (T_r (T_r ?_))))))
          obtain rfl := sI hF_33
          exact .inl ⟨rfl, (), (sI hn_2).symm, M_8, (((hM_5.trans hM_6).trans hM_7).trans hM_8), f.kp, (p_15.dropN 2)⟩
         ·refine wp_skip (T_n (R_reg (Y f 1 fun _ f => W_end rfl (B_n (T_n (R_reg (Y f 1 fun _ f => ?_)))))))
          obtain ⟨g_3, hF_35⟩ := nS hF_34
          refine Y f 1 fun _ f => ?_
          have f := f.st 51 (congrArg (Value.int .i64) (inR_wrap g_3))
          refine Y f 1 fun _ f => eT ?_
          obtain rfl := sI hF_35
          exact ⟨⟨m_4, ((2 : Int), s_2.2 + 1)⟩, Nat.lt_succ_self _, M_8, (((hM_5.trans hM_6).trans hM_7).trans hM_8), hn_2, f.kp, (p_15.dropN 2)⟩
      ·have k_20 := iff_f dI h_8
       refine wp_exit (T_x (T_x ?_))
       obtain rfl := sI hF_36
       exact .inr ⟨rfl, s_2.1, (sI hn_2).symm, M_5, hM_5, f.kp, p_7⟩
     ·rintro _ _ w_19 (⟨rfl, y_4, rfl, M_9, hM_9, f, p_16⟩ | ⟨rfl, y_5, rfl, M_10, hM_10, f, p_17⟩)
      ·refine B_r (T_r (E_ret2 f rfl (by kernel_rfl : Vc.look _ 6 = some (.int .i8 3)) (by kernel_rfl : Vc.look _ 7 = some (.int .i64 0)) ?_))
       obtain rfl := sI hF_15
       exact ⟨_, rfl, M_9, ((hM_3.trans hM_4).trans hM_9), p_16, rfl⟩
      ·refine B_x (T_n (RR (Y f 3 fun _ f => eT (wp_ret (E_ret2 f rfl (by kernel_rfl : Vc.look _ 6 = some (.int .i8 y_5)) (by kernel_rfl : Vc.look _ 7 = some (.int .i64 0)) ?_)))))
       obtain rfl := sI hF_15
       exact ⟨_, rfl, M_10, ((hM_3.trans hM_4).trans hM_10), p_17, rfl⟩
theorem range_getD {α : Type} (d : α) (l : List α) : (List.range l.length).map (fun k => l.getD k d) = l := by
 apply List.ext_getElem (by simp)
 intro i h1 h2
 simp [List.getD, h2]
theorem range_find {α β : Type} (d : α) (h : α → Option β) (l : List α) : (List.range l.length).findSome? (fun k => h (l.getD k d)) = l.findSome? h := by
 conv => rhs; rw [← range_getD d l]
 rw [List.findSome?_map]
 rfl
theorem findSome_ite {α β : Type} (q : α → Bool) (g : α → β) : ∀ l : List α, l.findSome? (fun x => if q x = true then some (g x) else none) = (l.find? q).map g
 | [] => rfl
 | x :: l => by
  rw [List.findSome?_cons, List.find?_cons]
  cases h : q x with
  | true => simp
  | false => simpa using findSome_ite q g l
theorem range_first {α β : Type} (d : α) (q : α → Bool) (g : α → β) (l : List α) : (List.range l.length).findSome? (fun k => if q (l.getD k d) = true then some (g (l.getD k d)) else none) = (l.find? q).map g := by
 rw [← findSome_ite, ← range_find d]
theorem kind_cases (kind : List UInt8) : kind = kDisk ∨ kind = kNet ∨ kind = kNode ∨ kind = kRule ∨ (kDisk ≠ kind ∧ kNet ≠ kind ∧ kNode ≠ kind ∧ kRule ≠ kind) := by
 by_cases h1 : kind = kDisk
 ·exact .inl h1
 by_cases h2 : kind = kNet
 ·exact .inr (.inl h2)
 by_cases h3 : kind = kNode
 ·exact .inr (.inr (.inl h3))
 by_cases h4 : kind = kRule
 ·exact .inr (.inr (.inr (.inl h4)))
 exact .inr (.inr (.inr (.inr ⟨fun e => h1 e.symm, fun e => h2 e.symm, fun e => h3 e.symm, fun e => h4 e.symm⟩)))
def specsL (kind : List UInt8) : List TF0 := (namesS kind).map fun x => specOf kind x
theorem none_kind {kind : List UInt8} (h : kDisk ≠ kind ∧ kNet ≠ kind ∧ kNode ≠ kind ∧ kRule ≠ kind) : kindIn kind = false ∧ propsD kind = [] ∧ specsL kind = [] := by
 obtain ⟨h1, h2, h3, h4⟩ := h
 unfold kindIn propsD specsL namesS
 rw [decide_eq_false h1, decide_eq_false h2, decide_eq_false h3, decide_eq_false h4]
 exact ⟨rfl, rfl, rfl⟩
theorem Specs_ref {n : Nat} (kind : List UInt8) : ref09_Specs n kind = some (specsL kind, bif kindIn kind then 0 else 90) := by
 rcases kind_cases kind with rfl | rfl | rfl | rfl | h
 ·rfl
 ·rfl
 ·rfl
 ·rfl
 ·obtain ⟨e1, e2, e3⟩ := none_kind h
  obtain ⟨h1, h2, h3, h4⟩ := h
  rw [e1, e3]
  unfold ref09_Specs
  rw [decide_eq_false fun e => h1 e.symm, decide_eq_false fun e => h2 e.symm, decide_eq_false fun e => h3 e.symm, decide_eq_false fun e => h4 e.symm]
  rfl
theorem specs_app (kind : List UInt8) (l : List (List UInt8)) (x : List UInt8) : (l ++ [x]).map (fun x => specOf kind x) = l.map (fun x => specOf kind x) ++ [specOf kind x] := by simp
theorem names_few (kind : List UInt8) : (namesS kind).length ≤ 4 := by
 unfold namesS
 cases decide (kDisk = kind) <;> cases decide (kNet = kind) <;> cases decide (kNode = kind) <;> cases decide (kRule = kind) <;> decide
theorem Specs_run {n : Nat} (hn : 6000 < n) (kind : List UInt8) : schema_Specs n kind = some (specsL kind, bif kindIn kind then 0 else 90) := by
 unfold schema_Specs
 cases hk : kindIn kind with
 | false =>
  have e : specsL kind = [] := by
   rcases kind_cases kind with rfl | rfl | rfl | rfl | h
   ·cases hk
   ·cases hk
   ·cases hk
   ·cases hk
   ·exact (none_kind h).2.2
  rw [Bool.not_false, cT, e]; rfl
 | true =>
  have hf := names_few kind
  rw [Bool.not_true, cF]
  have := loop_all (n := n) (step := schema_Specs_s1 n kind) (fun k => (((namesS kind).take k).map (fun x => specOf kind x), (k : Int))) (namesS kind).length (specsL kind) (fun k hk => by
   unfold schema_Specs_s1
   have hx : (namesS kind)[k]? = some (namesS kind)[k] := List.getElem?_eq_getElem hk
   have hg : (namesS kind).getD k [] = (namesS kind)[k] := by simp [List.getD, hk]
   dsimp only
   rw [decide_eq_true (by omega), cT, getI_at [] hk, bnd, need_t (by rw [List.length_map, List.length_take]; omega), need_i (by omega) (by omega), hg, List.take_add_one, hx]
   have e : ((⟨((specAt kind (namesS kind)[k]).getD z_TF0).fName, ((specAt kind (namesS kind)[k]).getD z_TF0).fKind, (((specAt kind (namesS kind)[k]).getD z_TF0).fReplace)⟩ : TF0)) = specOf kind (namesS kind)[k] := rfl
   rw [e, Option.toList_some, specs_app]
   rfl) (by
   unfold schema_Specs_s1
   dsimp only
   rw [decide_eq_false (by omega), cF, List.take_length]; rfl) (by omega)
  have e0 : ((((namesS kind).take 0).map (fun x => specOf kind x), ((0 : Nat) : Int)) : List TF0 × Int) = (([] : List TF0), (0 : Int)) := rfl
  rw [e0] at this
  rw [this, bnd]; rfl
theorem specs_few (kind : List UInt8) : (specsL kind).length ≤ 4 := by unfold specsL; rw [List.length_map]; exact names_few kind
theorem find_spec (kind prop : List UInt8) : (specsL kind).find? (fun s => decide (s.fName = prop)) = specAt kind prop := by
 rcases kind_cases kind with rfl | rfl | rfl | rfl | h
 ·have e : specsL kDisk = [⟨[75, 105, 110, 100], 3, true⟩, ⟨[83, 105, 122, 101], 2, false⟩, ⟨[84, 97, 103, 115], 4, false⟩] := rfl
  rw [e]; unfold specAt
  have e2 : propsD kDisk = dDisk := rfl
  rw [e2]; unfold dDisk
  simp only [List.find?_cons, List.find?_nil, mget]
  by_cases h1 : ([75, 105, 110, 100] : List UInt8) = prop
  ·subst h1; rfl
  by_cases h2 : ([83, 105, 122, 101] : List UInt8) = prop
  ·subst h2; rfl
  by_cases h3 : ([84, 97, 103, 115] : List UInt8) = prop
  ·subst h3; rfl
  simp [h1, h2, h3]
 ·have e : specsL kNet = [⟨[76, 97, 98, 101, 108], 3, false⟩, ⟨[82, 97, 110, 103, 101], 3, true⟩] := rfl
  rw [e]; unfold specAt
  have e2 : propsD kNet = dNet := rfl
  rw [e2]; unfold dNet
  simp only [List.find?_cons, List.find?_nil, mget]
  by_cases h1 : ([76, 97, 98, 101, 108] : List UInt8) = prop
  ·subst h1; rfl
  by_cases h2 : ([82, 97, 110, 103, 101] : List UInt8) = prop
  ·subst h2; rfl
  simp [h1, h2]
 ·have e : specsL kNode = [⟨[67, 111, 117, 110, 116], 2, false⟩, ⟨[68, 105, 115, 107], 3, false⟩, ⟨[73, 109, 97, 103, 101], 3, true⟩, ⟨[78, 101, 116], 3, true⟩] := rfl
  rw [e]; unfold specAt
  have e2 : propsD kNode = dNode := rfl
  rw [e2]; unfold dNode
  simp only [List.find?_cons, List.find?_nil, mget]
  by_cases h1 : ([67, 111, 117, 110, 116] : List UInt8) = prop
  ·subst h1; rfl
  by_cases h2 : ([68, 105, 115, 107] : List UInt8) = prop
  ·subst h2; rfl
  by_cases h3 : ([73, 109, 97, 103, 101] : List UInt8) = prop
  ·subst h3; rfl
  by_cases h4 : ([78, 101, 116] : List UInt8) = prop
  ·subst h4; rfl
  simp [h1, h2, h3, h4]
 ·have e : specsL kRule = [⟨[78, 111, 100, 101], 3, false⟩, ⟨[80, 111, 114, 116], 2, true⟩] := rfl
  rw [e]; unfold specAt
  have e2 : propsD kRule = dRule := rfl
  rw [e2]; unfold dRule
  simp only [List.find?_cons, List.find?_nil, mget]
  by_cases h1 : ([78, 111, 100, 101] : List UInt8) = prop
  ·subst h1; rfl
  by_cases h2 : ([80, 111, 114, 116] : List UInt8) = prop
  ·subst h2; rfl
  simp [h1, h2]
 ·obtain ⟨e1, e2, e3⟩ := none_kind h
  unfold specAt
  rw [e2, e3]; rfl
theorem Find_ref {n : Nat} (hn : 6000 < n) (kind prop : List UInt8) : ref09_Find n kind prop = some (specOf kind prop, (specAt kind prop).isSome) := by
 unfold ref09_Find
 rw [Specs_ref, bnd]
 have hf := specs_few kind
 have := loop_run (n := n) (step := ref09_Find_s1 n prop (specsL kind, bif kindIn kind then 0 else 90)) (fun k => ((k : Int), ([] : List UInt8), (0 : Int), false))
  (fun k => if decide (((specsL kind).getD k z_TF0).fName = prop) = true then some (.inl (((specsL kind).getD k z_TF0).fName, ((specsL kind).getD k z_TF0).fKind, ((specsL kind).getD k z_TF0).fReplace)) else none) (specsL kind).length (.inr ([], 0, false)) (fun k hk => by
  unfold ref09_Find_s1
  dsimp only
  rw [decide_eq_true (by omega), cT, getI_at z_TF0 hk, bnd, bnd, need_i (by omega) (by omega)]
  by_cases hp : ((specsL kind).getD k z_TF0).fName = prop
  ·rw [decide_eq_true hp, cT, if_pos rfl]
  ·rw [decide_eq_false hp, cF, if_neg (by decide)]; rfl) (by
  unfold ref09_Find_s1
  dsimp only
  rw [decide_eq_false (by omega), cF]) (by omega)
 have e0 : (((0 : Nat) : Int), ([] : List UInt8), (0 : Int), false) = ((0 : Int), ([] : List UInt8), (0 : Int), false) := rfl
 rw [e0] at this
 have e := range_first z_TF0 (fun s => decide (s.fName = prop)) (fun s => (Sum.inl (s.fName, s.fKind, s.fReplace) : Sum (List UInt8 × Int × Bool) (List UInt8 × Int × Bool))) (specsL kind)
 rw [this, bnd, e, find_spec]
 unfold specOf
 cases specAt kind prop with
 | none => rfl
 | some s => rfl
theorem word_ref {n : Nat} (hn : 6000 < n) {t : List UInt8} : ref05_Word n t = some (wordV t) := by
 unfold ref05_Word wordV
 by_cases h : (t.length : Int) ≤ 64
 ·rw [decide_eq_true h, cT, cT, valid_ref (by omega) (by omega) (by omega), bnd]
 ·rw [decide_eq_false h, cF, cF]
theorem check_okV {v : TC0} (h : checkV v = 0) : OkV v := (checkV_ok h).1
theorem check_part {v x : TC0} (hx : x ∈ v.fList) (h : checkV v = 0) : checkV x = 0 := by
 obtain ⟨hok, h1, h2⟩ := checkV_ok h
 have h3 : depthV x ≤ depthV v := by
  have := depthVs_mem hx
  rw [depthV_eq v]; omega
 have h4 : (walkV x).length ≤ (walkV v).length := by
  have := walkVs_mem hx
  rw [walkV_eq v, List.length_cons]; omega
 have h5 : faultL (walkV x) = 0 := hok.part hx
 unfold checkV
 rw [if_neg (by omega), if_pos h5, if_neg (by omega)]
theorem value_ref {n : Nat} (hn : 6000 < n) {v : TC0} (h : Fine v) {k : Int} (hk : k = 2 ∨ k = 3 ∨ k = 4) : ref09_value n v k = some (valueV v k) := by
 unfold ref09_value valueV fitV
 by_cases h1 : v.fKind = k
 ·rw [decide_eq_true h1, Bool.not_true, cF, cF, check_ref hn h, bnd]
  by_cases hc : checkV v = 0
  ·rw [decide_eq_true hc, Bool.not_true, bnd, cF, cT]
   by_cases h3 : k = 3
   ·rw [decide_eq_true h3, cT, cT, word_ref hn, bnd]
   ·rw [decide_eq_false h3, cF, cF]
    have hw := h.wide
    have hlen := hw.1
    by_cases h4 : k = 4
    ·rw [decide_eq_true h4, cT, cT, bnd]
     by_cases h8 : ((v.fList.length : Nat) : Int) ≤ 8
     ·rw [decide_eq_true h8, cT, decide_eq_false (by omega), cF]
      have := loop_any (n := n) (step := ref09_value_s1 n v) (fun i => !wordy (v.fList.getD i z_TC0)) v.fList.length (.inl ()) (.inr ()) (fun i hi => by
       unfold ref09_value_s1 wordy fitV
       have hm : v.fList.getD i z_TC0 ∈ v.fList := by simp [List.getD, hi]
       rw [decide_eq_true (by omega), cT, getI_at z_TC0 hi, bnd, decide_eq_true (check_part hm hc)]
       by_cases hk3 : (v.fList.getD i z_TC0).fKind = 3
       ·rw [decide_eq_true hk3, Bool.not_true, cF, cF, cT, bnd, word_ref hn, bnd, need_i (by omega) (by omega)]
        cases wordV (v.fList.getD i z_TC0).fText <;> rfl
       ·rw [decide_eq_false hk3, Bool.not_false, cT, cT, cF]; rfl) (by
       unfold ref09_value_s1
       rw [decide_eq_false (by omega), cF]) (by omega)
      rw [this, bnd, any_range z_TC0 (fun x => !wordy x)]
      cases v.fList.any (fun x => !wordy x) <;> rfl
     ·rw [decide_eq_false h8, cF, decide_eq_true (by omega), cT]
    ·rw [decide_eq_false h4, cF, cF, bnd, cF]
     have h2 : v.fKind = 2 := by omega
     have hp := (check_okV hc).plain
     have hl0 : v.fList = [] := by
      obtain ⟨_, _, _, _, _, h6, _⟩ := hp
      cases hl : v.fList with
      | nil => rfl
      | cons x r =>
       have := h6 (by rw [hl]; simp)
       omega
     have : loopF (ref09_value_s1 n v) n 0 = some (.inr ()) := by
      obtain ⟨m, rfl⟩ : ∃ m, n = m + 1 := ⟨n - 1, by omega⟩
      unfold loopF ref09_value_s1
      rw [hl0, decide_eq_false (by simp), cF, bnd]
     rw [this, bnd]
  ·rw [decide_eq_false hc, Bool.not_false, bnd, cT, cF]
 ·rw [decide_eq_false h1, Bool.not_false, cT, cT, bnd, cT, cF]
theorem empty_iff {v : TC0} : emptyV v = true ↔ v = z_TC0 := by
 unfold emptyV
 constructor
 ·intro h
  by_cases h0 : v.fKind = 0
  ·rw [decide_eq_true h0, cT] at h
   have hp := (check_okV (of_decide_eq_true h)).plain
   obtain ⟨_, _, p1, p2, p3, p4, p5, p6⟩ := hp
   obtain ⟨k, b, m, t, l, ks⟩ := v
   dsimp only at h0 p1 p2 p3 p4 p5 p6
   have e1 : b = false := by
    cases b with
    | false => rfl
    | true => have := p1 rfl; omega
   have e2 : m = 0 := by
    by_cases e : m = 0
    ·exact e
    ·have := p2 e; omega
   have e3 : t = [] := by
    by_cases e : t = []
    ·exact e
    ·have := p3 e; omega
   have e4 : l = [] := by
    by_cases e : l.length = 0
    ·exact List.length_eq_zero_iff.1 e
    ·have := p4 e; omega
   have e5 : ks = [] := List.length_eq_zero_iff.1 (p6 (by omega))
   subst h0; subst e1; subst e2; subst e3; subst e4; subst e5
   rfl
  ·rw [decide_eq_false h0, cF] at h; cases h
 ·intro h
  subst h
  decide +kernel
theorem same_val {n : Nat} (hn : 6000 < n) {v : TC0} (h : Fine v) (w : TC0) : ref03_Same n v w = some (decide (v = w)) := by
 obtain ⟨b, h1, h2⟩ := Same_run hn (d := 60) (by omega) v w h.small
 rw [h1]
 congr 1
 rw [Bool.eq_iff_iff, h2, decide_eq_true_iff]
theorem spec_kind {kind prop : List UInt8} (h : (specAt kind prop).isSome = true) : (specOf kind prop).fKind = 2 ∨ (specOf kind prop).fKind = 3 ∨ (specOf kind prop).fKind = 4 := by
 obtain ⟨s, hs⟩ := Option.isSome_iff_exists.1 h
 unfold specOf
 rw [hs, Option.getD_some]
 rw [← find_spec] at hs
 have hm := List.mem_of_find?_eq_some hs
 rcases kind_cases kind with rfl | rfl | rfl | rfl | hn
 ·have e : specsL kDisk = [⟨[75, 105, 110, 100], 3, true⟩, ⟨[83, 105, 122, 101], 2, false⟩, ⟨[84, 97, 103, 115], 4, false⟩] := rfl
  rw [e] at hm
  simp only [List.mem_cons, List.not_mem_nil, or_false] at hm
  rcases hm with rfl | rfl | rfl <;> simp
 ·have e : specsL kNet = [⟨[76, 97, 98, 101, 108], 3, false⟩, ⟨[82, 97, 110, 103, 101], 3, true⟩] := rfl
  rw [e] at hm
  simp only [List.mem_cons, List.not_mem_nil, or_false] at hm
  rcases hm with rfl | rfl <;> simp
 ·have e : specsL kNode = [⟨[67, 111, 117, 110, 116], 2, false⟩, ⟨[68, 105, 115, 107], 3, false⟩, ⟨[73, 109, 97, 103, 101], 3, true⟩, ⟨[78, 101, 116], 3, true⟩] := rfl
  rw [e] at hm
  simp only [List.mem_cons, List.not_mem_nil, or_false] at hm
  rcases hm with rfl | rfl | rfl | rfl <;> simp
 ·have e : specsL kRule = [⟨[78, 111, 100, 101], 3, false⟩, ⟨[80, 111, 114, 116], 2, true⟩] := rfl
  rw [e] at hm
  simp only [List.mem_cons, List.not_mem_nil, or_false] at hm
  rcases hm with rfl | rfl <;> simp
 ·rw [(none_kind hn).2.2] at hm; cases hm
theorem evG (x : TC0) : (⟨x.fKind, (x.fBool), x.fNum, x.fText, x.fList, x.fKeys⟩ : TC0) = x := by cases x; rfl
theorem Check_ref {n : Nat} (hn : 6000 < n) (kind : List UInt8) {gs : List TE0} (hl : gs.length ≤ 60) (hf : ∀ g ∈ gs, Fine g.fV) : ref09_Check n kind gs = some (checkG kind gs) := by
 unfold ref09_Check checkG
 rw [Specs_ref, bnd]
 dsimp only
 cases kindIn kind with
 | false => rfl
 | true =>
  rw [Bool.not_true, cT, decide_eq_true (rfl : (0 : Int) = 0), Bool.not_true, cF, cF]
  have := loop_any (n := n) (step := ref09_Check_s1 n kind gs) (fun k => !(okG kind (gs.getD k z_TE0) && upG gs k)) gs.length (.inl ()) (.inr ()) (fun k hk => by
   unfold ref09_Check_s1
   have hm : gs.getD k z_TE0 ∈ gs := by simp [List.getD, hk]
   rw [decide_eq_true (by omega), cT, getI_at z_TE0 hk, bnd, Find_ref hn, bnd]
   dsimp only
   have hup : (if decide ((0 : Int) < (k : Int)) = true then ((some (gs.getD k z_TE0)).bind fun x_4 => need (inR .i64 ((k : Int) - 1)) <| (getI gs ((k : Int) - 1)).bind fun x_5 => some ((Op.bytesLess x_4.fName x_5.fName || x_4.fName == x_5.fName))) else some false : Option Bool) = some (!upG gs k) := by
    unfold upG
    by_cases h0 : k = 0
    ·subst h0; rfl
    ·have hk1 : k - 1 < gs.length := by omega
     have e1 : (k : Int) - 1 = ((k - 1 : Nat) : Int) := by omega
     rw [decide_eq_true (by omega : (0 : Int) < (k : Int)), if_pos rfl, bnd, need_i (by omega) (by omega), e1, getI_at z_TE0 hk1, bnd, less_flip, decide_eq_false h0, Bool.false_or]
   unfold okG
   cases hs : (specAt kind (gs.getD k z_TE0).fName).isSome with
   | false => rfl
   | true =>
    rw [Bool.not_true, cF, cond_ite, hup, bnd, Bool.true_and]
    cases hu : upG gs k with
    | false => rw [Bool.not_false, cT, Bool.and_false]; rfl
    | true =>
     rw [Bool.not_true, cF, bnd, Bool.and_true]
     unfold fitG
     cases (gs.getD k z_TE0).fUnknown with
     | true =>
      rw [cT, cT]
      cases decide ((specOf kind (gs.getD k z_TE0).fName).fKind = 2) with
      | true => rfl
      | false =>
       rw [cF, bnd, evG, same_val hn (hf _ hm), bnd, bnd, Bool.not_false, cT, need_i (by omega) (by omega)]
       have e : decide ((gs.getD k z_TE0).fV = z_TC0) = emptyV (gs.getD k z_TE0).fV := by rw [Bool.eq_iff_iff, decide_eq_true_iff, empty_iff]
       rw [e]
       cases emptyV (gs.getD k z_TE0).fV <;> rfl
     | false =>
      rw [cF, cF, bnd, evG, value_ref hn (hf _ hm) (spec_kind hs), bnd, need_i (by omega) (by omega)]
      cases valueV (gs.getD k z_TE0).fV (specOf kind (gs.getD k z_TE0).fName).fKind <;> rfl) (by
   unfold ref09_Check_s1
   rw [decide_eq_false (by omega), cF]) (by omega)
  rw [this, bnd]
  cases (List.range gs.length).any (fun k => !(okG kind (gs.getD k z_TE0) && upG gs k)) <;> rfl
theorem Same_ref {n : Nat} (hn : 6000 < n) {a b : List TE0} (la : a.length ≤ 60) (ha : ∀ g ∈ a, Fine g.fV) (hb : ∀ g ∈ b, Fine g.fV) :
  ref09_Same n a b = some (decide (a.length = b.length) && !((List.range a.length).any fun k => !sameG (a.getD k z_TE0) (b.getD k z_TE0))) := by
 unfold ref09_Same
 by_cases h : a.length = b.length
 ·have h' : ((a.length : Nat) : Int) = ((b.length : Nat) : Int) := by omega
  rw [decide_eq_true h', Bool.not_true, cF, decide_eq_true h, Bool.true_and]
  have := loop_any (n := n) (step := ref09_Same_s1 n a b) (fun k => !sameG (a.getD k z_TE0) (b.getD k z_TE0)) a.length (.inl ()) (.inr ()) (fun k hk => by
   unfold ref09_Same_s1 sameG
   have hm : a.getD k z_TE0 ∈ a := by simp [List.getD, hk]
   have hm2 : b.getD k z_TE0 ∈ b := by
    have : k < b.length := by omega
    simp [List.getD, this]
   rw [decide_eq_true (by omega), cT, getI_at z_TE0 hk, getI_at z_TE0 (by omega : k < b.length)]
   simp only [bnd, evG]
   rw [same_val hn (ha _ hm), Equal_ref hn (ha _ hm) (hb _ hm2), need_i (by omega) (by omega)]
   simp only [bnd]
   cases decide ((a.getD k z_TE0).fName = (b.getD k z_TE0).fName) <;> cases ((a.getD k z_TE0).fUnknown == (b.getD k z_TE0).fUnknown) <;> cases eqV (a.getD k z_TE0).fV (b.getD k z_TE0).fV <;> cases decide ((a.getD k z_TE0).fV = (b.getD k z_TE0).fV) <;> rfl) (by
   unfold ref09_Same_s1
   rw [decide_eq_false (by omega), cF]) (by omega)
  rw [this, bnd]
  cases (List.range a.length).any (fun k => !sameG (a.getD k z_TE0) (b.getD k z_TE0)) <;> rfl
 ·have h' : ¬ ((a.length : Nat) : Int) = ((b.length : Nat) : Int) := by omega
  rw [decide_eq_false h', Bool.not_false, cT, decide_eq_false h, Bool.false_and]
def getG (gs : List TE0) (k : List UInt8) : Option TE0 := gs.find? fun g => decide (g.fName = k)
def zGiven : TE0 := ⟨[], false, z_TC0⟩
theorem get_ref {n : Nat} (hn : 6000 < n) {gs : List TE0} (hl : gs.length ≤ 60) (k : List UInt8) : ref09_get n gs k = some ((getG gs k).getD zGiven, (getG gs k).isSome) := by
 unfold ref09_get
 have := loop_run (n := n) (step := ref09_get_s1 n gs k) (fun i => ((i : Int), ([] : List UInt8), false, (0 : Int), false, (0 : Int), ([] : List UInt8), ([] : List TC0), ([] : List (List UInt8))))
  (fun i => if decide ((gs.getD i z_TE0).fName = k) = true then some (.inl ((gs.getD i z_TE0).fName, (gs.getD i z_TE0).fUnknown, (gs.getD i z_TE0).fV.fKind, (gs.getD i z_TE0).fV.fBool, (gs.getD i z_TE0).fV.fNum, (gs.getD i z_TE0).fV.fText, (gs.getD i z_TE0).fV.fList, (gs.getD i z_TE0).fV.fKeys)) else none) gs.length (.inr ([], false, 0, false, 0, [], [], [])) (fun i hi => by
  unfold ref09_get_s1
  dsimp only
  rw [decide_eq_true (by omega), cT, getI_at z_TE0 hi, bnd, bnd, need_i (by omega) (by omega)]
  by_cases hp : (gs.getD i z_TE0).fName = k
  ·rw [decide_eq_true hp, cT, if_pos rfl]
  ·rw [decide_eq_false hp, cF, if_neg (by decide)]; rfl) (by
  unfold ref09_get_s1
  dsimp only
  rw [decide_eq_false (by omega), cF]) (by omega)
 have e0 : (((0 : Nat) : Int), ([] : List UInt8), false, (0 : Int), false, (0 : Int), ([] : List UInt8), ([] : List TC0), ([] : List (List UInt8))) = ((0 : Int), ([] : List UInt8), false, (0 : Int), false, (0 : Int), ([] : List UInt8), ([] : List TC0), ([] : List (List UInt8))) := rfl
 rw [e0] at this
 have e := range_first z_TE0 (fun g => decide (g.fName = k)) (fun g => (Sum.inl (g.fName, g.fUnknown, g.fV.fKind, g.fV.fBool, g.fV.fNum, g.fV.fText, g.fV.fList, g.fV.fKeys) : Sum (List UInt8 × Bool × Int × Bool × Int × List UInt8 × List TC0 × List (List UInt8)) (List UInt8 × Bool × Int × Bool × Int × List UInt8 × List TC0 × List (List UInt8)))) gs
 rw [this, bnd, e]
 unfold getG
 cases gs.find? fun g => decide (g.fName = k) with
 | none => rfl
 | some g => obtain ⟨_, _, v⟩ := g; cases v; rfl
theorem find_mem {gs : List TE0} {k : List UInt8} {g : TE0} (h : getG gs k = some g) : g ∈ gs ∧ g.fName = k := by
 unfold getG at h
 exact ⟨List.mem_of_find?_eq_some h, by have := List.find?_some h; simpa using this⟩
theorem get_byN {gs : List TE0} (hd : (gs.map (·.fName)).Nodup) (k : List UInt8) : getG gs k = mget (byN gs) k := by
 cases h : getG gs k with
 | some g =>
  obtain ⟨h1, h2⟩ := find_mem h
  rw [← h2, byN_mem hd h1]
 | none =>
  cases h2 : mget (byN gs) k with
  | none => rfl
  | some g =>
   obtain ⟨h3, h4⟩ := byN_some rfl h2
   unfold getG at h
   rw [List.find?_eq_none] at h
   exact absurd (decide_eq_true h4) (h g h3)
def pairsS (kind : List UInt8) : List (List UInt8 × TF0) := (specsL kind).map fun s => (s.fName, s)
theorem pairsS_perm (kind : List UInt8) : (propsD kind).Perm (pairsS kind) := by
 rcases kind_cases kind with rfl | rfl | rfl | rfl | h
 ·have e1 : propsD kDisk = dDisk := rfl
  have e2 : pairsS kDisk = [([75, 105, 110, 100], ⟨[75, 105, 110, 100], 3, true⟩), ([83, 105, 122, 101], ⟨[83, 105, 122, 101], 2, false⟩), ([84, 97, 103, 115], ⟨[84, 97, 103, 115], 4, false⟩)] := rfl
  rw [e1, e2]
  exact of_decide_eq_true (by decide +kernel)
 ·have e1 : propsD kNet = dNet := rfl
  have e2 : pairsS kNet = dNet := rfl
  rw [e1, e2]
 ·have e1 : propsD kNode = dNode := rfl
  have e2 : pairsS kNode = dNode := rfl
  rw [e1, e2]
 ·have e1 : propsD kRule = dRule := rfl
  have e2 : pairsS kRule = dRule := rfl
  rw [e1, e2]
 ·obtain ⟨_, e2, e3⟩ := none_kind h
  unfold pairsS
  rw [e2, e3]
  exact .refl _
theorem any_getD {α : Type} (d : α) (q : α → Bool) (l : List α) (k : Nat) (hk : k < l.length) : (l.take (k + 1)).any q = ((l.take k).any q || q (l.getD k d)) := by
 rw [List.take_add_one, List.getElem?_eq_getElem hk, List.any_append]
 simp [List.getD, hk]
theorem find_any {α β : Type} (d : α) (q : α → Bool) (b : β) (l : List α) : (List.range l.length).findSome? (fun k => if q (l.getD k d) = true then some b else none) = bif l.any q then some b else none := by
 rw [range_find d (fun x => if q x = true then some b else none), findSome_ite q (fun _ => b)]
 cases h : l.any q with
 | true =>
  obtain ⟨x, hx, hq⟩ := List.any_eq_true.1 h
  cases hf : l.find? q with
  | none => rw [List.find?_eq_none] at hf; exact absurd hq (hf x hx)
  | some y => rfl
 | false =>
  cases hf : l.find? q with
  | none => rfl
  | some y =>
   have := List.any_eq_false.1 h y (List.mem_of_find?_eq_some hf)
   exact absurd (List.find?_some hf) this
theorem differ_loop {n : Nat} (hn : 6000 < n) {kind : List UInt8} {z : Int} {a b : List TE0} (la : a.length ≤ 60) (lb : b.length ≤ 60) (ha : ∀ g ∈ a, Fine g.fV) (hb : ∀ g ∈ b, Fine g.fV) (na : (a.map (·.fName)).Nodup) (nb : (b.map (·.fName)).Nodup) :
    loopF (ref09_Differ_s2 n a b (specsL kind, z)) n (0, 0) = some (bif (pairsS kind).any (fun p => !sameK a b p.1 && p.2.fReplace) then .inl () else .inr (bif (pairsS kind).any (fun p => !sameK a b p.1) then 2 else 0)) := by
  have hf := specs_few kind
  have := loop_run (n := n) (step := ref09_Differ_s2 n a b (specsL kind, z)) (fun k => ((bif ((specsL kind).take k).any (fun s => !sameK a b s.fName) then (2 : Int) else 0), (k : Int))) (fun k => if (!sameK a b ((specsL kind).getD k z_TF0).fName && ((specsL kind).getD k z_TF0).fReplace) = true then some (Sum.inl ()) else none) (specsL kind).length (.inr (bif (specsL kind).any (fun s => !sameK a b s.fName) then 2 else 0)) (fun k hk => by
    unfold ref09_Differ_s2
    dsimp only
    rw [decide_eq_true (by omega), cT, getI_at z_TF0 hk]
    simp only [bnd]
    rw [get_ref hn la, get_ref hn lb, get_byN na, get_byN nb]
    simp only [bnd]
    rw [need_i (by omega) (by omega), any_getD z_TF0 _ _ _ hk]
    generalize (specsL kind).getD k z_TF0 = s
    have ecast : ((k : Int) + 1) = ((k + 1 : Nat) : Int) := by omega
    have key : ∀ (R : Bool → Option (Lp (Int × Int) (Sum Unit Int))), ((bif ((mget (byN a) s.fName).isSome == (mget (byN b) s.fName).isSome) then
          (bif !(mget (byN a) s.fName).isSome then
            (some ((true)))
          else
            bif !((mget (byN b) s.fName).getD zGiven).fUnknown then
              ((ref03_Equal n (⟨((mget (byN a) s.fName).getD zGiven).fV.fKind, (((mget (byN a) s.fName).getD zGiven).fV.fBool), ((mget (byN a) s.fName).getD zGiven).fV.fNum, ((mget (byN a) s.fName).getD zGiven).fV.fText, ((mget (byN a) s.fName).getD zGiven).fV.fList, ((mget (byN a) s.fName).getD zGiven).fV.fKeys⟩ : TC0) (⟨((mget (byN b) s.fName).getD zGiven).fV.fKind, (((mget (byN b) s.fName).getD zGiven).fV.fBool), ((mget (byN b) s.fName).getD zGiven).fV.fNum, ((mget (byN b) s.fName).getD zGiven).fV.fText, ((mget (byN b) s.fName).getD zGiven).fV.fList, ((mget (byN b) s.fName).getD zGiven).fV.fKeys⟩ : TC0)).bind fun x_9 =>
              some ((x_9)))
            else
              some ((false)))
        else
          some ((false)) : Option Bool)).bind R = R (sameK a b s.fName) := by
      intro R
      unfold sameK
      cases hx : mget (byN a) s.fName with
      | none =>
        cases hy : mget (byN b) s.fName with
        | none => rfl
        | some y => rfl
      | some x =>
        cases hy : mget (byN b) s.fName with
        | none => rfl
        | some y =>
          have fx := ha x (byN_some rfl hx).1
          have fy := hb y (byN_some rfl hy).1
          simp only [Option.isSome_some, Option.getD_some, beq_self_eq_true, Bool.not_true]
          rw [cT, cF, cT, cF, evG, evG, Equal_ref hn fx fy]
          simp only [bnd]
          cases y.fUnknown <;> rfl
    rw [key]
    cases hsk : sameK a b s.fName with
    | true =>
      rw [cT, Bool.not_true, Bool.false_and, Bool.or_false, if_neg (by decide), ecast]
    | false =>
      rw [cF, Bool.not_false, Bool.true_and, Bool.or_true]
      cases s.fReplace with
      | true => rw [cT, if_pos rfl]
      | false => rw [cF, need_i (by omega) (by omega), if_neg (by decide), ecast, cT]) (by
    unfold ref09_Differ_s2
    dsimp only
    rw [decide_eq_false (by omega), cF, List.take_length]) (by omega)
  have e0 : ((bif ((specsL kind).take 0).any (fun s => !sameK a b s.fName) then (2 : Int) else 0), ((0 : Nat) : Int)) = ((0 : Int), (0 : Int)) := rfl
  rw [e0] at this
  have e := find_any z_TF0 (fun s => !sameK a b s.fName && s.fReplace) (Sum.inl () : Sum Unit Int) (specsL kind)
  rw [this, e]
  unfold pairsS
  rw [List.any_map, List.any_map]
  have c1 : ((fun p : List UInt8 × TF0 => !sameK a b p.1 && p.2.fReplace) ∘ fun s : TF0 => (s.fName, s)) = fun s => !sameK a b s.fName && s.fReplace := rfl
  have c2 : ((fun p : List UInt8 × TF0 => !sameK a b p.1) ∘ fun s : TF0 => (s.fName, s)) = fun s => !sameK a b s.fName := rfl
  rw [c1, c2]
  cases (specsL kind).any (fun s => !sameK a b s.fName && s.fReplace) <;> rfl
theorem Differ_ref {n : Nat} (hn : 6000 < n) (kind : List UInt8) {a b : List TE0} (la : a.length ≤ 60) (lb : b.length ≤ 60) (ha : ∀ g ∈ a, Fine g.fV) (hb : ∀ g ∈ b, Fine g.fV) : ref09_Differ n kind a b = some (differV kind a b) := by
 unfold ref09_Differ differV
 rw [Check_ref hn kind la ha, bnd]
 by_cases h1 : checkG kind a = 0
 ·rw [decide_eq_true h1, Bool.not_true, cF, cF, Check_ref hn kind lb hb, bnd]
  by_cases h2 : checkG kind b = 0
  ·rw [decide_eq_true h2, Bool.not_true, cF, cF]
   have := loop_any (n := n) (step := ref09_Differ_s1 n a) (fun k => (a.getD k z_TE0).fUnknown) a.length (.inl ()) (.inr ()) (fun k hk => by
    unfold ref09_Differ_s1
    rw [decide_eq_true (by omega), cT, getI_at z_TE0 hk, bnd, need_i (by omega) (by omega)]
    cases (a.getD k z_TE0).fUnknown <;> rfl) (by
    unfold ref09_Differ_s1
    rw [decide_eq_false (by omega), cF]) (by omega)
   rw [this, bnd, any_range z_TE0 (·.fUnknown)]
   cases a.any (·.fUnknown) with
   | true => rfl
   | false =>
    rw [cF, cF]
    dsimp only
    rw [Specs_ref, bnd, differ_loop hn la lb ha hb (rise_nodup (check_zero h1).2.2) (rise_nodup (check_zero h2).2.2), bnd, endK_perm a b (pairsS_perm kind)]
    unfold endK
    cases (pairsS kind).any (fun p => !sameK a b p.1 && p.2.fReplace) <;> rfl
  ·rw [decide_eq_false h2, Bool.not_false, cT, cT]
 ·rw [decide_eq_false h1, Bool.not_false, cT, cT]
end Go.Proofs.YtalifkcchfkgmaaGreatDoor
end

section
namespace Go.Num
def dig (c : UInt8) : Bool := 48 ≤ c && c ≤ 57
def nd : List UInt8 → Nat → Nat
  | [], k => k
  | c :: r, k => if dig c then nd r (k + 1) else k
def vl : List UInt8 → Nat → Nat
  | [], v => v
  | c :: r, v => if dig c then vl r (10 * v + (c.toNat - 48)) else v
def neg (l : List UInt8) : Bool := decide (l.getD 0 0 = 45)
def fst (l : List UInt8) : Nat := if neg l then 1 else 0
def big : Nat := 9007199254740992
def scanL (l : List UInt8) (at_ : Int) : Int × Int × Int :=
  let f := fst l
  let k := nd (l.drop f) f
  let v := vl (l.drop f) 0
  if l.getD f 0 = 48 ∧ f + 2 ≤ k then (0, at_ + (f + 1), 20)
  else if k = f ∨ l.getD k 0 = 46 ∨ l.getD k 0 = 101 ∨ l.getD k 0 = 69 then (0, at_ + k, 20)
  else if big < v ∨ (neg l = true ∧ v = 0) then (0, at_, 20)
  else (if neg l then -(v : Int) else v, at_ + k, 0)
def scan (s : List UInt8) (at_ : Int) : Int × Int × Int :=
  if at_ < 0 ∨ (s.length : Int) < at_ then (0, 0, 2) else scanL (s.drop at_.toNat) at_
theorem dig_iff (c : UInt8) : dig c = true ↔ 48 ≤ c.toNat ∧ c.toNat ≤ 57 := by
 simp [dig, UInt8.le_iff_toNat_le]
theorem nd_ge : ∀ (l : List UInt8) (k : Nat), k ≤ nd l k
 | [], k => Nat.le_refl _
 | c :: r, k => by
  simp only [nd]
  split
  ·have := nd_ge r (k + 1); omega
  ·exact Nat.le_refl _
theorem drop_cons (l : List UInt8) (k : Nat) (h : k < l.length) : l.drop k = l.getD k 0 :: l.drop (k + 1) := by
 rw [List.drop_eq_getElem_cons h]; simp [List.getD, h]
theorem nd_step (l : List UInt8) (k : Nat) (h : k < l.length) (hd : dig (l.getD k 0) = true) : nd (l.drop k) k = nd (l.drop (k + 1)) (k + 1) := by
 rw [drop_cons l k h]; simp only [nd, hd, if_true]
theorem nd_stop (l : List UInt8) (k : Nat) (hd : dig (l.getD k 0) = false) : nd (l.drop k) k = k := by
 by_cases h : k < l.length
 ·rw [drop_cons l k h]; simp only [nd, hd]; rfl
 ·rw [List.drop_eq_nil_of_le (by omega)]; rfl
theorem vl_step (l : List UInt8) (k v : Nat) (h : k < l.length) (hd : dig (l.getD k 0) = true) : vl (l.drop k) v = vl (l.drop (k + 1)) (10 * v + ((l.getD k 0).toNat - 48)) := by
 rw [drop_cons l k h]; simp only [vl, hd, if_true]
theorem vl_stop (l : List UInt8) (k v : Nat) (hd : dig (l.getD k 0) = false) : vl (l.drop k) v = v := by
 by_cases h : k < l.length
 ·rw [drop_cons l k h]; simp only [vl, hd]; rfl
 ·rw [List.drop_eq_nil_of_le (by omega)]; rfl
structure ScanI (l : List UInt8) (k : Nat) (v : Nat) : Prop where
  ge : fst l ≤ k
  le : k ≤ l.length
  nd : nd (l.drop k) k = nd (l.drop (fst l)) (fst l)
  vl : vl (l.drop k) v = vl (l.drop (fst l)) 0
  zero : fst l + 2 ≤ k → l.getD (fst l) 0 ≠ 48
  one : fst l + 1 ≤ k → dig (l.getD (fst l) 0) = true
theorem fst_le (l : List UInt8) : fst l ≤ l.length := by
 unfold fst neg
 split
 ·rename_i h
  cases l with
  | nil => simp at h
  | cons c r => simp
 ·omega
theorem ScanI.start (l : List UInt8) : ScanI l (fst l) 0 := ⟨Nat.le_refl _, fst_le l, rfl, rfl, fun h => by omega, fun h => by omega⟩
theorem ScanI.step {l : List UInt8} {k v : Nat} (h : ScanI l k v) (hd : dig (l.getD k 0) = true) (hk : k < l.length) (hz : ¬ (k = fst l + 1 ∧ l.getD (fst l) 0 = 48)) : ScanI l (k + 1) (10 * v + ((l.getD k 0).toNat - 48)) := by
 refine ⟨by have := h.ge; omega, by omega, by rw [← nd_step l k hk hd]; exact h.nd, by rw [← vl_step l k v hk hd]; exact h.vl, fun hge h0 => ?_, fun hge => ?_⟩
 ·rcases Nat.lt_or_ge k (fst l + 2) with hlt | hge2
  ·exact hz ⟨by omega, h0⟩
  ·exact h.zero hge2 h0
 ·rcases Nat.lt_or_ge k (fst l + 1) with hlt | hge2
  ·have : k = fst l := by have := h.ge; omega
   subst this; exact hd
  ·exact h.one hge2
theorem ScanI.lt {l : List UInt8} {k v : Nat} (_ : ScanI l k v) (hd : dig (l.getD k 0) = true) : k < l.length := by
 rcases Nat.lt_or_ge k l.length with h | h
 ·exact h
 ·have : l.getD k 0 = 0 := by simp [List.getD, List.getElem?_eq_none h]
  rw [this] at hd; simp [dig] at hd
theorem ScanI.early {l : List UInt8} {k v : Nat} (h : ScanI l k v) (at_ : Int) (hd : dig (l.getD k 0) = true) (hk : k = fst l + 1) (h0 : l.getD (fst l) 0 = 48) : scanL l at_ = (0, at_ + k, 20) := by
 have h1 := h.nd
 rw [nd_step l k (h.lt hd) hd] at h1
 have h2 := nd_ge (l.drop (k + 1)) (k + 1)
 unfold scanL
 simp only []
 rw [if_pos ⟨h0, by omega⟩, hk]
 simp
theorem ScanI.stop {l : List UInt8} {k v : Nat} (h : ScanI l k v) (at_ : Int) (hd : dig (l.getD k 0) = false) :
  scanL l at_ = if k = fst l ∨ l.getD k 0 = 46 ∨ l.getD k 0 = 101 ∨ l.getD k 0 = 69 then (0, at_ + k, 20)
   else if big < v ∨ (neg l = true ∧ v = 0) then (0, at_, 20)
   else (if neg l then -(v : Int) else v, at_ + k, 0) := by
 have h1 := h.nd
 rw [nd_stop l k hd] at h1
 have h2 := h.vl
 rw [vl_stop l k v hd] at h2
 unfold scanL
 simp only []
 rw [← h1, ← h2, if_neg]
 rintro ⟨h3, h4⟩
 exact h.zero h4 h3
theorem fst_le1 (l : List UInt8) : fst l ≤ 1 := by unfold fst; split <;> omega
theorem byte_of {c : UInt8} {n : Int} (d : UInt8) (h : ((c.toNat : Nat) : Int) = n) (hd : (d.toNat : Int) = n) : c = d := UInt8.toNat_inj.1 (by omega)
theorem to_byte {c d : UInt8} {n : Int} (h : c = d) (hd : (d.toNat : Int) = n) : ((c.toNat : Nat) : Int) = n := by rw [h]; exact hd
theorem dig_prog (c : UInt8) : decide (((c.toNat : Int) - 48) % 256 < 10) = dig c := by
 rw [Bool.eq_iff_iff, dig_iff]
 have := c.toNat_lt
 simp only [decide_eq_true_eq]
 omega
theorem dig_ref (c : UInt8) : (decide ((48 : Int) ≤ (c.toNat : Int)) && decide ((c.toNat : Int) ≤ 57)) = dig c := by
 rw [Bool.eq_iff_iff, dig_iff]
 simp only [Bool.and_eq_true, decide_eq_true_eq]
 omega
def KeepP (n : Int) (v : Nat) : Prop := 0 ≤ n ∧ n ≤ 90071992547409929 ∧ (v ≤ 9007199254740992 → n = v) ∧ (9007199254740992 < v → 9007199254740992 < n)
theorem KeepP.start : KeepP 0 0 := ⟨by omega, by omega, fun _ => rfl, fun h => by omega⟩
theorem KeepP.more {n : Int} {v : Nat} (c : UInt8) (h : KeepP n v) (hd : dig c = true) (hn : n ≤ 9007199254740992) : KeepP (10 * n + ((c.toNat : Int) - 48) % 256) (10 * v + (c.toNat - 48)) := by
 obtain ⟨h1, h2, h3, h4⟩ := h
 rw [dig_iff] at hd
 have hv : v ≤ 9007199254740992 := by
  rcases Nat.lt_or_ge 9007199254740992 v with h | h
  ·have := h4 h; omega
  ·exact h
 have := h3 hv
 refine ⟨by omega, by omega, fun _ => by omega, fun _ => by omega⟩
theorem KeepP.full {n : Int} {v d : Nat} (h : KeepP n v) (hn : ¬ n ≤ 9007199254740992) : KeepP n (10 * v + d) := by
 obtain ⟨h1, h2, h3, h4⟩ := h
 have hv : 9007199254740992 < v := by
  rcases Nat.lt_or_ge 9007199254740992 v with h | h
  ·exact h
  ·have := h3 h; omega
 exact ⟨h1, h2, fun h => by omega, fun _ => by omega⟩
theorem KeepP.fits {n : Int} {v : Nat} (h : KeepP n v) : (decide (-9007199254740992 ≤ n) && decide (n ≤ 9007199254740992)) = decide (v ≤ 9007199254740992) := by
 obtain ⟨h1, h2, h3, h4⟩ := h
 rw [Bool.eq_iff_iff]
 simp only [Bool.and_eq_true, decide_eq_true_eq]
 constructor
 ·rintro ⟨_, h⟩
  rcases Nat.lt_or_ge 9007199254740992 v with h' | h'
  ·have := h4 h'; omega
  ·exact h'
 ·intro h; have := h3 h; omega
theorem scan_inside {s : List UInt8} {at_ : Int} (h : ¬ (at_ < 0 ∨ (s.length : Int) < at_)) : scan s at_ = scanL (s.drop at_.toNat) at_ := by unfold scan; rw [if_neg h]
theorem scan_out {s : List UInt8} {at_ : Int} (h : at_ < 0 ∨ (s.length : Int) < at_) : scan s at_ = (0, 0, 2) := by unfold scan; rw [if_pos h]
def fitsB (n : Int) : Bool := decide (-9007199254740992 ≤ n ∧ n ≤ 9007199254740992)
theorem fits_eq (n : Int) : (decide ((-9007199254740992 : Int) ≤ n) && decide (n ≤ 9007199254740992)) = fitsB n := by simp [fitsB]
theorem fits_eqR (n : Int) : (decide ((-9007199254740992 : Int) ≤ n) && decide (n ≤ 9007199254740992)) = fitsB n := by simp [fitsB]
theorem neg_byte (l : List UInt8) : decide (((l.getD 0 0).toNat : Int) = 45) = neg l := by
 unfold neg
 rw [Bool.eq_iff_iff]
 simp only [decide_eq_true_eq]
 exact ⟨fun h => byte_of 45 h rfl, fun h => to_byte h rfl⟩
theorem fst_t {l : List UInt8} (h : neg l = true) : fst l = 1 := by simp [fst, h]
theorem fst_f {l : List UInt8} (h : neg l = false) : fst l = 0 := by simp [fst, h]
theorem notboth {l : List UInt8} {k : Nat} (h : ¬ ((k : Int) = (fst l : Int) + 1 ∧ ((l.getD (fst l) 0).toNat : Int) = 48)) : ¬ (k = fst l + 1 ∧ l.getD (fst l) 0 = 48) :=
 fun ⟨h1, h2⟩ => h ⟨by omega, to_byte h2 rfl⟩
theorem isboth {l : List UInt8} {k : Nat} (h : (k : Int) = (fst l : Int) + 1 ∧ ((l.getD (fst l) 0).toNat : Int) = 48) : k = fst l + 1 ∧ l.getD (fst l) 0 = 48 :=
 ⟨by omega, byte_of 48 h.2 rfl⟩
theorem KeepP.fitsEq {n : Int} {v : Nat} (h : KeepP n v) : fitsB n = decide (v ≤ 9007199254740992) := by rw [← fits_eq]; exact h.fits
section
variable {l : List UInt8} {k v : Nat} {n at_ sl : Int} (I : ScanI l k v) (hd : dig (l.getD k 0) = false)
include I hd
theorem ScanI.e1 (h : (k : Int) = (fst l : Int) ∨ (at_ + (k : Int) < sl ∧ (((l.getD k 0).toNat : Int) = 46 ∨ (((l.getD k 0).toNat : Int) = 101 ∨ ((l.getD k 0).toNat : Int) = 69)))) : scanL l at_ = (0, at_ + k, 20) := by
 rw [I.stop at_ hd, if_pos]
 rcases h with h | ⟨_, h | h | h⟩
 ·exact .inl (by omega)
 ·exact .inr (.inl (byte_of 46 h rfl))
 ·exact .inr (.inr (.inl (byte_of 101 h rfl)))
 ·exact .inr (.inr (.inr (byte_of 69 h rfl)))
omit I hd in
theorem ScanI.no (hsl : sl = at_ + l.length) (h : ¬ ((k : Int) = (fst l : Int) ∨ (at_ + (k : Int) < sl ∧ (((l.getD k 0).toNat : Int) = 46 ∨ (((l.getD k 0).toNat : Int) = 101 ∨ ((l.getD k 0).toNat : Int) = 69))))) :
  ¬ (k = fst l ∨ l.getD k 0 = 46 ∨ l.getD k 0 = 101 ∨ l.getD k 0 = 69) := by
 have hk : l.getD k 0 ≠ 0 → k < l.length := fun h0 => by
  rcases Nat.lt_or_ge k l.length with h | h
  ·exact h
  ·exact absurd (by simp [List.getD, List.getElem?_eq_none h]) h0
 rintro (h1 | h1 | h1 | h1)
 ·exact h (.inl (by omega))
 ·have := hk (by rw [h1]; decide); exact h (.inr ⟨by omega, .inl (to_byte h1 rfl)⟩)
 ·have := hk (by rw [h1]; decide); exact h (.inr ⟨by omega, .inr (.inl (to_byte h1 rfl))⟩)
 ·have := hk (by rw [h1]; decide); exact h (.inr ⟨by omega, .inr (.inr (to_byte h1 rfl))⟩)
theorem ScanI.e2 (hno : ¬ (k = fst l ∨ l.getD k 0 = 46 ∨ l.getD k 0 = 101 ∨ l.getD k 0 = 69)) (h : 9007199254740992 < v ∨ (neg l = true ∧ v = 0)) : scanL l at_ = (0, at_, 20) := by
 rw [I.stop at_ hd, if_neg hno, if_pos (by unfold big; exact h)]
theorem ScanI.e3 (hno : ¬ (k = fst l ∨ l.getD k 0 = 46 ∨ l.getD k 0 = 101 ∨ l.getD k 0 = 69)) (h : ¬ (9007199254740992 < v ∨ (neg l = true ∧ v = 0))) : scanL l at_ = (if neg l then -(v : Int) else v, at_ + k, 0) := by
 rw [I.stop at_ hd, if_neg hno, if_neg (by unfold big; exact h)]
end
theorem KeepP.bad {l : List UInt8} {n : Int} {v : Nat} (K : KeepP n v) : (¬ (fitsB n = true) ∨ (neg l = true ∧ n = 0)) ↔ (9007199254740992 < v ∨ (neg l = true ∧ v = 0)) := by
 rw [K.fitsEq]
 obtain ⟨h1, h2, h3, h4⟩ := K
 simp only [decide_eq_true_eq]
 constructor
 ·rintro (h | ⟨a, h⟩)
  ·exact .inl (by omega)
  ·rcases Nat.lt_or_ge 9007199254740992 v with hv | hv
   ·exact .inl hv
   ·exact .inr ⟨a, by have := h3 hv; omega⟩
 ·rintro (h | ⟨a, h⟩)
  ·exact .inl (by omega)
  ·exact .inr ⟨a, by have := h3 (by omega); omega⟩
theorem KeepP.val {n : Int} {v : Nat} {b : Prop} (K : KeepP n v) (h : ¬ (9007199254740992 < v ∨ b)) : n = v := by
 obtain ⟨h1, h2, h3, h4⟩ := K
 exact h3 (by have : ¬ 9007199254740992 < v := fun x => h (.inl x); omega)
def KeepR (n : Int) (gr : Bool) (v : Nat) : Prop := 0 ≤ n ∧ n ≤ 9007199254740992 ∧ (v ≤ 9007199254740992 → n = v ∧ gr = false) ∧ (9007199254740992 < v → n = 9007199254740992 ∧ gr = true)
theorem KeepR.start : KeepR 0 false 0 := ⟨by omega, by omega, fun _ => ⟨rfl, rfl⟩, fun h => by omega⟩
theorem KeepR.over {n : Int} {gr : Bool} {v : Nat} {c : UInt8} (K : KeepR n gr v) (hd : dig c = true) (h : 9007199254740992 < n * 10 + ((c.toNat : Int) - 48) % 256) : KeepR 9007199254740992 true (10 * v + (c.toNat - 48)) := by
 obtain ⟨h1, h2, h3, h4⟩ := K
 rw [dig_iff] at hd
 refine ⟨by omega, by omega, fun hv => ?_, fun _ => ⟨rfl, rfl⟩⟩
 have := (h3 (by omega)).1
 omega
theorem KeepR.under {n : Int} {gr : Bool} {v : Nat} {c : UInt8} (K : KeepR n gr v) (hd : dig c = true) (h : ¬ 9007199254740992 < n * 10 + ((c.toNat : Int) - 48) % 256) : KeepR (n * 10 + ((c.toNat : Int) - 48) % 256) gr (10 * v + (c.toNat - 48)) := by
 obtain ⟨h1, h2, h3, h4⟩ := K
 rw [dig_iff] at hd
 have hv : v ≤ 9007199254740992 := by
  rcases Nat.lt_or_ge 9007199254740992 v with hv | hv
  ·have := (h4 hv).1; omega
  ·exact hv
 obtain ⟨h5, h6⟩ := h3 hv
 exact ⟨by omega, by omega, fun _ => ⟨by omega, h6⟩, fun hx => by omega⟩
theorem KeepR.bad {l : List UInt8} {n : Int} {gr : Bool} {v : Nat} (K : KeepR n gr v) : (gr = true ∨ (neg l = true ∧ n = 0)) ↔ (9007199254740992 < v ∨ (neg l = true ∧ v = 0)) := by
 obtain ⟨h1, h2, h3, h4⟩ := K
 constructor
 ·rintro (h | ⟨a, h⟩)
  ·rcases Nat.lt_or_ge 9007199254740992 v with hv | hv
   ·exact .inl hv
   ·rw [(h3 hv).2] at h; cases h
  ·rcases Nat.lt_or_ge 9007199254740992 v with hv | hv
   ·exact .inl hv
   ·exact .inr ⟨a, by have := (h3 hv).1; omega⟩
 ·rintro (h | ⟨a, h⟩)
  ·exact .inl (h4 h).2
  ·exact .inr ⟨a, by have := (h3 (by omega)).1; omega⟩
theorem KeepR.val {n : Int} {gr : Bool} {v : Nat} {b : Prop} (K : KeepR n gr v) (h : ¬ (9007199254740992 < v ∨ b)) : n = v := by
 obtain ⟨h1, h2, h3, h4⟩ := K
 exact (h3 (by have : ¬ 9007199254740992 < v := fun x => h (.inl x); omega)).1
theorem getD_at (s : List UInt8) (a i : Int) (k : Nat) (ha : 0 ≤ a) (hi : i = a + k) : s.getD i.toNat 0 = (s.drop a.toNat).getD k 0 := by
 have : i.toNat = a.toNat + k := by omega
 rw [this]
 simp [List.getD, List.getElem?_drop]
theorem not_dig_out {l : List UInt8} {k : Nat} {sl at_ : Int} (hsl : sl = at_ + l.length) (h : ¬ (at_ + (k : Int) < sl ∧ dig (l.getD k 0) = true)) : dig (l.getD k 0) = false := by
 cases hd : dig (l.getD k 0) with
 | false => rfl
 | true =>
  rcases Nat.lt_or_ge k l.length with hk | hk
  ·exact absurd ⟨by omega, hd⟩ h
  ·rw [show l.getD k 0 = 0 by simp [List.getD, List.getElem?_eq_none hk]] at hd; simp [dig] at hd
theorem neg_in {l : List UInt8} {sl at_ : Int} (hsl : sl = at_ + l.length) : (decide (at_ < sl) && decide (((l.getD 0 0).toNat : Int) = 45)) = neg l := by
 rw [neg_byte, Bool.eq_iff_iff]
 simp only [Bool.and_eq_true, decide_eq_true_eq]
 refine ⟨fun h => h.2, fun h => ⟨?_, h⟩⟩
 cases l with
 | nil => simp [neg] at h
 | cons c r => simp at hsl; omega
def read (s : List UInt8) : Int × Int := if (scan s 0).2.2 = 0 ∧ (scan s 0).2.1 = s.length then ((scan s 0).1, 0) else (0, 20)
def dch (n : Nat) : UInt8 := UInt8.ofNat (48 + n % 10)
def digsF : Nat → Nat → List UInt8
  | 0, _ => []
  | f + 1, n => if n < 10 then [dch n] else digsF f (n / 10) ++ [dch n]
def digs (n : Nat) : List UInt8 := digsF (n + 1) n
theorem digsF_more : ∀ (f g n : Nat), n < f → n < g → digsF f n = digsF g n
 | 0, _, n, h, _ => by omega
 | f + 1, 0, n, _, h => by omega
 | f + 1, g + 1, n, h1, h2 => by
  simp only [digsF]
  split
  ·rfl
  ·rw [digsF_more f g (n / 10) (by omega) (by omega)]
theorem digs_lt {n : Nat} (h : n < 10) : digs n = [dch n] := by unfold digs; simp only [digsF]; rw [if_pos h]
theorem digs_ge {n : Nat} (h : ¬ n < 10) : digs n = digs (n / 10) ++ [dch n] := by
 unfold digs
 rw [digsF, if_neg h, digsF_more n (n / 10 + 1) (n / 10) (by omega) (by omega)]
theorem dch_toNat (n : Nat) : (dch n).toNat = 48 + n % 10 := by
 unfold dch; rw [UInt8.toNat_ofNat']; omega
theorem dch_int (n : Nat) : (48 + (n : Int) % 10) % 256 = ((dch n).toNat : Int) := by rw [dch_toNat]; omega
theorem dch_mod (n : Nat) : dch (n % 10) = dch n := by unfold dch; rw [Nat.mod_mod]
theorem dch_small {n : Nat} (h : n < 10) : (48 + (n : Int)) % 256 = ((dch n).toNat : Int) := by rw [dch_toNat]; omega
theorem digs_len : ∀ (k n : Nat), n < 10 ^ (k + 1) → (digs n).length ≤ k + 1
 | 0, n, h => by rw [digs_lt (by omega)]; simp
 | k + 1, n, h => by
  by_cases h10 : n < 10
  ·rw [digs_lt h10]; simp
  ·rw [digs_ge h10]
   have := digs_len k (n / 10) (by rw [Nat.pow_succ] at h; omega)
   simp; omega
theorem digs_len16 {n : Nat} (h : n ≤ 9007199254740992) : (digs n).length ≤ 16 := digs_len 15 n (by omega)
def text (n : Int) : List UInt8 × Int := if fitsB n then (if n < 0 then 45 :: digs (-n).toNat else digs n.toNat, 0) else ([], 20)
theorem fitsB_iff {n : Int} : fitsB n = true ↔ -9007199254740992 ≤ n ∧ n ≤ 9007199254740992 := by simp [fitsB]
theorem text_no {n : Int} (h : fitsB n = false) : text n = ([], 20) := by simp [text, h]
theorem text_neg {n : Int} (h : fitsB n = true) (h0 : n < 0) : text n = (45 :: digs (-n).toNat, 0) := by simp [text, h, h0]
theorem text_pos {n : Int} (h : fitsB n = true) (h0 : ¬ n < 0) : text n = (digs n.toNat, 0) := by simp [text, h, h0]
end Go.Num
end

section
namespace Go.Proofs.YtalifkcchfkgmaaGreatDoor
open Go Go.Vc Go.RowKit Go.Num
theorem tup3 {x : Int × Int × Int} {a b c : Int} (h : x = (a, b, c)) : Value.tuple #[.int .i64 a, .int .i64 b, .int .i64 c] = .tuple #[.int .i64 x.1, .int .i64 x.2.1, .int .i64 x.2.2] := by rw [h]
theorem tup2 {x : Int × Int} {a b : Int} (h : x = (a, b)) : Value.tuple #[.int .i64 a, .int .i64 b] = .tuple #[.int .i64 x.1, .int .i64 x.2] := by rw [h]
theorem fits_ok (M : Mem) (n : Int) : Ok Tryz.prog M 72 [.int .i64 n] (fun _ v => v = .bool (fitsB n)) := by
 intro M hM0 w0 H w p0
 refine R_enter 9 Tryz.func72 rfl rfl (by simp) fun a0 f0 => RR (Y f0 1 fun _ f => eT (R_seq (R_mid (fun a_2 w_1 => Frm 9 [(2, .bool ((decide ((-9007199254740992 : Int) ≤ n)) && (decide (n ≤ 9007199254740992))))] a_2 ∧ Hp w0 M (H) w_1) ?_ ?_)))
 ·refine R_reg (Y f 3 fun _ f => ?_)
  rcases bE (decide ((-9007199254740992 : Int) ≤ n)) with h_1 | h_1
  ·have k_1 := dI.1 h_1
   have f := f.st 5 (cB h_1)
   refine Y f 4 fun _ f => eT ?_
   have f := Frm.set f 2 (v := .bool (decide (n ≤ 9007199254740992))) (v' := .bool ((decide ((-9007199254740992 : Int) ≤ n)) && (decide (n ≤ 9007199254740992)))) (by kernel_rfl) (by simp only [h_1, Bool.and_true, Bool.true_and, Bool.false_and, Bool.and_false, Bool.or_true, Bool.true_or, Bool.or_false, Bool.false_or, Bool.not_true, Bool.not_false, cond_true, cond_false])
   exact ⟨f.kp, p0⟩
  ·have k_2 := iff_f dI h_1
   have f := f.st 5 (cB h_1)
   refine Y f 4 fun _ f => eT ?_
   have f := Frm.set f 2 (v := .bool false) (v' := .bool ((decide ((-9007199254740992 : Int) ≤ n)) && (decide (n ≤ 9007199254740992)))) (by kernel_rfl) (by simp only [h_1, Bool.and_true, Bool.true_and, Bool.false_and, Bool.and_false, Bool.or_true, Bool.true_or, Bool.or_false, Bool.false_or, Bool.not_true, Bool.not_false, cond_true, cond_false])
   exact ⟨f.kp, p0⟩
 ·rintro a_2 w_1 ⟨f, p_1⟩
  refine T_n (wp_ret (E_ret1 f rfl (by kernel_rfl : Vc.look _ 2 = some (.bool ((decide ((-9007199254740992 : Int) ≤ n)) && (decide (n ≤ 9007199254740992))))) (⟨_, rfl, M, (mR _), p_1, ?_⟩)))
  exact cB (fits_eq _)
theorem fitsR_ok (M : Mem) (n : Int) : Ok Tryz.prog M 92 [.int .i64 n] (fun _ v => v = .bool (fitsB n)) := by
 intro M hM0 w0 H w p0
 refine R_enter 9 Tryz.func92 rfl rfl (by simp) fun a0 f0 => RR (Y f0 1 fun _ f => eT (R_seq (R_mid (fun a_2 w_1 => Frm 9 [(2, .bool ((decide ((-9007199254740992 : Int) ≤ n)) && (decide (n ≤ 9007199254740992))))] a_2 ∧ Hp w0 M (H) w_1) ?_ ?_)))
 ·refine R_reg (Y f 3 fun _ f => ?_)
  rcases bE (decide ((-9007199254740992 : Int) ≤ n)) with h_1 | h_1
  ·have k_1 := dI.1 h_1
   have f := f.st 5 (cB h_1)
   refine Y f 4 fun _ f => eT ?_
   have f := Frm.set f 2 (v := .bool (decide (n ≤ 9007199254740992))) (v' := .bool ((decide ((-9007199254740992 : Int) ≤ n)) && (decide (n ≤ 9007199254740992)))) (by kernel_rfl) (by simp only [h_1, Bool.and_true, Bool.true_and, Bool.false_and, Bool.and_false, Bool.or_true, Bool.true_or, Bool.or_false, Bool.false_or, Bool.not_true, Bool.not_false, cond_true, cond_false])
   exact ⟨f.kp, p0⟩
  ·have k_2 := iff_f dI h_1
   have f := f.st 5 (cB h_1)
   refine Y f 4 fun _ f => eT ?_
   have f := Frm.set f 2 (v := .bool false) (v' := .bool ((decide ((-9007199254740992 : Int) ≤ n)) && (decide (n ≤ 9007199254740992)))) (by kernel_rfl) (by simp only [h_1, Bool.and_true, Bool.true_and, Bool.false_and, Bool.and_false, Bool.or_true, Bool.true_or, Bool.or_false, Bool.false_or, Bool.not_true, Bool.not_false, cond_true, cond_false])
   exact ⟨f.kp, p0⟩
 ·rintro a_2 w_1 ⟨f, p_1⟩
  refine T_n (wp_ret (E_ret1 f rfl (by kernel_rfl : Vc.look _ 2 = some (.bool ((decide ((-9007199254740992 : Int) ≤ n)) && (decide (n ≤ 9007199254740992))))) (⟨_, rfl, M, (mR _), p_1, ?_⟩)))
  exact cB (fits_eqR _)
theorem digit_ok (M : Mem) (c : UInt8) : Ok Tryz.prog M 94 [.int .u8 (c.toNat : Int)] (fun _ v => v = .bool (dig c)) := by
 intro M hM0 w0 H w p0
 refine R_enter 6 Tryz.func94 rfl rfl (by simp) fun a0 f0 => RR (Y f0 1 fun _ f => eT (RR (Y f 1 fun _ f => Y f 1 fun _ f => ?_)))
 have f := Frm.set f 4 (v := .int .u8 (IntKind.wrap .u8 ((c.toNat : Int) - 48))) (v' := .int .u8 (((c.toNat : Int) - 48) % 256)) (by kernel_rfl) (congrArg (Value.int .u8) (IntKind.wrap_u8 _))
 refine Y f 2 fun _ f => eT (wp_ret (E_ret1 f rfl (by kernel_rfl : Vc.look _ 2 = some (.bool (decide ((((c.toNat : Int) - 48) % 256) < 10)))) (⟨_, rfl, M, (mR _), p0, ?_⟩)))
 exact cB (dig_prog c)
theorem digitR_ok (M : Mem) (c : UInt8) : Ok Tryz.prog M 128 [.int .u8 (c.toNat : Int)] (fun _ v => v = .bool (dig c)) := by
 intro M hM0 w0 H w p0
 refine R_enter 9 Tryz.func128 rfl rfl (by simp) fun a0 f0 => RR (Y f0 1 fun _ f => eT (R_seq (R_mid (fun a_2 w_1 => Frm 9 [(2, .bool ((decide ((48 : Int) ≤ (c.toNat : Int))) && (decide ((c.toNat : Int) ≤ 57))))] a_2 ∧ Hp w0 M (H) w_1) ?_ ?_)))
 ·refine R_reg (Y f 3 fun _ f => ?_)
  rcases bE (decide ((48 : Int) ≤ (c.toNat : Int))) with h_1 | h_1
  ·have k_1 := dI.1 h_1
   have f := f.st 5 (cB h_1)
   refine Y f 4 fun _ f => eT ?_
   have f := Frm.set f 2 (v := .bool (decide ((c.toNat : Int) ≤ 57))) (v' := .bool ((decide ((48 : Int) ≤ (c.toNat : Int))) && (decide ((c.toNat : Int) ≤ 57)))) (by kernel_rfl) (by simp only [h_1, Bool.and_true, Bool.true_and, Bool.false_and, Bool.and_false, Bool.or_true, Bool.true_or, Bool.or_false, Bool.false_or, Bool.not_true, Bool.not_false, cond_true, cond_false])
   exact ⟨f.kp, p0⟩
  ·have k_2 := iff_f dI h_1
   have f := f.st 5 (cB h_1)
   refine Y f 4 fun _ f => eT ?_
   have f := Frm.set f 2 (v := .bool false) (v' := .bool ((decide ((48 : Int) ≤ (c.toNat : Int))) && (decide ((c.toNat : Int) ≤ 57)))) (by kernel_rfl) (by simp only [h_1, Bool.and_true, Bool.true_and, Bool.false_and, Bool.and_false, Bool.or_true, Bool.true_or, Bool.or_false, Bool.false_or, Bool.not_true, Bool.not_false, cond_true, cond_false])
   exact ⟨f.kp, p0⟩
 ·rintro a_2 w_1 ⟨f, p_1⟩
  refine T_n (wp_ret (E_ret1 f rfl (by kernel_rfl : Vc.look _ 2 = some (.bool ((decide ((48 : Int) ≤ (c.toNat : Int))) && (decide ((c.toNat : Int) ≤ 57))))) (⟨_, rfl, M, (mR _), p_1, ?_⟩)))
  exact cB (dig_ref c)
theorem scanP_ok (M : Mem) (s : List UInt8) (at_ : Int) (hs : s.length ≤ 140737488351232) : Ok Tryz.prog M 74 [S s, .int .i64 at_] (fun _ v => v = .tuple #[.int .i64 (scan s at_).1, .int .i64 (scan s at_).2.1, .int .i64 (scan s at_).2.2]) := by
 intro M hM0 w0 H w p0
 refine R_enter 110 Tryz.func74 rfl rfl (by simp) fun a0 f0 => RR (Y f0 3 fun _ f => eT (R_seq (R_seq (R_mid (fun a_2 w_1 => Frm 110 [(0, S s), (1, .int .i64 at_), (4, .int .i64 0), (19, .bool ((decide (at_ < 0)) || (decide ((s.length : Int) < at_))))] a_2 ∧ Hp w0 M (H) w_1) ?_ ?_))))
 ·refine R_reg (Y f 3 fun _ f => ?_)
  rcases bE (decide (at_ < 0)) with h_1 | h_1
  ·have k_1 := dI.1 h_1
   have f := f.st 14 (cB h_1)
   refine Y f 5 fun _ f => eT ?_
   have f := Frm.set f 19 (v := .bool true) (v' := .bool ((decide (at_ < 0)) || (decide ((s.length : Int) < at_)))) (by kernel_rfl) (by simp only [h_1, Bool.and_true, Bool.true_and, Bool.false_and, Bool.and_false, Bool.or_true, Bool.true_or, Bool.or_false, Bool.false_or, Bool.not_true, Bool.not_false, cond_true, cond_false])
   exact ⟨f.kp, p0⟩
  ·have k_2 := iff_f dI h_1
   have f := f.st 14 (cB h_1)
   refine Y f 5 fun _ f => eT ?_
   have f := Frm.set f 19 (v := .bool (decide ((s.length : Int) < at_))) (v' := .bool ((decide (at_ < 0)) || (decide ((s.length : Int) < at_)))) (by kernel_rfl) (by simp only [h_1, Bool.and_true, Bool.true_and, Bool.false_and, Bool.and_false, Bool.or_true, Bool.true_or, Bool.or_false, Bool.false_or, Bool.not_true, Bool.not_false, cond_true, cond_false])
   exact ⟨f.kp, p0⟩
 ·rintro a_2 w_1 ⟨f, p_1⟩
  refine T_n (Y6 f (b := (decide (at_ < 0)) || (decide ((s.length : Int) < at_))) (fun h_2 => ?_) fun h_2 => ?_)
  ·have k_3 : (at_ < 0) ∨ ((s.length : Int) < at_) := (or_iff dI dI).1 h_2
   refine RR (Y f 3 fun _ f => eT (wp_ret (T_r (E_ret3 f rfl (by kernel_rfl : Vc.look _ 4 = some (.int .i64 0)) (by kernel_rfl : Vc.look _ 5 = some (.int .i64 0)) (by kernel_rfl : Vc.look _ 6 = some (.int .i64 2)) (⟨_, rfl, M, (mR _), p_1, ?_⟩)))))
   exact tup3 (scan_out (by omega))
  ·have k_4 : ¬ ((at_ < 0) ∨ ((s.length : Int) < at_)) := iff_f (or_iff dI dI) h_2
   refine wp_skip (T_n (RR (Y f 2 fun _ f => Z (v := S (s.drop at_.toNat)) f (X_strFrom rfl (l := s) (k := .i64) (a := at_) (by kernel_rfl) (by kernel_rfl) (by kernel_rfl) (by omega) (by omega)) fun _ f => ?_)))
   obtain ⟨l, hl⟩ : ∃ l, l = s.drop at_.toNat := ⟨_, rfl⟩
   have hll : (l.length : Int) = s.length - at_ := by rw [hl, List.length_drop]; omega
   have hf1 := fst_le1 l
   have hf2 := fst_le l
   have hsc : scan s at_ = scanL l at_ := by rw [hl]; exact scan_inside (by omega)
   have f := Frm.set f 22 (v := S (s.drop at_.toNat)) (v' := S l) (by kernel_rfl) (by rw [hl])
   refine W_bytes f p_1 (by kernel_rfl) (by kernel_rfl) rfl rfl rfl (l := l) (by kernel_rfl) (e := 5) (by kernel_rfl) (by kernel_rfl) (by kernel_rfl) fun b_1 cap_1 w_2 hcap_1 p_2 _ f => V_allocS (k := 1) (c := 1) f p_2 (.cells #[.int .u8 0] 5 (0, 0)) (by kernel_rfl) (fun _ => by kernel_rfl) fun b_2 w_3 p_3 _ f => W_bytes_push f p_3 (by kernel_rfl) (by kernel_rfl) rfl rfl rfl (l := l) (c := 0) (by kernel_rfl) (by kernel_rfl) (by kernel_rfl) (by kernel_rfl) rfl (by omega) (by omega) fun ad_1 cap_2 M_1 w_4 hM_1 p_4 kb_1 hc_1 _ f => ?_
   have kz_1 := KB.z kb_1
   refine Y f 1 fun _ f => eT (RR (Y f 1 fun _ f => Z f (Y30 rfl (ad := ad_1) (len := l.length + 1) (cap := cap_2) (k := .i64) (i := 0) (e := 5) (sz := 1) (by omega) (by omega)) fun _ f => Z f (Y32 (v := .int .u8 ((l.getD 0 0).toNat : Int)) rfl (ad := ad_1.add (((0 : Int)).toNat * 1)) (p_4.cell (KZ.get kz_1 (by omega) (by omega)))) fun _ f => ?_))
   have hb_1 := byte_lt (l.getD 0 0)
   refine Y f 1 fun _ f => ?_
   have f := Frm.set f 29 (v := .bool (decide (((l.getD 0 0).toNat : Int) = 45))) (v' := .bool (neg l)) (by kernel_rfl) (cB (neg_byte l))
   refine Y f 1 fun _ f => eT (RR (Y f 1 fun _ f => eT (R_seq (RR ?_))))
   refine Y f 1 fun _ f => eT (R_mid (fun a_20 w_5 => Frm 110 [(0, S s), (1, .int .i64 at_), (4, .int .i64 0), (7, .slice (some ad_1) (l.length + 1) cap_2), (8, .bool (neg l)), (9, .int .i64 (fst l : Int))] a_20 ∧ Hp w0 M_1 (H) w_5) ?_ ?_)
   ·refine Y6 f (b := neg l) (fun h_3 => ?_) fun h_3 => ?_
    ·refine R_reg (Y f 1 fun _ f => eT ?_)
     have f := Frm.set f 9 (v := .int .i64 1) (v' := .int .i64 (fst l : Int)) (by kernel_rfl) (by rw [fst_t h_3]; rfl)
     exact ⟨f.kp, p_4⟩
    ·refine wp_skip (T_n ?_)
     have f := Frm.set f 9 (v := .int .i64 0) (v' := .int .i64 (fst l : Int)) (by kernel_rfl) (by rw [fst_f h_3]; rfl)
     exact ⟨f.kp, p_4⟩
   ·rintro a_20 w_5 ⟨f, p_5⟩
    refine T_n (RR (Y f 2 fun _ f => eT (R_seq (wp_block ?_))))
    have f := Frm.set f 9 (v := .int .i64 (fst l : Int)) (v' := .int .i64 ((fst l) : Int)) (by kernel_rfl) (by first | rfl | (congr 1; omega) | simp)
    refine R_loop (n := 110) (w0 := w0) (M := M_1) (fun (x : Nat × Int × Nat) => match x with | (k, n, v) => [(0, S s), (1, .int .i64 at_), (4, .int .i64 n), (7, .slice (some ad_1) (l.length + 1) cap_2), (8, .bool (neg l)), (9, .int .i64 (k : Int)), (10, .int .i64 (fst l : Int))]) (fun (x : Nat × Int × Nat) => match x with | (k, n, v) => (H)) (fun (x : Nat × Int × Nat) (_ : Mem) => match x with | (k, n, v) => (ScanI l k v) ∧ (KeepP n v)) (fun (x : Nat × Int × Nat) => match x with | (k, n, v) => l.length + 1 - k) (fst l, 0, 0) (f.kp) p_5 ?_ ?_
    ·exact ⟨ScanI.start l, KeepP.start⟩
    ·rintro ⟨k, n, v⟩ M_2 _ w_6 hM_2 I_1 f p_6
     replace I_1 : (ScanI l k v) ∧ (KeepP n v) := I_1
     obtain ⟨I_s, K_s⟩ := I_1
     have hk1 := I_s.ge
     have hk2 := I_s.le
     obtain ⟨hn1, hn2, hn3, hn4⟩ := id K_s
     refine R_seq (RR (Y f 2 fun _ f => Z f (Y30 rfl (ad := ad_1) (len := l.length + 1) (cap := cap_2) (k := .i64) (i := (k : Int)) (e := 5) (sz := 1) (by omega) (by omega)) fun _ f => Z f (Y32 (v := .int .u8 ((l.getD k 0).toNat : Int)) rfl (ad := ad_1.add (((k : Int)).toNat * 1)) (p_6.cell (KZ.get (kz_1.mono hM_2) (by omega) (by omega)))) fun _ f => ?_))
     have hb_2 := byte_lt (l.getD k 0)
     refine Y18 f p_6 (digit_ok _ (l.getD k 0)) fun w_7 p_7 _ f => eT (Y6 f (b := dig (l.getD k 0)) (fun h_4 => ?_) fun h_4 => ?_)
     ·refine wp_skip (T_n (R_seq (wp_block (R_seq (R_seq (R_mid (fun a_28 w_8 => Frm 110 [(0, S s), (1, .int .i64 at_), (4, .int .i64 n), (7, .slice (some ad_1) (l.length + 1) cap_2), (8, .bool (neg l)), (9, .int .i64 (k : Int)), (10, .int .i64 (fst l : Int)), (49, .bool ((decide ((k : Int) = ((fst l : Int) + 1))) && (decide (((l.getD (fst l) 0).toNat : Int) = 48))))] a_28 ∧ Hp w0 M_2 (H) w_8) ?_ ?_))))))
      ·refine R_reg (Y f 2 fun _ f => Y f 1 fun _ f => ?_)
       have f := Frm.set f 41 (v := .int .i64 (IntKind.wrap .i64 ((fst l : Int) + 1))) (v' := .int .i64 ((fst l : Int) + 1)) (by kernel_rfl) (congrArg (Value.int .i64) (IntWalk.i64_in _ (by omega)))
       refine Y f 2 fun _ f => ?_
       rcases bE (decide ((k : Int) = ((fst l : Int) + 1))) with h_5 | h_5
       ·have k_8 := dI.1 h_5
        have f := f.st 43 (cB h_5)
        refine Y f 2 fun _ f => Z f (Y30 rfl (ad := ad_1) (len := l.length + 1) (cap := cap_2) (k := .i64) (i := (fst l : Int)) (e := 5) (sz := 1) (by omega) (by omega)) fun _ f => Z f (Y32 (v := .int .u8 ((l.getD (fst l) 0).toNat : Int)) rfl (ad := ad_1.add (((fst l : Int)).toNat * 1)) (p_7.cell (KZ.get (kz_1.mono hM_2) (by omega) (by omega)))) fun _ f => ?_
        have hb_3 := byte_lt (l.getD (fst l) 0)
        refine Y f 2 fun _ f => eT ?_
        have f := Frm.set f 49 (v := .bool (decide (((l.getD (fst l) 0).toNat : Int) = 48))) (v' := .bool ((decide ((k : Int) = ((fst l : Int) + 1))) && (decide (((l.getD (fst l) 0).toNat : Int) = 48)))) (by kernel_rfl) (by simp only [h_5, Bool.and_true, Bool.true_and, Bool.false_and, Bool.and_false, Bool.or_true, Bool.true_or, Bool.or_false, Bool.false_or, Bool.not_true, Bool.not_false, cond_true, cond_false])
        exact ⟨f.kp, p_7⟩
       ·have k_9 := iff_f dI h_5
        have f := f.st 43 (cB h_5)
        refine Y f 6 fun _ f => eT ?_
        have f := Frm.set f 49 (v := .bool false) (v' := .bool ((decide ((k : Int) = ((fst l : Int) + 1))) && (decide (((l.getD (fst l) 0).toNat : Int) = 48)))) (by kernel_rfl) (by simp only [h_5, Bool.and_true, Bool.true_and, Bool.false_and, Bool.and_false, Bool.or_true, Bool.true_or, Bool.or_false, Bool.false_or, Bool.not_true, Bool.not_false, cond_true, cond_false])
        exact ⟨f.kp, p_7⟩
      ·rintro a_28 w_8 ⟨f, p_8⟩
       refine T_n (Y6 f (b := (decide ((k : Int) = ((fst l : Int) + 1))) && (decide (((l.getD (fst l) 0).toNat : Int) = 48))) (fun h_6 => ?_) fun h_6 => ?_)
       ·have k_10 : ((k : Int) = ((fst l : Int) + 1)) ∧ (((l.getD (fst l) 0).toNat : Int) = 48) := (and_iff dI dI).1 h_6
        refine RR (Y f 2 fun _ f => Y f 1 fun _ f => ?_)
        have f := Frm.set f 52 (v := .int .i64 (IntKind.wrap .i64 (at_ + (k : Int)))) (v' := .int .i64 (at_ + (k : Int))) (by kernel_rfl) (congrArg (Value.int .i64) (IntWalk.i64_in _ (by omega)))
        refine Y f 3 fun _ f => eT (wp_ret (T_r (B_r (T_r (T_r (B_r (T_r (E_ret3 f rfl (by kernel_rfl : Vc.look _ 4 = some (.int .i64 0)) (by kernel_rfl : Vc.look _ 5 = some (.int .i64 (at_ + (k : Int)))) (by kernel_rfl : Vc.look _ 6 = some (.int .i64 20)) ?_))))))))
        refine ⟨_, rfl, M_2, (hM_1.trans hM_2), p_8, ?_⟩
        obtain ⟨e1, e2⟩ := isboth k_10
        exact tup3 (hsc.trans (I_s.early at_ h_4 e1 e2))
       ·have k_11 : ¬ (((k : Int) = ((fst l : Int) + 1)) ∧ (((l.getD (fst l) 0).toNat : Int) = 48)) := iff_f (and_iff dI dI) h_6
        refine wp_skip (T_n (RR (Y f 2 fun _ f => eT (Y6 f (b := decide (n ≤ 9007199254740992)) (fun h_7 => ?_) fun h_7 => ?_))))
        ·have k_12 := dI.1 h_7
         refine R_reg (Y f 1 fun _ f => Y f 1 fun _ f => ?_)
         have f := Frm.set f 56 (v := .int .i64 (IntKind.wrap .i64 ((10 : Int) * n))) (v' := .int .i64 ((10 : Int) * n)) (by kernel_rfl) (congrArg (Value.int .i64) (IntWalk.i64_in _ (by omega)))
         refine Y f 2 fun _ f => Z f (Y30 rfl (ad := ad_1) (len := l.length + 1) (cap := cap_2) (k := .i64) (i := (k : Int)) (e := 5) (sz := 1) (by omega) (by omega)) fun _ f => Z f (Y32 (v := .int .u8 ((l.getD k 0).toNat : Int)) rfl (ad := ad_1.add (((k : Int)).toNat * 1)) (p_8.cell (KZ.get (kz_1.mono hM_2) (by omega) (by omega)))) fun _ f => ?_
         have hb_4 := byte_lt (l.getD k 0)
         refine Y f 1 fun _ f => ?_
         have f := Frm.set f 61 (v := .int .u8 (IntKind.wrap .u8 (((l.getD k 0).toNat : Int) - 48))) (v' := .int .u8 ((((l.getD k 0).toNat : Int) - 48) % 256)) (by kernel_rfl) (congrArg (Value.int .u8) (IntKind.wrap_u8 _))
         refine Y f 1 fun _ f => ?_
         have f := Frm.set f 62 (v := .int .i64 (IntKind.wrap .i64 ((((l.getD k 0).toNat : Int) - 48) % 256))) (v' := .int .i64 ((((l.getD k 0).toNat : Int) - 48) % 256)) (by kernel_rfl) (congrArg (Value.int .i64) (IntWalk.i64_in _ (by omega)))
         refine Y f 1 fun _ f => ?_
         have f := Frm.set f 63 (v := .int .i64 (IntKind.wrap .i64 (((10 : Int) * n) + ((((l.getD k 0).toNat : Int) - 48) % 256)))) (v' := .int .i64 (((10 : Int) * n) + ((((l.getD k 0).toNat : Int) - 48) % 256))) (by kernel_rfl) (congrArg (Value.int .i64) (IntWalk.i64_in _ (by omega)))
         refine Y f 1 fun _ f => W_end rfl (B_n (T_n (R_reg (Y f 1 fun _ f => Y f 1 fun _ f => ?_))))
         have f := Frm.set f 38 (v := .int .i64 (IntKind.wrap .i64 ((k : Int) + 1))) (v' := .int .i64 ((k : Int) + 1)) (by kernel_rfl) (congrArg (Value.int .i64) (IntWalk.i64_in _ (by omega)))
         refine Y f 1 fun _ f => eT ?_
         have hkl := I_s.lt h_4
         have hzz := notboth k_11
         have f := Frm.set f 9 (v := .int .i64 ((k : Int) + 1)) (v' := .int .i64 ((k + 1) : Int)) (by kernel_rfl) (by first | rfl | (congr 1; omega) | simp)
         refine ⟨((k + 1, ((10 : Int) * n) + ((((l.getD k 0).toNat : Int) - 48) % 256), 10 * v + ((l.getD k 0).toNat - 48)) : Nat × Int × Nat), ?_, M_2, hM_2, ?_, f.kp, p_8⟩
         ·show l.length + 1 - (k + 1) < l.length + 1 - k; omega
         ·exact ⟨I_s.step h_4 hkl hzz, K_s.more _ h_4 k_12⟩
        ·have k_13 := iff_f dI h_7
         refine wp_skip (B_n (T_n (R_reg (Y f 1 fun _ f => Y f 1 fun _ f => ?_))))
         have f := Frm.set f 38 (v := .int .i64 (IntKind.wrap .i64 ((k : Int) + 1))) (v' := .int .i64 ((k : Int) + 1)) (by kernel_rfl) (congrArg (Value.int .i64) (IntWalk.i64_in _ (by omega)))
         refine Y f 1 fun _ f => eT ?_
         have hkl := I_s.lt h_4
         have hzz := notboth k_11
         have f := Frm.set f 9 (v := .int .i64 ((k : Int) + 1)) (v' := .int .i64 ((k + 1) : Int)) (by kernel_rfl) (by first | rfl | (congr 1; omega) | simp)
         refine ⟨((k + 1, n, 10 * v + ((l.getD k 0).toNat - 48)) : Nat × Int × Nat), ?_, M_2, hM_2, ?_, f.kp, p_8⟩
         ·show l.length + 1 - (k + 1) < l.length + 1 - k; omega
         ·exact ⟨I_s.step h_4 hkl hzz, K_s.full k_13⟩
     ·refine wp_exit (T_x (T_x (B_x (T_n (R_seq (RR (Y f 2 fun _ f => Z f (Y30 rfl (ad := ad_1) (len := l.length + 1) (cap := cap_2) (k := .i64) (i := (k : Int)) (e := 5) (sz := 1) (by omega) (by omega)) fun _ f => Z f (Y32 (v := .int .u8 ((l.getD k 0).toNat : Int)) rfl (ad := ad_1.add (((k : Int)).toNat * 1)) (p_7.cell (KZ.get (kz_1.mono hM_2) (by omega) (by omega)))) fun _ f => ?_)))))))
      have hb_5 := byte_lt (l.getD k 0)
      refine Y f 1 fun _ f => eT (wp_block (R_seq (RR (Y f 4 fun _ f => eT (R_mid (fun a_61 w_9 => Frm 110 [(1, .int .i64 at_), (4, .int .i64 n), (8, .bool (neg l)), (9, .int .i64 (k : Int)), (68, .bool ((decide ((k : Int) = (fst l : Int))) || ((decide ((at_ + (k : Int)) < (s.length : Int))) && ((decide (((l.getD k 0).toNat : Int) = 46)) || ((decide (((l.getD k 0).toNat : Int) = 101)) || (decide (((l.getD k 0).toNat : Int) = 69)))))))] a_61 ∧ Hp w0 M_2 (H) w_9) ?_ ?_)))))
      ·refine Y6 f (b := decide ((k : Int) = (fst l : Int))) (fun h_8 => ?_) fun h_8 => ?_
       ·have k_15 := dI.1 h_8
        refine wp_skip (T_n ?_)
        have f := Frm.set f 68 (v := .bool (decide ((k : Int) = (fst l : Int)))) (v' := .bool ((decide ((k : Int) = (fst l : Int))) || ((decide ((at_ + (k : Int)) < (s.length : Int))) && ((decide (((l.getD k 0).toNat : Int) = 46)) || ((decide (((l.getD k 0).toNat : Int) = 101)) || (decide (((l.getD k 0).toNat : Int) = 69))))))) (by kernel_rfl) (by simp only [h_8, Bool.and_true, Bool.true_and, Bool.false_and, Bool.and_false, Bool.or_true, Bool.true_or, Bool.or_false, Bool.false_or, Bool.not_true, Bool.not_false, cond_true, cond_false])
        exact ⟨f.kp, p_7⟩
       ·have k_16 := iff_f dI h_8
        refine R_mid (fun a_62 w_10 => Frm 110 [(1, .int .i64 at_), (4, .int .i64 n), (8, .bool (neg l)), (9, .int .i64 (k : Int)), (68, .bool ((decide ((at_ + (k : Int)) < (s.length : Int))) && ((decide (((l.getD k 0).toNat : Int) = 46)) || ((decide (((l.getD k 0).toNat : Int) = 101)) || (decide (((l.getD k 0).toNat : Int) = 69))))))] a_62 ∧ Hp w0 M_2 (H) w_10) ?_ ?_
        ·refine R_reg (Y f 2 fun _ f => Y f 1 fun _ f => ?_)
         have f := Frm.set f 74 (v := .int .i64 (IntKind.wrap .i64 (at_ + (k : Int)))) (v' := .int .i64 (at_ + (k : Int))) (by kernel_rfl) (congrArg (Value.int .i64) (IntWalk.i64_in _ (by omega)))
         refine Y f 4 fun _ f => ?_
         rcases bE (decide ((at_ + (k : Int)) < (s.length : Int))) with h_9 | h_9
         ·have k_17 := dI.1 h_9
          have f := f.st 78 (cB h_9)
          refine Y f 3 fun _ f => ?_
          rcases bE (decide (((l.getD k 0).toNat : Int) = 46)) with h_10 | h_10
          ·have k_18 := dI.1 h_10
           have f := f.st 81 (cB h_10)
           refine Y f 9 fun _ f => eT ?_
           have f := Frm.set f 68 (v := .bool true) (v' := .bool ((decide ((at_ + (k : Int)) < (s.length : Int))) && ((decide (((l.getD k 0).toNat : Int) = 46)) || ((decide (((l.getD k 0).toNat : Int) = 101)) || (decide (((l.getD k 0).toNat : Int) = 69)))))) (by kernel_rfl) (by simp only [h_9, h_10, Bool.and_true, Bool.true_and, Bool.false_and, Bool.and_false, Bool.or_true, Bool.true_or, Bool.or_false, Bool.false_or, Bool.not_true, Bool.not_false, cond_true, cond_false])
           exact ⟨f.kp, p_7⟩
          ·have k_19 := iff_f dI h_10
           have f := f.st 81 (cB h_10)
           refine Y f 4 fun _ f => ?_
           rcases bE (decide (((l.getD k 0).toNat : Int) = 101)) with h_11 | h_11
           ·have k_20 := dI.1 h_11
            have f := f.st 85 (cB h_11)
            refine Y f 5 fun _ f => eT ?_
            have f := Frm.set f 68 (v := .bool true) (v' := .bool ((decide ((at_ + (k : Int)) < (s.length : Int))) && ((decide (((l.getD k 0).toNat : Int) = 46)) || ((decide (((l.getD k 0).toNat : Int) = 101)) || (decide (((l.getD k 0).toNat : Int) = 69)))))) (by kernel_rfl) (by simp only [h_9, h_10, h_11, Bool.and_true, Bool.true_and, Bool.false_and, Bool.and_false, Bool.or_true, Bool.true_or, Bool.or_false, Bool.false_or, Bool.not_true, Bool.not_false, cond_true, cond_false])
            exact ⟨f.kp, p_7⟩
           ·have k_21 := iff_f dI h_11
            have f := f.st 85 (cB h_11)
            refine Y f 5 fun _ f => eT ?_
            have f := Frm.set f 68 (v := .bool (decide (((l.getD k 0).toNat : Int) = 69))) (v' := .bool ((decide ((at_ + (k : Int)) < (s.length : Int))) && ((decide (((l.getD k 0).toNat : Int) = 46)) || ((decide (((l.getD k 0).toNat : Int) = 101)) || (decide (((l.getD k 0).toNat : Int) = 69)))))) (by kernel_rfl) (by simp only [h_9, h_10, h_11, Bool.and_true, Bool.true_and, Bool.false_and, Bool.and_false, Bool.or_true, Bool.true_or, Bool.or_false, Bool.false_or, Bool.not_true, Bool.not_false, cond_true, cond_false])
            exact ⟨f.kp, p_7⟩
         ·have k_22 := iff_f dI h_9
          have f := f.st 78 (cB h_9)
          refine Y f 12 fun _ f => eT ?_
          have f := Frm.set f 68 (v := .bool false) (v' := .bool ((decide ((at_ + (k : Int)) < (s.length : Int))) && ((decide (((l.getD k 0).toNat : Int) = 46)) || ((decide (((l.getD k 0).toNat : Int) = 101)) || (decide (((l.getD k 0).toNat : Int) = 69)))))) (by kernel_rfl) (by simp only [h_9, Bool.and_true, Bool.true_and, Bool.false_and, Bool.and_false, Bool.or_true, Bool.true_or, Bool.or_false, Bool.false_or, Bool.not_true, Bool.not_false, cond_true, cond_false])
          exact ⟨f.kp, p_7⟩
        ·rintro a_62 w_10 ⟨f, p_10⟩
         refine T_n ?_
         have f := Frm.set f 68 (v := .bool ((decide ((at_ + (k : Int)) < (s.length : Int))) && ((decide (((l.getD k 0).toNat : Int) = 46)) || ((decide (((l.getD k 0).toNat : Int) = 101)) || (decide (((l.getD k 0).toNat : Int) = 69)))))) (v' := .bool ((decide ((k : Int) = (fst l : Int))) || ((decide ((at_ + (k : Int)) < (s.length : Int))) && ((decide (((l.getD k 0).toNat : Int) = 46)) || ((decide (((l.getD k 0).toNat : Int) = 101)) || (decide (((l.getD k 0).toNat : Int) = 69))))))) (by kernel_rfl) (by simp only [h_8, Bool.and_true, Bool.true_and, Bool.false_and, Bool.and_false, Bool.or_true, Bool.true_or, Bool.or_false, Bool.false_or, Bool.not_true, Bool.not_false, cond_true, cond_false])
         exact ⟨f.kp, p_10⟩
      ·rintro a_61 w_9 ⟨f, p_9⟩
       refine T_n (Y6 f (b := (decide ((k : Int) = (fst l : Int))) || ((decide ((at_ + (k : Int)) < (s.length : Int))) && ((decide (((l.getD k 0).toNat : Int) = 46)) || ((decide (((l.getD k 0).toNat : Int) = 101)) || (decide (((l.getD k 0).toNat : Int) = 69)))))) (fun h_12 => ?_) fun h_12 => ?_)
       ·have k_23 : ((k : Int) = (fst l : Int)) ∨ (((at_ + (k : Int)) < (s.length : Int)) ∧ ((((l.getD k 0).toNat : Int) = 46) ∨ ((((l.getD k 0).toNat : Int) = 101) ∨ (((l.getD k 0).toNat : Int) = 69)))) := (or_iff dI (and_iff dI (or_iff dI (or_iff dI dI)))).1 h_12
        refine RR (Y f 2 fun _ f => Y f 1 fun _ f => ?_)
        have f := Frm.set f 92 (v := .int .i64 (IntKind.wrap .i64 (at_ + (k : Int)))) (v' := .int .i64 (at_ + (k : Int))) (by kernel_rfl) (congrArg (Value.int .i64) (IntWalk.i64_in _ (by omega)))
        refine Y f 3 fun _ f => eT (wp_ret (B_r (T_r (E_ret3 f rfl (by kernel_rfl : Vc.look _ 4 = some (.int .i64 0)) (by kernel_rfl : Vc.look _ 5 = some (.int .i64 (at_ + (k : Int)))) (by kernel_rfl : Vc.look _ 6 = some (.int .i64 20)) (⟨_, rfl, M_2, (hM_1.trans hM_2), p_9, ?_⟩)))))
        exact tup3 (hsc.trans (I_s.e1 h_4 k_23))
       ·have k_24 : ¬ (((k : Int) = (fst l : Int)) ∨ (((at_ + (k : Int)) < (s.length : Int)) ∧ ((((l.getD k 0).toNat : Int) = 46) ∨ ((((l.getD k 0).toNat : Int) = 101) ∨ (((l.getD k 0).toNat : Int) = 69))))) := iff_f (or_iff dI (and_iff dI (or_iff dI (or_iff dI dI)))) h_12
        refine R_seq (RR (Y f 1 fun _ f => Y18 f p_9 (fits_ok _ (n)) fun w_11 p_11 _ f => Y f 2 fun _ f => eT (R_mid (fun a_78 w_12 => Frm 110 [(1, .int .i64 at_), (4, .int .i64 n), (8, .bool (neg l)), (9, .int .i64 (k : Int)), (93, .bool ((!(fitsB n)) || ((neg l) && (decide (n = 0)))))] a_78 ∧ Hp w0 M_2 (H) w_12) ?_ ?_)))
        ·refine Y6 f (b := !(fitsB n)) (fun h_13 => ?_) fun h_13 => ?_
         ·have k_25 : (fitsB n) = false := by simpa using h_13
          refine wp_skip (T_n ?_)
          have f := Frm.set f 93 (v := .bool (!(fitsB n))) (v' := .bool ((!(fitsB n)) || ((neg l) && (decide (n = 0))))) (by kernel_rfl) (by simp only [h_13, Bool.and_true, Bool.true_and, Bool.false_and, Bool.and_false, Bool.or_true, Bool.true_or, Bool.or_false, Bool.false_or, Bool.not_true, Bool.not_false, cond_true, cond_false])
          exact ⟨f.kp, p_11⟩
         ·have k_26 : (fitsB n) = true := by simpa using h_13
          refine R_mid (fun a_79 w_13 => Frm 110 [(1, .int .i64 at_), (4, .int .i64 n), (8, .bool (neg l)), (9, .int .i64 (k : Int)), (93, .bool ((neg l) && (decide (n = 0))))] a_79 ∧ Hp w0 M_2 (H) w_13) ?_ ?_
          ·refine R_reg (Y f 2 fun _ f => ?_)
           rcases bE (neg l) with h_14 | h_14
           ·have f := f.st 98 (cB h_14)
            refine Y f 4 fun _ f => eT ?_
            have f := Frm.set f 93 (v := .bool (decide (n = 0))) (v' := .bool ((neg l) && (decide (n = 0)))) (by kernel_rfl) (by simp only [h_14, Bool.and_true, Bool.true_and, Bool.false_and, Bool.and_false, Bool.or_true, Bool.true_or, Bool.or_false, Bool.false_or, Bool.not_true, Bool.not_false, cond_true, cond_false])
            exact ⟨f.kp, p_11⟩
           ·have f := f.st 98 (cB h_14)
            refine Y f 4 fun _ f => eT ?_
            have f := Frm.set f 93 (v := .bool false) (v' := .bool ((neg l) && (decide (n = 0)))) (by kernel_rfl) (by simp only [h_14, Bool.and_true, Bool.true_and, Bool.false_and, Bool.and_false, Bool.or_true, Bool.true_or, Bool.or_false, Bool.false_or, Bool.not_true, Bool.not_false, cond_true, cond_false])
            exact ⟨f.kp, p_11⟩
          ·rintro a_79 w_13 ⟨f, p_13⟩
           refine T_n ?_
           have f := Frm.set f 93 (v := .bool ((neg l) && (decide (n = 0)))) (v' := .bool ((!(fitsB n)) || ((neg l) && (decide (n = 0))))) (by kernel_rfl) (by simp only [h_13, Bool.and_true, Bool.true_and, Bool.false_and, Bool.and_false, Bool.or_true, Bool.true_or, Bool.or_false, Bool.false_or, Bool.not_true, Bool.not_false, cond_true, cond_false])
           exact ⟨f.kp, p_13⟩
        ·rintro a_78 w_12 ⟨f, p_12⟩
         refine T_n (Y6 f (b := (!(fitsB n)) || ((neg l) && (decide (n = 0)))) (fun h_15 => ?_) fun h_15 => ?_)
         ·have k_29 : (¬ ((fitsB n) = true)) ∨ (((neg l) = true) ∧ (n = 0)) := (or_iff (not_iff Iff.rfl) (and_iff Iff.rfl dI)).1 h_15
          refine RR (Y f 4 fun _ f => eT (wp_ret (B_r (T_r (E_ret3 f rfl (by kernel_rfl : Vc.look _ 4 = some (.int .i64 0)) (by kernel_rfl : Vc.look _ 5 = some (.int .i64 at_)) (by kernel_rfl : Vc.look _ 6 = some (.int .i64 20)) (⟨_, rfl, M_2, (hM_1.trans hM_2), p_12, ?_⟩))))))
          have hno := ScanI.no (l := l) (k := k) (sl := s.length) (at_ := at_) (by omega) k_24
          exact tup3 (hsc.trans (I_s.e2 h_4 hno (K_s.bad.1 k_29)))
         ·have k_30 : ¬ ((¬ ((fitsB n) = true)) ∨ (((neg l) = true) ∧ (n = 0))) := iff_f (or_iff (not_iff Iff.rfl) (and_iff Iff.rfl dI)) h_15
          refine wp_skip (B_n (T_n (R_seq (RR (Y f 1 fun _ f => eT (Y6 f (b := neg l) (fun h_16 => ?_) fun h_16 => ?_))))))
          ·refine R_reg (Y f 1 fun _ f => Y f 1 fun _ f => ?_)
           have f := Frm.set f 105 (v := .int .i64 (IntKind.wrap .i64 (0 - n))) (v' := .int .i64 (-n)) (by kernel_rfl) (congrArg (Value.int .i64) ((IntWalk.i64_in _ (by omega)).trans (Int.zero_sub _)))
           refine Y f 1 fun _ f => eT (RR (Y f 3 fun _ f => Y f 1 fun _ f => ?_))
           have f := Frm.set f 109 (v := .int .i64 (IntKind.wrap .i64 (at_ + (k : Int)))) (v' := .int .i64 (at_ + (k : Int))) (by kernel_rfl) (congrArg (Value.int .i64) (IntWalk.i64_in _ (by omega)))
           refine Y f 3 fun _ f => eT (wp_ret (E_ret3 f rfl (by kernel_rfl : Vc.look _ 4 = some (.int .i64 (-n))) (by kernel_rfl : Vc.look _ 5 = some (.int .i64 (at_ + (k : Int)))) (by kernel_rfl : Vc.look _ 6 = some (.int .i64 0)) (⟨_, rfl, M_2, (hM_1.trans hM_2), p_12, ?_⟩)))
           have hno := ScanI.no (l := l) (k := k) (sl := s.length) (at_ := at_) (by omega) k_24
           have hbb := fun x => k_30 (K_s.bad.2 x)
           exact tup3 (hsc.trans ((I_s.e3 h_4 hno hbb).trans (by rw [h_16, K_s.val hbb]; rfl)))
          ·refine wp_skip (T_n (RR (Y f 3 fun _ f => Y f 1 fun _ f => ?_)))
           have f := Frm.set f 109 (v := .int .i64 (IntKind.wrap .i64 (at_ + (k : Int)))) (v' := .int .i64 (at_ + (k : Int))) (by kernel_rfl) (congrArg (Value.int .i64) (IntWalk.i64_in _ (by omega)))
           refine Y f 3 fun _ f => eT (wp_ret (E_ret3 f rfl (by kernel_rfl : Vc.look _ 4 = some (.int .i64 n)) (by kernel_rfl : Vc.look _ 5 = some (.int .i64 (at_ + (k : Int)))) (by kernel_rfl : Vc.look _ 6 = some (.int .i64 0)) (⟨_, rfl, M_2, (hM_1.trans hM_2), p_12, ?_⟩)))
           have hno := ScanI.no (l := l) (k := k) (sl := s.length) (at_ := at_) (by omega) k_24
           have hbb := fun x => k_30 (K_s.bad.2 x)
           exact tup3 (hsc.trans ((I_s.e3 h_4 hno hbb).trans (by rw [h_16, K_s.val hbb]; rfl)))
theorem scanR_ok (M : Mem) (s : List UInt8) (at_ : Int) (hs : s.length ≤ 140737488351232) : Ok Tryz.prog M 110 [S s, .int .i64 at_] (fun _ v => v = .tuple #[.int .i64 (scan s at_).1, .int .i64 (scan s at_).2.1, .int .i64 (scan s at_).2.2]) := by
 intro M hM0 w0 H w p0
 refine R_enter 110 Tryz.func110 rfl rfl (by simp) fun a0 f0 => RR (Y f0 3 fun _ f => eT (R_seq (R_seq (R_mid (fun a_2 w_1 => Frm 110 [(0, S s), (1, .int .i64 at_), (19, .bool ((decide (at_ < 0)) || (decide ((s.length : Int) < at_))))] a_2 ∧ Hp w0 M (H) w_1) ?_ ?_))))
 ·refine R_reg (Y f 3 fun _ f => ?_)
  rcases bE (decide (at_ < 0)) with h_1 | h_1
  ·have k_1 := dI.1 h_1
   have f := f.st 14 (cB h_1)
   refine Y f 5 fun _ f => eT ?_
   have f := Frm.set f 19 (v := .bool true) (v' := .bool ((decide (at_ < 0)) || (decide ((s.length : Int) < at_)))) (by kernel_rfl) (by simp only [h_1, Bool.and_true, Bool.true_and, Bool.false_and, Bool.and_false, Bool.or_true, Bool.true_or, Bool.or_false, Bool.false_or, Bool.not_true, Bool.not_false, cond_true, cond_false])
   exact ⟨f.kp, p0⟩
  ·have k_2 := iff_f dI h_1
   have f := f.st 14 (cB h_1)
   refine Y f 5 fun _ f => eT ?_
   have f := Frm.set f 19 (v := .bool (decide ((s.length : Int) < at_))) (v' := .bool ((decide (at_ < 0)) || (decide ((s.length : Int) < at_)))) (by kernel_rfl) (by simp only [h_1, Bool.and_true, Bool.true_and, Bool.false_and, Bool.and_false, Bool.or_true, Bool.true_or, Bool.or_false, Bool.false_or, Bool.not_true, Bool.not_false, cond_true, cond_false])
   exact ⟨f.kp, p0⟩
 ·rintro a_2 w_1 ⟨f, p_1⟩
  refine T_n (Y6 f (b := (decide (at_ < 0)) || (decide ((s.length : Int) < at_))) (fun h_2 => ?_) fun h_2 => ?_)
  ·have k_3 : (at_ < 0) ∨ ((s.length : Int) < at_) := (or_iff dI dI).1 h_2
   refine RR (Y f 3 fun _ f => eT (wp_ret (T_r (E_ret3 f rfl (by kernel_rfl : Vc.look _ 4 = some (.int .i64 0)) (by kernel_rfl : Vc.look _ 5 = some (.int .i64 0)) (by kernel_rfl : Vc.look _ 6 = some (.int .i64 2)) (⟨_, rfl, M, (mR _), p_1, ?_⟩)))))
   exact tup3 (scan_out (by omega))
  ·have k_4 : ¬ ((at_ < 0) ∨ ((s.length : Int) < at_)) := iff_f (or_iff dI dI) h_2
   refine wp_skip (T_n (RR (Y f 2 fun _ f => ?_)))
   obtain ⟨l, hl⟩ : ∃ l, l = s.drop at_.toNat := ⟨_, rfl⟩
   have hll : (l.length : Int) = s.length - at_ := by rw [hl, List.length_drop]; omega
   have hf1 := fst_le1 l
   have hf2 := fst_le l
   have hsc : scan s at_ = scanL l at_ := by rw [hl]; exact scan_inside (by omega)
   have hsg : ∀ (i : Int) (k : Nat), i = at_ + k → s.getD i.toNat 0 = l.getD k 0 := fun i k h => by rw [hl]; exact getD_at s at_ i k (by omega) h
   refine eT (R_seq (R_mid (fun a_8 w_2 => Frm 110 [(0, S s), (1, .int .i64 at_), (7, .int .i64 at_), (8, .bool (neg l))] a_8 ∧ Hp w0 M (H) w_2) ?_ ?_))
   ·refine R_reg (Y f 5 fun _ f => ?_)
    rcases bE (decide (at_ < (s.length : Int))) with h_3 | h_3
    ·have k_5 := dI.1 h_3
     have f := f.st 25 (cB h_3)
     refine Y f 2 fun _ f => Z f (Y37 rfl (l := s) (k := .i64) (i := at_) (by omega) (by omega)) fun _ f => ?_
     have f := Frm.set f 28 (v := .int .u8 ((s.getD at_.toNat 0).toNat : Int)) (v' := .int .u8 ((l.getD 0 0).toNat : Int)) (by kernel_rfl) (congrArg (fun c : UInt8 => Value.int .u8 ((c.toNat : Nat) : Int)) (hsg _ _ (by omega)))
     have hb_1 := byte_lt (l.getD 0 0)
     refine Y f 3 fun _ f => eT ?_
     have f := Frm.set f 8 (v := .bool (decide (((l.getD 0 0).toNat : Int) = 45))) (v' := .bool (neg l)) (by kernel_rfl) (cB (by rw [← neg_in (l := l) (sl := s.length) (at_ := at_) (by omega)]; simp only [h_3, Bool.true_and, Bool.false_and]))
     exact ⟨f.kp, p_1⟩
    ·have k_6 := iff_f dI h_3
     have f := f.st 25 (cB h_3)
     refine Y f 6 fun _ f => eT ?_
     have f := Frm.set f 8 (v := .bool false) (v' := .bool (neg l)) (by kernel_rfl) (cB (by rw [← neg_in (l := l) (sl := s.length) (at_ := at_) (by omega)]; simp only [h_3, Bool.true_and, Bool.false_and]))
     exact ⟨f.kp, p_1⟩
   ·rintro a_8 w_2 ⟨f, p_2⟩
    refine T_n (R_seq (RR (Y f 1 fun _ f => eT (R_mid (fun a_15 w_3 => Frm 110 [(0, S s), (1, .int .i64 at_), (7, .int .i64 (at_ + (fst l : Int))), (8, .bool (neg l))] a_15 ∧ Hp w0 M (H) w_3) ?_ ?_))))
    ·refine Y6 f (b := neg l) (fun h_4 => ?_) fun h_4 => ?_
     ·refine R_reg (Y f 1 fun _ f => Y f 1 fun _ f => ?_)
      have f := Frm.set f 33 (v := .int .i64 (IntKind.wrap .i64 (at_ + 1))) (v' := .int .i64 (at_ + 1)) (by kernel_rfl) (congrArg (Value.int .i64) (IntWalk.i64_in _ (by omega)))
      refine Y f 1 fun _ f => eT ?_
      have f := Frm.set f 7 (v := .int .i64 (at_ + 1)) (v' := .int .i64 (at_ + (fst l : Int))) (by kernel_rfl) (congrArg (Value.int .i64) (by rw [fst_t h_4]; rfl))
      exact ⟨f.kp, p_2⟩
     ·refine wp_skip (T_n ?_)
      have f := Frm.set f 7 (v := .int .i64 at_) (v' := .int .i64 (at_ + (fst l : Int))) (by kernel_rfl) (congrArg (Value.int .i64) (by rw [fst_f h_4]; simp))
      exact ⟨f.kp, p_2⟩
    ·rintro a_15 w_3 ⟨f, p_3⟩
     refine T_n (RR (Y f 2 fun _ f => eT (RR (Y f 1 fun _ f => eT ?_))))
     refine RR (Y f 1 fun _ f => eT (R_seq (wp_block ?_)))
     have f := Frm.set f 7 (v := .int .i64 (at_ + (fst l : Int))) (v' := .int .i64 (at_ + ((fst l) : Int))) (by kernel_rfl) (by first | rfl | (congr 1; omega) | simp)
     refine R_loop (n := 110) (w0 := w0) (M := M) (fun (x : Nat × Int × Bool × Nat) => match x with | (k, n, gr, v) => [(0, S s), (1, .int .i64 at_), (7, .int .i64 (at_ + (k : Int))), (8, .bool (neg l)), (9, .int .i64 (at_ + (fst l : Int))), (10, .int .i64 n), (11, .bool gr)]) (fun (x : Nat × Int × Bool × Nat) => match x with | (k, n, gr, v) => (H)) (fun (x : Nat × Int × Bool × Nat) (_ : Mem) => match x with | (k, n, gr, v) => (ScanI l k v) ∧ (KeepR n gr v)) (fun (x : Nat × Int × Bool × Nat) => match x with | (k, n, gr, v) => l.length + 1 - k) (fst l, 0, false, 0) (f.kp) p_3 ?_ ?_
     ·exact ⟨ScanI.start l, KeepR.start⟩
     ·rintro ⟨k, n, gr, v⟩ M_1 _ w_4 hM_1 I_1 f p_4
      replace I_1 : (ScanI l k v) ∧ (KeepR n gr v) := I_1
      obtain ⟨I_s, K_s⟩ := I_1
      have hk1 := I_s.ge
      have hk2 := I_s.le
      obtain ⟨hn1, hn2, hn3, hn4⟩ := id K_s
      refine R_seq (R_seq (R_mid (fun a_23 w_5 => Frm 110 [(0, S s), (1, .int .i64 at_), (7, .int .i64 (at_ + (k : Int))), (8, .bool (neg l)), (9, .int .i64 (at_ + (fst l : Int))), (10, .int .i64 n), (11, .bool gr), (44, .bool ((decide ((at_ + (k : Int)) < (s.length : Int))) && (dig (l.getD k 0))))] a_23 ∧ Hp w0 M_1 (H) w_5) ?_ ?_))
      ·refine R_reg (Y f 5 fun _ f => ?_)
       rcases bE (decide ((at_ + (k : Int)) < (s.length : Int))) with h_5 | h_5
       ·have k_9 := dI.1 h_5
        have f := f.st 39 (cB h_5)
        refine Y f 2 fun _ f => Z f (Y37 rfl (l := s) (k := .i64) (i := (at_ + (k : Int))) (by omega) (by omega)) fun _ f => ?_
        have f := Frm.set f 42 (v := .int .u8 ((s.getD ((at_ + (k : Int))).toNat 0).toNat : Int)) (v' := .int .u8 ((l.getD k 0).toNat : Int)) (by kernel_rfl) (congrArg (fun c : UInt8 => Value.int .u8 ((c.toNat : Nat) : Int)) (hsg _ _ (by omega)))
        have hb_2 := byte_lt (l.getD k 0)
        refine Y18 f p_4 (digitR_ok _ (l.getD k 0)) fun w_6 p_6 _ f => Y f 1 fun _ f => eT ?_
        have f := Frm.set f 44 (v := .bool (dig (l.getD k 0))) (v' := .bool ((decide ((at_ + (k : Int)) < (s.length : Int))) && (dig (l.getD k 0)))) (by kernel_rfl) (by simp only [h_5, Bool.and_true, Bool.true_and, Bool.false_and, Bool.and_false, Bool.or_true, Bool.true_or, Bool.or_false, Bool.false_or, Bool.not_true, Bool.not_false, cond_true, cond_false])
        exact ⟨f.kp, p_6⟩
       ·have k_10 := iff_f dI h_5
        have f := f.st 39 (cB h_5)
        refine Y f 5 fun _ f => eT ?_
        have f := Frm.set f 44 (v := .bool false) (v' := .bool ((decide ((at_ + (k : Int)) < (s.length : Int))) && (dig (l.getD k 0)))) (by kernel_rfl) (by simp only [h_5, Bool.and_true, Bool.true_and, Bool.false_and, Bool.and_false, Bool.or_true, Bool.true_or, Bool.or_false, Bool.false_or, Bool.not_true, Bool.not_false, cond_true, cond_false])
        exact ⟨f.kp, p_4⟩
      ·rintro a_23 w_5 ⟨f, p_5⟩
       refine T_n (Y6 f (b := (decide ((at_ + (k : Int)) < (s.length : Int))) && (dig (l.getD k 0))) (fun h_6 => ?_) fun h_6 => ?_)
       ·have k_11 : ((at_ + (k : Int)) < (s.length : Int)) ∧ ((dig (l.getD k 0)) = true) := (and_iff dI Iff.rfl).1 h_6
        refine wp_skip (T_n (wp_block (R_seq (R_seq (R_mid (fun a_30 w_7 => Frm 110 [(0, S s), (1, .int .i64 at_), (7, .int .i64 (at_ + (k : Int))), (8, .bool (neg l)), (9, .int .i64 (at_ + (fst l : Int))), (10, .int .i64 n), (11, .bool gr), (54, .bool ((decide ((at_ + (k : Int)) = ((at_ + (fst l : Int)) + 1))) && (decide (((l.getD (fst l) 0).toNat : Int) = 48))))] a_30 ∧ Hp w0 M_1 (H) w_7) ?_ ?_)))))
        ·refine R_reg (Y f 2 fun _ f => Y f 1 fun _ f => ?_)
         have f := Frm.set f 47 (v := .int .i64 (IntKind.wrap .i64 ((at_ + (fst l : Int)) + 1))) (v' := .int .i64 ((at_ + (fst l : Int)) + 1)) (by kernel_rfl) (congrArg (Value.int .i64) (IntWalk.i64_in _ (by omega)))
         refine Y f 2 fun _ f => ?_
         rcases bE (decide ((at_ + (k : Int)) = ((at_ + (fst l : Int)) + 1))) with h_7 | h_7
         ·have k_12 := dI.1 h_7
          have f := f.st 49 (cB h_7)
          refine Y f 2 fun _ f => Z f (Y37 rfl (l := s) (k := .i64) (i := (at_ + (fst l : Int))) (by omega) (by omega)) fun _ f => ?_
          have f := Frm.set f 52 (v := .int .u8 ((s.getD ((at_ + (fst l : Int))).toNat 0).toNat : Int)) (v' := .int .u8 ((l.getD (fst l) 0).toNat : Int)) (by kernel_rfl) (congrArg (fun c : UInt8 => Value.int .u8 ((c.toNat : Nat) : Int)) (hsg _ _ (by omega)))
          have hb_3 := byte_lt (l.getD (fst l) 0)
          refine Y f 2 fun _ f => eT ?_
          have f := Frm.set f 54 (v := .bool (decide (((l.getD (fst l) 0).toNat : Int) = 48))) (v' := .bool ((decide ((at_ + (k : Int)) = ((at_ + (fst l : Int)) + 1))) && (decide (((l.getD (fst l) 0).toNat : Int) = 48)))) (by kernel_rfl) (by simp only [h_7, Bool.and_true, Bool.true_and, Bool.false_and, Bool.and_false, Bool.or_true, Bool.true_or, Bool.or_false, Bool.false_or, Bool.not_true, Bool.not_false, cond_true, cond_false])
          exact ⟨f.kp, p_5⟩
         ·have k_13 := iff_f dI h_7
          have f := f.st 49 (cB h_7)
          refine Y f 5 fun _ f => eT ?_
          have f := Frm.set f 54 (v := .bool false) (v' := .bool ((decide ((at_ + (k : Int)) = ((at_ + (fst l : Int)) + 1))) && (decide (((l.getD (fst l) 0).toNat : Int) = 48)))) (by kernel_rfl) (by simp only [h_7, Bool.and_true, Bool.true_and, Bool.false_and, Bool.and_false, Bool.or_true, Bool.true_or, Bool.or_false, Bool.false_or, Bool.not_true, Bool.not_false, cond_true, cond_false])
          exact ⟨f.kp, p_5⟩
        ·rintro a_30 w_7 ⟨f, p_7⟩
         refine T_n (Y6 f (b := (decide ((at_ + (k : Int)) = ((at_ + (fst l : Int)) + 1))) && (decide (((l.getD (fst l) 0).toNat : Int) = 48))) (fun h_8 => ?_) fun h_8 => ?_)
         ·have k_14 : ((at_ + (k : Int)) = ((at_ + (fst l : Int)) + 1)) ∧ (((l.getD (fst l) 0).toNat : Int) = 48) := (and_iff dI dI).1 h_8
          refine RR (Y f 4 fun _ f => eT (wp_ret (T_r (B_r (T_r (B_r (T_r ?_)))))))
          refine E_ret3 f rfl (by kernel_rfl : Vc.look _ 4 = some (.int .i64 0)) (by kernel_rfl : Vc.look _ 5 = some (.int .i64 (at_ + (k : Int)))) (by kernel_rfl : Vc.look _ 6 = some (.int .i64 20)) (⟨_, rfl, M_1, hM_1, p_7, ?_⟩)
          obtain ⟨e1, e2⟩ := isboth (l := l) (k := k) ⟨by omega, by omega⟩
          exact tup3 (hsc.trans (I_s.early at_ k_11.2 e1 e2))
         ·have k_15 : ¬ (((at_ + (k : Int)) = ((at_ + (fst l : Int)) + 1)) ∧ (((l.getD (fst l) 0).toNat : Int) = 48)) := iff_f (and_iff dI dI) h_8
          refine wp_skip (T_n (RR (Y f 1 fun _ f => Y f 1 fun _ f => ?_)))
          have f := Frm.set f 57 (v := .int .i64 (IntKind.wrap .i64 (n * 10))) (v' := .int .i64 (n * 10)) (by kernel_rfl) (congrArg (Value.int .i64) (IntWalk.i64_in _ (by omega)))
          refine Y f 2 fun _ f => Z f (Y37 rfl (l := s) (k := .i64) (i := (at_ + (k : Int))) (by omega) (by omega)) fun _ f => ?_
          have f := Frm.set f 60 (v := .int .u8 ((s.getD ((at_ + (k : Int))).toNat 0).toNat : Int)) (v' := .int .u8 ((l.getD k 0).toNat : Int)) (by kernel_rfl) (congrArg (fun c : UInt8 => Value.int .u8 ((c.toNat : Nat) : Int)) (hsg _ _ (by omega)))
          have hb_4 := byte_lt (l.getD k 0)
          refine Y f 1 fun _ f => ?_
          have f := Frm.set f 61 (v := .int .u8 (IntKind.wrap .u8 (((l.getD k 0).toNat : Int) - 48))) (v' := .int .u8 ((((l.getD k 0).toNat : Int) - 48) % 256)) (by kernel_rfl) (congrArg (Value.int .u8) (IntKind.wrap_u8 _))
          refine Y f 1 fun _ f => ?_
          have f := Frm.set f 62 (v := .int .i64 (IntKind.wrap .i64 ((((l.getD k 0).toNat : Int) - 48) % 256))) (v' := .int .i64 ((((l.getD k 0).toNat : Int) - 48) % 256)) (by kernel_rfl) (congrArg (Value.int .i64) (IntWalk.i64_in _ (by omega)))
          refine Y f 1 fun _ f => ?_
          have f := Frm.set f 63 (v := .int .i64 (IntKind.wrap .i64 ((n * 10) + ((((l.getD k 0).toNat : Int) - 48) % 256)))) (v' := .int .i64 ((n * 10) + ((((l.getD k 0).toNat : Int) - 48) % 256))) (by kernel_rfl) (congrArg (Value.int .i64) (IntWalk.i64_in _ (by omega)))
          refine Y f 1 fun _ f => eT (R_seq (RR (Y f 2 fun _ f => eT (Y6 f (b := decide ((9007199254740992 : Int) < ((n * 10) + ((((l.getD k 0).toNat : Int) - 48) % 256)))) (fun h_9 => ?_) fun h_9 => ?_))))
          ·have k_16 := dI.1 h_9
           refine RR (Y f 1 fun _ f => eT (R_reg (Y f 1 fun _ f => eT (R_reg (Y f 1 fun _ f => ?_)))))
           refine Y f 1 fun _ f => ?_
           have f := Frm.set f 67 (v := .int .i64 (IntKind.wrap .i64 ((at_ + (k : Int)) + 1))) (v' := .int .i64 ((at_ + (k : Int)) + 1)) (by kernel_rfl) (congrArg (Value.int .i64) (IntWalk.i64_in _ (by omega)))
           refine Y f 1 fun _ f => W_end rfl (B_n (T_n ?_))
           have hkl := I_s.lt k_11.2
           have hzz := notboth (l := l) (k := k) (fun hh => k_15 ⟨by omega, hh.2⟩)
           have f := Frm.set f 7 (v := .int .i64 ((at_ + (k : Int)) + 1)) (v' := .int .i64 (at_ + ((k + 1) : Int))) (by kernel_rfl) (by first | rfl | (congr 1; omega) | simp)
           refine ⟨((k + 1, 9007199254740992, true, 10 * v + ((l.getD k 0).toNat - 48)) : Nat × Int × Bool × Nat), ?_, M_1, hM_1, ?_, f.kp, p_7⟩
           ·show l.length + 1 - (k + 1) < l.length + 1 - k; omega
           ·exact ⟨I_s.step k_11.2 hkl hzz, K_s.over k_11.2 k_16⟩
          ·have k_17 := iff_f dI h_9
           refine wp_skip (T_n (R_reg (Y f 1 fun _ f => Y f 1 fun _ f => ?_)))
           have f := Frm.set f 67 (v := .int .i64 (IntKind.wrap .i64 ((at_ + (k : Int)) + 1))) (v' := .int .i64 ((at_ + (k : Int)) + 1)) (by kernel_rfl) (congrArg (Value.int .i64) (IntWalk.i64_in _ (by omega)))
           refine Y f 1 fun _ f => W_end rfl (B_n (T_n ?_))
           have hkl := I_s.lt k_11.2
           have hzz := notboth (l := l) (k := k) (fun hh => k_15 ⟨by omega, hh.2⟩)
           have f := Frm.set f 7 (v := .int .i64 ((at_ + (k : Int)) + 1)) (v' := .int .i64 (at_ + ((k + 1) : Int))) (by kernel_rfl) (by first | rfl | (congr 1; omega) | simp)
           refine ⟨((k + 1, (n * 10) + ((((l.getD k 0).toNat : Int) - 48) % 256), gr, 10 * v + ((l.getD k 0).toNat - 48)) : Nat × Int × Bool × Nat), ?_, M_1, hM_1, ?_, f.kp, p_7⟩
           ·show l.length + 1 - (k + 1) < l.length + 1 - k; omega
           ·exact ⟨I_s.step k_11.2 hkl hzz, K_s.under k_11.2 k_17⟩
       ·have k_18 : ¬ (((at_ + (k : Int)) < (s.length : Int)) ∧ ((dig (l.getD k 0)) = true)) := iff_f (and_iff dI Iff.rfl) h_6
        refine wp_exit (T_x (T_x (B_x (T_n (R_seq (R_seq (R_mid (fun a_56 w_8 => Frm 110 [(1, .int .i64 at_), (7, .int .i64 (at_ + (k : Int))), (8, .bool (neg l)), (10, .int .i64 n), (11, .bool gr), (94, .bool ((decide ((at_ + (k : Int)) = (at_ + (fst l : Int)))) || ((decide ((at_ + (k : Int)) < (s.length : Int))) && ((decide (((l.getD k 0).toNat : Int) = 46)) || ((decide (((l.getD k 0).toNat : Int) = 101)) || (decide (((l.getD k 0).toNat : Int) = 69)))))))] a_56 ∧ Hp w0 M_1 (H) w_8) ?_ ?_)))))))
        ·refine R_reg (Y f 4 fun _ f => ?_)
         rcases bE (decide ((at_ + (k : Int)) = (at_ + (fst l : Int)))) with h_10 | h_10
         ·have k_19 := dI.1 h_10
          have f := f.st 71 (cB h_10)
          refine Y f 23 fun _ f => eT ?_
          have f := Frm.set f 94 (v := .bool true) (v' := .bool ((decide ((at_ + (k : Int)) = (at_ + (fst l : Int)))) || ((decide ((at_ + (k : Int)) < (s.length : Int))) && ((decide (((l.getD k 0).toNat : Int) = 46)) || ((decide (((l.getD k 0).toNat : Int) = 101)) || (decide (((l.getD k 0).toNat : Int) = 69))))))) (by kernel_rfl) (by simp only [h_10, Bool.and_true, Bool.true_and, Bool.false_and, Bool.and_false, Bool.or_true, Bool.true_or, Bool.or_false, Bool.false_or, Bool.not_true, Bool.not_false, cond_true, cond_false])
          exact ⟨f.kp, p_5⟩
         ·have k_20 := iff_f dI h_10
          have f := f.st 71 (cB h_10)
          refine Y f 5 fun _ f => ?_
          rcases bE (decide ((at_ + (k : Int)) < (s.length : Int))) with h_11 | h_11
          ·have k_21 := dI.1 h_11
           have f := f.st 76 (cB h_11)
           refine Y f 2 fun _ f => Z f (Y37 rfl (l := s) (k := .i64) (i := (at_ + (k : Int))) (by omega) (by omega)) fun _ f => ?_
           have f := Frm.set f 79 (v := .int .u8 ((s.getD ((at_ + (k : Int))).toNat 0).toNat : Int)) (v' := .int .u8 ((l.getD k 0).toNat : Int)) (by kernel_rfl) (congrArg (fun c : UInt8 => Value.int .u8 ((c.toNat : Nat) : Int)) (hsg _ _ (by omega)))
           have hb_5 := byte_lt (l.getD k 0)
           refine Y f 2 fun _ f => ?_
           rcases bE (decide (((l.getD k 0).toNat : Int) = 46)) with h_12 | h_12
           ·have k_22 := dI.1 h_12
            have f := f.st 81 (cB h_12)
            refine Y f 13 fun _ f => eT ?_
            have f := Frm.set f 94 (v := .bool true) (v' := .bool ((decide ((at_ + (k : Int)) = (at_ + (fst l : Int)))) || ((decide ((at_ + (k : Int)) < (s.length : Int))) && ((decide (((l.getD k 0).toNat : Int) = 46)) || ((decide (((l.getD k 0).toNat : Int) = 101)) || (decide (((l.getD k 0).toNat : Int) = 69))))))) (by kernel_rfl) (by simp only [h_10, h_11, h_12, Bool.and_true, Bool.true_and, Bool.false_and, Bool.and_false, Bool.or_true, Bool.true_or, Bool.or_false, Bool.false_or, Bool.not_true, Bool.not_false, cond_true, cond_false])
            exact ⟨f.kp, p_5⟩
           ·have k_23 := iff_f dI h_12
            have f := f.st 81 (cB h_12)
            refine Y f 2 fun _ f => Z f (Y37 rfl (l := s) (k := .i64) (i := (at_ + (k : Int))) (by omega) (by omega)) fun _ f => ?_
            have f := Frm.set f 84 (v := .int .u8 ((s.getD ((at_ + (k : Int))).toNat 0).toNat : Int)) (v' := .int .u8 ((l.getD k 0).toNat : Int)) (by kernel_rfl) (congrArg (fun c : UInt8 => Value.int .u8 ((c.toNat : Nat) : Int)) (hsg _ _ (by omega)))
            have hb_6 := byte_lt (l.getD k 0)
            refine Y f 3 fun _ f => ?_
            rcases bE (decide (((l.getD k 0).toNat : Int) = 101)) with h_13 | h_13
            ·have k_24 := dI.1 h_13
             have f := f.st 87 (cB h_13)
             refine Y f 7 fun _ f => eT ?_
             have f := Frm.set f 94 (v := .bool true) (v' := .bool ((decide ((at_ + (k : Int)) = (at_ + (fst l : Int)))) || ((decide ((at_ + (k : Int)) < (s.length : Int))) && ((decide (((l.getD k 0).toNat : Int) = 46)) || ((decide (((l.getD k 0).toNat : Int) = 101)) || (decide (((l.getD k 0).toNat : Int) = 69))))))) (by kernel_rfl) (by simp only [h_10, h_11, h_12, h_13, Bool.and_true, Bool.true_and, Bool.false_and, Bool.and_false, Bool.or_true, Bool.true_or, Bool.or_false, Bool.false_or, Bool.not_true, Bool.not_false, cond_true, cond_false])
             exact ⟨f.kp, p_5⟩
            ·have k_25 := iff_f dI h_13
             have f := f.st 87 (cB h_13)
             refine Y f 2 fun _ f => Z f (Y37 rfl (l := s) (k := .i64) (i := (at_ + (k : Int))) (by omega) (by omega)) fun _ f => ?_
             have f := Frm.set f 90 (v := .int .u8 ((s.getD ((at_ + (k : Int))).toNat 0).toNat : Int)) (v' := .int .u8 ((l.getD k 0).toNat : Int)) (by kernel_rfl) (congrArg (fun c : UInt8 => Value.int .u8 ((c.toNat : Nat) : Int)) (hsg _ _ (by omega)))
             have hb_7 := byte_lt (l.getD k 0)
             refine Y f 4 fun _ f => eT ?_
             have f := Frm.set f 94 (v := .bool (decide (((l.getD k 0).toNat : Int) = 69))) (v' := .bool ((decide ((at_ + (k : Int)) = (at_ + (fst l : Int)))) || ((decide ((at_ + (k : Int)) < (s.length : Int))) && ((decide (((l.getD k 0).toNat : Int) = 46)) || ((decide (((l.getD k 0).toNat : Int) = 101)) || (decide (((l.getD k 0).toNat : Int) = 69))))))) (by kernel_rfl) (by simp only [h_10, h_11, h_12, h_13, Bool.and_true, Bool.true_and, Bool.false_and, Bool.and_false, Bool.or_true, Bool.true_or, Bool.or_false, Bool.false_or, Bool.not_true, Bool.not_false, cond_true, cond_false])
             exact ⟨f.kp, p_5⟩
          ·have k_26 := iff_f dI h_11
           have f := f.st 76 (cB h_11)
           refine Y f 18 fun _ f => eT ?_
           have f := Frm.set f 94 (v := .bool false) (v' := .bool ((decide ((at_ + (k : Int)) = (at_ + (fst l : Int)))) || ((decide ((at_ + (k : Int)) < (s.length : Int))) && ((decide (((l.getD k 0).toNat : Int) = 46)) || ((decide (((l.getD k 0).toNat : Int) = 101)) || (decide (((l.getD k 0).toNat : Int) = 69))))))) (by kernel_rfl) (by simp only [h_10, h_11, Bool.and_true, Bool.true_and, Bool.false_and, Bool.and_false, Bool.or_true, Bool.true_or, Bool.or_false, Bool.false_or, Bool.not_true, Bool.not_false, cond_true, cond_false])
           exact ⟨f.kp, p_5⟩
        ·rintro a_56 w_8 ⟨f, p_8⟩
         refine T_n (Y6 f (b := (decide ((at_ + (k : Int)) = (at_ + (fst l : Int)))) || ((decide ((at_ + (k : Int)) < (s.length : Int))) && ((decide (((l.getD k 0).toNat : Int) = 46)) || ((decide (((l.getD k 0).toNat : Int) = 101)) || (decide (((l.getD k 0).toNat : Int) = 69)))))) (fun h_14 => ?_) fun h_14 => ?_)
         ·have k_27 : ((at_ + (k : Int)) = (at_ + (fst l : Int))) ∨ (((at_ + (k : Int)) < (s.length : Int)) ∧ ((((l.getD k 0).toNat : Int) = 46) ∨ ((((l.getD k 0).toNat : Int) = 101) ∨ (((l.getD k 0).toNat : Int) = 69)))) := (or_iff dI (and_iff dI (or_iff dI (or_iff dI dI)))).1 h_14
          refine RR (Y f 4 fun _ f => eT (wp_ret (T_r (E_ret3 f rfl (by kernel_rfl : Vc.look _ 4 = some (.int .i64 0)) (by kernel_rfl : Vc.look _ 5 = some (.int .i64 (at_ + (k : Int)))) (by kernel_rfl : Vc.look _ 6 = some (.int .i64 20)) (⟨_, rfl, M_1, hM_1, p_8, ?_⟩)))))
          have hdf := not_dig_out (l := l) (k := k) (sl := s.length) (at_ := at_) (by omega) k_18
          have h12 : ((k : Int) = (fst l : Int) ∨ (at_ + (k : Int) < (s.length : Int) ∧ (((l.getD k 0).toNat : Int) = 46 ∨ (((l.getD k 0).toNat : Int) = 101 ∨ ((l.getD k 0).toNat : Int) = 69)))) := by omega
          exact tup3 (hsc.trans (I_s.e1 hdf h12))
         ·have k_28 : ¬ (((at_ + (k : Int)) = (at_ + (fst l : Int))) ∨ (((at_ + (k : Int)) < (s.length : Int)) ∧ ((((l.getD k 0).toNat : Int) = 46) ∨ ((((l.getD k 0).toNat : Int) = 101) ∨ (((l.getD k 0).toNat : Int) = 69))))) := iff_f (or_iff dI (and_iff dI (or_iff dI (or_iff dI dI)))) h_14
          refine wp_skip (T_n (R_seq (R_seq (R_mid (fun a_73 w_9 => Frm 110 [(1, .int .i64 at_), (7, .int .i64 (at_ + (k : Int))), (8, .bool (neg l)), (10, .int .i64 n), (103, .bool (gr || ((neg l) && (decide (n = 0)))))] a_73 ∧ Hp w0 M_1 (H) w_9) ?_ ?_))))
          ·refine R_reg (Y f 2 fun _ f => ?_)
           rcases bE (gr) with h_15 | h_15
           ·have f := f.st 97 (cB h_15)
            refine Y f 6 fun _ f => eT ?_
            have f := Frm.set f 103 (v := .bool true) (v' := .bool (gr || ((neg l) && (decide (n = 0))))) (by kernel_rfl) (by simp only [h_15, Bool.and_true, Bool.true_and, Bool.false_and, Bool.and_false, Bool.or_true, Bool.true_or, Bool.or_false, Bool.false_or, Bool.not_true, Bool.not_false, cond_true, cond_false])
            exact ⟨f.kp, p_8⟩
           ·have f := f.st 97 (cB h_15)
            refine Y f 2 fun _ f => ?_
            rcases bE (neg l) with h_16 | h_16
            ·have f := f.st 99 (cB h_16)
             refine Y f 4 fun _ f => eT ?_
             have f := Frm.set f 103 (v := .bool (decide (n = 0))) (v' := .bool (gr || ((neg l) && (decide (n = 0))))) (by kernel_rfl) (by simp only [h_15, h_16, Bool.and_true, Bool.true_and, Bool.false_and, Bool.and_false, Bool.or_true, Bool.true_or, Bool.or_false, Bool.false_or, Bool.not_true, Bool.not_false, cond_true, cond_false])
             exact ⟨f.kp, p_8⟩
            ·have f := f.st 99 (cB h_16)
             refine Y f 4 fun _ f => eT ?_
             have f := Frm.set f 103 (v := .bool false) (v' := .bool (gr || ((neg l) && (decide (n = 0))))) (by kernel_rfl) (by simp only [h_15, h_16, Bool.and_true, Bool.true_and, Bool.false_and, Bool.and_false, Bool.or_true, Bool.true_or, Bool.or_false, Bool.false_or, Bool.not_true, Bool.not_false, cond_true, cond_false])
             exact ⟨f.kp, p_8⟩
          ·rintro a_73 w_9 ⟨f, p_9⟩
           refine T_n (Y6 f (b := gr || ((neg l) && (decide (n = 0)))) (fun h_17 => ?_) fun h_17 => ?_)
           ·have k_33 : (gr = true) ∨ (((neg l) = true) ∧ (n = 0)) := (or_iff Iff.rfl (and_iff Iff.rfl dI)).1 h_17
            refine RR (Y f 4 fun _ f => eT (wp_ret (T_r (E_ret3 f rfl (by kernel_rfl : Vc.look _ 4 = some (.int .i64 0)) (by kernel_rfl : Vc.look _ 5 = some (.int .i64 at_)) (by kernel_rfl : Vc.look _ 6 = some (.int .i64 20)) (⟨_, rfl, M_1, hM_1, p_9, ?_⟩)))))
            have hdf := not_dig_out (l := l) (k := k) (sl := s.length) (at_ := at_) (by omega) k_18
            have h12 : ¬ ((k : Int) = (fst l : Int) ∨ (at_ + (k : Int) < (s.length : Int) ∧ (((l.getD k 0).toNat : Int) = 46 ∨ (((l.getD k 0).toNat : Int) = 101 ∨ ((l.getD k 0).toNat : Int) = 69)))) := by omega
            have hno := ScanI.no (l := l) (k := k) (sl := s.length) (at_ := at_) (by omega) h12
            exact tup3 (hsc.trans (I_s.e2 hdf hno (K_s.bad.1 k_33)))
           ·have k_34 : ¬ ((gr = true) ∨ (((neg l) = true) ∧ (n = 0))) := iff_f (or_iff Iff.rfl (and_iff Iff.rfl dI)) h_17
            refine wp_skip (T_n (R_seq (RR (Y f 1 fun _ f => eT (Y6 f (b := neg l) (fun h_18 => ?_) fun h_18 => ?_)))))
            ·refine R_reg (Y f 1 fun _ f => Y f 1 fun _ f => ?_)
             have f := Frm.set f 107 (v := .int .i64 (IntKind.wrap .i64 (0 - n))) (v' := .int .i64 (-n)) (by kernel_rfl) (congrArg (Value.int .i64) ((IntWalk.i64_in _ (by omega)).trans (Int.zero_sub _)))
             refine Y f 1 fun _ f => eT (RR (Y f 5 fun _ f => eT (wp_ret (E_ret3 f rfl (by kernel_rfl : Vc.look _ 4 = some (.int .i64 (-n))) (by kernel_rfl : Vc.look _ 5 = some (.int .i64 (at_ + (k : Int)))) (by kernel_rfl : Vc.look _ 6 = some (.int .i64 0)) (⟨_, rfl, M_1, hM_1, p_9, ?_⟩)))))
             have hdf := not_dig_out (l := l) (k := k) (sl := s.length) (at_ := at_) (by omega) k_18
             have h12 : ¬ ((k : Int) = (fst l : Int) ∨ (at_ + (k : Int) < (s.length : Int) ∧ (((l.getD k 0).toNat : Int) = 46 ∨ (((l.getD k 0).toNat : Int) = 101 ∨ ((l.getD k 0).toNat : Int) = 69)))) := by omega
             have hno := ScanI.no (l := l) (k := k) (sl := s.length) (at_ := at_) (by omega) h12
             have hbb := fun x => k_34 (K_s.bad.2 x)
             exact tup3 (hsc.trans ((I_s.e3 hdf hno hbb).trans (by rw [h_18, K_s.val hbb]; rfl)))
            ·refine wp_skip (T_n (RR (Y f 5 fun _ f => eT (wp_ret (E_ret3 f rfl (by kernel_rfl : Vc.look _ 4 = some (.int .i64 n)) (by kernel_rfl : Vc.look _ 5 = some (.int .i64 (at_ + (k : Int)))) (by kernel_rfl : Vc.look _ 6 = some (.int .i64 0)) (⟨_, rfl, M_1, hM_1, p_9, ?_⟩))))))
             have hdf := not_dig_out (l := l) (k := k) (sl := s.length) (at_ := at_) (by omega) k_18
             have h12 : ¬ ((k : Int) = (fst l : Int) ∨ (at_ + (k : Int) < (s.length : Int) ∧ (((l.getD k 0).toNat : Int) = 46 ∨ (((l.getD k 0).toNat : Int) = 101 ∨ ((l.getD k 0).toNat : Int) = 69)))) := by omega
             have hno := ScanI.no (l := l) (k := k) (sl := s.length) (at_ := at_) (by omega) h12
             have hbb := fun x => k_34 (K_s.bad.2 x)
             exact tup3 (hsc.trans ((I_s.e3 hdf hno hbb).trans (by rw [h_18, K_s.val hbb]; rfl)))
theorem readP_ok (M : Mem) (s : List UInt8) (hs : s.length ≤ 140737488351232) : Ok Tryz.prog M 46 [S s] (fun _ v => v = .tuple #[.int .i64 (read s).1, .int .i64 (read s).2]) := by
 intro M hM0 w0 H w p0
 refine R_enter 22 Tryz.func46 rfl rfl (by simp) fun a0 f0 => RR (Y f0 2 fun _ f => eT (R_seq (RR (Y f 1 fun _ f => Y18 f p0 (scanP_ok _ s 0 (by first | omega | decide | assumption | (simp only [List.length_append, List.length_cons, List.length_nil]; omega))) fun w_1 p_1 _ f => ?_))))
 refine Y f 7 fun _ f => eT (R_seq (R_mid (fun a_5 w_2 => Frm 22 [(4, .int .i64 (scan s 0).1), (20, .bool ((decide ((scan s 0).2.2 = 0)) && (decide ((scan s 0).2.1 = (s.length : Int)))))] a_5 ∧ Hp w0 M (H) w_2) ?_ ?_))
 ·refine R_reg (Y f 3 fun _ f => ?_)
  rcases bE (decide ((scan s 0).2.2 = 0)) with h_1 | h_1
  ·have k_1 := dI.1 h_1
   have f := f.st 15 (cB h_1)
   refine Y f 5 fun _ f => eT ?_
   have f := Frm.set f 20 (v := .bool (decide ((scan s 0).2.1 = (s.length : Int)))) (v' := .bool ((decide ((scan s 0).2.2 = 0)) && (decide ((scan s 0).2.1 = (s.length : Int))))) (by kernel_rfl) (by simp only [h_1, Bool.and_true, Bool.true_and, Bool.false_and, Bool.and_false, Bool.or_true, Bool.true_or, Bool.or_false, Bool.false_or, Bool.not_true, Bool.not_false, cond_true, cond_false])
   exact ⟨f.kp, p_1⟩
  ·have k_2 := iff_f dI h_1
   have f := f.st 15 (cB h_1)
   refine Y f 5 fun _ f => eT ?_
   have f := Frm.set f 20 (v := .bool false) (v' := .bool ((decide ((scan s 0).2.2 = 0)) && (decide ((scan s 0).2.1 = (s.length : Int))))) (by kernel_rfl) (by simp only [h_1, Bool.and_true, Bool.true_and, Bool.false_and, Bool.and_false, Bool.or_true, Bool.true_or, Bool.or_false, Bool.false_or, Bool.not_true, Bool.not_false, cond_true, cond_false])
   exact ⟨f.kp, p_1⟩
 ·rintro a_5 w_2 ⟨f, p_2⟩
  refine T_n (Y6 f (b := (decide ((scan s 0).2.2 = 0)) && (decide ((scan s 0).2.1 = (s.length : Int)))) (fun h_2 => ?_) fun h_2 => ?_)
  ·have k_3 : ((scan s 0).2.2 = 0) ∧ ((scan s 0).2.1 = (s.length : Int)) := (and_iff dI dI).1 h_2
   refine RR (Y f 3 fun _ f => eT (wp_ret (T_r (E_ret2 f rfl (by kernel_rfl : Vc.look _ 2 = some (.int .i64 (scan s 0).1)) (by kernel_rfl : Vc.look _ 3 = some (.int .i64 0)) (⟨_, rfl, M, (mR _), p_2, ?_⟩)))))
   exact tup2 (if_pos (by omega))
  ·have k_4 : ¬ (((scan s 0).2.2 = 0) ∧ ((scan s 0).2.1 = (s.length : Int))) := iff_f (and_iff dI dI) h_2
   refine wp_skip (T_n (RR (Y f 2 fun _ f => eT (wp_ret (E_ret2 f rfl (by kernel_rfl : Vc.look _ 2 = some (.int .i64 0)) (by kernel_rfl : Vc.look _ 3 = some (.int .i64 20)) (⟨_, rfl, M, (mR _), p_2, ?_⟩))))))
   exact tup2 (if_neg (by omega))
theorem readR_ok (M : Mem) (s : List UInt8) (hs : s.length ≤ 140737488351232) : Ok Tryz.prog M 91 [S s] (fun _ v => v = .tuple #[.int .i64 (read s).1, .int .i64 (read s).2]) := by
 intro M hM0 w0 H w p0
 refine R_enter 22 Tryz.func91 rfl rfl (by simp) fun a0 f0 => RR (Y f0 2 fun _ f => eT (RR (Y f 1 fun _ f => Y18 f p0 (scanR_ok _ s 0 (by first | omega | decide | assumption | (simp only [List.length_append, List.length_cons, List.length_nil]; omega))) fun w_1 p_1 _ f => Y f 7 fun _ f => ?_)))
 refine eT (R_seq (R_seq (R_mid (fun a_5 w_2 => Frm 22 [(4, .int .i64 (scan s 0).1), (20, .bool ((!(decide ((scan s 0).2.2 = 0))) || (!(decide ((scan s 0).2.1 = (s.length : Int))))))] a_5 ∧ Hp w0 M (H) w_2) ?_ ?_)))
 ·refine R_reg (Y f 3 fun _ f => ?_)
  rcases bE (!(decide ((scan s 0).2.2 = 0))) with h_1 | h_1
  ·have k_1 : ¬ ((scan s 0).2.2 = 0) := (not_iff dI).1 h_1
   have f := f.st 15 (cB h_1)
   refine Y f 5 fun _ f => eT ?_
   have f := Frm.set f 20 (v := .bool true) (v' := .bool ((!(decide ((scan s 0).2.2 = 0))) || (!(decide ((scan s 0).2.1 = (s.length : Int)))))) (by kernel_rfl) (by simp only [h_1, Bool.and_true, Bool.true_and, Bool.false_and, Bool.and_false, Bool.or_true, Bool.true_or, Bool.or_false, Bool.false_or, Bool.not_true, Bool.not_false, cond_true, cond_false])
   exact ⟨f.kp, p_1⟩
  ·have k_2 : ¬ (¬ ((scan s 0).2.2 = 0)) := iff_f (not_iff dI) h_1
   have f := f.st 15 (cB h_1)
   refine Y f 5 fun _ f => eT ?_
   have f := Frm.set f 20 (v := .bool (!(decide ((scan s 0).2.1 = (s.length : Int))))) (v' := .bool ((!(decide ((scan s 0).2.2 = 0))) || (!(decide ((scan s 0).2.1 = (s.length : Int)))))) (by kernel_rfl) (by simp only [h_1, Bool.and_true, Bool.true_and, Bool.false_and, Bool.and_false, Bool.or_true, Bool.true_or, Bool.or_false, Bool.false_or, Bool.not_true, Bool.not_false, cond_true, cond_false])
   exact ⟨f.kp, p_1⟩
 ·rintro a_5 w_2 ⟨f, p_2⟩
  refine T_n (Y6 f (b := (!(decide ((scan s 0).2.2 = 0))) || (!(decide ((scan s 0).2.1 = (s.length : Int))))) (fun h_2 => ?_) fun h_2 => ?_)
  ·have k_3 : (¬ ((scan s 0).2.2 = 0)) ∨ (¬ ((scan s 0).2.1 = (s.length : Int))) := (or_iff (not_iff dI) (not_iff dI)).1 h_2
   refine RR (Y f 2 fun _ f => eT (wp_ret (T_r (E_ret2 f rfl (by kernel_rfl : Vc.look _ 2 = some (.int .i64 0)) (by kernel_rfl : Vc.look _ 3 = some (.int .i64 20)) (⟨_, rfl, M, (mR _), p_2, ?_⟩)))))
   exact tup2 (if_neg (by omega))
  ·have k_4 : ¬ ((¬ ((scan s 0).2.2 = 0)) ∨ (¬ ((scan s 0).2.1 = (s.length : Int)))) := iff_f (or_iff (not_iff dI) (not_iff dI)) h_2
   refine wp_skip (T_n (RR (Y f 3 fun _ f => eT (wp_ret (E_ret2 f rfl (by kernel_rfl : Vc.look _ 2 = some (.int .i64 (scan s 0).1)) (by kernel_rfl : Vc.look _ 3 = some (.int .i64 0)) (⟨_, rfl, M, (mR _), p_2, ?_⟩))))))
   exact tup2 (if_pos (by omega))
theorem textIn_ok (M : Mem) (bp bo n : Nat) : ∀ (hn : n ≤ 9007199254740992) (v : Value) (k : Nat) (xs : List Value) (hk : k ≤ 1000), OkH Tryz.prog M [Ent.obj bp (.cells #[.func (.func 73) #[] #[.pointer (some (⟨bp, 0, none⟩)), .pointer (some (⟨bo, 0, none⟩))]] 111 (0, 0)), Ent.obj bo (.cells #[v] 110 (0, 0)), Ent.row 5 1 v k xs] 73 [.int .i64 (n : Int), .pointer (some (⟨bp, 0, none⟩)), .pointer (some (⟨bo, 0, none⟩))] (fun _ E2 r => r = .tuple #[] ∧ ∃ v2, E2 = [Ent.obj bp (.cells #[.func (.func 73) #[] #[.pointer (some (⟨bp, 0, none⟩)), .pointer (some (⟨bo, 0, none⟩))]] 111 (0, 0)), Ent.obj bo (.cells #[v2] 110 (0, 0)), Ent.row 5 1 v2 (k + (digs n).length) (xs ++ byteCs (digs n))]) := by
 induction n using Nat.strongRecOn generalizing M
 rename_i n ih
 intro hn v k xs hk
 have hl1 := digs_len16 hn
 have hl2 := digs_len16 (n := n / 10) (by omega)
 intro M hM0 w0 H w p0
 refine R_enter 17 Tryz.func73 rfl rfl (by simp) fun a0 f0 => R_seq (RR (Y f0 2 fun _ f => eT (Y6 f (b := decide ((9 : Int) < (n : Int))) (fun h_1 => ?_) fun h_1 => ?_)))
 ·have k_1 := dI.1 h_1
  refine R_reg (Z f (Y32 (v := .func (.func 73) #[] #[.pointer (some (⟨bp, 0, none⟩)), .pointer (some (⟨bo, 0, none⟩))]) rfl (ad := ⟨bp, 0, none⟩) (p0.ownCell 0 rfl 0)) fun _ f => Y f 1 fun _ f => Y f 1 fun _ f => ?_)
  have f := Frm.set f 8 (v := .int .i64 (IntKind.wrap .i64 ((n : Int).tdiv 10))) (v' := .int .i64 ((n : Int) / 10)) (by kernel_rfl) (congrArg (Value.int .i64) (quo_i64 (by omega) (by decide) (by omega)))
  have f := Frm.set f 8 (v := .int .i64 ((n : Int) / 10)) (v' := .int .i64 ((n / 10 : Nat) : Int)) (by kernel_rfl) (congrArg (Value.int .i64) (by omega))
  refine Y17 (E := [Ent.obj bp (.cells #[.func (.func 73) #[] #[.pointer (some (⟨bp, 0, none⟩)), .pointer (some (⟨bo, 0, none⟩))]] 111 (0, 0)), Ent.obj bo (.cells #[v] 110 (0, 0)), Ent.row 5 1 v k xs]) (H := (H)) f p0 (ih (n / 10) (by omega) _ (by omega) v k xs hk) fun v_1 M_1 E_1 w_1 hM_1 p_1 q_1 _ f => ?_
  obtain ⟨rfl, v2, rfl⟩ := q_1
  have p_2 : Hp w0 M ((Ent.obj bp (.cells #[.func (.func 73) #[] #[.pointer (some (⟨bp, 0, none⟩)), .pointer (some (⟨bo, 0, none⟩))]] 111 (0, 0))) :: (Ent.obj bo (.cells #[v2] 110 (0, 0))) :: (Ent.row 5 1 v2 (k + (digs (n / 10)).length) (xs ++ byteCs (digs (n / 10)))) :: H) w_1 := p_1.less hM_1
  refine eT (R_reg (Z f (Y32 (v := v2) rfl (ad := ⟨bo, 0, none⟩) (p_2.ownCell 1 rfl 0)) fun _ f => Y f 1 fun _ f => Y f 1 fun _ f => ?_))
  have f := Frm.set f 12 (v := .int .i64 ((n : Int).tmod 10)) (v' := .int .i64 ((n : Int) % 10)) (by kernel_rfl) (congrArg (Value.int .i64) (rem_nn (by omega)))
  refine Y f 1 fun _ f => ?_
  have f := Frm.set f 13 (v := .int .i64 (IntKind.wrap .i64 ((48 : Int) + ((n : Int) % 10)))) (v' := .int .i64 ((48 : Int) + ((n : Int) % 10))) (by kernel_rfl) (congrArg (Value.int .i64) (IntWalk.i64_in _ (by omega)))
  refine Y f 1 fun _ f => ?_
  have f := Frm.set f 14 (v := .int .u8 (IntKind.wrap .u8 ((48 : Int) + ((n : Int) % 10)))) (v' := .int .u8 (((48 : Int) + ((n : Int) % 10)) % 256)) (by kernel_rfl) (congrArg (Value.int .u8) (IntKind.wrap_u8 _))
  have f := Frm.set f 14 (v := .int .u8 (((48 : Int) + ((n : Int) % 10)) % 256)) (v' := .int .u8 ((dch n).toNat : Int)) (by kernel_rfl) (congrArg (Value.int .u8) (dch_int n))
  refine V_allocS (k := 1) (c := 1) f p_2 (.cells #[.int .u8 ((dch n).toNat : Int)] 5 (0, 0)) (by kernel_rfl) (fun _ => by kernel_rfl) fun b_1 w_2 p_3 _ f => ?_
  have p_4 := p_3.pl [3]
  refine W_append (d := 16) (t := 110) (e := 5) (z := .int .u8 0) (v := v2) (size := 1) (bytes := 1) (k := k + (digs (n / 10)).length) (m := 1) (c := 1) (xs := xs ++ byteCs (digs (n / 10))) (news := [.int .u8 ((dch n).toNat : Int)]) (ad := ⟨b_1, 0, none⟩) f p_4 (by kernel_rfl) (by kernel_rfl) rfl rfl rfl (by kernel_rfl) (by kernel_rfl) (by kernel_rfl) (by kernel_rfl) (rfl) (own_cells (p_4.ownCell 1 rfl) 0 rfl) (all_one (by kernel_rfl)) (by omega) (by omega) fun v_2 w_3 p_5 _ f => ?_
  have p_6 := p_5.pl [1]
  have p_7 := p_6.drop
  refine Y27 f p_7 2 rfl rfl (b := bo) (j := 0) (v := v_2) (row_one (p_7.rowAt 0 rfl)) (by exact rfl) (by simp) (by simp) ((Ent.row 5 1 v_2 ((k + (digs (n / 10)).length) + 1) ((xs ++ byteCs (digs (n / 10))) ++ [.int .u8 ((dch n).toNat : Int)])) :: (Ent.obj bp (.cells #[.func (.func 73) #[] #[.pointer (some (⟨bp, 0, none⟩)), .pointer (some (⟨bo, 0, none⟩))]] 111 (0, 0))) :: (Ent.obj bo (.cells #[v_2] 110 (0, 0))) :: H) rfl fun w_4 p_8 _ f => W_end rfl (E_end0 f rfl  ?_)
  have p_9 : Hp w0 M ((Ent.row 5 1 v_2 (k + (digs n).length) (xs ++ byteCs (digs n))) :: (Ent.obj bp (.cells #[.func (.func 73) #[] #[.pointer (some (⟨bp, 0, none⟩)), .pointer (some (⟨bo, 0, none⟩))]] 111 (0, 0))) :: (Ent.obj bo (.cells #[v_2] 110 (0, 0))) :: H) w_4 := p_8.rowEq (by rw [digs_ge (n := n) (by omega)]; simp; omega) (by rw [digs_ge (n := n) (by omega), byteCs_append, List.append_assoc]; rfl)
  have p_11 := p_9.pl [2, 2]
  exact ⟨_, rfl, M, [Ent.obj bp (.cells #[.func (.func 73) #[] #[.pointer (some (⟨bp, 0, none⟩)), .pointer (some (⟨bo, 0, none⟩))]] 111 (0, 0)), Ent.obj bo (.cells #[v_2] 110 (0, 0)), Ent.row 5 1 v_2 (k + (digs n).length) (xs ++ byteCs (digs n))], mR _, p_11, rfl, v_2, rfl⟩
 ·have k_2 := iff_f dI h_1
  refine wp_skip (T_n (R_reg (Z f (Y32 (v := v) rfl (ad := ⟨bo, 0, none⟩) (p0.ownCell 1 rfl 0)) fun _ f => Y f 1 fun _ f => Y f 1 fun _ f => ?_)))
  have f := Frm.set f 12 (v := .int .i64 ((n : Int).tmod 10)) (v' := .int .i64 ((n : Int) % 10)) (by kernel_rfl) (congrArg (Value.int .i64) (rem_nn (by omega)))
  refine Y f 1 fun _ f => ?_
  have f := Frm.set f 13 (v := .int .i64 (IntKind.wrap .i64 ((48 : Int) + ((n : Int) % 10)))) (v' := .int .i64 ((48 : Int) + ((n : Int) % 10))) (by kernel_rfl) (congrArg (Value.int .i64) (IntWalk.i64_in _ (by omega)))
  refine Y f 1 fun _ f => ?_
  have f := Frm.set f 14 (v := .int .u8 (IntKind.wrap .u8 ((48 : Int) + ((n : Int) % 10)))) (v' := .int .u8 (((48 : Int) + ((n : Int) % 10)) % 256)) (by kernel_rfl) (congrArg (Value.int .u8) (IntKind.wrap_u8 _))
  have f := Frm.set f 14 (v := .int .u8 (((48 : Int) + ((n : Int) % 10)) % 256)) (v' := .int .u8 ((dch n).toNat : Int)) (by kernel_rfl) (congrArg (Value.int .u8) (dch_int n))
  refine V_allocS (k := 1) (c := 1) f p0 (.cells #[.int .u8 ((dch n).toNat : Int)] 5 (0, 0)) (by kernel_rfl) (fun _ => by kernel_rfl) fun b_2 w_5 p_12 _ f => ?_
  have p_13 := p_12.pl [3]
  refine W_append (d := 16) (t := 110) (e := 5) (z := .int .u8 0) (v := v) (size := 1) (bytes := 1) (k := k) (m := 1) (c := 1) (xs := xs) (news := [.int .u8 ((dch n).toNat : Int)]) (ad := ⟨b_2, 0, none⟩) f p_13 (by kernel_rfl) (by kernel_rfl) rfl rfl rfl (by kernel_rfl) (by kernel_rfl) (by kernel_rfl) (by kernel_rfl) (rfl) (own_cells (p_13.ownCell 1 rfl) 0 rfl) (all_one (by kernel_rfl)) (by omega) (by omega) fun v_3 w_6 p_14 _ f => ?_
  have p_15 := p_14.pl [1]
  have p_16 := p_15.drop
  refine Y27 f p_16 2 rfl rfl (b := bo) (j := 0) (v := v_3) (row_one (p_16.rowAt 0 rfl)) (by exact rfl) (by simp) (by simp) ((Ent.row 5 1 v_3 (k + 1) (xs ++ [.int .u8 ((dch n).toNat : Int)])) :: (Ent.obj bp (.cells #[.func (.func 73) #[] #[.pointer (some (⟨bp, 0, none⟩)), .pointer (some (⟨bo, 0, none⟩))]] 111 (0, 0))) :: (Ent.obj bo (.cells #[v_3] 110 (0, 0))) :: H) rfl fun w_7 p_17 _ f => W_end rfl (E_end0 f rfl  ?_)
  have p_18 : Hp w0 M ((Ent.row 5 1 v_3 (k + (digs n).length) (xs ++ byteCs (digs n))) :: (Ent.obj bp (.cells #[.func (.func 73) #[] #[.pointer (some (⟨bp, 0, none⟩)), .pointer (some (⟨bo, 0, none⟩))]] 111 (0, 0))) :: (Ent.obj bo (.cells #[v_3] 110 (0, 0))) :: H) w_7 := p_17.rowEq (by rw [digs_lt (n := n) (by omega)]; rfl) (by rw [digs_lt (n := n) (by omega)]; rfl)
  have p_20 := p_18.pl [2, 2]
  exact ⟨_, rfl, M, [Ent.obj bp (.cells #[.func (.func 73) #[] #[.pointer (some (⟨bp, 0, none⟩)), .pointer (some (⟨bo, 0, none⟩))]] 111 (0, 0)), Ent.obj bo (.cells #[v_3] 110 (0, 0)), Ent.row 5 1 v_3 (k + (digs n).length) (xs ++ byteCs (digs n))], mR _, p_20, rfl, v_3, rfl⟩
theorem textP_ok (M : Mem) (n : Int) : Ok Tryz.prog M 45 [.int .i64 n] (fun _ v => v = .tuple #[S (text n).1, .int .i64 (text n).2]) := by
 intro M hM0 w0 H w p0
 refine R_enter 25 Tryz.func45 rfl rfl (by simp) fun a0 f0 => RR (Y f0 2 fun _ f => eT (R_seq (RR (Y f 1 fun _ f => Y18 f p0 (fits_ok _ (n)) fun w_1 p_1 _ f => ?_))))
 refine Y f 1 fun _ f => eT (Y6 f (b := !(fitsB n)) (fun h_1 => ?_) fun h_1 => ?_)
 ·have k_1 : (fitsB n) = false := by simpa using h_1
  refine RR (Y f 2 fun _ f => eT (wp_ret (T_r (E_ret2 f rfl (by kernel_rfl : Vc.look _ 2 = some (S [])) (by kernel_rfl : Vc.look _ 3 = some (.int .i64 20)) (⟨_, rfl, M, (mR _), (p_1.dropN 0), ?_⟩)))))
  rw [text_no k_1]
 ·have k_2 : (fitsB n) = true := by simpa using h_1
  refine wp_skip (T_n (R_seq ?_))
  have hfit := k_2
  have hfit2 := fitsB_iff.1 hfit
  refine R_reg (Y12 f p_1 (.cells #[.slice none 0 0] 110 (0, 0)) fun b_1 w_2 p_2 _ f => eT (RR (Y12 f p_2 (.cells #[.nilFunc] 111 (0, 0)) fun b_2 w_3 p_3 _ f => eT (RR ?_))))
  refine Y f 1 fun _ f => Y27 f p_3 0 rfl rfl (b := b_2) (j := 0) (v := .func (.func 73) #[] #[.pointer (some (⟨b_2, 0, none⟩)), .pointer (some (⟨b_1, 0, none⟩))]) rfl (by exact rfl) (by simp) (by simp) ((Ent.obj b_2 (.cells #[.func (.func 73) #[] #[.pointer (some (⟨b_2, 0, none⟩)), .pointer (some (⟨b_1, 0, none⟩))]] 111 (0, 0))) :: (Ent.obj b_1 (.cells #[.slice none 0 0] 110 (0, 0))) :: H) rfl fun w_4 p_4 _ f => eT (R_seq (wp_block (RR (Y f 1 fun _ f => ?_))))
  have p_5 := p_4.nilRow 5 1
  refine Y f 2 fun _ f => eT (Y6 f (b := decide (n < 0)) (fun h_2 => ?_) fun h_2 => ?_)
  ·have k_3 := dI.1 h_2
   refine RR (Z f (Y32 (v := .slice none 0 0) rfl (ad := ⟨b_1, 0, none⟩) (p_5.ownCell 2 rfl 0)) fun _ f => V_allocS (k := 1) (c := 1) f p_5 (.cells #[.int .u8 45] 5 (0, 0)) (by kernel_rfl) (fun _ => by kernel_rfl) fun b_3 w_5 p_6 _ f => ?_)
   have p_7 := p_6.pl [1]
   refine W_append (d := 18) (t := 110) (e := 5) (z := .int .u8 0) (v := .slice none 0 0) (size := 1) (bytes := 1) (k := 0) (m := 1) (c := 1) (xs := []) (news := [.int .u8 45]) (ad := ⟨b_3, 0, none⟩) f p_7 (by kernel_rfl) (by kernel_rfl) rfl rfl rfl (by kernel_rfl) (by kernel_rfl) (by kernel_rfl) (by kernel_rfl) (rfl) (own_cells (p_7.ownCell 1 rfl) 0 rfl) (all_one (by kernel_rfl)) (by omega) (by omega) fun v_1 w_6 p_8 _ f => ?_
   have p_9 := p_8.pl [1]
   have p_10 := p_9.drop
   refine Y27 f p_10 2 rfl rfl (b := b_1) (j := 0) (v := v_1) (row_one (p_10.rowAt 0 rfl)) (by exact rfl) (by simp) (by simp) ((Ent.row 5 1 v_1 (0 + 1) ([] ++ [.int .u8 45])) :: (Ent.obj b_2 (.cells #[.func (.func 73) #[] #[.pointer (some (⟨b_2, 0, none⟩)), .pointer (some (⟨b_1, 0, none⟩))]] 111 (0, 0))) :: (Ent.obj b_1 (.cells #[v_1] 110 (0, 0))) :: H) rfl fun w_7 p_11 _ f => eT (R_reg (Z f (Y32 (v := .func (.func 73) #[] #[.pointer (some (⟨b_2, 0, none⟩)), .pointer (some (⟨b_1, 0, none⟩))]) rfl (ad := ⟨b_2, 0, none⟩) (p_11.ownCell 1 rfl 0)) fun _ f => Y f 1 fun _ f => Y f 1 fun _ f => ?_))
   have f := Frm.set f 21 (v := .int .i64 (IntKind.wrap .i64 (0 - n))) (v' := .int .i64 (-n)) (by kernel_rfl) (congrArg (Value.int .i64) ((IntWalk.i64_in _ (by omega)).trans (Int.zero_sub _)))
   have f := Frm.set f 21 (v := .int .i64 (-n)) (v' := .int .i64 ((-n).toNat : Int)) (by kernel_rfl) (congrArg (Value.int .i64) (by omega))
   have p_13 := p_11.pl [2, 2]
   refine Y17 (E := [Ent.obj b_2 (.cells #[.func (.func 73) #[] #[.pointer (some (⟨b_2, 0, none⟩)), .pointer (some (⟨b_1, 0, none⟩))]] 111 (0, 0)), Ent.obj b_1 (.cells #[v_1] 110 (0, 0)), Ent.row 5 1 v_1 (0 + 1) ([] ++ [.int .u8 45])]) (H := (H)) f p_13 (textIn_ok _ b_2 b_1 ((-n).toNat) (by omega) (v_1) (0 + 1) ([] ++ [.int .u8 45]) (by omega)) fun v_2 M_1 E_1 w_8 hM_1 p_14 q_1 _ f => ?_
   obtain ⟨rfl, v3, rfl⟩ := q_1
   have p_15 : Hp w0 M ((Ent.obj b_2 (.cells #[.func (.func 73) #[] #[.pointer (some (⟨b_2, 0, none⟩)), .pointer (some (⟨b_1, 0, none⟩))]] 111 (0, 0))) :: (Ent.obj b_1 (.cells #[v3] 110 (0, 0))) :: (Ent.row 5 1 v3 ((0 + 1) + (digs (-n).toNat).length) (([] ++ [.int .u8 45]) ++ byteCs (digs (-n).toNat))) :: H) w_8 := p_14.less hM_1
   refine W_end rfl (B_n (T_n (RR (Z f (Y32 (v := v3) rfl (ad := ⟨b_1, 0, none⟩) (p_15.ownCell 1 rfl 0)) fun _ f => ?_))))
   have p_16 := p_15.pl [2]
   have p_17 : Hp w0 M ((Ent.row 5 1 v3 (45 :: digs (-n).toNat).length (byteCs (45 :: digs (-n).toNat))) :: (Ent.obj b_2 (.cells #[.func (.func 73) #[] #[.pointer (some (⟨b_2, 0, none⟩)), .pointer (some (⟨b_1, 0, none⟩))]] 111 (0, 0))) :: (Ent.obj b_1 (.cells #[v3] 110 (0, 0))) :: H) w_8 := p_16.rowEq (by simp <;> omega) (by simp [byteCs])
   refine Z (v := S (45 :: digs (-n).toNat)) f (X_string_row rfl (l := 45 :: digs (-n).toNat) (v := v3) (by kernel_rfl) (e := 5) (by kernel_rfl) (by kernel_rfl) (by kernel_rfl) (p_17.rowAt 0 rfl)) fun _ f => Y f 2 fun _ f => eT (wp_ret (E_ret2 f rfl (by kernel_rfl : Vc.look _ 2 = some (S (45 :: digs (-n).toNat))) (by kernel_rfl : Vc.look _ 3 = some (.int .i64 0)) (⟨_, rfl, M, (mR _), (p_17.dropN 3), ?_⟩)))
   rw [text_neg hfit k_3]
  ·have k_4 := iff_f dI h_2
   refine R_reg (Z f (Y32 (v := .func (.func 73) #[] #[.pointer (some (⟨b_2, 0, none⟩)), .pointer (some (⟨b_1, 0, none⟩))]) rfl (ad := ⟨b_2, 0, none⟩) (p_5.ownCell 1 rfl 0)) fun _ f => Y f 1 fun _ f => ?_)
   have f := Frm.set f 11 (v := .int .i64 n) (v' := .int .i64 (n.toNat : Int)) (by kernel_rfl) (congrArg (Value.int .i64) (by omega))
   have p_19 := p_5.pl [2, 2]
   refine Y17 (E := [Ent.obj b_2 (.cells #[.func (.func 73) #[] #[.pointer (some (⟨b_2, 0, none⟩)), .pointer (some (⟨b_1, 0, none⟩))]] 111 (0, 0)), Ent.obj b_1 (.cells #[.slice none 0 0] 110 (0, 0)), Ent.row 5 1 (.slice none 0 0) 0 []]) (H := (H)) f p_19 (textIn_ok _ b_2 b_1 (n.toNat) (by omega) (.slice none 0 0) (0) ([]) (by omega)) fun v_3 M_2 E_2 w_9 hM_2 p_20 q_2 _ f => ?_
   obtain ⟨rfl, v3, rfl⟩ := q_2
   have p_21 : Hp w0 M ((Ent.obj b_2 (.cells #[.func (.func 73) #[] #[.pointer (some (⟨b_2, 0, none⟩)), .pointer (some (⟨b_1, 0, none⟩))]] 111 (0, 0))) :: (Ent.obj b_1 (.cells #[v3] 110 (0, 0))) :: (Ent.row 5 1 v3 (0 + (digs n.toNat).length) ([] ++ byteCs (digs n.toNat))) :: H) w_9 := p_20.less hM_2
   refine W_end rfl (B_n (T_n (RR (Z f (Y32 (v := v3) rfl (ad := ⟨b_1, 0, none⟩) (p_21.ownCell 1 rfl 0)) fun _ f => ?_))))
   have p_22 := p_21.pl [2]
   have p_23 : Hp w0 M ((Ent.row 5 1 v3 (digs n.toNat).length (byteCs (digs n.toNat))) :: (Ent.obj b_2 (.cells #[.func (.func 73) #[] #[.pointer (some (⟨b_2, 0, none⟩)), .pointer (some (⟨b_1, 0, none⟩))]] 111 (0, 0))) :: (Ent.obj b_1 (.cells #[v3] 110 (0, 0))) :: H) w_9 := p_22.rowEq (by simp) (by simp)
   refine Z (v := S (digs n.toNat)) f (X_string_row rfl (l := digs n.toNat) (v := v3) (by kernel_rfl) (e := 5) (by kernel_rfl) (by kernel_rfl) (by kernel_rfl) (p_23.rowAt 0 rfl)) fun _ f => Y f 2 fun _ f => eT (wp_ret (E_ret2 f rfl (by kernel_rfl : Vc.look _ 2 = some (S (digs n.toNat))) (by kernel_rfl : Vc.look _ 3 = some (.int .i64 0)) (⟨_, rfl, M, (mR _), (p_23.dropN 3), ?_⟩)))
   rw [text_pos hfit k_4]
theorem digitsR_ok (M : Mem) (n : Nat) : ∀ (hn : n ≤ 9007199254740992), Ok Tryz.prog M 93 [.int .i64 (n : Int)] (fun _ v => v = S (digs n)) := by
 induction n using Nat.strongRecOn generalizing M
 rename_i n ih
 intro hn
 have hl1 := digs_len16 (n := n / 10) (by omega)
 have hl2 := digs_len16 (n := n % 10) (by omega)
 intro M hM0 w0 H w p0
 refine R_enter 17 Tryz.func93 rfl rfl (by simp) fun a0 f0 => RR (Y f0 1 fun _ f => eT (R_seq (RR (Y f 2 fun _ f => W_end rfl ?_))))
 refine T_n (Y6 f (b := decide ((n : Int) < 10)) (fun h_1 => ?_) fun h_1 => ?_)
 ·have k_1 := dI.1 h_1
  refine RR (Y f 1 fun _ f => Y f 1 fun _ f => ?_)
  have f := Frm.set f 6 (v := .int .i64 (IntKind.wrap .i64 ((48 : Int) + (n : Int)))) (v' := .int .i64 ((48 : Int) + (n : Int))) (by kernel_rfl) (congrArg (Value.int .i64) (IntWalk.i64_in _ (by omega)))
  refine Y f 1 fun _ f => ?_
  have f := Frm.set f 7 (v := .int .u8 (IntKind.wrap .u8 ((48 : Int) + (n : Int)))) (v' := .int .u8 (((48 : Int) + (n : Int)) % 256)) (by kernel_rfl) (congrArg (Value.int .u8) (IntKind.wrap_u8 _))
  have f := Frm.set f 7 (v := .int .u8 (((48 : Int) + (n : Int)) % 256)) (v' := .int .u8 ((dch n).toNat : Int)) (by kernel_rfl) (congrArg (Value.int .u8) (dch_small (by omega)))
  refine V_allocS (k := 1) (c := 1) f p0 (.cells #[.int .u8 ((dch n).toNat : Int)] 5 (0, 0)) (by kernel_rfl) (fun _ => by kernel_rfl) fun b_1 w_1 p_1 _ f => Z (v := S [dch n]) f (X_string rfl (l := [dch n]) (ad := ⟨b_1, 0, none⟩) (cap := 1) (by kernel_rfl) (e := 5) (by kernel_rfl) (by kernel_rfl) (by kernel_rfl) (own_cells (p_1.ownCell 0 rfl) 0 rfl)) fun _ f => Y f 1 fun _ f => eT (wp_ret (T_r (E_ret1 f rfl (by kernel_rfl : Vc.look _ 2 = some (S [dch n])) (⟨_, rfl, M, mR _, (p_1.dropN 1), ?_⟩))))
  rw [digs_lt (n := n) (by omega)]
 ·have k_2 := iff_f dI h_1
  refine wp_skip (T_n (RR (Y f 1 fun _ f => Y f 1 fun _ f => ?_)))
  have f := Frm.set f 11 (v := .int .i64 (IntKind.wrap .i64 ((n : Int).tdiv 10))) (v' := .int .i64 ((n : Int) / 10)) (by kernel_rfl) (congrArg (Value.int .i64) (quo_i64 (by omega) (by decide) (by omega)))
  have f := Frm.set f 11 (v := .int .i64 ((n : Int) / 10)) (v' := .int .i64 ((n / 10 : Nat) : Int)) (by kernel_rfl) (congrArg (Value.int .i64) (by omega))
  refine Y18 f p0 (ih (n / 10) (by omega) _ (by omega)) fun w_2 p_2 _ f => Y f 1 fun _ f => Y f 1 fun _ f => ?_
  have f := Frm.set f 14 (v := .int .i64 ((n : Int).tmod 10)) (v' := .int .i64 ((n : Int) % 10)) (by kernel_rfl) (congrArg (Value.int .i64) (rem_nn (by omega)))
  have f := Frm.set f 14 (v := .int .i64 ((n : Int) % 10)) (v' := .int .i64 ((n % 10 : Nat) : Int)) (by kernel_rfl) (congrArg (Value.int .i64) (by omega))
  refine Y18 f p_2 (ih (n % 10) (by omega) _ (by omega)) fun w_3 p_3 _ f => Z f (Y29 rfl (l := digs (n / 10)) (m := digs (n % 10)) (by first | omega | (simp only [List.length_cons, List.length_nil, List.length_append]; omega))) fun _ f => Y f 1 fun _ f => eT (wp_ret (E_ret1 f rfl (by kernel_rfl : Vc.look _ 2 = some (S ((digs (n / 10)) ++ (digs (n % 10))))) (⟨_, rfl, M, mR _, (p_3.dropN 0), ?_⟩)))
  rw [digs_ge (n := n) (by omega), digs_lt (n := n % 10) (by omega), dch_mod]
theorem textR_ok (M : Mem) (n : Int) : Ok Tryz.prog M 70 [.int .i64 n] (fun _ v => v = .tuple #[S (text n).1, .int .i64 (text n).2]) := by
 intro M hM0 w0 H w p0
 refine R_enter 15 Tryz.func70 rfl rfl (by simp) fun a0 f0 => RR (Y f0 2 fun _ f => eT (R_seq (RR (Y f 1 fun _ f => Y18 f p0 (fitsR_ok _ (n)) fun w_1 p_1 _ f => ?_))))
 refine Y f 1 fun _ f => eT (Y6 f (b := !(fitsB n)) (fun h_1 => ?_) fun h_1 => ?_)
 ·have k_1 : (fitsB n) = false := by simpa using h_1
  refine RR (Y f 2 fun _ f => eT (wp_ret (T_r (E_ret2 f rfl (by kernel_rfl : Vc.look _ 2 = some (S [])) (by kernel_rfl : Vc.look _ 3 = some (.int .i64 20)) (⟨_, rfl, M, mR _, p_1, ?_⟩)))))
  rw [text_no k_1]
 ·have k_2 : (fitsB n) = true := by simpa using h_1
  refine wp_skip (T_n (R_seq (R_seq ?_)))
  have hfit := k_2
  have hfit2 := fitsB_iff.1 hfit
  refine R_reg (Y f 2 fun _ f => eT (Y6 f (b := decide (n < 0)) (fun h_2 => ?_) fun h_2 => ?_))
  ·have k_3 := dI.1 h_2
   refine RR (Y f 1 fun _ f => Y f 1 fun _ f => ?_)
   have f := Frm.set f 10 (v := .int .i64 (IntKind.wrap .i64 (0 - n))) (v' := .int .i64 (-n)) (by kernel_rfl) (congrArg (Value.int .i64) ((IntWalk.i64_in _ (by omega)).trans (Int.zero_sub _)))
   have hl1 := digs_len16 (n := (-n).toNat) (by omega)
   have f := Frm.set f 10 (v := .int .i64 (-n)) (v' := .int .i64 ((-n).toNat : Int)) (by kernel_rfl) (congrArg (Value.int .i64) (by omega))
   refine Y18 f p_1 (digitsR_ok _ (-n).toNat (by omega)) fun w_2 p_2 _ f => Z f (Y29 rfl (l := [45]) (m := digs (-n).toNat) (by first | omega | (simp only [List.length_cons, List.length_nil, List.length_append]; omega))) fun _ f => Y f 2 fun _ f => eT (wp_ret (T_r (E_ret2 f rfl (by kernel_rfl : Vc.look _ 2 = some (S ([45] ++ (digs (-n).toNat)))) (by kernel_rfl : Vc.look _ 3 = some (.int .i64 0)) (⟨_, rfl, M, mR _, p_2, ?_⟩))))
   rw [text_neg hfit k_3]
   rfl
  ·have k_4 := iff_f dI h_2
   refine wp_skip (T_n (RR (Y f 1 fun _ f => ?_)))
   have f := Frm.set f 13 (v := .int .i64 n) (v' := .int .i64 (n.toNat : Int)) (by kernel_rfl) (congrArg (Value.int .i64) (by omega))
   refine Y18 f p_1 (digitsR_ok _ n.toNat (by omega)) fun w_3 p_3 _ f => Y f 2 fun _ f => eT (wp_ret (E_ret2 f rfl (by kernel_rfl : Vc.look _ 2 = some (S (digs n.toNat))) (by kernel_rfl : Vc.look _ 3 = some (.int .i64 0)) (⟨_, rfl, M, mR _, p_3, ?_⟩)))
   rw [text_pos hfit k_4]
end Go.Proofs.YtalifkcchfkgmaaGreatDoor
end

section
namespace Go.Num
open Go
theorem text_fit {n : Int} (h : (text n).2 = 0) : fitsB n = true := by
 cases hf : fitsB n with
 | true => rfl
 | false => rw [text_no hf] at h; simp at h
end Go.Num
namespace Go.Num
open Go
theorem nd_app : ∀ (ds b : List UInt8) (k : Nat), (∀ c ∈ ds, dig c = true) → nd (ds ++ b) k = nd b (k + ds.length)
 | [], b, k, _ => by simp
 | c :: ds, b, k, h => by
  simp only [List.cons_append, nd, h c List.mem_cons_self, if_true]
  rw [nd_app ds b (k + 1) (fun x hx => h x (List.mem_cons_of_mem _ hx))]
  simp only [List.length_cons]; congr 1; omega
theorem vl_app : ∀ (ds b : List UInt8) (v : Nat), (∀ c ∈ ds, dig c = true) → vl (ds ++ b) v = vl b (vl ds v)
 | [], b, v, _ => by simp [vl]
 | c :: ds, b, v, h => by
  simp only [List.cons_append, vl, h c List.mem_cons_self, if_true]
  exact vl_app ds b _ (fun x hx => h x (List.mem_cons_of_mem _ hx))
theorem vl_snoc (ds : List UInt8) (c : UInt8) (h : ∀ x ∈ ds, dig x = true) (hc : dig c = true) (v : Nat) : vl (ds ++ [c]) v = 10 * vl ds v + (c.toNat - 48) := by
 rw [vl_app ds [c] v h]; simp only [vl, hc, if_true]
theorem vl_mono : ∀ (ds : List UInt8) (v : Nat), 1 ≤ v → 1 ≤ vl ds v
 | [], v, h => h
 | c :: r, v, h => by
  simp only [vl]
  split
  ·exact vl_mono r _ (by omega)
  ·exact h
theorem digs_vl : ∀ (r : List UInt8), (∀ x ∈ r.reverse, dig x = true) → r ≠ [] → (r.reverse.getD 0 0 = 48 → r.length = 1) → digs (vl r.reverse 0) = r.reverse
 | [], _, h, _ => absurd rfl h
 | [c], hd, _, _ => by
  have hc := hd c (by simp)
  have hc' := (dig_iff c).1 hc
  simp only [List.reverse_cons, List.reverse_nil, List.nil_append, vl, hc, if_true, Nat.mul_zero, Nat.zero_add]
  rw [digs_lt (by omega)]
  congr 1
  refine UInt8.toNat_inj.1 ?_
  rw [dch_toNat]; omega
 | c :: d :: r, hd, _, hz => by
  have hc := hd c (by simp)
  have hc' := (dig_iff c).1 hc
  have hd' : ∀ x ∈ (d :: r).reverse, dig x = true := fun x hx => hd x (by rw [List.reverse_cons]; exact List.mem_append_left _ hx)
  have hlen : 0 < ((d :: r).reverse).length := by simp
  have h0 : (c :: d :: r).reverse.getD 0 0 = (d :: r).reverse.getD 0 0 := by
   rw [List.reverse_cons]; simp only [List.getD]; rw [List.getElem?_append_left hlen]
  have hne : (d :: r).reverse.getD 0 0 ≠ 48 := fun h => by
   have := hz (h0.trans h); simp at this
  have hi := digs_vl (d :: r) hd' (by simp) (fun h => absurd h hne)
  have hv : 1 ≤ vl (d :: r).reverse 0 := by
   cases hr : (d :: r).reverse with
   | nil => rw [hr] at hlen; simp at hlen
   | cons x y =>
    rw [hr] at hne hd'
    have hx := hd' x List.mem_cons_self
    have hx' := (dig_iff x).1 hx
    simp only [vl, hx, if_true]
    refine vl_mono y _ ?_
    have : x.toNat ≠ 48 := fun e => hne (by simp only [List.getD_cons_zero]; exact UInt8.toNat_inj.1 e)
    omega
  rw [List.reverse_cons, vl_snoc _ _ hd' hc]
  rw [digs_ge (by omega)]
  rw [show (10 * vl (d :: r).reverse 0 + (c.toNat - 48)) / 10 = vl (d :: r).reverse 0 by omega, hi]
  congr 2
  refine UInt8.toNat_inj.1 ?_
  rw [dch_toNat]; omega
theorem nd_all : ∀ (l : List UInt8) (k : Nat), nd l k = k + l.length → ∀ x ∈ l, dig x = true
 | [], _, _, _, hx => by simp at hx
 | c :: r, k, h, x, hx => by
  simp only [nd] at h
  split at h
  ·rename_i hc
   rcases List.mem_cons.1 hx with rfl | hx
   ·exact hc
   ·exact nd_all r (k + 1) (by simp only [List.length_cons] at h; omega) x hx
  ·simp only [List.length_cons] at h; omega
theorem text_read {s : List UInt8} (h : (read s).2 = 0) : text (read s).1 = (s, 0) := by
 have hr : (scan s 0).2.2 = 0 ∧ (scan s 0).2.1 = s.length := by
  unfold read at h
  split at h
  ·assumption
  ·simp at h
 have hx : (read s).1 = (scan s 0).1 := by unfold read; rw [if_pos hr]
 rw [hx]
 rw [scan_inside (by omega)] at hr ⊢
 simp only [Int.toNat_zero, List.drop_zero] at hr ⊢
 obtain ⟨h1, h2⟩ := hr
 unfold scanL at h1 h2 ⊢
 simp only [] at h1 h2 ⊢
 by_cases c1 : s.getD (fst s) 0 = 48 ∧ fst s + 2 ≤ nd (s.drop (fst s)) (fst s)
 ·rw [if_pos c1] at h1; simp at h1
 rw [if_neg c1] at h1 h2 ⊢
 by_cases c2 : nd (s.drop (fst s)) (fst s) = fst s ∨ s.getD (nd (s.drop (fst s)) (fst s)) 0 = 46 ∨ s.getD (nd (s.drop (fst s)) (fst s)) 0 = 101 ∨ s.getD (nd (s.drop (fst s)) (fst s)) 0 = 69
 ·rw [if_pos c2] at h1; simp at h1
 rw [if_neg c2] at h1 h2 ⊢
 by_cases c3 : big < vl (s.drop (fst s)) 0 ∨ (neg s = true ∧ vl (s.drop (fst s)) 0 = 0)
 ·rw [if_pos c3] at h1; simp at h1
 rw [if_neg c3] at h2 ⊢
 simp only [] at h2 ⊢
 have hle := fst_le s
 have hk : nd (s.drop (fst s)) (fst s) = s.length := by omega
 have hall := nd_all (s.drop (fst s)) (fst s) (by rw [hk, List.length_drop]; omega)
 have hlt : fst s < s.length := by
  rcases Nat.lt_or_ge (fst s) s.length with h | h
  ·exact h
  ·exact absurd (.inl (by omega)) c2
 have hd := digs_vl (s.drop (fst s)).reverse (by rwa [List.reverse_reverse]) (by
   intro e
   have := congrArg List.length e
   simp at this; omega) (by
   rw [List.reverse_reverse]
   intro h48
   have h48' : s.getD (fst s) 0 = 48 := by
    rw [← h48]; simp [List.getD, List.getElem?_drop]
   have : ¬ fst s + 2 ≤ nd (s.drop (fst s)) (fst s) := fun hx => c1 ⟨h48', hx⟩
   simp only [List.length_reverse, List.length_drop]; omega)
 rw [List.reverse_reverse] at hd
 have hb : vl (s.drop (fst s)) 0 ≤ 9007199254740992 := by
  have : ¬ big < vl (s.drop (fst s)) 0 := fun hx => c3 (.inl hx)
  unfold big at this; omega
 cases hn : neg s with
 | false =>
  rw [fst_f hn] at hd hb ⊢
  simp only [List.drop_zero] at hd hb ⊢
  rw [if_neg (by simp)]
  rw [text_pos (fitsB_iff.2 (by omega)) (by omega)]
  simp [hd]
 | true =>
  have hv : vl (s.drop (fst s)) 0 ≠ 0 := fun hx => c3 (.inr ⟨hn, hx⟩)
  rw [fst_t hn] at hd hb hv ⊢
  rw [if_pos rfl]
  rw [text_neg (fitsB_iff.2 (by omega)) (by omega)]
  rw [show (- -((vl (s.drop 1) 0 : Nat) : Int)).toNat = vl (s.drop 1) 0 by omega, hd]
  congr 1
  have h45 : s.getD 0 0 = 45 := by simpa [neg] using hn
  cases s with
  | nil => simp at h45
  | cons c r => simp at h45; simp [h45]
theorem text_zero (n : Int) : (text n).2 = 0 ↔ fitsB n = true := ⟨text_fit, fun h => by simp [text, h]⟩
theorem text_len {n : Int} (h : fitsB n = true) : (text n).1.length ≤ 17 := by
 have h2 := fitsB_iff.1 h
 by_cases h0 : n < 0
 ·rw [text_neg h h0]; have := digs_len16 (n := (-n).toNat) (by omega); simp; omega
 ·rw [text_pos h h0]; have := digs_len16 (n := n.toNat) (by omega); dsimp only; omega
end Go.Num
end

section
namespace Go.Proofs.YtalifkcchfkgmaaGreatDoor
open Go Go.Vc Go.RowKit Go.Num
def h_numText (_ : Nat) (x : Int) : Option (List UInt8 × Int) := some (Go.Num.text x)
theorem h_numText_ok (n : Nat) (M : Mem) (x : Int) (r : List UInt8 × Int) (hF : h_numText n x = some r) : Ok Tryz.prog M 45 [.int .i64 x] (fun _ v => v = .tuple #[S r.1, .int .i64 r.2]) := by
 obtain rfl := Option.some.inj hF
 exact textP_ok M x
def h_numTextR (_ : Nat) (x : Int) : Option (List UInt8 × Int) := some (Go.Num.text x)
theorem h_numTextR_ok (n : Nat) (M : Mem) (x : Int) (r : List UInt8 × Int) (hF : h_numTextR n x = some r) : Ok Tryz.prog M 70 [.int .i64 x] (fun _ v => v = .tuple #[S r.1, .int .i64 r.2]) := by
 obtain rfl := Option.some.inj hF
 exact textR_ok M x
def h_numRead (_ : Nat) (s : List UInt8) : Option (Int × Int) := need (s.length ≤ 140737488351232) (some (Go.Num.read s))
theorem h_numRead_ok (n : Nat) (M : Mem) (s : List UInt8) (r : Int × Int) (hF : h_numRead n s = some r) : Ok Tryz.prog M 46 [S s] (fun _ v => v = .tuple #[.int .i64 r.1, .int .i64 r.2]) := by
 unfold h_numRead at hF
 obtain ⟨g, hF⟩ := need_some hF
 obtain rfl := Option.some.inj hF
 exact readP_ok M s g
def h_numReadR (_ : Nat) (s : List UInt8) : Option (Int × Int) := need (s.length ≤ 140737488351232) (some (Go.Num.read s))
theorem h_numReadR_ok (n : Nat) (M : Mem) (s : List UInt8) (r : Int × Int) (hF : h_numReadR n s = some r) : Ok Tryz.prog M 91 [S s] (fun _ v => v = .tuple #[.int .i64 r.1, .int .i64 r.2]) := by
 unfold h_numReadR at hF
 obtain ⟨g, hF⟩ := need_some hF
 obtain rfl := Option.some.inj hF
 exact readR_ok M s g
end Go.Proofs.YtalifkcchfkgmaaGreatDoor
end

section
namespace Go.Vc
open Go Go.RowKit
section
variable {P : Program} {w : World} {ρ : Operand → Value} {o : Oper}
theorem X_slice3 {t e sz : Nat} {x hi mx : Operand} {A : Option Addr} {len cap : Nat} {k k' : IntKind} {b : Int} (ho : o.op = .slice t x none (some hi) (some mx)) (hx : ρ x = .slice A len cap) (hhi : ρ hi = .int k b) (hmx : ρ mx = .int k' b) (ht : P.underlying t = some (.slice e))
  (hs : szIs P e sz = true) (h0 : 0 ≤ b) (h2 : b ≤ cap) : (execOp ρ o).run P w = .ok (.value (.slice (cutA A sz 0 b.toNat) b.toNat b.toNat)) w := by
 obtain ⟨b, rfl⟩ := Int.eq_ofNat_of_zero_le h0
 have hb : b ≤ cap := by omega
 unfold execOp
 simp only [ho, hx, hhi, hmx, Option.map, Instr.sliceAt, Sem.run_bind, Sem.run_pure, Result.andThen_ok, run_underlying ht, Instr.slice, Instr.sliceBounds, Instr.sliceBound, asIntOf]
 simp only [Int.toNat_natCast]
 simp [hb, run_sizeOf hs, cutA]
 rfl
theorem Y34 {t e sz : Nat} {x hi mx : Operand} {A : Option Addr} {len cap : Nat} {k k' : IntKind} {b : Int} (ho : o.op = .slice t x none (some hi) (some mx)) (h0 : 0 ≤ b) (h2 : b ≤ cap) (hx : ρ x = .slice A len cap := by kernel_rfl) (hhi : ρ hi = .int k b := by kernel_rfl) (hmx : ρ mx = .int k' b := by kernel_rfl) (ht : P.underlying t = some (.slice e) := by kernel_rfl) (hs : szIs P e sz = true := by kernel_rfl) : (execOp ρ o).run P w = .ok (.value (.slice (cutA A sz 0 b.toNat) b.toNat b.toNat)) w := X_slice3 ho hx hhi hmx ht hs h0 h2
end
section
variable {α : Type} {M : Mem} {sz : Nat} {f : α → Dat} {A : Option Addr} {cap : Nat} {xs : List α}
theorem Sli.full (h : Sli M sz f A cap xs) {b : Nat} (hb : b ≤ xs.length) : Sli M sz f (cutA A sz 0 b) (xs.take b).length (xs.take b) := by
 obtain ⟨h1, h2, h3⟩ := h
 have hl : (xs.take b).length = b := by rw [List.length_take]; omega
 refine ⟨Nat.le_refl _, fun e => ?_, ?_⟩
 ·rw [hl]
  unfold cutA at e
  split at e
  ·omega
  ·cases A with
   | none => have := h2 rfl; omega
   | some ad => simp at e
 ·rcases h3 with h3 | ⟨ad, h4, h5⟩
  ·exact .inl (by simp [h3])
  ·by_cases hac : b = 0
   ·exact .inl (by simp [hac])
   ·refine .inr ⟨ad.add (0 * sz), by simp [cutA, hac, h4], ?_⟩
    rw [List.map_take]
    have := RepArr.drop 0 (RepArr.take b h5)
    simpa using this
end
section
variable {α : Type} {P : Program} {ops : Array Oper} {n : Nat} {Q : Exit → Act → World → Prop} {L : Fr} {a : Act} {w0 w : World} {M : Mem} {H : List Ent} {sz : Nat} {f : α → Dat} {dd : List Deferred}
theorem Hp.appendFull {t tx ty e : TypeId} {i : TypeInfo} {z x : Value} {m : Nat} {xs : List α} {news : List Value} {A : Option Addr} (hp : Hp w0 M H w) (hxs : Sli M sz f A xs.length xs) (hs : Src P sz tx x m news w) (hm : 0 < m)
  (ht : P.underlying t = some (.slice e)) (hi : P.info? e = some i) (hz : i.zero = some z) (hsz : i.size = sz) (hzs : z.cells.size = sz) (h0 : 0 < sz) (hb : (xs.length + m) * i.bytes ≤ 140737488355328) (h63 : xs.length + m ≤ 9223372036854775807) :
  ∃ v' cs w', (Builtin.append_ #[t, tx] ty #[.slice A xs.length xs.length, x]).run P w = .ok v' w' ∧ RepSeq M (xs.map f) cs ∧ Hp w0 M (.row e sz v' (xs.length + m) (cs ++ news) :: H) w' := by
 subst hsz
 have hl := hs.newsLen
 have hold : ∃ cs : List Value, cs.length = xs.length * i.size ∧ RepSeq M (xs.map f) cs ∧ (Builtin.firstCells i.size xs.length (.slice A xs.length xs.length)).run P w.drew = .ok cs.toArray w.drew := by
  obtain ⟨h1, h2, h3⟩ := hxs
  cases A with
  | none =>
   have h4 := h2 rfl
   have h5 : xs = [] := List.eq_nil_of_length_eq_zero h4
   subst h5
   exact ⟨[], by simp, rfl, run_firstCells_none w.drew i.size 0 0 0⟩
  | some ad =>
   have h5 : RepArr M i.size (xs.map f) ad := by
    rcases h3 with h3 | ⟨ad', e', h5⟩
    ·subst h3; trivial
    ·cases e'; exact h5
   obtain ⟨cs, k1, k2, k3⟩ := RepArr.cells h5
   have k1' : cs.length = xs.length * i.size := by simpa using k1
   exact ⟨cs, k1', k2, run_firstCells_some w.drew i.size xs.length ad xs.length xs.length cs k1' fun j u hu => hp.drew.cell (k3 j u hu)⟩
 obtain ⟨cs, k1, k2, k3⟩ := hold
 have hc : xs.length < xs.length + m := by omega
 have hr := run_append_grow_src (P := P) w t tx ty e i z ht hi hz A xs.length xs.length cs k3 x m news hs hc (by omega) (growslice_fits hc hb)
 have hlen : (cs ++ news).length = (xs.length + m) * i.size := by rw [List.length_append, k1, hl, Nat.add_mul]
 refine ⟨_, cs, _, hr, k2, ?_⟩
 refine (hp.drew.alloc _).objRow (grownCap_ge w (xs.length + m) xs.length e) (grownCap_le_maxLen w (xs.length + m) xs.length e (by unfold maxLen; exact h63)) ?_ ?_ hlen
 ·have := grownCap_ge w (xs.length + m) xs.length e
  rw [Array.size_append, List.size_toArray, size_zeroCells, hzs, hlen, ← Nat.add_mul]
  congr 1
  omega
 ·rw [Array.toList_append, ← hlen]
  exact List.take_left
theorem W_appendFL {o : Oper} {rest : List Oper} {d : Nat} {t e : TypeId} {x y : Operand} {z : Value} {bytes m c : Nat} {ad : Addr} {A : Option Addr} {xs ys : List α} {news : List Value} (hf : Frm n L a dd) (hp : Hp w0 M H w) (h0 : 0 < sz) (hm : 0 < m)
  (hxs : Sli M sz f A xs.length xs) (hys : RepSeq M (ys.map f) news)
  (hw : wantedL ops L o = some true) (hr : readyL L o = true) (hd : o.dst = some d) (hdn : Nat.blt d n = true) (ho : o.op = .call { callee := .builtin .append, args := #[x, y], argTypes := #[t, t] })
  (hx : ev L x = .slice A xs.length xs.length) (hy : ev L y = .slice (some ad) m c) (ht : P.underlying t = some (.slice e)) (hi : infoIs P e z sz bytes = true) (hl : (ys.length, news.length) = (m, m * sz))
  (hn : ∀ j u, news[j]? = some u → w.cell? (ad.add j) = some u)
  (hb : (xs.length + m) * bytes ≤ 140737488355328) (h63 : xs.length + m ≤ 9223372036854775807)
  (hk : ∀ A cap cs' w', Hp w0 M (.row e sz (.slice A (xs ++ ys).length cap) (xs ++ ys).length cs' :: H) w' → RepSeq M ((xs ++ ys).map f) cs' → ∀ a', Frm n ((d, .slice A (xs ++ ys).length cap) :: L) a' dd → wpList P ops Q rest a' w') : wpList P ops Q (o :: rest) a w := by
 obtain ⟨i, u, hi1, hi2, hi3, hi4, hi5, hi6⟩ := info_of hi
 simp only [Prod.mk.injEq] at hl
 have hsrc := Src.ofSlice (P := P) (size := sz) w ht ad m c news hl.2 hn (RepSeq.oneC _ _ hys)
 obtain ⟨v', cs, w', hrun, hcs, hp'⟩ := hp.appendFull (ty := o.type) hxs hsrc hm ht hi1 hi2 hi3 hi5 h0 (by rw [hi4]; exact hb) h63
 obtain ⟨A', cap, rfl, _⟩ := hp'.rowShape 0 rfl
 have e3 : xs.length + m = (xs ++ ys).length := by simp [hl.1]
 refine W_eq hf hw hr hd hdn (X_append ho hx hy hrun) fun a' ha => ?_
 rw [e3] at ha hp'
 exact hk A' cap (cs ++ news) w' hp' (hcs.more hys) a' ha
theorem Y20 {o : Oper} {rest : List Oper} {d : Nat} {t e : TypeId} {x y : Operand} {z : Value} {bytes m c : Nat} {ad : Addr} {A : Option Addr} {xs ys : List α} {news : List Value} (hf : Frm n L a dd) (hp : Hp w0 M H w) (h0 : 0 < sz) (hm : 0 < m) (hxs : Sli M sz f A xs.length xs) (hys : RepSeq M (ys.map f) news) (hd : o.dst = some d) (hdn : Nat.blt d n = true) (ho : o.op = .call { callee := .builtin .append, args := #[x, y], argTypes := #[t, t] }) (hl : (ys.length, news.length) = (m, m * sz)) (hn : ∀ j u, news[j]? = some u → w.cell? (ad.add j) = some u) (hb : (xs.length + m) * bytes ≤ 140737488355328) (h63 : xs.length + m ≤ 9223372036854775807) (hk : ∀ A cap cs' w', Hp w0 M (.row e sz (.slice A (xs ++ ys).length cap) (xs ++ ys).length cs' :: H) w' → RepSeq M ((xs ++ ys).map f) cs' → ∀ a', Frm n ((d, .slice A (xs ++ ys).length cap) :: L) a' dd → wpList P ops Q rest a' w') (hw : wantedL ops L o = some true := by kernel_rfl) (hr : readyL L o = true := by kernel_rfl) (hx : ev L x = .slice A xs.length xs.length := by kernel_rfl) (hy : ev L y = .slice (some ad) m c := by kernel_rfl) (ht : P.underlying t = some (.slice e) := by kernel_rfl) (hi : infoIs P e z sz bytes = true := by kernel_rfl) : wpList P ops Q (o :: rest) a w := W_appendFL hf hp h0 hm hxs hys hw hr hd hdn ho hx hy ht hi hl hn hb h63 hk
theorem W_appendFS {o : Oper} {rest : List Oper} {d : Nat} {t e : TypeId} {x y : Operand} {z : Value} {bytes c : Nat} {A B : Option Addr} {xs ys : List α} (hf : Frm n L a dd) (hp : Hp w0 M H w) (h0 : 0 < sz) (hsz : ∀ x, Szd sz (f x))
  (hxs : Sli M sz f A xs.length xs) (hys : Sli M sz f B c ys)
  (hw : wantedL ops L o = some true) (hr : readyL L o = true) (hd : o.dst = some d) (hdn : Nat.blt d n = true) (ho : o.op = .call { callee := .builtin .append, args := #[x, y], argTypes := #[t, t] })
  (hx : ev L x = .slice A xs.length xs.length) (hy : ev L y = .slice B ys.length c) (ht : P.underlying t = some (.slice e)) (hi : infoIs P e z sz bytes = true)
  (hb : (xs.length + ys.length) * bytes ≤ 140737488355328) (h63 : xs.length + ys.length ≤ 9223372036854775807)
  (hk : ∀ A cap M' w', M.le M' → Hp w0 M' H w' → Sli M' sz f A cap (xs ++ ys) → ∀ a', Frm n ((d, .slice A (xs ++ ys).length cap) :: L) a' dd → wpList P ops Q rest a' w') : wpList P ops Q (o :: rest) a w := by
 obtain ⟨i, u, hi1, hi2, hi3, hi4, hi5, hi6⟩ := info_of hi
 obtain ⟨h1, h2, h3⟩ := hys
 have hsrc : ∃ news, RepSeq M (ys.map f) news ∧ Src P sz t (.slice B ys.length c) ys.length news w := by
  cases B with
  | none =>
   have h4 := h2 rfl
   have h5 : ys = [] := List.eq_nil_of_length_eq_zero (by omega)
   subst h5
   exact ⟨[], rfl, Src.ofNil w ht c⟩
  | some ad =>
   have h5 : RepArr M sz (ys.map f) ad := by
    rcases h3 with h3 | ⟨ad', e', h5⟩
    ·subst h3; trivial
    ·cases e'; exact h5
   obtain ⟨news, k1, k2, k3⟩ := RepArr.cells h5
   exact ⟨news, k2, Src.ofSlice (P := P) (size := sz) w ht ad ys.length c news (by simpa using k1) (fun j u hu => hp.cell (k3 j u hu)) (RepSeq.oneC _ _ k2)⟩
 obtain ⟨news, hns, hsrc⟩ := hsrc
 rcases Nat.eq_zero_or_pos ys.length with hz | hz
 ·have hy0 : ys = [] := List.eq_nil_of_length_eq_zero hz
  subst hy0
  have hnw : news = [] := List.eq_nil_of_length_eq_zero (by simpa using hsrc.newsLen)
  subst hnw
  have hrun := run_append_nothing w t t o.type e i ht hi1 A xs.length xs.length (Nat.le_refl _) (.slice B 0 c) (by rw [hi3]; exact hsrc)
  refine W_eq hf hw hr hd hdn (X_append ho hx hy hrun) fun a' ha => ?_
  refine hk A xs.length M w (Mem.le_refl _) hp (by rw [List.append_nil]; exact hxs) a' ?_
  rw [List.append_nil]; exact ha
 ·obtain ⟨v', cs, w', hrun, hcs, hp'⟩ := hp.appendFull (ty := o.type) hxs hsrc hz ht hi1 hi2 hi3 hi5 h0 (by rw [hi4]; exact hb) h63
  have e3 : xs.length + ys.length = (xs ++ ys).length := by simp
  rw [e3] at hp'
  obtain ⟨A', cap, M', rfl, hM, hp2, hsl⟩ := hp'.rowSli (f := f) hsz (hcs.more hns)
  refine W_eq hf hw hr hd hdn (X_append ho hx hy hrun) fun a' ha => ?_
  exact hk A' cap M' w' hM hp2 hsl a' ha
theorem Y21 {o : Oper} {rest : List Oper} {d : Nat} {t e : TypeId} {x y : Operand} {z : Value} {bytes c : Nat} {A B : Option Addr} {xs ys : List α} (hf : Frm n L a dd) (hp : Hp w0 M H w) (h0 : 0 < sz) (hsz : ∀ x, Szd sz (f x)) (hxs : Sli M sz f A xs.length xs) (hys : Sli M sz f B c ys) (hd : o.dst = some d) (hdn : Nat.blt d n = true) (ho : o.op = .call { callee := .builtin .append, args := #[x, y], argTypes := #[t, t] }) (hb : (xs.length + ys.length) * bytes ≤ 140737488355328) (h63 : xs.length + ys.length ≤ 9223372036854775807) (hk : ∀ A cap M' w', M.le M' → Hp w0 M' H w' → Sli M' sz f A cap (xs ++ ys) → ∀ a', Frm n ((d, .slice A (xs ++ ys).length cap) :: L) a' dd → wpList P ops Q rest a' w') (hw : wantedL ops L o = some true := by kernel_rfl) (hr : readyL L o = true := by kernel_rfl) (hx : ev L x = .slice A xs.length xs.length := by kernel_rfl) (hy : ev L y = .slice B ys.length c := by kernel_rfl) (ht : P.underlying t = some (.slice e) := by kernel_rfl) (hi : infoIs P e z sz bytes = true := by kernel_rfl) : wpList P ops Q (o :: rest) a w := W_appendFS hf hp h0 hsz hxs hys hw hr hd hdn ho hx hy ht hi hb h63 hk
end
section
variable {P : Program} {w : World} {d : Nat} {xs ys : Array Value}
end
end Go.Vc
end

section
namespace Go.Proofs.YtalifkcchfkgmaaGreatDoor
open Go Go.Vc Go.RowKit
def store_Phys (n : Nat) (d0 : Int) : Option (List UInt8 × Int) :=
  ((bif (decide (d0 < 1)) then
      (some ((true)))
    else
      some ((decide ((1099511627776 : Int) < d0))) : Option Bool)).bind fun y_1 =>
  bif y_1 then
    (some ((([] : List UInt8), (2 : Int))))
  else
    (h_numText n d0).bind fun x_1 =>
    need ([112].length + x_1.1.length ≤ 9223372036854775807) <|
    some (([112] ++ x_1.1, x_1.2))
theorem store_Phys_ok (n : Nat) (M : Mem) (hG : GL M) (d0 : Int) (r : List UInt8 × Int) (hF : store_Phys n d0 = some r) : Ok Tryz.prog M 18 [.int .i64 d0] (fun _ v => v = .tuple #[S r.1, .int .i64 r.2]) := by
 unfold store_Phys at hF
 intro M1 hM0 w0 H w p0
 replace hG := GL.mono hM0 hG
 refine R_enter 20 Tryz.func18 rfl rfl (by simp) fun a0 f0 => RR (Y f0 2 fun _ f => eT (R_seq (R_seq ?_)))
 obtain ⟨j_1, hj_1, hF_1⟩ := bS hF
 refine R_mid (fun a_5 w_1 => ∃ y_1 : Bool, j_1 = y_1 ∧ ∃ M_1 : Mem, M1.le M_1 ∧ Frm 20 [(0, .int .i64 d0), (11, .bool y_1)] a_5 ∧ Hp w0 M_1 (H) w_1) ?_ ?_
 ·refine R_reg (Y f 3 fun _ f => ?_)
  rcases cE hj_1 with ⟨h_1, hF_2⟩ | ⟨h_1, hF_3⟩
  ·have k_1 := dI.1 h_1
   have f := f.st 8 (cB h_1)
   refine Y f 3 fun _ f => eT ?_
   exact ⟨(true), (sI hF_2).symm, M1, (mR _), f.kp, p0⟩
  ·have k_2 := iff_f dI h_1
   have f := f.st 8 (cB h_1)
   refine Y f 3 fun _ f => eT ?_
   exact ⟨(decide ((1099511627776 : Int) < d0)), (sI hF_3).symm, M1, (mR _), f.kp, p0⟩
 ·rintro a_5 w_1 ⟨y_1, hq_1, M_1, hM_1, f, p_1⟩
  subst j_1
  refine T_n (RcF f hF_1 (fun h_2 hF_4 => ?_) fun h_2 hF_5 => ?_)
  ·refine RR (Y f 2 fun _ f => eT (wp_ret (T_r (E_ret2 f rfl (by kernel_rfl : Vc.look _ 2 = some (S [])) (by kernel_rfl : Vc.look _ 3 = some (.int .i64 2)) ?_))))
   obtain rfl := sI hF_4
   exact ⟨_, rfl, M_1, hM_1, p_1, rfl⟩
  ·refine wp_skip (T_n (RR (Y f 1 fun _ f => ?_)))
   obtain ⟨x_1, hx_1, hF_6⟩ := bS hF_5
   refine Y18 f p_1 (h_numText_ok n _ d0 x_1 hx_1) fun w_2 p_2 _ f => Y f 5 fun _ f => eT (RR (Y f 1 fun _ f => ?_))
   obtain ⟨g_1, hF_7⟩ := nS hF_6
   refine Z f (Y29 rfl (l := [112]) (m := x_1.1) g_1) fun _ f => Y f 3 fun _ f => eT (wp_ret (E_ret2 f rfl (by kernel_rfl : Vc.look _ 2 = some (S ([112] ++ x_1.1))) (by kernel_rfl : Vc.look _ 3 = some (.int .i64 x_1.2)) ?_))
   obtain rfl := sI hF_7
   exact ⟨_, rfl, M_1, hM_1, p_2, rfl⟩
def store_Number (n : Nat) (d0 : List UInt8) : Option (Int × Bool) :=
  ((bif (decide (d0 = [])) then
      (some ((true)))
    else
      (getI d0 (0 : Int)).bind fun c_1 =>
      some ((!(decide (((c_1).toNat : Int) = 112)))) : Option Bool)).bind fun y_1 =>
  bif y_1 then
    (some (((0 : Int), (false))))
  else
    need (0 ≤ (1 : Int) ∧ (1 : Int) ≤ d0.length) <|
    (h_numRead n (d0.drop (1 : Int).toNat)).bind fun x_1 =>
    bif (!(decide (x_1.2 = 0))) then
      (some (((0 : Int), (false))))
    else
      bif (decide (x_1.1 < 1)) then
        (some (((0 : Int), (false))))
      else
        bif (decide ((1099511627776 : Int) < x_1.1)) then
          (some (((0 : Int), (false))))
        else
          some ((x_1.1, (true)))
theorem store_Number_ok (n : Nat) (M : Mem) (hG : GL M) (d0 : List UInt8) (r : Int × Bool) (hF : store_Number n d0 = some r) : Ok Tryz.prog M 19 [S d0] (fun _ v => v = .tuple #[.int .i64 r.1, .bool r.2]) := by
 unfold store_Number at hF
 intro M1 hM0 w0 H w p0
 replace hG := GL.mono hM0 hG
 refine R_enter 30 Tryz.func19 rfl rfl (by simp) fun a0 f0 => RR (Y f0 2 fun _ f => eT (R_seq (R_seq ?_)))
 obtain ⟨j_1, hj_1, hF_1⟩ := bS hF
 refine R_mid (fun a_9 w_1 => ∃ y_1 : Bool, j_1 = y_1 ∧ ∃ M_1 : Mem, M1.le M_1 ∧ Frm 30 [(0, S d0), (12, .bool y_1)] a_9 ∧ Hp w0 M_1 (H) w_1) ?_ ?_
 ·refine R_reg (Y f 1 fun _ f => Z f (Y38 rfl (l := d0) (m := [])) fun _ f => Y f 1 fun _ f => ?_)
  rcases cE hj_1 with ⟨h_1, hF_2⟩ | ⟨h_1, hF_3⟩
  ·have k_1 := dI.1 h_1
   have f := f.st 8 (cB h_1)
   refine Y f 4 fun _ f => eT ?_
   exact ⟨(true), (sI hF_2).symm, M1, (mR _), f.kp, p0⟩
  ·have k_2 := iff_f dI h_1
   have f := f.st 8 (cB h_1)
   refine Y f 1 fun _ f => ?_
   obtain ⟨c_1, hx_1, hF_4⟩ := bS hF_3
   refine Z f (Y37 rfl (l := d0) (k := .i64) (i := (0 : Int)) (getI_nn hx_1) (getI_lt hx_1)) fun _ f => ?_
   have f := Frm.set f 10 (v := .int .u8 ((d0.getD (0 : Int).toNat 0).toNat : Int)) (v' := .int .u8 ((c_1).toNat : Int)) (by kernel_rfl) (congrArg (fun c : UInt8 => Value.int .u8 ((c.toNat : Nat) : Int)) (getI_getD hx_1))
   refine Y f 2 fun _ f => eT ?_
   exact ⟨(!(decide (((c_1).toNat : Int) = 112))), (sI hF_4).symm, M1, (mR _), f.kp, p0⟩
 ·rintro a_9 w_1 ⟨y_1, hq_1, M_1, hM_1, f, p_1⟩
  subst j_1
  refine T_n (RcF f hF_1 (fun h_2 hF_5 => ?_) fun h_2 hF_6 => ?_)
  ·refine RR (Y f 2 fun _ f => eT (wp_ret (T_r (E_ret2 f rfl (by kernel_rfl : Vc.look _ 2 = some (.int .i64 0)) (by kernel_rfl : Vc.look _ 3 = some (.bool false)) ?_))))
   obtain rfl := sI hF_5
   exact ⟨_, rfl, M_1, hM_1, p_1, rfl⟩
  ·refine wp_skip (T_n (RR (Y f 1 fun _ f => ?_)))
   obtain ⟨g_1, hF_7⟩ := nS hF_6
   refine Z (v := S (d0.drop (1 : Int).toNat)) f (X_strFrom rfl (l := d0) (k := .i64) (a := (1 : Int)) (by kernel_rfl) (by kernel_rfl) (by kernel_rfl) g_1.1 g_1.2) fun _ f => ?_
   obtain ⟨x_1, hx_2, hF_8⟩ := bS hF_7
   refine Y18 f p_1 (h_numRead_ok n _ (d0.drop (1 : Int).toNat) x_1 hx_2) fun w_2 p_2 _ f => Y f 5 fun _ f => eT (R_seq (RR (Y f 3 fun _ f => ?_)))
   rcases cE hF_8 with ⟨h_3, hF_9⟩ | ⟨h_3, hF_10⟩
   ·have k_5 : ¬ (x_1.2 = 0) := (not_iff dI).1 h_3
    have f := f.st 21 (cB h_3)
    refine Y f 7 fun _ f => eT (Y8 f (RR (Y f 2 fun _ f => eT (wp_ret (T_r (E_ret2 f rfl (by kernel_rfl : Vc.look _ 2 = some (.int .i64 0)) (by kernel_rfl : Vc.look _ 3 = some (.bool false)) ?_))))))
    obtain rfl := sI hF_9
    exact ⟨_, rfl, M_1, hM_1, p_2, rfl⟩
   ·have k_6 : ¬ (¬ (x_1.2 = 0)) := iff_f (not_iff dI) h_3
    have f := f.st 21 (cB h_3)
    refine Y f 4 fun _ f => ?_
    rcases cE hF_10 with ⟨h_4, hF_11⟩ | ⟨h_4, hF_12⟩
    ·have k_7 := dI.1 h_4
     have f := f.st 25 (cB h_4)
     refine Y f 3 fun _ f => eT (Y8 f (RR (Y f 2 fun _ f => eT (wp_ret (T_r (E_ret2 f rfl (by kernel_rfl : Vc.look _ 2 = some (.int .i64 0)) (by kernel_rfl : Vc.look _ 3 = some (.bool false)) ?_))))))
     obtain rfl := sI hF_11
     exact ⟨_, rfl, M_1, hM_1, p_2, rfl⟩
    ·have k_8 := iff_f dI h_4
     have f := f.st 25 (cB h_4)
     refine Y f 3 fun _ f => eT (RcF f hF_12 (fun h_5 hF_13 => ?_) fun h_5 hF_14 => ?_)
     ·have k_9 := dI.1 h_5
      refine RR (Y f 2 fun _ f => eT (wp_ret (T_r (E_ret2 f rfl (by kernel_rfl : Vc.look _ 2 = some (.int .i64 0)) (by kernel_rfl : Vc.look _ 3 = some (.bool false)) ?_))))
      obtain rfl := sI hF_13
      exact ⟨_, rfl, M_1, hM_1, p_2, rfl⟩
     ·have k_10 := iff_f dI h_5
      refine wp_skip (T_n (RR (Y f 3 fun _ f => eT (wp_ret (E_ret2 f rfl (by kernel_rfl : Vc.look _ 2 = some (.int .i64 x_1.1)) (by kernel_rfl : Vc.look _ 3 = some (.bool true)) ?_)))))
      obtain rfl := sI hF_14
      exact ⟨_, rfl, M_1, hM_1, p_2, rfl⟩
def store_known_1 (n : Nat) (d0 : TE0) : Option Bool :=
  some ((d0.fUnknown))
theorem store_known_1_ok (n : Nat) (M : Mem) (hG : GL M) (c0 : List Value) (d0 : TE0) (h0 : Rep M (emb_TE0 d0) c0) (r : Bool) (hF : store_known_1 n d0 = some r) : Ok Tryz.prog M 68 [.agg c0.toArray] (fun _ v => v = .bool r) := by
 unfold store_known_1 at hF
 intro M1 hM0 w0 H w p0
 replace hG := GL.mono hM0 hG
 replace h0 := Rep.mono hM0 _ _ h0
 obtain ⟨A_1, cap_1, A_2, cap_2, rfl, h_1, h_2⟩ := TE0.opn h0
 refine R_enter 5 Tryz.func68 rfl rfl (by simp) fun a0 f0 => RR (Y13 (cs := #[S d0.fName, .bool d0.fUnknown, .int .i8 d0.fV.fKind, .bool d0.fV.fBool, .int .i64 d0.fV.fNum, S d0.fV.fText, .slice A_1 d0.fV.fList.length cap_1, .slice A_2 d0.fV.fKeys.length cap_2]) (T := 78) f0 p0 fun b_1 M_1 w_1 hM_1 hc_1 p_1 _ f => ?_)
 have hc_2 := fz_box hc_1
 refine Y f 1 fun _ f => eT (RR (Y f 1 fun _ f => Y15 f p_1 hc_2 1 rfl fun _ f => Y f 1 fun _ f => eT (wp_ret (E_ret1 f rfl (by kernel_rfl : Vc.look _ 2 = some (.bool d0.fUnknown)) ?_))))
 obtain rfl := sI hF
 exact ⟨_, rfl, M_1, hM_1, p_1, rfl⟩
def store_find_s1 (n : Nat) (d0 : List TE0) (s_1 : Int) : Option (Lp Int (Sum Int Unit)) :=
    bif (decide (s_1 < ((d0.length : Nat) : Int))) then
      ((getI d0 s_1).bind fun x_1 =>
      (store_known_1 n x_1).bind fun x_2 =>
      bif x_2 then
        (some (.br (.inl s_1)))
      else
        need (inR .i64 (s_1 + 1)) <|
        some (.nx (s_1 + 1)))
    else
      some (.br (.inr ()))
def store_find (n : Nat) (d0 : List TE0) : Option Int :=
  (loopF (store_find_s1 n d0) n (0 : Int)).bind fun b_1 =>
  (match b_1 with 
  | .inl y_1 => some (y_1) 
  | .inr y_2 => some ((-1 : Int)))
theorem store_find_ok (n : Nat) (M : Mem) (hG : GL M) (A0 : Option Addr) (cap0 : Nat) (d0 : List TE0) (h0 : Sli M 8 emb_TE0 A0 cap0 d0) (r : Int) (hF : store_find n d0 = some r) : Ok Tryz.prog M 67 [.slice A0 d0.length cap0, .func (.func 68) #[] #[]] (fun _ v => v = .int .i64 r) := by
 unfold store_find at hF
 intro M1 hM0 w0 H w p0
 replace hG := GL.mono hM0 hG
 replace h0 := h0.mono hM0
 refine R_enter 19 Tryz.func67 rfl rfl (by simp) fun a0 f0 => RR (Y f0 1 fun _ f => eT (R_seq (RR (Y f 3 fun _ f => eT (wp_block ?_)))))
 obtain ⟨b_1, hL_1, hF_1⟩ := bS hF
 refine wp_mono (Q := fun e a w => (e = .ret ∧ (∃ y_1 : Int, b_1 = .inl y_1 ∧ ∃ M_2 : Mem, M1.le M_2 ∧ Frm 19 [(4, .int .i64 y_1)] a ∧ Hp w0 M_2 (H) w)) ∨ (e = .exit 0 ∧ (∃ y_2 : Unit, b_1 = .inr y_2 ∧ ∃ M_3 : Mem, M1.le M_3 ∧ Frm 19 [] a ∧ Hp w0 M_3 (H) w))) (R_loop (n := 19) (w0 := w0) (M := M1) (fun (x : Nat × Int) => match x with | (m_1, s_1) => [(1, .func (.func 68) #[] #[]), (7, .slice A0 d0.length cap0), (8, .int .i64 ((d0.length : Nat) : Int)), (9, .int .i64 s_1)]) (fun (x : Nat × Int) => match x with | (m_1, s_1) => (H)) (fun (x : Nat × Int) (MM : Mem) => match x with | (m_1, s_1) => loopF (store_find_s1 n d0) m_1 s_1 = some b_1) (fun (x : Nat × Int) => match x with | (m_1, s_1) => m_1) (n, (0 : Int)) (f.kp) p0 hL_1 ?_) ?_
 ·rintro ⟨m_1, s_1⟩ M_1 _ w_1 hM_1 I_1 f p_1
  have I_1L := I_1
  obtain ⟨m_2, r_1, rfl, hs_1, hn_1⟩ := loop_step I_1L
  unfold store_find_s1 at hs_1
  refine RR (Y f 1 fun _ f => eT (R_seq (RcF f hs_1 (fun h_1 hF_2 => ?_) fun h_1 hF_8 => ?_)))
  ·have k_1 := dI.1 h_1
   refine wp_skip (T_n (R_seq (wp_block (RR (Y f 1 fun _ f => ?_)))))
   obtain ⟨x_1, hx_1, hF_3⟩ := bS hF_2
   obtain ⟨ad_1, c_1, e_1, -, hr_1, hc_1⟩ := Sli.at_ (h0.mono hM_1) hx_1
   obtain ⟨A_1, cap_1, A_2, cap_2, rfl, h_2, h_3⟩ := TE0.opn hr_1
   refine Z f (Y31 e_1 rfl (len := d0.length) (cap := cap0) (k := .i64) (i := s_1) (e := 78) (sz := 8) (getI_nn hx_1) (getI_lt hx_1)) fun _ f => Z (v := .agg #[S x_1.fName, .bool x_1.fUnknown, .int .i8 x_1.fV.fKind, .bool x_1.fV.fBool, .int .i64 x_1.fV.fNum, S x_1.fV.fText, .slice A_1 x_1.fV.fList.length cap_1, .slice A_2 x_1.fV.fKeys.length cap_2]) f (Y33 (cs := [S x_1.fName, .bool x_1.fUnknown, .int .i8 x_1.fV.fKind, .bool x_1.fV.fBool, .int .i64 x_1.fV.fNum, S x_1.fV.fText, .slice A_1 x_1.fV.fList.length cap_1, .slice A_2 x_1.fV.fKeys.length cap_2]) rfl (ad := ad_1.add (s_1.toNat * 8)) (fun j v h => p_1.cell (hc_1 j v h))) fun _ f => Y12 f p_1 (.cells #[S [], .bool false, .int .i8 0, .bool false, .int .i64 0, S [], .slice none 0 0, .slice none 0 0] 78 (0, 0)) fun b_2 w_2 p_2 _ f => Y f 1 fun _ f => Y28 (vs := [S x_1.fName, .bool x_1.fUnknown, .int .i8 x_1.fV.fKind, .bool x_1.fV.fBool, .int .i64 x_1.fV.fNum, S x_1.fV.fText, .slice A_1 x_1.fV.fList.length cap_1, .slice A_2 x_1.fV.fKeys.length cap_2]) (j := 0) f p_2 rfl rfl (by simp [Value.oneCell', S]) (by simp) (by decide) (cs' := #[S x_1.fName, .bool x_1.fUnknown, .int .i8 x_1.fV.fKind, .bool x_1.fV.fBool, .int .i64 x_1.fV.fNum, S x_1.fV.fText, .slice A_1 x_1.fV.fList.length cap_1, .slice A_2 x_1.fV.fKeys.length cap_2]) (by kernel_rfl) fun w_3 p_3 _ f => eT (RR (Y f 1 fun _ f => Z (v := .agg #[S x_1.fName, .bool x_1.fUnknown, .int .i8 x_1.fV.fKind, .bool x_1.fV.fBool, .int .i64 x_1.fV.fNum, S x_1.fV.fText, .slice A_1 x_1.fV.fList.length cap_1, .slice A_2 x_1.fV.fKeys.length cap_2]) f (Y33 (cs := [S x_1.fName, .bool x_1.fUnknown, .int .i8 x_1.fV.fKind, .bool x_1.fV.fBool, .int .i64 x_1.fV.fNum, S x_1.fV.fText, .slice A_1 x_1.fV.fList.length cap_1, .slice A_2 x_1.fV.fKeys.length cap_2]) rfl (ad := ⟨b_2, 0, none⟩) (own_cells (p_3.ownCell 0 rfl) 0 rfl)) fun _ f => ?_))
   obtain ⟨x_2, hx_2, hF_4⟩ := bS hF_3
   refine Y18 f p_3 (store_known_1_ok n _ (GL.mono hM_1 hG) _ x_1 (TE0.shutx (x := x_1) h_2 h_3) x_2 hx_2) fun w_4 p_4 _ f => eT (RcF f hF_4 (fun h_4 hF_5 => ?_) fun h_4 hF_6 => ?_)
   ·refine RR (Y f 2 fun _ f => eT (wp_ret (B_r (T_r (T_r ?_)))))
    obtain rfl := sI hF_5
    exact .inl ⟨rfl, s_1, (sI hn_1).symm, M_1, hM_1, f.kp, (p_4.dropN 1)⟩
   ·refine wp_skip (B_n (T_n (R_reg ?_)))
    obtain ⟨g_1, hF_7⟩ := nS hF_6
    refine Y f 1 fun _ f => ?_
    have f := f.st 18 (congrArg (Value.int .i64) (inR_wrap g_1))
    refine Y f 1 fun _ f => eT ?_
    obtain rfl := sI hF_7
    exact ⟨⟨m_2, s_1 + 1⟩, Nat.lt_succ_self _, M_1, hM_1, hn_1, f.kp, (p_4.dropN 1)⟩
  ·have k_4 := iff_f dI h_1
   refine wp_exit (T_x (T_x ?_))
   obtain rfl := sI hF_8
   exact .inr ⟨rfl, (), (sI hn_1).symm, M_1, hM_1, f.kp, p_1⟩
 ·rintro _ _ w_7 (⟨rfl, y_1, rfl, M_2, hM_2, f, p_5⟩ | ⟨rfl, y_2, rfl, M_3, hM_3, f, p_6⟩)
  ·refine B_r (T_r (E_ret1 f rfl (by kernel_rfl : Vc.look _ 4 = some (.int .i64 y_1)) ?_))
   obtain rfl := sI hF_1
   exact ⟨_, rfl, M_2, hM_2, p_5, rfl⟩
  ·refine B_x (T_n (RR (Y f 1 fun _ f => eT (wp_ret (E_ret1 f rfl (by kernel_rfl : Vc.look _ 4 = some (.int .i64 (-1))) ?_)))))
   obtain rfl := sI hF_1
   exact ⟨_, rfl, M_3, hM_3, p_6, rfl⟩
def store_known (n : Nat) (d0 : List TE0) : Option Bool :=
  (store_find n d0).bind fun x_1 =>
  some ((decide (x_1 < 0)))
theorem store_known_ok (n : Nat) (M : Mem) (hG : GL M) (A0 : Option Addr) (cap0 : Nat) (d0 : List TE0) (h0 : Sli M 8 emb_TE0 A0 cap0 d0) (r : Bool) (hF : store_known n d0 = some r) : Ok Tryz.prog M 38 [.slice A0 d0.length cap0] (fun _ v => v = .bool r) := by
 unfold store_known at hF
 intro M1 hM0 w0 H w p0
 replace hG := GL.mono hM0 hG
 replace h0 := h0.mono hM0
 refine R_enter 6 Tryz.func38 rfl rfl (by simp) fun a0 f0 => RR (Y f0 1 fun _ f => eT (RR (Y f 1 fun _ f => ?_)))
 obtain ⟨x_1, hx_1, hF_1⟩ := bS hF
 refine Y18 f p0 (store_find_ok n _ hG A0 cap0 d0 h0 x_1 hx_1) fun w_1 p_1 _ f => Y f 2 fun _ f => eT (wp_ret (E_ret1 f rfl (by kernel_rfl : Vc.look _ 2 = some (.bool (decide (x_1 < 0)))) ?_))
 obtain rfl := sI hF_1
 exact ⟨_, rfl, M1, (mR _), p_1, rfl⟩
end Go.Proofs.YtalifkcchfkgmaaGreatDoor
end
