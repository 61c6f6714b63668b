/-
  Texts of this claim, packed (what nothing names is left out): G2, Vp, Vo2, VkL, RefsIt, RefsP1, O1, VkJ, VkK, Shelf, HdR, O2, AllM, AllH, IterL, Iter, AllR, S1. Own work, partly printed by own programs. No condition.
-/
import Derived.Test.YtpjgpnfdadpkkaaPkM1
import Derived.Test.YtpjgpnfdadpkkaaRows
import Derived.Lib.SlicesCompact
import Derived.Shelf.Strings.Builder1
import Derived.Shelf.Strings.Builder2
import Derived.Shelf.Strings.OnBuilder
import Derived.Shelf.Small.Bits
import Derived.Shelf.Strconv.Itoa0
import Derived.Shelf.Sort.Plain
import Derived.Shelf.Slices.In.SortNone
import Derived.Test.YtpjgpnfdadpkkaaProg
import Derived.Shelf.SlLaysZ
import Derived.Shelf.SlLaysM
import Derived.Shelf.SlGeneric
import Derived.Ground.GgzProg
import Derived.Ground.SlgmProg
import Derived.Shelf.SlIter.Nil
import Derived.Shelf.SortM.Plain
import Derived.Shelf.SortM.SortNone
set_option linter.unusedVariables false
set_option linter.unusedSimpArgs false
set_option maxHeartbeats 2000000
section
namespace Go.Proofs.Ytpjgpnfdadpkkaa
open Go Go.Vc Go.RowKit
def ref13_weightCond_s1 (n : Nat) (rec_ref13_weightCond : TF0 → Int → Option Int) (d0 : TF0) (d1 : Int) (s_1 : Int × Int) : Option (Lp (Int × Int) Int) :=
    ((bif (decide (s_1.2 < ((d0.fL.length : Nat) : Int))) then
        (some ((decide (s_1.1 < 400))))
      else
        some ((false)) : Option Bool)).bind fun y_2 =>
    bif y_2 then
      ((getI d0.fL s_1.2).bind fun x_3 =>
      need (inR .i64 (d1 + 1)) <|
      (rec_ref13_weightCond x_3 (d1 + 1)).bind fun x_4 =>
      need (inR .i64 (s_1.1 + x_4)) <|
      need (inR .i64 (s_1.2 + 1)) <|
      some (.nx (s_1.1 + x_4, s_1.2 + 1)))
    else
      some (.br s_1.1)
def ref13_weightCond_b (n : Nat) (rec_ref13_weightCond : TF0 → Int → Option Int) (d0 : TF0) (d1 : Int) : Option Int :=
  ((bif (decide ((12 : Int) < d1)) then
      (some ((true)))
    else
      bif (decide ((20 : Int) < ((d0.fL.length : Nat) : Int))) then
        (some ((true)))
      else
        (ref12_Great n (⟨d0.fA.fKind, d0.fA.fText, d0.fA.fNum, d0.fA.fName, d0.fA.fAttr, d0.fA.fL⟩ : TH0)).bind fun x_1 =>
        bif x_1 then
          (some ((true)))
        else
          (ref12_Great n (⟨d0.fB.fKind, d0.fB.fText, d0.fB.fNum, d0.fB.fName, d0.fB.fAttr, d0.fB.fL⟩ : TH0)).bind fun x_2 =>
          some ((x_2)) : Option Bool)).bind fun y_1 =>
  bif y_1 then
    (some ((1048576 : Int)))
  else
    (loopF (ref13_weightCond_s1 n rec_ref13_weightCond d0 d1) n ((1 : Int), (0 : Int))).bind fun y_3 =>
    some (y_3)
set_option maxRecDepth 20000 in
theorem ref13_weightCond_b_ok (n : Nat) (rec_ref13_weightCond : TF0 → Int → Option Int) (hrec_ref13_weightCond : ∀ (M : Mem) (c0 : List Value) (d0 : TF0) (h0 : Rep M (emb_TF0 d0) c0) (d1 : Int) (r : Int) (hF : rec_ref13_weightCond d0 d1 = some r), Ok Try.prog M 21 [.agg c0.toArray, .int .i64 d1] (fun _ v => v = .int .i64 r)) (M : Mem) (c0 : List Value) (d0 : TF0) (h0 : Rep M (emb_TF0 d0) c0) (d1 : Int) (r : Int) (hF : ref13_weightCond_b n rec_ref13_weightCond d0 d1 = some r) : Ok Try.prog M 21 [.agg c0.toArray, .int .i64 d1] (fun _ v => v = .int .i64 r) := by
 unfold ref13_weightCond_b at hF
 intro M1 hM0 w0 H w p0
 replace h0 := Rep.mono hM0 _ _ h0
 obtain ⟨A_1, cap_1, A_2, cap_2, A_3, cap_3, rfl, h_1, h_2, h_3⟩ := TF0.opn h0
 refine R_enter 47 Try.func21 rfl rfl (by simp) fun a0 f0 => RR (Y12 (cs := #[S d0.fName, .int .i8 d0.fKind, .int .i8 d0.fA.fKind, S d0.fA.fText, .int .i64 d0.fA.fNum, S d0.fA.fName, S d0.fA.fAttr, .slice A_1 d0.fA.fL.length cap_1, .int .i8 d0.fB.fKind, S d0.fB.fText, .int .i64 d0.fB.fNum, S d0.fB.fName, S d0.fB.fAttr, .slice A_2 d0.fB.fL.length cap_2, .slice A_3 d0.fL.length cap_3]) (T := 45) f0 p0 fun b_1 M_1 w_1 hM_1 hc_1 p_1 _ f => ?_)
 have hc_2 := fz_box hc_1
 refine Y f 1 fun _ f => eT (R_seq (R_seq ?_))
 obtain ⟨j_1, hj_1, hF_1⟩ := bS hF
 refine R_mid (fun a_18 w_4 => ∃ y_1 : Bool, j_1 = y_1 ∧ ∃ M_2 : Mem, M_1.le M_2 ∧ Frm 47 [(1, .int .i64 d1), (2, .pointer (some (⟨b_1, 0, none⟩))), (24, .bool y_1)] a_18 ∧ Hp w0 M_2 (H) w_4) ?_ ?_
 ·refine R_reg (Y f 3 fun _ f => ?_)
  rcases cE hj_1 with ⟨h_4, hF_2⟩ | ⟨h_4, hF_3⟩
  ·have k_1 := dI.1 h_4
   have f := f.st 9 (cB h_4)
   refine Y f 15 fun _ f => eT ?_
   exact ⟨(true), (sI hF_2).symm, M_1, (mR _), f.kp, p_1⟩
  ·have k_2 := iff_f dI h_4
   have f := f.st 9 (cB h_4)
   refine Y f 1 fun _ f => Y14 f p_1 hc_2 14 rfl fun _ f => Y f 4 fun _ f => ?_
   rcases cE hF_3 with ⟨h_5, hF_4⟩ | ⟨h_5, hF_5⟩
   ·have k_3 := dI.1 h_5
    have f := f.st 15 (cB h_5)
    refine Y f 9 fun _ f => eT ?_
    exact ⟨(true), (sI hF_4).symm, M_1, (mR _), f.kp, p_1⟩
   ·have k_4 := iff_f dI h_5
    have f := f.st 15 (cB h_5)
    refine Y f 1 fun _ f => Z (v := .agg #[.int .i8 d0.fA.fKind, S d0.fA.fText, .int .i64 d0.fA.fNum, S d0.fA.fName, S d0.fA.fAttr, .slice A_1 d0.fA.fL.length cap_1]) f (Y27 (cs := [.int .i8 d0.fA.fKind, S d0.fA.fText, .int .i64 d0.fA.fNum, S d0.fA.fName, S d0.fA.fAttr, .slice A_1 d0.fA.fL.length cap_1]) rfl (ad := (⟨b_1, 0, none⟩ : Addr).add 2) (fz_part (base := (⟨b_1, 0, none⟩ : Addr)) (fun j v h => p_1.cell (hc_2 j v h)) 2 rfl)) fun _ f => ?_
    obtain ⟨x_1, hx_1, hF_6⟩ := bS hF_5
    refine Y17 f p_1 (ref12_Great_ok n _ _ (⟨d0.fA.fKind, d0.fA.fText, d0.fA.fNum, d0.fA.fName, d0.fA.fAttr, d0.fA.fL⟩ : TH0) (TH0.shut (h_1.mono hM_1)) x_1 hx_1) fun w_2 p_2 _ f => Y f 2 fun _ f => ?_
    rcases cE hF_6 with ⟨h_6, hF_7⟩ | ⟨h_6, hF_8⟩
    ·have f := f.st 20 (cB h_6)
     refine Y f 4 fun _ f => eT ?_
     exact ⟨(true), (sI hF_7).symm, M_1, (mR _), f.kp, p_2⟩
    ·have f := f.st 20 (cB h_6)
     refine Y f 1 fun _ f => Z (v := .agg #[.int .i8 d0.fB.fKind, S d0.fB.fText, .int .i64 d0.fB.fNum, S d0.fB.fName, S d0.fB.fAttr, .slice A_2 d0.fB.fL.length cap_2]) f (Y27 (cs := [.int .i8 d0.fB.fKind, S d0.fB.fText, .int .i64 d0.fB.fNum, S d0.fB.fName, S d0.fB.fAttr, .slice A_2 d0.fB.fL.length cap_2]) rfl (ad := (⟨b_1, 0, none⟩ : Addr).add 8) (fz_part (base := (⟨b_1, 0, none⟩ : Addr)) (fun j v h => p_2.cell (hc_2 j v h)) 8 rfl)) fun _ f => ?_
     obtain ⟨x_2, hx_2, hF_9⟩ := bS hF_8
     refine Y17 f p_2 (ref12_Great_ok n _ _ (⟨d0.fB.fKind, d0.fB.fText, d0.fB.fNum, d0.fB.fName, d0.fB.fAttr, d0.fB.fL⟩ : TH0) (TH0.shut (h_2.mono hM_1)) x_2 hx_2) fun w_3 p_3 _ f => Y f 1 fun _ f => eT ?_
     exact ⟨(x_2), (sI hF_9).symm, M_1, (mR _), f.kp, p_3⟩
 ·rintro a_18 w_4 ⟨y_1, hq_1, M_2, hM_2, f, p_4⟩
  subst j_1
  refine T_n (RcF f hF_1 (fun h_7 hF_10 => ?_) fun h_7 hF_11 => ?_)
  ·refine RR (Y f 1 fun _ f => eT (wp_ret (T_r (E_ret1 f rfl (by kernel_rfl : Vc.look _ 4 = some (.int .i64 1048576)) ?_))))
   obtain rfl := sI hF_10
   exact ⟨_, rfl, M_2, (hM_1.trans hM_2), p_4, rfl⟩
  ·refine wp_skip (T_n (RR (Y f 1 fun _ f => eT (R_seq (RR (Y f 1 fun _ f => eT (wp_block ?_)))))))
   obtain ⟨b_2, hL_1, hF_12⟩ := bS hF_11
   refine wp_mono (Q := fun e a w => (e = .exit 0 ∧ (∃ y_3 : Int, b_2 = y_3 ∧ ∃ M_5 : Mem, M_2.le M_5 ∧ Frm 47 [(5, .int .i64 y_3)] a ∧ Hp w0 M_5 (H) w))) (R_loop (n := 47) (w0 := w0) (M := M_2) (fun (x : Nat × (Int × Int)) => match x with | (m_1, s_1) => [(1, .int .i64 d1), (2, .pointer (some (⟨b_1, 0, none⟩))), (5, .int .i64 s_1.1), (6, .int .i64 s_1.2)]) (fun (x : Nat × (Int × Int)) => match x with | (m_1, s_1) => (H)) (fun (x : Nat × (Int × Int)) (MM : Mem) => match x with | (m_1, s_1) => loopF (ref13_weightCond_s1 n rec_ref13_weightCond d0 d1) m_1 s_1 = some b_2) (fun (x : Nat × (Int × Int)) => match x with | (m_1, s_1) => m_1) (n, ((1 : Int), (0 : Int))) (f.kp) p_4 hL_1 ?_) ?_
   ·rintro ⟨m_1, s_1⟩ M_3 _ w_5 hM_3 I_1 f p_5
    have I_1L := I_1
    obtain ⟨m_2, r_1, rfl, hs_1, hn_1⟩ := loop_step I_1L
    unfold ref13_weightCond_s1 at hs_1
    refine R_seq (R_seq ?_)
    obtain ⟨j_2, hj_2, hF_13⟩ := bS hs_1
    refine R_mid (fun a_28 w_6 => ∃ y_2 : Bool, j_2 = y_2 ∧ ∃ M_4 : Mem, M_3.le M_4 ∧ Frm 47 [(1, .int .i64 d1), (2, .pointer (some (⟨b_1, 0, none⟩))), (5, .int .i64 s_1.1), (6, .int .i64 s_1.2), (33, .bool y_2)] a_28 ∧ Hp w0 M_4 (H) w_6) ?_ ?_
    ·refine R_reg (Y f 2 fun _ f => Y14 f p_5 (fzu (hM_2.trans hM_3) hc_2) 14 rfl fun _ f => Y f 3 fun _ f => ?_)
     rcases cE hj_2 with ⟨h_8, hF_14⟩ | ⟨h_8, hF_15⟩
     ·have k_9 := dI.1 h_8
      have f := f.st 30 (cB h_8)
      refine Y f 3 fun _ f => eT ?_
      exact ⟨(decide (s_1.1 < 400)), (sI hF_14).symm, M_3, (mR _), f.kp, p_5⟩
     ·have k_10 := iff_f dI h_8
      have f := f.st 30 (cB h_8)
      refine Y f 3 fun _ f => eT ?_
      exact ⟨(false), (sI hF_15).symm, M_3, (mR _), f.kp, p_5⟩
    ·rintro a_28 w_6 ⟨y_2, hq_2, M_4, hM_4, f, p_6⟩
     subst j_2
     refine T_n (RcF f hF_13 (fun h_9 hF_16 => ?_) fun h_9 hF_22 => ?_)
     ·refine wp_skip (T_n (R_seq (wp_block (R_reg (Y f 2 fun _ f => Y14 f p_6 (fzu ((hM_2.trans hM_3).trans hM_4) hc_2) 14 rfl fun _ f => Y f 1 fun _ f => ?_)))))
      obtain ⟨x_3, hx_3, hF_17⟩ := bS hF_16
      obtain ⟨ad_1, c_1, e_1, -, hr_1, hc_3⟩ := Sli.at_ (h_3.mono (((hM_1.trans hM_2).trans hM_3).trans hM_4)) hx_3
      obtain ⟨A_4, cap_4, A_5, cap_5, A_6, cap_6, rfl, h_10, h_11, h_12⟩ := TF0.opn hr_1
      refine Z f (Y25 e_1 rfl (len := d0.fL.length) (cap := cap_3) (k := .i64) (i := s_1.2) (e := 45) (sz := 15) (getI_nn hx_3) (getI_lt hx_3)) fun _ f => Z (v := .agg #[S x_3.fName, .int .i8 x_3.fKind, .int .i8 x_3.fA.fKind, S x_3.fA.fText, .int .i64 x_3.fA.fNum, S x_3.fA.fName, S x_3.fA.fAttr, .slice A_4 x_3.fA.fL.length cap_4, .int .i8 x_3.fB.fKind, S x_3.fB.fText, .int .i64 x_3.fB.fNum, S x_3.fB.fName, S x_3.fB.fAttr, .slice A_5 x_3.fB.fL.length cap_5, .slice A_6 x_3.fL.length cap_6]) f (Y27 (cs := [S x_3.fName, .int .i8 x_3.fKind, .int .i8 x_3.fA.fKind, S x_3.fA.fText, .int .i64 x_3.fA.fNum, S x_3.fA.fName, S x_3.fA.fAttr, .slice A_4 x_3.fA.fL.length cap_4, .int .i8 x_3.fB.fKind, S x_3.fB.fText, .int .i64 x_3.fB.fNum, S x_3.fB.fName, S x_3.fB.fAttr, .slice A_5 x_3.fB.fL.length cap_5, .slice A_6 x_3.fL.length cap_6]) rfl (ad := ad_1.add (s_1.2.toNat * 15)) (fun j v h => p_6.cell (hc_3 j v h))) fun _ f => Y f 1 fun _ f => ?_
      obtain ⟨g_1, hF_18⟩ := nS hF_17
      refine Y f 1 fun _ f => ?_
      have f := f.st 43 (congrArg (Value.int .i64) (inR_wrap g_1))
      obtain ⟨x_4, hx_4, hF_19⟩ := bS hF_18
      refine Y17 f p_6 (hrec_ref13_weightCond _ _ x_3 (TF0.shutx (x := x_3) h_10 h_11 h_12) (d1 + 1) x_4 hx_4) fun w_7 p_7 _ f => ?_
      obtain ⟨g_2, hF_20⟩ := nS hF_19
      refine Y f 1 fun _ f => ?_
      have f := f.st 45 (congrArg (Value.int .i64) (inR_wrap g_2))
      refine Y f 1 fun _ f => W_end rfl (B_n (T_n (R_reg (Y f 1 fun _ f => ?_))))
      obtain ⟨g_3, hF_21⟩ := nS hF_20
      refine Y f 1 fun _ f => ?_
      have f := f.st 35 (congrArg (Value.int .i64) (inR_wrap g_3))
      refine Y f 1 fun _ f => eT ?_
      obtain rfl := sI hF_21
      exact ⟨⟨m_2, (s_1.1 + x_4, s_1.2 + 1)⟩, Nat.lt_succ_self _, M_4, (hM_3.trans hM_4), hn_1, f.kp, p_7⟩
     ·refine wp_exit (T_x (T_x ?_))
      obtain rfl := sI hF_22
      exact ⟨rfl, s_1.1, (sI hn_1).symm, M_4, (hM_3.trans hM_4), f.kp, p_6⟩
   ·rintro _ _ w_9 ⟨rfl, y_3, hq_, M_5, hM_5, f, p_8⟩
    subst b_2
    refine B_x (T_n (RR (Y f 2 fun _ f => eT (wp_ret (E_ret1 f rfl (by kernel_rfl : Vc.look _ 4 = some (.int .i64 y_3)) ?_)))))
    obtain rfl := sI hF_12
    exact ⟨_, rfl, M_5, ((hM_1.trans hM_2).trans hM_5), p_8, rfl⟩
def ref13_weightCond_k (n : Nat) : Nat → TF0 → Int → Option Int
  | 0 => fun _ _ => none
  | k + 1 => ref13_weightCond_b n (ref13_weightCond_k n k)
def ref13_weightCond (n : Nat) (d0 : TF0) (d1 : Int) : Option Int := ref13_weightCond_k n n d0 d1
theorem ref13_weightCond_ok (n : Nat) (M : Mem) (c0 : List Value) (d0 : TF0) (h0 : Rep M (emb_TF0 d0) c0) (d1 : Int) (r : Int) (hF : ref13_weightCond n d0 d1 = some r) : Ok Try.prog M 21 [.agg c0.toArray, .int .i64 d1] (fun _ v => v = .int .i64 r) := by
 have key : ∀ (k : Nat) (M : Mem) (c0 : List Value) (d0 : TF0) (h0 : Rep M (emb_TF0 d0) c0) (d1 : Int) (r : Int) (hF : ref13_weightCond_k n k d0 d1 = some r), Ok Try.prog M 21 [.agg c0.toArray, .int .i64 d1] (fun _ v => v = .int .i64 r) := by
  intro k
  induction k with
  | zero => intro M c0 d0 h0 d1 r hF; simp [ref13_weightCond_k] at hF
  | succ k ih => intro M c0 d0 h0 d1 r hF; exact ref13_weightCond_b_ok n (ref13_weightCond_k n k) ih M c0 d0 h0 d1 r hF
 exact key n M c0 d0 h0 d1 r hF
def ref13_weight_s2 (n : Nat) (d0 : TA0) (s_1 : Int × Int) (s_2 : Int) : Option (Lp Int (Sum Unit Unit)) :=
    (getI d0.fParams s_1.2).bind fun x_5 =>
    bif (decide (s_2 < ((x_5.fAllowed.length : Nat) : Int))) then
      ((getI d0.fParams s_1.2).bind fun x_6 =>
      (getI x_6.fAllowed s_2).bind fun x_7 =>
      (ref03_Great n x_7).bind fun x_8 =>
      bif x_8 then
        (some (.br (.inl ())))
      else
        need (inR .i64 (s_2 + 1)) <|
        some (.nx (s_2 + 1)))
    else
      some (.br (.inr ()))
def ref13_weight_s1 (n : Nat) (d0 : TA0) (s_1 : Int × Int) : Option (Lp (Int × Int) (Sum Unit Int)) :=
    bif (decide (s_1.2 < ((d0.fParams.length : Nat) : Int))) then
      ((getI d0.fParams s_1.2).bind fun x_1 =>
      need (inR .i64 (s_1.1 + ((x_1.fAllowed.length : Nat) : Int))) <|
      (((getI d0.fParams s_1.2).bind fun x_2 =>
        bif (decide ((60 : Int) < ((x_2.fAllowed.length : Nat) : Int))) then
          (some ((true)))
        else
          (getI d0.fParams s_1.2).bind fun x_3 =>
          (ref03_Great n (⟨x_3.fDefault.fKind, (x_3.fDefault.fBool), x_3.fDefault.fNum, x_3.fDefault.fText, x_3.fDefault.fList, x_3.fDefault.fKeys⟩ : TE0)).bind fun x_4 =>
          some ((x_4)) : Option Bool)).bind fun y_2 =>
      bif y_2 then
        (some (.br (.inl ())))
      else
        (loopF (ref13_weight_s2 n d0 s_1) n (0 : Int)).bind fun b_3 =>
        (match b_3 with 
        | .inl y_3 => some (.br (.inl ())) 
        | .inr y_4 => need (inR .i64 (s_1.2 + 1)) <|
          some (.nx (s_1.1 + ((x_1.fAllowed.length : Nat) : Int), s_1.2 + 1))))
    else
      some (.br (.inr s_1.1))
def ref13_weight_s3 (n : Nat) (d0 : TA0) (s_3 : Int × Int) : Option (Lp (Int × Int) Int) :=
    bif (decide (s_3.2 < ((d0.fConds.length : Nat) : Int))) then
      ((getI d0.fConds s_3.2).bind fun x_9 =>
      (ref13_weightCond n x_9 (0 : Int)).bind fun x_10 =>
      need (inR .i64 (s_3.1 + x_10)) <|
      need (inR .i64 (s_3.2 + 1)) <|
      some (.nx (s_3.1 + x_10, s_3.2 + 1)))
    else
      some (.br s_3.1)
def ref13_weight_s4 (n : Nat) (d0 : TA0) (y_7 : Int) (s_4 : Int) : Option (Lp Int (Sum Unit Unit)) :=
    ((bif (decide (s_4 < ((d0.fOuts.length : Nat) : Int))) then
        (some ((decide (y_7 < 4000))))
      else
        some ((false)) : Option Bool)).bind fun y_8 =>
    bif y_8 then
      ((getI d0.fOuts s_4).bind fun x_11 =>
      (ref12_Great n (⟨x_11.fE.fKind, x_11.fE.fText, x_11.fE.fNum, x_11.fE.fName, x_11.fE.fAttr, x_11.fE.fL⟩ : TH0)).bind fun x_12 =>
      bif x_12 then
        (some (.br (.inl ())))
      else
        need (inR .i64 (s_4 + 1)) <|
        some (.nx (s_4 + 1)))
    else
      some (.br (.inr ()))
def ref13_weight_s6 (n : Nat) (d0 : TA0) (s_5 : Int × Int) (s_6 : Int) : Option (Lp Int (Sum Unit Unit)) :=
    (getI d0.fRes s_5.2).bind fun x_19 =>
    bif (decide (s_6 < ((x_19.fProps.length : Nat) : Int))) then
      ((getI d0.fRes s_5.2).bind fun x_20 =>
      (getI x_20.fProps s_6).bind fun x_21 =>
      (ref12_Great n (⟨x_21.fE.fKind, x_21.fE.fText, x_21.fE.fNum, x_21.fE.fName, x_21.fE.fAttr, x_21.fE.fL⟩ : TH0)).bind fun x_22 =>
      bif x_22 then
        (some (.br (.inl ())))
      else
        need (inR .i64 (s_6 + 1)) <|
        some (.nx (s_6 + 1)))
    else
      some (.br (.inr ()))
def ref13_weight_s7 (n : Nat) (rec_ref13_weight : TA0 → Int → Option Int) (d0 : TA0) (d1 : Int) (s_5 : Int × Int) (s_7 : Int × Int) : Option (Lp (Int × Int) Int) :=
    (getI d0.fRes s_5.2).bind fun x_23 =>
    bif (decide (s_7.2 < ((x_23.fInner.length : Nat) : Int))) then
      ((getI d0.fRes s_5.2).bind fun x_24 =>
      (getI x_24.fInner s_7.2).bind fun x_25 =>
      need (inR .i64 (d1 + 1)) <|
      (rec_ref13_weight x_25 (d1 + 1)).bind fun x_26 =>
      need (inR .i64 (s_7.1 + x_26)) <|
      need (inR .i64 (s_7.2 + 1)) <|
      some (.nx (s_7.1 + x_26, s_7.2 + 1)))
    else
      some (.br s_7.1)
def ref13_weight_s5 (n : Nat) (rec_ref13_weight : TA0 → Int → Option Int) (d0 : TA0) (d1 : Int) (s_5 : Int × Int) : Option (Lp (Int × Int) (Sum Unit Int)) :=
    ((bif (decide (s_5.2 < ((d0.fRes.length : Nat) : Int))) then
        (some ((decide (s_5.1 < 4000))))
      else
        some ((false)) : Option Bool)).bind fun y_11 =>
    bif y_11 then
      ((getI d0.fRes s_5.2).bind fun x_13 =>
      need (inR .i64 (s_5.1 + ((x_13.fProps.length : Nat) : Int))) <|
      (getI d0.fRes s_5.2).bind fun x_14 =>
      need (inR .i64 ((s_5.1 + ((x_13.fProps.length : Nat) : Int)) + ((x_14.fDepends.length : Nat) : Int))) <|
      (getI d0.fRes s_5.2).bind fun x_15 =>
      need (inR .i64 (((s_5.1 + ((x_13.fProps.length : Nat) : Int)) + ((x_14.fDepends.length : Nat) : Int)) + ((x_15.fInner.length : Nat) : Int))) <|
      (((getI d0.fRes s_5.2).bind fun x_16 =>
        bif (decide ((60 : Int) < ((x_16.fProps.length : Nat) : Int))) then
          (some ((true)))
        else
          (getI d0.fRes s_5.2).bind fun x_17 =>
          bif (decide ((60 : Int) < ((x_17.fDepends.length : Nat) : Int))) then
            (some ((true)))
          else
            (getI d0.fRes s_5.2).bind fun x_18 =>
            some ((decide ((4 : Int) < ((x_18.fInner.length : Nat) : Int)))) : Option Bool)).bind fun y_12 =>
      bif y_12 then
        (some (.br (.inl ())))
      else
        (loopF (ref13_weight_s6 n d0 s_5) n (0 : Int)).bind fun b_7 =>
        (match b_7 with 
        | .inl y_13 => some (.br (.inl ())) 
        | .inr y_14 => (loopF (ref13_weight_s7 n rec_ref13_weight d0 d1 s_5) n (((s_5.1 + ((x_13.fProps.length : Nat) : Int)) + ((x_14.fDepends.length : Nat) : Int)) + ((x_15.fInner.length : Nat) : Int), (0 : Int))).bind fun y_15 =>
          need (inR .i64 (s_5.2 + 1)) <|
          some (.nx (y_15, s_5.2 + 1))))
    else
      some (.br (.inr s_5.1))
def ref13_weight_b (n : Nat) (rec_ref13_weight : TA0 → Int → Option Int) (d0 : TA0) (d1 : Int) : Option Int :=
  need (inR .i64 (((d0.fParams.length : Nat) : Int) + ((d0.fConds.length : Nat) : Int))) <|
  need (inR .i64 ((((d0.fParams.length : Nat) : Int) + ((d0.fConds.length : Nat) : Int)) + ((d0.fRes.length : Nat) : Int))) <|
  need (inR .i64 (((((d0.fParams.length : Nat) : Int) + ((d0.fConds.length : Nat) : Int)) + ((d0.fRes.length : Nat) : Int)) + ((d0.fOuts.length : Nat) : Int))) <|
  ((bif (decide ((4 : Int) < d1)) then
      (some ((true)))
    else
      some ((decide ((60 : Int) < (((((d0.fParams.length : Nat) : Int) + ((d0.fConds.length : Nat) : Int)) + ((d0.fRes.length : Nat) : Int)) + ((d0.fOuts.length : Nat) : Int))))) : Option Bool)).bind fun y_1 =>
  bif y_1 then
    (some ((1048576 : Int)))
  else
    (loopF (ref13_weight_s1 n d0) n (((((d0.fParams.length : Nat) : Int) + ((d0.fConds.length : Nat) : Int)) + ((d0.fRes.length : Nat) : Int)) + ((d0.fOuts.length : Nat) : Int), (0 : Int))).bind fun b_2 =>
    (match b_2 with 
    | .inl y_5 => some ((1048576 : Int)) 
    | .inr y_6 => (loopF (ref13_weight_s3 n d0) n (y_6, (0 : Int))).bind fun y_7 =>
      (loopF (ref13_weight_s4 n d0 y_7) n (0 : Int)).bind fun b_5 =>
      (match b_5 with 
      | .inl y_9 => some ((1048576 : Int)) 
      | .inr y_10 => (loopF (ref13_weight_s5 n rec_ref13_weight d0 d1) n (y_7, (0 : Int))).bind fun b_6 =>
        (match b_6 with 
        | .inl y_16 => some ((1048576 : Int)) 
        | .inr y_17 => some (y_17))))
set_option maxRecDepth 20000 in
theorem ref13_weight_b_ok (n : Nat) (rec_ref13_weight : TA0 → Int → Option Int) (hrec_ref13_weight : ∀ (M : Mem) (c0 : List Value) (d0 : TA0) (h0 : Rep M (emb_TA0 d0) c0) (d1 : Int) (r : Int) (hF : rec_ref13_weight d0 d1 = some r), Ok Try.prog M 10 [.agg c0.toArray, .int .i64 d1] (fun _ v => v = .int .i64 r)) (M : Mem) (c0 : List Value) (d0 : TA0) (h0 : Rep M (emb_TA0 d0) c0) (d1 : Int) (r : Int) (hF : ref13_weight_b n rec_ref13_weight d0 d1 = some r) : Ok Try.prog M 10 [.agg c0.toArray, .int .i64 d1] (fun _ v => v = .int .i64 r) := by
 unfold ref13_weight_b at hF
 intro M1 hM0 w0 H w p0
 replace h0 := Rep.mono hM0 _ _ h0
 obtain ⟨A_1, cap_1, A_2, cap_2, A_3, cap_3, A_4, cap_4, rfl, h_1, h_2, h_3, h_4⟩ := TA0.opn h0
 refine R_enter 233 Try.func10 rfl rfl (by simp) fun a0 f0 => RR (Y12 (cs := #[.slice A_1 d0.fParams.length cap_1, .slice A_2 d0.fConds.length cap_2, .slice A_3 d0.fRes.length cap_3, .slice A_4 d0.fOuts.length cap_4]) (T := 27) f0 p0 fun b_1 M_1 w_1 hM_1 hc_1 p_1 _ f => ?_)
 have hc_2 := fz_box hc_1
 refine Y f 1 fun _ f => eT (RR (Y f 1 fun _ f => Y14 f p_1 hc_2 0 rfl fun _ f => Y f 2 fun _ f => Y14 f p_1 hc_2 1 rfl fun _ f => Y f 1 fun _ f => ?_))
 obtain ⟨g_1, hF_1⟩ := nS hF
 refine Y f 1 fun _ f => ?_
 have f := f.st 19 (congrArg (Value.int .i64) (inR_wrap g_1))
 refine Y f 1 fun _ f => Y14 f p_1 hc_2 2 rfl fun _ f => Y f 1 fun _ f => ?_
 obtain ⟨g_2, hF_2⟩ := nS hF_1
 refine Y f 1 fun _ f => ?_
 have f := f.st 23 (congrArg (Value.int .i64) (inR_wrap g_2))
 refine Y f 1 fun _ f => Y14 f p_1 hc_2 3 rfl fun _ f => Y f 1 fun _ f => ?_
 obtain ⟨g_3, hF_3⟩ := nS hF_2
 refine Y f 1 fun _ f => ?_
 have f := f.st 27 (congrArg (Value.int .i64) (inR_wrap g_3))
 refine Y f 1 fun _ f => eT (R_seq (R_seq ?_))
 obtain ⟨j_1, hj_1, hF_4⟩ := bS hF_3
 refine R_mid (fun a_21 w_2 => ∃ y_1 : Bool, j_1 = y_1 ∧ ∃ M_2 : Mem, M_1.le M_2 ∧ Frm 233 [(1, .int .i64 d1), (2, .pointer (some (⟨b_1, 0, none⟩))), (5, .int .i64 (((((d0.fParams.length : Nat) : Int) + ((d0.fConds.length : Nat) : Int)) + ((d0.fRes.length : Nat) : Int)) + ((d0.fOuts.length : Nat) : Int))), (33, .bool y_1)] a_21 ∧ Hp w0 M_2 (H) w_2) ?_ ?_
 ·refine R_reg (Y f 3 fun _ f => ?_)
  rcases cE hj_1 with ⟨h_5, hF_5⟩ | ⟨h_5, hF_6⟩
  ·have k_1 := dI.1 h_5
   have f := f.st 30 (cB h_5)
   refine Y f 3 fun _ f => eT ?_
   exact ⟨(true), (sI hF_5).symm, M_1, (mR _), f.kp, p_1⟩
  ·have k_2 := iff_f dI h_5
   have f := f.st 30 (cB h_5)
   refine Y f 3 fun _ f => eT ?_
   exact ⟨(decide ((60 : Int) < (((((d0.fParams.length : Nat) : Int) + ((d0.fConds.length : Nat) : Int)) + ((d0.fRes.length : Nat) : Int)) + ((d0.fOuts.length : Nat) : Int)))), (sI hF_6).symm, M_1, (mR _), f.kp, p_1⟩
 ·rintro a_21 w_2 ⟨y_1, hq_1, M_2, hM_2, f, p_2⟩
  subst j_1
  refine T_n (RcF f hF_4 (fun h_6 hF_7 => ?_) fun h_6 hF_8 => ?_)
  ·refine RR (Y f 1 fun _ f => eT (wp_ret (T_r (E_ret1 f rfl (by kernel_rfl : Vc.look _ 4 = some (.int .i64 1048576)) ?_))))
   obtain rfl := sI hF_7
   exact ⟨_, rfl, M_2, (hM_1.trans hM_2), p_2, rfl⟩
  ·refine wp_skip (T_n (R_seq (RR (Y f 1 fun _ f => eT (wp_block ?_)))))
   obtain ⟨b_2, hL_1, hF_9⟩ := bS hF_8
   refine wp_mono (Q := fun e a w => (e = .ret ∧ (∃ y_5 : Unit, b_2 = .inl y_5 ∧ ∃ M_8 : Mem, M_2.le M_8 ∧ Frm 233 [(4, .int .i64 1048576)] a ∧ Hp w0 M_8 (H) w)) ∨ (e = .exit 0 ∧ (∃ y_6 : Int, b_2 = .inr y_6 ∧ ∃ M_9 : Mem, M_2.le M_9 ∧ Frm 233 [(1, .int .i64 d1), (2, .pointer (some (⟨b_1, 0, none⟩))), (5, .int .i64 y_6)] a ∧ Hp w0 M_9 (H) w))) (R_loop (n := 233) (w0 := w0) (M := M_2) (fun (x : Nat × (Int × Int)) => match x with | (m_1, s_1) => [(1, .int .i64 d1), (2, .pointer (some (⟨b_1, 0, none⟩))), (5, .int .i64 s_1.1), (6, .int .i64 s_1.2)]) (fun (x : Nat × (Int × Int)) => match x with | (m_1, s_1) => (H)) (fun (x : Nat × (Int × Int)) (MM : Mem) => match x with | (m_1, s_1) => loopF (ref13_weight_s1 n d0) m_1 s_1 = some b_2) (fun (x : Nat × (Int × Int)) => match x with | (m_1, s_1) => m_1) (n, (((((d0.fParams.length : Nat) : Int) + ((d0.fConds.length : Nat) : Int)) + ((d0.fRes.length : Nat) : Int)) + ((d0.fOuts.length : Nat) : Int), (0 : Int))) (f.kp) p_2 hL_1 ?_) ?_
   ·rintro ⟨m_1, s_1⟩ M_3 _ w_3 hM_3 I_1 f p_3
    have I_1L := I_1
    obtain ⟨m_2, r_1, rfl, hs_1, hn_1⟩ := loop_step I_1L
    unfold ref13_weight_s1 at hs_1
    refine R_seq (RR (Y f 2 fun _ f => Y14 f p_3 (fzu (hM_2.trans hM_3) hc_2) 0 rfl fun _ f => Y f 2 fun _ f => eT (RcF f hs_1 (fun h_7 hF_10 => ?_) fun h_7 hF_32 => ?_)))
    ·have k_5 := dI.1 h_7
     refine wp_skip (T_n (R_seq (wp_block (RR (Y f 2 fun _ f => Y14 f p_3 (fzu (hM_2.trans hM_3) hc_2) 0 rfl fun _ f => Y f 1 fun _ f => ?_)))))
     obtain ⟨x_1, hx_1, hF_11⟩ := bS hF_10
     obtain ⟨ad_1, c_1, e_1, -, hr_1, hc_3⟩ := Sli.at_ (h_1.mono ((hM_1.trans hM_2).trans hM_3)) hx_1
     obtain ⟨A_5, cap_5, A_6, cap_6, A_7, cap_7, rfl, h_8, h_9, h_10⟩ := TD0.opn hr_1
     refine Z f (Y25 e_1 rfl (len := d0.fParams.length) (cap := cap_1) (k := .i64) (i := s_1.2) (e := 43) (sz := 10) (getI_nn hx_1) (getI_lt hx_1)) fun _ f => Y f 1 fun _ f => Y14 f p_3 hc_3 9 rfl fun _ f => Y f 1 fun _ f => ?_
     obtain ⟨g_4, hF_12⟩ := nS hF_11
     refine Y f 1 fun _ f => ?_
     have f := f.st 49 (congrArg (Value.int .i64) (inR_wrap g_4))
     refine Y f 1 fun _ f => eT (R_seq (R_seq ?_))
     obtain ⟨j_2, hj_2, hF_13⟩ := bS hF_12
     refine R_mid (fun a_53 w_5 => ∃ y_2 : Bool, j_2 = y_2 ∧ ∃ M_4 : Mem, M_3.le M_4 ∧ Frm 233 [(1, .int .i64 d1), (2, .pointer (some (⟨b_1, 0, none⟩))), (5, .int .i64 (s_1.1 + ((x_1.fAllowed.length : Nat) : Int))), (6, .int .i64 s_1.2), (66, .bool y_2)] a_53 ∧ Hp w0 M_4 (H) w_5) ?_ ?_
     ·refine R_reg (Y f 1 fun _ f => Y14 f p_3 (fzu (hM_2.trans hM_3) hc_2) 0 rfl fun _ f => Y f 1 fun _ f => ?_)
      obtain ⟨x_2, hx_2, hF_14⟩ := bS hj_2
      obtain ⟨ad_2, c_2, e_2, -, hr_2, hc_4⟩ := Sli.at_ (h_1.mono ((hM_1.trans hM_2).trans hM_3)) hx_2
      obtain ⟨A_8, cap_8, A_9, cap_9, A_10, cap_10, rfl, h_11, h_12, h_13⟩ := TD0.opn hr_2
      refine Z f (Y25 e_2 rfl (len := d0.fParams.length) (cap := cap_1) (k := .i64) (i := s_1.2) (e := 43) (sz := 10) (getI_nn hx_2) (getI_lt hx_2)) fun _ f => Y f 1 fun _ f => Y14 f p_3 hc_4 9 rfl fun _ f => Y f 3 fun _ f => ?_
      rcases cE hF_14 with ⟨h_14, hF_15⟩ | ⟨h_14, hF_16⟩
      ·have k_6 := dI.1 h_14
       have f := f.st 58 (cB h_14)
       refine Y f 8 fun _ f => eT ?_
       exact ⟨(true), (sI hF_15).symm, M_3, (mR _), f.kp, p_3⟩
      ·have k_7 := iff_f dI h_14
       have f := f.st 58 (cB h_14)
       refine Y f 1 fun _ f => Y14 f p_3 (fzu (hM_2.trans hM_3) hc_2) 0 rfl fun _ f => Y f 1 fun _ f => ?_
       obtain ⟨x_3, hx_3, hF_17⟩ := bS hF_16
       obtain ⟨ad_3, c_3, e_3, -, hr_3, hc_5⟩ := Sli.at_ (h_1.mono ((hM_1.trans hM_2).trans hM_3)) hx_3
       obtain ⟨A_11, cap_11, A_12, cap_12, A_13, cap_13, rfl, h_15, h_16, h_17⟩ := TD0.opn hr_3
       refine Z f (Y25 e_3 rfl (len := d0.fParams.length) (cap := cap_1) (k := .i64) (i := s_1.2) (e := 43) (sz := 10) (getI_nn hx_3) (getI_lt hx_3)) fun _ f => Y f 1 fun _ f => Z (v := .agg #[.int .i8 x_3.fDefault.fKind, .bool x_3.fDefault.fBool, .int .i64 x_3.fDefault.fNum, S x_3.fDefault.fText, .slice A_11 x_3.fDefault.fList.length cap_11, .slice A_12 x_3.fDefault.fKeys.length cap_12]) f (Y27 (cs := [.int .i8 x_3.fDefault.fKind, .bool x_3.fDefault.fBool, .int .i64 x_3.fDefault.fNum, S x_3.fDefault.fText, .slice A_11 x_3.fDefault.fList.length cap_11, .slice A_12 x_3.fDefault.fKeys.length cap_12]) rfl (ad := (ad_3.add (s_1.2.toNat * 10)).add 3) (fz_part (base := ad_3.add (s_1.2.toNat * 10)) (fun j v h => p_3.cell (hc_5 j v h)) 3 rfl)) fun _ f => ?_
       obtain ⟨x_4, hx_4, hF_18⟩ := bS hF_17
       refine Y17 f p_3 (ref03_Great_ok n _ _ (⟨x_3.fDefault.fKind, (x_3.fDefault.fBool), x_3.fDefault.fNum, x_3.fDefault.fText, x_3.fDefault.fList, x_3.fDefault.fKeys⟩ : TE0) (TE0.shut h_15 h_16) x_4 hx_4) fun w_4 p_4 _ f => Y f 1 fun _ f => eT ?_
       exact ⟨(x_4), (sI hF_18).symm, M_3, (mR _), f.kp, p_4⟩
     ·rintro a_53 w_5 ⟨y_2, hq_2, M_4, hM_4, f, p_5⟩
      subst j_2
      refine T_n (RcF f hF_13 (fun h_18 hF_19 => ?_) fun h_18 hF_20 => ?_)
      ·refine RR (Y f 1 fun _ f => eT (wp_ret (T_r (B_r (T_r (T_r ?_))))))
       obtain rfl := sI hF_19
       exact .inl ⟨rfl, (), (sI hn_1).symm, M_4, (hM_3.trans hM_4), f.kp, p_5⟩
      ·refine wp_skip (T_n (RR (Y f 1 fun _ f => eT (wp_block ?_))))
       obtain ⟨b_3, hL_2, hF_21⟩ := bS hF_20
       refine wp_mono (Q := fun e a w => (e = .ret ∧ (∃ y_3 : Unit, b_3 = .inl y_3 ∧ ∃ M_6 : Mem, M_4.le M_6 ∧ Frm 233 [(4, .int .i64 1048576)] a ∧ Hp w0 M_6 (H) w)) ∨ (e = .exit 2 ∧ (∃ y_4 : Unit, b_3 = .inr y_4 ∧ ∃ M_7 : Mem, M_4.le M_7 ∧ Frm 233 [(1, .int .i64 d1), (2, .pointer (some (⟨b_1, 0, none⟩))), (5, .int .i64 (s_1.1 + ((x_1.fAllowed.length : Nat) : Int))), (6, .int .i64 s_1.2)] a ∧ Hp w0 M_7 (H) w))) (R_loop (n := 233) (w0 := w0) (M := M_4) (fun (x : Nat × Int) => match x with | (m_3, s_2) => [(1, .int .i64 d1), (2, .pointer (some (⟨b_1, 0, none⟩))), (5, .int .i64 (s_1.1 + ((x_1.fAllowed.length : Nat) : Int))), (6, .int .i64 s_1.2), (7, .int .i64 s_2)]) (fun (x : Nat × Int) => match x with | (m_3, s_2) => (H)) (fun (x : Nat × Int) (MM : Mem) => match x with | (m_3, s_2) => loopF (ref13_weight_s2 n d0 s_1) m_3 s_2 = some b_3) (fun (x : Nat × Int) => match x with | (m_3, s_2) => m_3) (n, (0 : Int)) (f.kp) p_5 hL_2 ?_) ?_
       ·rintro ⟨m_3, s_2⟩ M_5 _ w_6 hM_5 I_2 f p_6
        have I_2L := I_2
        obtain ⟨m_4, r_2, rfl, hs_2, hn_2⟩ := loop_step I_2L
        unfold ref13_weight_s2 at hs_2
        refine R_seq (RR (Y f 2 fun _ f => Y14 f p_6 (fzu (((hM_2.trans hM_3).trans hM_4).trans hM_5) hc_2) 0 rfl fun _ f => Y f 1 fun _ f => ?_))
        obtain ⟨x_5, hx_5, hF_22⟩ := bS hs_2
        obtain ⟨ad_4, c_4, e_4, -, hr_4, hc_6⟩ := Sli.at_ (h_1.mono ((((hM_1.trans hM_2).trans hM_3).trans hM_4).trans hM_5)) hx_5
        obtain ⟨A_14, cap_14, A_15, cap_15, A_16, cap_16, rfl, h_19, h_20, h_21⟩ := TD0.opn hr_4
        refine Z f (Y25 e_4 rfl (len := d0.fParams.length) (cap := cap_1) (k := .i64) (i := s_1.2) (e := 43) (sz := 10) (getI_nn hx_5) (getI_lt hx_5)) fun _ f => Y f 1 fun _ f => Y14 f p_6 hc_6 9 rfl fun _ f => Y f 2 fun _ f => eT (RcF f hF_22 (fun h_22 hF_23 => ?_) fun h_22 hF_30 => ?_)
        ·have k_10 := dI.1 h_22
         refine wp_skip (T_n (R_seq (wp_block (RR (Y f 1 fun _ f => Y14 f p_6 (fzu (((hM_2.trans hM_3).trans hM_4).trans hM_5) hc_2) 0 rfl fun _ f => Y f 1 fun _ f => ?_)))))
         obtain ⟨x_6, hx_6, hF_24⟩ := bS hF_23
         obtain ⟨ad_5, c_5, e_5, -, hr_5, hc_7⟩ := Sli.at_ (h_1.mono ((((hM_1.trans hM_2).trans hM_3).trans hM_4).trans hM_5)) hx_6
         obtain ⟨A_17, cap_17, A_18, cap_18, A_19, cap_19, rfl, h_23, h_24, h_25⟩ := TD0.opn hr_5
         refine Z f (Y25 e_5 rfl (len := d0.fParams.length) (cap := cap_1) (k := .i64) (i := s_1.2) (e := 43) (sz := 10) (getI_nn hx_6) (getI_lt hx_6)) fun _ f => Y f 1 fun _ f => Y14 f p_6 hc_7 9 rfl fun _ f => Y f 1 fun _ f => ?_
         obtain ⟨x_7, hx_7, hF_25⟩ := bS hF_24
         obtain ⟨ad_6, c_6, e_6, -, hr_6, hc_8⟩ := Sli.at_ h_25 hx_7
         obtain ⟨A_20, cap_20, A_21, cap_21, rfl, h_26, h_27⟩ := TE0.opn hr_6
         refine Z f (Y25 e_6 rfl (len := x_6.fAllowed.length) (cap := cap_19) (k := .i64) (i := s_2) (e := 41) (sz := 6) (getI_nn hx_7) (getI_lt hx_7)) fun _ f => Z (v := .agg #[.int .i8 x_7.fKind, .bool x_7.fBool, .int .i64 x_7.fNum, S x_7.fText, .slice A_20 x_7.fList.length cap_20, .slice A_21 x_7.fKeys.length cap_21]) f (Y27 (cs := [.int .i8 x_7.fKind, .bool x_7.fBool, .int .i64 x_7.fNum, S x_7.fText, .slice A_20 x_7.fList.length cap_20, .slice A_21 x_7.fKeys.length cap_21]) rfl (ad := ad_6.add (s_2.toNat * 6)) (fun j v h => p_6.cell (hc_8 j v h))) fun _ f => ?_
         obtain ⟨x_8, hx_8, hF_26⟩ := bS hF_25
         refine Y17 f p_6 (ref03_Great_ok n _ _ x_7 (TE0.shutx (x := x_7) h_26 h_27) x_8 hx_8) fun w_7 p_7 _ f => eT (RcF f hF_26 (fun h_28 hF_27 => ?_) fun h_28 hF_28 => ?_)
         ·refine RR (Y f 1 fun _ f => eT (wp_ret (B_r (T_r (T_r ?_)))))
          obtain rfl := sI hF_27
          exact .inl ⟨rfl, (), (sI hn_2).symm, M_5, hM_5, f.kp, p_7⟩
         ·refine wp_skip (B_n (T_n (R_reg (Y f 1 fun _ f => ?_))))
          obtain ⟨g_5, hF_29⟩ := nS hF_28
          refine Y f 1 fun _ f => ?_
          have f := f.st 77 (congrArg (Value.int .i64) (inR_wrap g_5))
          refine Y f 1 fun _ f => eT ?_
          obtain rfl := sI hF_29
          exact ⟨⟨m_4, s_2 + 1⟩, Nat.lt_succ_self _, M_5, hM_5, hn_2, f.kp, p_7⟩
        ·have k_13 := iff_f dI h_22
         refine wp_exit (T_x (T_x ?_))
         obtain rfl := sI hF_30
         exact .inr ⟨rfl, (), (sI hn_2).symm, M_5, hM_5, f.kp, p_6⟩
       ·rintro _ _ w_10 (⟨rfl, y_3, rfl, M_6, hM_6, f, p_8⟩ | ⟨rfl, y_4, rfl, M_7, hM_7, f, p_9⟩)
        ·refine B_r (B_r (T_r (T_r ?_)))
         obtain rfl := sI hF_21
         exact .inl ⟨rfl, (), (sI hn_1).symm, M_6, ((hM_3.trans hM_4).trans hM_6), f.kp, p_8⟩
        ·refine B_x (B_n (T_n (R_reg (Y f 1 fun _ f => ?_))))
         obtain ⟨g_6, hF_31⟩ := nS hF_21
         refine Y f 1 fun _ f => ?_
         have f := f.st 40 (congrArg (Value.int .i64) (inR_wrap g_6))
         refine Y f 1 fun _ f => eT ?_
         obtain rfl := sI hF_31
         exact ⟨⟨m_2, (s_1.1 + ((x_1.fAllowed.length : Nat) : Int), s_1.2 + 1)⟩, Nat.lt_succ_self _, M_7, ((hM_3.trans hM_4).trans hM_7), hn_1, f.kp, p_9⟩
    ·have k_14 := iff_f dI h_7
     refine wp_exit (T_x (T_x ?_))
     obtain rfl := sI hF_32
     exact .inr ⟨rfl, s_1.1, (sI hn_1).symm, M_3, hM_3, f.kp, p_3⟩
   ·rintro _ _ w_13 (⟨rfl, y_5, rfl, M_8, hM_8, f, p_10⟩ | ⟨rfl, y_6, rfl, M_9, hM_9, f, p_11⟩)
    ·refine B_r (T_r (E_ret1 f rfl (by kernel_rfl : Vc.look _ 4 = some (.int .i64 1048576)) ?_))
     obtain rfl := sI hF_9
     exact ⟨_, rfl, M_8, ((hM_1.trans hM_2).trans hM_8), p_10, rfl⟩
    ·refine B_x (T_n (R_seq (RR (Y f 1 fun _ f => eT (wp_block ?_)))))
     obtain ⟨b_4, hL_3, hF_33⟩ := bS hF_9
     refine wp_mono (Q := fun e a w => (e = .exit 4 ∧ (∃ y_7 : Int, b_4 = y_7 ∧ ∃ M_11 : Mem, M_9.le M_11 ∧ Frm 233 [(1, .int .i64 d1), (2, .pointer (some (⟨b_1, 0, none⟩))), (5, .int .i64 y_7)] a ∧ Hp w0 M_11 (H) w))) (R_loop (n := 233) (w0 := w0) (M := M_9) (fun (x : Nat × (Int × Int)) => match x with | (m_5, s_3) => [(1, .int .i64 d1), (2, .pointer (some (⟨b_1, 0, none⟩))), (5, .int .i64 s_3.1), (8, .int .i64 s_3.2)]) (fun (x : Nat × (Int × Int)) => match x with | (m_5, s_3) => (H)) (fun (x : Nat × (Int × Int)) (MM : Mem) => match x with | (m_5, s_3) => loopF (ref13_weight_s3 n d0) m_5 s_3 = some b_4) (fun (x : Nat × (Int × Int)) => match x with | (m_5, s_3) => m_5) (n, (y_6, (0 : Int))) (f.kp) p_11 hL_3 ?_) ?_
     ·rintro ⟨m_5, s_3⟩ M_10 _ w_14 hM_10 I_3 f p_12
      have I_3L := I_3
      obtain ⟨m_6, r_3, rfl, hs_3, hn_3⟩ := loop_step I_3L
      unfold ref13_weight_s3 at hs_3
      refine R_seq (RR (Y f 2 fun _ f => Y14 f p_12 (fzu ((hM_2.trans hM_9).trans hM_10) hc_2) 1 rfl fun _ f => Y f 2 fun _ f => eT (RcF f hs_3 (fun h_29 hF_34 => ?_) fun h_29 hF_39 => ?_)))
      ·have k_15 := dI.1 h_29
       refine wp_skip (T_n (R_seq (wp_block (R_reg (Y f 2 fun _ f => Y14 f p_12 (fzu ((hM_2.trans hM_9).trans hM_10) hc_2) 1 rfl fun _ f => Y f 1 fun _ f => ?_)))))
       obtain ⟨x_9, hx_9, hF_35⟩ := bS hF_34
       obtain ⟨ad_7, c_7, e_7, -, hr_7, hc_9⟩ := Sli.at_ (h_2.mono (((hM_1.trans hM_2).trans hM_9).trans hM_10)) hx_9
       obtain ⟨A_22, cap_22, A_23, cap_23, A_24, cap_24, rfl, h_30, h_31, h_32⟩ := TF0.opn hr_7
       refine Z f (Y25 e_7 rfl (len := d0.fConds.length) (cap := cap_2) (k := .i64) (i := s_3.2) (e := 45) (sz := 15) (getI_nn hx_9) (getI_lt hx_9)) fun _ f => Z (v := .agg #[S x_9.fName, .int .i8 x_9.fKind, .int .i8 x_9.fA.fKind, S x_9.fA.fText, .int .i64 x_9.fA.fNum, S x_9.fA.fName, S x_9.fA.fAttr, .slice A_22 x_9.fA.fL.length cap_22, .int .i8 x_9.fB.fKind, S x_9.fB.fText, .int .i64 x_9.fB.fNum, S x_9.fB.fName, S x_9.fB.fAttr, .slice A_23 x_9.fB.fL.length cap_23, .slice A_24 x_9.fL.length cap_24]) f (Y27 (cs := [S x_9.fName, .int .i8 x_9.fKind, .int .i8 x_9.fA.fKind, S x_9.fA.fText, .int .i64 x_9.fA.fNum, S x_9.fA.fName, S x_9.fA.fAttr, .slice A_22 x_9.fA.fL.length cap_22, .int .i8 x_9.fB.fKind, S x_9.fB.fText, .int .i64 x_9.fB.fNum, S x_9.fB.fName, S x_9.fB.fAttr, .slice A_23 x_9.fB.fL.length cap_23, .slice A_24 x_9.fL.length cap_24]) rfl (ad := ad_7.add (s_3.2.toNat * 15)) (fun j v h => p_12.cell (hc_9 j v h))) fun _ f => ?_
       obtain ⟨x_10, hx_10, hF_36⟩ := bS hF_35
       refine Y17 f p_12 (ref13_weightCond_ok n _ _ x_9 (TF0.shutx (x := x_9) h_30 h_31 h_32) (0 : Int) x_10 hx_10) fun w_15 p_13 _ f => ?_
       obtain ⟨g_7, hF_37⟩ := nS hF_36
       refine Y f 1 fun _ f => ?_
       have f := f.st 102 (congrArg (Value.int .i64) (inR_wrap g_7))
       refine Y f 1 fun _ f => W_end rfl (B_n (T_n (R_reg (Y f 1 fun _ f => ?_))))
       obtain ⟨g_8, hF_38⟩ := nS hF_37
       refine Y f 1 fun _ f => ?_
       have f := f.st 94 (congrArg (Value.int .i64) (inR_wrap g_8))
       refine Y f 1 fun _ f => eT ?_
       obtain rfl := sI hF_38
       exact ⟨⟨m_6, (s_3.1 + x_10, s_3.2 + 1)⟩, Nat.lt_succ_self _, M_10, hM_10, hn_3, f.kp, p_13⟩
      ·have k_16 := iff_f dI h_29
       refine wp_exit (T_x (T_x ?_))
       obtain rfl := sI hF_39
       exact ⟨rfl, s_3.1, (sI hn_3).symm, M_10, hM_10, f.kp, p_12⟩
     ·rintro _ _ w_17 ⟨rfl, y_7, hq_, M_11, hM_11, f, p_14⟩
      subst b_4
      refine B_x (T_n (R_seq (RR (Y f 1 fun _ f => eT (wp_block ?_)))))
      obtain ⟨b_5, hL_4, hF_40⟩ := bS hF_33
      refine wp_mono (Q := fun e a w => (e = .ret ∧ (∃ y_9 : Unit, b_5 = .inl y_9 ∧ ∃ M_14 : Mem, M_11.le M_14 ∧ Frm 233 [(4, .int .i64 1048576)] a ∧ Hp w0 M_14 (H) w)) ∨ (e = .exit 6 ∧ (∃ y_10 : Unit, b_5 = .inr y_10 ∧ ∃ M_15 : Mem, M_11.le M_15 ∧ Frm 233 [(1, .int .i64 d1), (2, .pointer (some (⟨b_1, 0, none⟩))), (5, .int .i64 y_7)] a ∧ Hp w0 M_15 (H) w))) (R_loop (n := 233) (w0 := w0) (M := M_11) (fun (x : Nat × Int) => match x with | (m_7, s_4) => [(1, .int .i64 d1), (2, .pointer (some (⟨b_1, 0, none⟩))), (5, .int .i64 y_7), (9, .int .i64 s_4)]) (fun (x : Nat × Int) => match x with | (m_7, s_4) => (H)) (fun (x : Nat × Int) (MM : Mem) => match x with | (m_7, s_4) => loopF (ref13_weight_s4 n d0 y_7) m_7 s_4 = some b_5) (fun (x : Nat × Int) => match x with | (m_7, s_4) => m_7) (n, (0 : Int)) (f.kp) p_14 hL_4 ?_) ?_
      ·rintro ⟨m_7, s_4⟩ M_12 _ w_18 hM_12 I_4 f p_15
       have I_4L := I_4
       obtain ⟨m_8, r_4, rfl, hs_4, hn_4⟩ := loop_step I_4L
       unfold ref13_weight_s4 at hs_4
       refine R_seq (R_seq ?_)
       obtain ⟨j_3, hj_3, hF_41⟩ := bS hs_4
       refine R_mid (fun a_112 w_19 => ∃ y_8 : Bool, j_3 = y_8 ∧ ∃ M_13 : Mem, M_12.le M_13 ∧ Frm 233 [(1, .int .i64 d1), (2, .pointer (some (⟨b_1, 0, none⟩))), (5, .int .i64 y_7), (9, .int .i64 s_4), (111, .bool y_8)] a_112 ∧ Hp w0 M_13 (H) w_19) ?_ ?_
       ·refine R_reg (Y f 2 fun _ f => Y14 f p_15 (fzu (((hM_2.trans hM_9).trans hM_11).trans hM_12) hc_2) 3 rfl fun _ f => Y f 3 fun _ f => ?_)
        rcases cE hj_3 with ⟨h_33, hF_42⟩ | ⟨h_33, hF_43⟩
        ·have k_17 := dI.1 h_33
         have f := f.st 108 (cB h_33)
         refine Y f 3 fun _ f => eT ?_
         exact ⟨(decide (y_7 < 4000)), (sI hF_42).symm, M_12, (mR _), f.kp, p_15⟩
        ·have k_18 := iff_f dI h_33
         have f := f.st 108 (cB h_33)
         refine Y f 3 fun _ f => eT ?_
         exact ⟨(false), (sI hF_43).symm, M_12, (mR _), f.kp, p_15⟩
       ·rintro a_112 w_19 ⟨y_8, hq_3, M_13, hM_13, f, p_16⟩
        subst j_3
        refine T_n (RcF f hF_41 (fun h_34 hF_44 => ?_) fun h_34 hF_50 => ?_)
        ·refine wp_skip (T_n (R_seq (wp_block (RR (Y f 1 fun _ f => Y14 f p_16 (fzu ((((hM_2.trans hM_9).trans hM_11).trans hM_12).trans hM_13) hc_2) 3 rfl fun _ f => Y f 1 fun _ f => ?_)))))
         obtain ⟨x_11, hx_11, hF_45⟩ := bS hF_44
         obtain ⟨ad_8, c_8, e_8, -, hr_8, hc_10⟩ := Sli.at_ (h_4.mono (((((hM_1.trans hM_2).trans hM_9).trans hM_11).trans hM_12).trans hM_13)) hx_11
         obtain ⟨A_25, cap_25, rfl, h_35⟩ := TC0.opn hr_8
         refine Z f (Y25 e_8 rfl (len := d0.fOuts.length) (cap := cap_4) (k := .i64) (i := s_4) (e := 51) (sz := 8) (getI_nn hx_11) (getI_lt hx_11)) fun _ f => Y f 1 fun _ f => Z (v := .agg #[.int .i8 x_11.fE.fKind, S x_11.fE.fText, .int .i64 x_11.fE.fNum, S x_11.fE.fName, S x_11.fE.fAttr, .slice A_25 x_11.fE.fL.length cap_25]) f (Y27 (cs := [.int .i8 x_11.fE.fKind, S x_11.fE.fText, .int .i64 x_11.fE.fNum, S x_11.fE.fName, S x_11.fE.fAttr, .slice A_25 x_11.fE.fL.length cap_25]) rfl (ad := (ad_8.add (s_4.toNat * 8)).add 2) (fz_part (base := ad_8.add (s_4.toNat * 8)) (fun j v h => p_16.cell (hc_10 j v h)) 2 rfl)) fun _ f => ?_
         obtain ⟨x_12, hx_12, hF_46⟩ := bS hF_45
         refine Y17 f p_16 (ref12_Great_ok n _ _ (⟨x_11.fE.fKind, x_11.fE.fText, x_11.fE.fNum, x_11.fE.fName, x_11.fE.fAttr, x_11.fE.fL⟩ : TH0) (TH0.shut h_35) x_12 hx_12) fun w_20 p_17 _ f => eT (RcF f hF_46 (fun h_36 hF_47 => ?_) fun h_36 hF_48 => ?_)
         ·refine RR (Y f 1 fun _ f => eT (wp_ret (B_r (T_r (T_r ?_)))))
          obtain rfl := sI hF_47
          exact .inl ⟨rfl, (), (sI hn_4).symm, M_13, (hM_12.trans hM_13), f.kp, p_17⟩
         ·refine wp_skip (B_n (T_n (R_reg (Y f 1 fun _ f => ?_))))
          obtain ⟨g_9, hF_49⟩ := nS hF_48
          refine Y f 1 fun _ f => ?_
          have f := f.st 113 (congrArg (Value.int .i64) (inR_wrap g_9))
          refine Y f 1 fun _ f => eT ?_
          obtain rfl := sI hF_49
          exact ⟨⟨m_8, s_4 + 1⟩, Nat.lt_succ_self _, M_13, (hM_12.trans hM_13), hn_4, f.kp, p_17⟩
        ·refine wp_exit (T_x (T_x ?_))
         obtain rfl := sI hF_50
         exact .inr ⟨rfl, (), (sI hn_4).symm, M_13, (hM_12.trans hM_13), f.kp, p_16⟩
      ·rintro _ _ w_23 (⟨rfl, y_9, rfl, M_14, hM_14, f, p_18⟩ | ⟨rfl, y_10, rfl, M_15, hM_15, f, p_19⟩)
       ·refine B_r (T_r (E_ret1 f rfl (by kernel_rfl : Vc.look _ 4 = some (.int .i64 1048576)) ?_))
        obtain rfl := sI hF_40
        exact ⟨_, rfl, M_14, ((((hM_1.trans hM_2).trans hM_9).trans hM_11).trans hM_14), p_18, rfl⟩
       ·refine B_x (T_n (R_seq (RR (Y f 1 fun _ f => eT (wp_block ?_)))))
        obtain ⟨b_6, hL_5, hF_51⟩ := bS hF_40
        refine wp_mono (Q := fun e a w => (e = .ret ∧ (∃ y_16 : Unit, b_6 = .inl y_16 ∧ ∃ M_24 : Mem, M_15.le M_24 ∧ Frm 233 [(4, .int .i64 1048576)] a ∧ Hp w0 M_24 (H) w)) ∨ (e = .exit 8 ∧ (∃ y_17 : Int, b_6 = .inr y_17 ∧ ∃ M_25 : Mem, M_15.le M_25 ∧ Frm 233 [(5, .int .i64 y_17)] a ∧ Hp w0 M_25 (H) w))) (R_loop (n := 233) (w0 := w0) (M := M_15) (fun (x : Nat × (Int × Int)) => match x with | (m_9, s_5) => [(1, .int .i64 d1), (2, .pointer (some (⟨b_1, 0, none⟩))), (5, .int .i64 s_5.1), (10, .int .i64 s_5.2)]) (fun (x : Nat × (Int × Int)) => match x with | (m_9, s_5) => (H)) (fun (x : Nat × (Int × Int)) (MM : Mem) => match x with | (m_9, s_5) => loopF (ref13_weight_s5 n rec_ref13_weight d0 d1) m_9 s_5 = some b_6) (fun (x : Nat × (Int × Int)) => match x with | (m_9, s_5) => m_9) (n, (y_7, (0 : Int))) (f.kp) p_19 hL_5 ?_) ?_
        ·rintro ⟨m_9, s_5⟩ M_16 _ w_24 hM_16 I_5 f p_20
         have I_5L := I_5
         obtain ⟨m_10, r_5, rfl, hs_5, hn_5⟩ := loop_step I_5L
         unfold ref13_weight_s5 at hs_5
         refine R_seq (R_seq ?_)
         obtain ⟨j_4, hj_4, hF_52⟩ := bS hs_5
         refine R_mid (fun a_134 w_25 => ∃ y_11 : Bool, j_4 = y_11 ∧ ∃ M_17 : Mem, M_16.le M_17 ∧ Frm 233 [(1, .int .i64 d1), (2, .pointer (some (⟨b_1, 0, none⟩))), (5, .int .i64 s_5.1), (10, .int .i64 s_5.2), (129, .bool y_11)] a_134 ∧ Hp w0 M_17 (H) w_25) ?_ ?_
         ·refine R_reg (Y f 2 fun _ f => Y14 f p_20 (fzu ((((hM_2.trans hM_9).trans hM_11).trans hM_15).trans hM_16) hc_2) 2 rfl fun _ f => Y f 3 fun _ f => ?_)
          rcases cE hj_4 with ⟨h_37, hF_53⟩ | ⟨h_37, hF_54⟩
          ·have k_23 := dI.1 h_37
           have f := f.st 126 (cB h_37)
           refine Y f 3 fun _ f => eT ?_
           exact ⟨(decide (s_5.1 < 4000)), (sI hF_53).symm, M_16, (mR _), f.kp, p_20⟩
          ·have k_24 := iff_f dI h_37
           have f := f.st 126 (cB h_37)
           refine Y f 3 fun _ f => eT ?_
           exact ⟨(false), (sI hF_54).symm, M_16, (mR _), f.kp, p_20⟩
         ·rintro a_134 w_25 ⟨y_11, hq_4, M_17, hM_17, f, p_21⟩
          subst j_4
          refine T_n (RcF f hF_52 (fun h_38 hF_55 => ?_) fun h_38 hF_93 => ?_)
          ·refine wp_skip (T_n (R_seq (wp_block (R_seq (R_draw p_21 (by kernel_rfl) (by kernel_rfl) (Y4 default f 2 fun _ f => Y3 f (fzu (((((hM_2.trans hM_9).trans hM_11).trans hM_15).trans hM_16).trans hM_17) hc_2) 2 rfl fun _ f => Y4 default f 1 fun _ f => ?_))))))
           obtain ⟨x_13, hx_13, hF_56⟩ := bS hF_55
           obtain ⟨ad_9, c_9, e_9, -, hr_9, hc_11⟩ := Sli.at_ (h_3.mono ((((((hM_1.trans hM_2).trans hM_9).trans hM_11).trans hM_15).trans hM_16).trans hM_17)) hx_13
           obtain ⟨A_26, cap_26, A_27, cap_27, A_28, cap_28, rfl, h_39, h_40, h_41⟩ := TB0.opn hr_9
           refine Y2 (v := .pointer (some (ad_9.add (s_5.2.toNat * 7)))) f (fun _ pq => Y25 e_9 rfl (len := d0.fRes.length) (cap := cap_3) (k := .i64) (i := s_5.2) (e := 49) (sz := 7) (getI_nn hx_13) (getI_lt hx_13)) fun _ f => Y4 default f 1 fun _ f => Y3 f hc_11 3 rfl fun _ f => Y4 default f 1 fun _ f => ?_
           obtain ⟨g_10, hF_57⟩ := nS hF_56
           refine Y2 (v := .int .i64 (IntKind.wrap .i64 (s_5.1 + ((x_13.fProps.length : Nat) : Int)))) f (fun _ pq => by kernel_rfl) fun _ f => ?_
           have f := f.st 140 (congrArg (Value.int .i64) (inR_wrap g_10))
           refine Y4 default f 1 fun _ f => Y3 f (fzu (((((hM_2.trans hM_9).trans hM_11).trans hM_15).trans hM_16).trans hM_17) hc_2) 2 rfl fun _ f => Y4 default f 1 fun _ f => ?_
           obtain ⟨x_14, hx_14, hF_58⟩ := bS hF_57
           obtain ⟨ad_10, c_10, e_10, -, hr_10, hc_12⟩ := Sli.at_ (h_3.mono ((((((hM_1.trans hM_2).trans hM_9).trans hM_11).trans hM_15).trans hM_16).trans hM_17)) hx_14
           obtain ⟨A_29, cap_29, A_30, cap_30, A_31, cap_31, rfl, h_42, h_43, h_44⟩ := TB0.opn hr_10
           refine Y2 (v := .pointer (some (ad_10.add (s_5.2.toNat * 7)))) f (fun _ pq => Y25 e_10 rfl (len := d0.fRes.length) (cap := cap_3) (k := .i64) (i := s_5.2) (e := 49) (sz := 7) (getI_nn hx_14) (getI_lt hx_14)) fun _ f => Y4 default f 1 fun _ f => Y3 f hc_12 4 rfl fun _ f => Y4 default f 1 fun _ f => ?_
           obtain ⟨g_11, hF_59⟩ := nS hF_58
           refine Y2 (v := .int .i64 (IntKind.wrap .i64 ((s_5.1 + ((x_13.fProps.length : Nat) : Int)) + ((x_14.fDepends.length : Nat) : Int)))) f (fun _ pq => by kernel_rfl) fun _ f => ?_
           have f := f.st 148 (congrArg (Value.int .i64) (inR_wrap g_11))
           refine Y4 default f 1 fun _ f => Y3 f (fzu (((((hM_2.trans hM_9).trans hM_11).trans hM_15).trans hM_16).trans hM_17) hc_2) 2 rfl fun _ f => Y4 default f 1 fun _ f => ?_
           obtain ⟨x_15, hx_15, hF_60⟩ := bS hF_59
           obtain ⟨ad_11, c_11, e_11, -, hr_11, hc_13⟩ := Sli.at_ (h_3.mono ((((((hM_1.trans hM_2).trans hM_9).trans hM_11).trans hM_15).trans hM_16).trans hM_17)) hx_15
           obtain ⟨A_32, cap_32, A_33, cap_33, A_34, cap_34, rfl, h_45, h_46, h_47⟩ := TB0.opn hr_11
           refine Y2 (v := .pointer (some (ad_11.add (s_5.2.toNat * 7)))) f (fun _ pq => Y25 e_11 rfl (len := d0.fRes.length) (cap := cap_3) (k := .i64) (i := s_5.2) (e := 49) (sz := 7) (getI_nn hx_15) (getI_lt hx_15)) fun _ f => Y4 default f 1 fun _ f => Y3 f hc_13 6 rfl fun _ f => Y4 default f 1 fun _ f => ?_
           obtain ⟨g_12, hF_61⟩ := nS hF_60
           refine Y2 (v := .int .i64 (IntKind.wrap .i64 (((s_5.1 + ((x_13.fProps.length : Nat) : Int)) + ((x_14.fDepends.length : Nat) : Int)) + ((x_15.fInner.length : Nat) : Int)))) f (fun _ pq => by kernel_rfl) fun _ f => ?_
           have f := f.st 156 (congrArg (Value.int .i64) (inR_wrap g_12))
           refine Y4 default f 1 fun _ f => Q_end rfl ?_
           intro w_26 p_22
           refine T_n (R_seq (R_seq ?_))
           obtain ⟨j_5, hj_5, hF_62⟩ := bS hF_61
           refine R_mid (fun a_183 w_27 => ∃ y_12 : Bool, j_5 = y_12 ∧ ∃ M_18 : Mem, M_17.le M_18 ∧ Frm 233 [(1, .int .i64 d1), (2, .pointer (some (⟨b_1, 0, none⟩))), (5, .int .i64 (((s_5.1 + ((x_13.fProps.length : Nat) : Int)) + ((x_14.fDepends.length : Nat) : Int)) + ((x_15.fInner.length : Nat) : Int))), (10, .int .i64 s_5.2), (184, .bool y_12)] a_183 ∧ Hp w0 M_18 (H) w_27) ?_ ?_
           ·refine R_reg (Y f 1 fun _ f => Y14 f p_22 (fzu (((((hM_2.trans hM_9).trans hM_11).trans hM_15).trans hM_16).trans hM_17) hc_2) 2 rfl fun _ f => Y f 1 fun _ f => ?_)
            obtain ⟨x_16, hx_16, hF_63⟩ := bS hj_5
            obtain ⟨ad_12, c_12, e_12, -, hr_12, hc_14⟩ := Sli.at_ (h_3.mono ((((((hM_1.trans hM_2).trans hM_9).trans hM_11).trans hM_15).trans hM_16).trans hM_17)) hx_16
            obtain ⟨A_35, cap_35, A_36, cap_36, A_37, cap_37, rfl, h_48, h_49, h_50⟩ := TB0.opn hr_12
            refine Z f (Y25 e_12 rfl (len := d0.fRes.length) (cap := cap_3) (k := .i64) (i := s_5.2) (e := 49) (sz := 7) (getI_nn hx_16) (getI_lt hx_16)) fun _ f => Y f 1 fun _ f => Y14 f p_22 hc_14 3 rfl fun _ f => Y f 3 fun _ f => ?_
            rcases cE hF_63 with ⟨h_51, hF_64⟩ | ⟨h_51, hF_65⟩
            ·have k_26 := dI.1 h_51
             have f := f.st 165 (cB h_51)
             refine Y f 19 fun _ f => eT ?_
             exact ⟨(true), (sI hF_64).symm, M_17, (mR _), f.kp, p_22⟩
            ·have k_27 := iff_f dI h_51
             have f := f.st 165 (cB h_51)
             refine Y f 1 fun _ f => Y14 f p_22 (fzu (((((hM_2.trans hM_9).trans hM_11).trans hM_15).trans hM_16).trans hM_17) hc_2) 2 rfl fun _ f => Y f 1 fun _ f => ?_
             obtain ⟨x_17, hx_17, hF_66⟩ := bS hF_65
             obtain ⟨ad_13, c_13, e_13, -, hr_13, hc_15⟩ := Sli.at_ (h_3.mono ((((((hM_1.trans hM_2).trans hM_9).trans hM_11).trans hM_15).trans hM_16).trans hM_17)) hx_17
             obtain ⟨A_38, cap_38, A_39, cap_39, A_40, cap_40, rfl, h_52, h_53, h_54⟩ := TB0.opn hr_13
             refine Z f (Y25 e_13 rfl (len := d0.fRes.length) (cap := cap_3) (k := .i64) (i := s_5.2) (e := 49) (sz := 7) (getI_nn hx_17) (getI_lt hx_17)) fun _ f => Y f 1 fun _ f => Y14 f p_22 hc_15 4 rfl fun _ f => Y f 4 fun _ f => ?_
             rcases cE hF_66 with ⟨h_55, hF_67⟩ | ⟨h_55, hF_68⟩
             ·have k_28 := dI.1 h_55
              have f := f.st 175 (cB h_55)
              refine Y f 9 fun _ f => eT ?_
              exact ⟨(true), (sI hF_67).symm, M_17, (mR _), f.kp, p_22⟩
             ·have k_29 := iff_f dI h_55
              have f := f.st 175 (cB h_55)
              refine Y f 1 fun _ f => Y14 f p_22 (fzu (((((hM_2.trans hM_9).trans hM_11).trans hM_15).trans hM_16).trans hM_17) hc_2) 2 rfl fun _ f => Y f 1 fun _ f => ?_
              obtain ⟨x_18, hx_18, hF_69⟩ := bS hF_68
              obtain ⟨ad_14, c_14, e_14, -, hr_14, hc_16⟩ := Sli.at_ (h_3.mono ((((((hM_1.trans hM_2).trans hM_9).trans hM_11).trans hM_15).trans hM_16).trans hM_17)) hx_18
              obtain ⟨A_41, cap_41, A_42, cap_42, A_43, cap_43, rfl, h_56, h_57, h_58⟩ := TB0.opn hr_14
              refine Z f (Y25 e_14 rfl (len := d0.fRes.length) (cap := cap_3) (k := .i64) (i := s_5.2) (e := 49) (sz := 7) (getI_nn hx_18) (getI_lt hx_18)) fun _ f => Y f 1 fun _ f => Y14 f p_22 hc_16 6 rfl fun _ f => Y f 3 fun _ f => eT ?_
              exact ⟨(decide ((4 : Int) < ((x_18.fInner.length : Nat) : Int))), (sI hF_69).symm, M_17, (mR _), f.kp, p_22⟩
           ·rintro a_183 w_27 ⟨y_12, hq_5, M_18, hM_18, f, p_23⟩
            subst j_5
            refine T_n (RcF f hF_62 (fun h_59 hF_70 => ?_) fun h_59 hF_71 => ?_)
            ·refine RR (Y f 1 fun _ f => eT (wp_ret (T_r (B_r (T_r (T_r ?_))))))
             obtain rfl := sI hF_70
             exact .inl ⟨rfl, (), (sI hn_5).symm, M_18, ((hM_16.trans hM_17).trans hM_18), f.kp, p_23⟩
            ·refine wp_skip (T_n (R_seq (RR (Y f 1 fun _ f => eT (wp_block ?_)))))
             obtain ⟨b_7, hL_6, hF_72⟩ := bS hF_71
             refine wp_mono (Q := fun e a w => (e = .ret ∧ (∃ y_13 : Unit, b_7 = .inl y_13 ∧ ∃ M_20 : Mem, M_18.le M_20 ∧ Frm 233 [(4, .int .i64 1048576)] a ∧ Hp w0 M_20 (H) w)) ∨ (e = .exit 10 ∧ (∃ y_14 : Unit, b_7 = .inr y_14 ∧ ∃ M_21 : Mem, M_18.le M_21 ∧ Frm 233 [(1, .int .i64 d1), (2, .pointer (some (⟨b_1, 0, none⟩))), (5, .int .i64 (((s_5.1 + ((x_13.fProps.length : Nat) : Int)) + ((x_14.fDepends.length : Nat) : Int)) + ((x_15.fInner.length : Nat) : Int))), (10, .int .i64 s_5.2)] a ∧ Hp w0 M_21 (H) w))) (R_loop (n := 233) (w0 := w0) (M := M_18) (fun (x : Nat × Int) => match x with | (m_11, s_6) => [(1, .int .i64 d1), (2, .pointer (some (⟨b_1, 0, none⟩))), (5, .int .i64 (((s_5.1 + ((x_13.fProps.length : Nat) : Int)) + ((x_14.fDepends.length : Nat) : Int)) + ((x_15.fInner.length : Nat) : Int))), (10, .int .i64 s_5.2), (11, .int .i64 s_6)]) (fun (x : Nat × Int) => match x with | (m_11, s_6) => (H)) (fun (x : Nat × Int) (MM : Mem) => match x with | (m_11, s_6) => loopF (ref13_weight_s6 n d0 s_5) m_11 s_6 = some b_7) (fun (x : Nat × Int) => match x with | (m_11, s_6) => m_11) (n, (0 : Int)) (f.kp) p_23 hL_6 ?_) ?_
             ·rintro ⟨m_11, s_6⟩ M_19 _ w_28 hM_19 I_6 f p_24
              have I_6L := I_6
              obtain ⟨m_12, r_6, rfl, hs_6, hn_6⟩ := loop_step I_6L
              unfold ref13_weight_s6 at hs_6
              refine R_seq (RR (Y f 2 fun _ f => Y14 f p_24 (fzu (((((((hM_2.trans hM_9).trans hM_11).trans hM_15).trans hM_16).trans hM_17).trans hM_18).trans hM_19) hc_2) 2 rfl fun _ f => Y f 1 fun _ f => ?_))
              obtain ⟨x_19, hx_19, hF_73⟩ := bS hs_6
              obtain ⟨ad_15, c_15, e_15, -, hr_15, hc_17⟩ := Sli.at_ (h_3.mono ((((((((hM_1.trans hM_2).trans hM_9).trans hM_11).trans hM_15).trans hM_16).trans hM_17).trans hM_18).trans hM_19)) hx_19
              obtain ⟨A_44, cap_44, A_45, cap_45, A_46, cap_46, rfl, h_60, h_61, h_62⟩ := TB0.opn hr_15
              refine Z f (Y25 e_15 rfl (len := d0.fRes.length) (cap := cap_3) (k := .i64) (i := s_5.2) (e := 49) (sz := 7) (getI_nn hx_19) (getI_lt hx_19)) fun _ f => Y f 1 fun _ f => Y14 f p_24 hc_17 3 rfl fun _ f => Y f 2 fun _ f => eT (RcF f hF_73 (fun h_63 hF_74 => ?_) fun h_63 hF_81 => ?_)
              ·have k_32 := dI.1 h_63
               refine wp_skip (T_n (R_seq (wp_block (RR (Y f 1 fun _ f => Y14 f p_24 (fzu (((((((hM_2.trans hM_9).trans hM_11).trans hM_15).trans hM_16).trans hM_17).trans hM_18).trans hM_19) hc_2) 2 rfl fun _ f => Y f 1 fun _ f => ?_)))))
               obtain ⟨x_20, hx_20, hF_75⟩ := bS hF_74
               obtain ⟨ad_16, c_16, e_16, -, hr_16, hc_18⟩ := Sli.at_ (h_3.mono ((((((((hM_1.trans hM_2).trans hM_9).trans hM_11).trans hM_15).trans hM_16).trans hM_17).trans hM_18).trans hM_19)) hx_20
               obtain ⟨A_47, cap_47, A_48, cap_48, A_49, cap_49, rfl, h_64, h_65, h_66⟩ := TB0.opn hr_16
               refine Z f (Y25 e_16 rfl (len := d0.fRes.length) (cap := cap_3) (k := .i64) (i := s_5.2) (e := 49) (sz := 7) (getI_nn hx_20) (getI_lt hx_20)) fun _ f => Y f 1 fun _ f => Y14 f p_24 hc_18 3 rfl fun _ f => Y f 1 fun _ f => ?_
               obtain ⟨x_21, hx_21, hF_76⟩ := bS hF_75
               obtain ⟨ad_17, c_17, e_17, -, hr_17, hc_19⟩ := Sli.at_ h_64 hx_21
               obtain ⟨A_50, cap_50, rfl, h_67⟩ := TI0.opn hr_17
               refine Z f (Y25 e_17 rfl (len := x_20.fProps.length) (cap := cap_47) (k := .i64) (i := s_6) (e := 70) (sz := 7) (getI_nn hx_21) (getI_lt hx_21)) fun _ f => Y f 1 fun _ f => Z (v := .agg #[.int .i8 x_21.fE.fKind, S x_21.fE.fText, .int .i64 x_21.fE.fNum, S x_21.fE.fName, S x_21.fE.fAttr, .slice A_50 x_21.fE.fL.length cap_50]) f (Y27 (cs := [.int .i8 x_21.fE.fKind, S x_21.fE.fText, .int .i64 x_21.fE.fNum, S x_21.fE.fName, S x_21.fE.fAttr, .slice A_50 x_21.fE.fL.length cap_50]) rfl (ad := (ad_17.add (s_6.toNat * 7)).add 1) (fz_part (base := ad_17.add (s_6.toNat * 7)) (fun j v h => p_24.cell (hc_19 j v h)) 1 rfl)) fun _ f => ?_
               obtain ⟨x_22, hx_22, hF_77⟩ := bS hF_76
               refine Y17 f p_24 (ref12_Great_ok n _ _ (⟨x_21.fE.fKind, x_21.fE.fText, x_21.fE.fNum, x_21.fE.fName, x_21.fE.fAttr, x_21.fE.fL⟩ : TH0) (TH0.shut h_67) x_22 hx_22) fun w_29 p_25 _ f => eT (RcF f hF_77 (fun h_68 hF_78 => ?_) fun h_68 hF_79 => ?_)
               ·refine RR (Y f 1 fun _ f => eT (wp_ret (B_r (T_r (T_r ?_)))))
                obtain rfl := sI hF_78
                exact .inl ⟨rfl, (), (sI hn_6).symm, M_19, hM_19, f.kp, p_25⟩
               ·refine wp_skip (B_n (T_n (R_reg (Y f 1 fun _ f => ?_))))
                obtain ⟨g_13, hF_80⟩ := nS hF_79
                refine Y f 1 fun _ f => ?_
                have f := f.st 195 (congrArg (Value.int .i64) (inR_wrap g_13))
                refine Y f 1 fun _ f => eT ?_
                obtain rfl := sI hF_80
                exact ⟨⟨m_12, s_6 + 1⟩, Nat.lt_succ_self _, M_19, hM_19, hn_6, f.kp, p_25⟩
              ·have k_35 := iff_f dI h_63
               refine wp_exit (T_x (T_x ?_))
               obtain rfl := sI hF_81
               exact .inr ⟨rfl, (), (sI hn_6).symm, M_19, hM_19, f.kp, p_24⟩
             ·rintro _ _ w_32 (⟨rfl, y_13, rfl, M_20, hM_20, f, p_26⟩ | ⟨rfl, y_14, rfl, M_21, hM_21, f, p_27⟩)
              ·refine B_r (T_r (B_r (T_r (T_r ?_))))
               obtain rfl := sI hF_72
               exact .inl ⟨rfl, (), (sI hn_5).symm, M_20, (((hM_16.trans hM_17).trans hM_18).trans hM_20), f.kp, p_26⟩
              ·refine B_x (T_n (RR (Y f 1 fun _ f => eT (wp_block ?_))))
               obtain ⟨b_8, hL_7, hF_82⟩ := bS hF_72
               refine wp_mono (Q := fun e a w => (e = .exit 12 ∧ (∃ y_15 : Int, b_8 = y_15 ∧ ∃ M_23 : Mem, M_21.le M_23 ∧ Frm 233 [(1, .int .i64 d1), (2, .pointer (some (⟨b_1, 0, none⟩))), (5, .int .i64 y_15), (10, .int .i64 s_5.2)] a ∧ Hp w0 M_23 (H) w))) (R_loop (n := 233) (w0 := w0) (M := M_21) (fun (x : Nat × (Int × Int)) => match x with | (m_13, s_7) => [(1, .int .i64 d1), (2, .pointer (some (⟨b_1, 0, none⟩))), (5, .int .i64 s_7.1), (10, .int .i64 s_5.2), (12, .int .i64 s_7.2)]) (fun (x : Nat × (Int × Int)) => match x with | (m_13, s_7) => (H)) (fun (x : Nat × (Int × Int)) (MM : Mem) => match x with | (m_13, s_7) => loopF (ref13_weight_s7 n rec_ref13_weight d0 d1 s_5) m_13 s_7 = some b_8) (fun (x : Nat × (Int × Int)) => match x with | (m_13, s_7) => m_13) (n, (((s_5.1 + ((x_13.fProps.length : Nat) : Int)) + ((x_14.fDepends.length : Nat) : Int)) + ((x_15.fInner.length : Nat) : Int), (0 : Int))) (f.kp) p_27 hL_7 ?_) ?_
               ·rintro ⟨m_13, s_7⟩ M_22 _ w_33 hM_22 I_7 f p_28
                have I_7L := I_7
                obtain ⟨m_14, r_7, rfl, hs_7, hn_7⟩ := loop_step I_7L
                unfold ref13_weight_s7 at hs_7
                refine R_seq (RR (Y f 2 fun _ f => Y14 f p_28 (fzu ((((((((hM_2.trans hM_9).trans hM_11).trans hM_15).trans hM_16).trans hM_17).trans hM_18).trans hM_21).trans hM_22) hc_2) 2 rfl fun _ f => Y f 1 fun _ f => ?_))
                obtain ⟨x_23, hx_23, hF_83⟩ := bS hs_7
                obtain ⟨ad_18, c_18, e_18, -, hr_18, hc_20⟩ := Sli.at_ (h_3.mono (((((((((hM_1.trans hM_2).trans hM_9).trans hM_11).trans hM_15).trans hM_16).trans hM_17).trans hM_18).trans hM_21).trans hM_22)) hx_23
                obtain ⟨A_51, cap_51, A_52, cap_52, A_53, cap_53, rfl, h_69, h_70, h_71⟩ := TB0.opn hr_18
                refine Z f (Y25 e_18 rfl (len := d0.fRes.length) (cap := cap_3) (k := .i64) (i := s_5.2) (e := 49) (sz := 7) (getI_nn hx_23) (getI_lt hx_23)) fun _ f => Y f 1 fun _ f => Y14 f p_28 hc_20 6 rfl fun _ f => Y f 2 fun _ f => eT (RcF f hF_83 (fun h_72 hF_84 => ?_) fun h_72 hF_91 => ?_)
                ·have k_36 := dI.1 h_72
                 refine wp_skip (T_n (R_seq (wp_block (R_reg (Y f 2 fun _ f => Y14 f p_28 (fzu ((((((((hM_2.trans hM_9).trans hM_11).trans hM_15).trans hM_16).trans hM_17).trans hM_18).trans hM_21).trans hM_22) hc_2) 2 rfl fun _ f => Y f 1 fun _ f => ?_)))))
                 obtain ⟨x_24, hx_24, hF_85⟩ := bS hF_84
                 obtain ⟨ad_19, c_19, e_19, -, hr_19, hc_21⟩ := Sli.at_ (h_3.mono (((((((((hM_1.trans hM_2).trans hM_9).trans hM_11).trans hM_15).trans hM_16).trans hM_17).trans hM_18).trans hM_21).trans hM_22)) hx_24
                 obtain ⟨A_54, cap_54, A_55, cap_55, A_56, cap_56, rfl, h_73, h_74, h_75⟩ := TB0.opn hr_19
                 refine Z f (Y25 e_19 rfl (len := d0.fRes.length) (cap := cap_3) (k := .i64) (i := s_5.2) (e := 49) (sz := 7) (getI_nn hx_24) (getI_lt hx_24)) fun _ f => Y f 1 fun _ f => Y14 f p_28 hc_21 6 rfl fun _ f => Y f 1 fun _ f => ?_
                 obtain ⟨x_25, hx_25, hF_86⟩ := bS hF_85
                 obtain ⟨ad_20, c_20, e_20, -, hr_20, hc_22⟩ := Sli.at_ h_75 hx_25
                 obtain ⟨A_57, cap_57, A_58, cap_58, A_59, cap_59, A_60, cap_60, rfl, h_76, h_77, h_78, h_79⟩ := TA0.opn hr_20
                 refine Z f (Y25 e_20 rfl (len := x_24.fInner.length) (cap := cap_56) (k := .i64) (i := s_7.2) (e := 27) (sz := 4) (getI_nn hx_25) (getI_lt hx_25)) fun _ f => Z (v := .agg #[.slice A_57 x_25.fParams.length cap_57, .slice A_58 x_25.fConds.length cap_58, .slice A_59 x_25.fRes.length cap_59, .slice A_60 x_25.fOuts.length cap_60]) f (Y27 (cs := [.slice A_57 x_25.fParams.length cap_57, .slice A_58 x_25.fConds.length cap_58, .slice A_59 x_25.fRes.length cap_59, .slice A_60 x_25.fOuts.length cap_60]) rfl (ad := ad_20.add (s_7.2.toNat * 4)) (fun j v h => p_28.cell (hc_22 j v h))) fun _ f => Y f 1 fun _ f => ?_
                 obtain ⟨g_14, hF_87⟩ := nS hF_86
                 refine Y f 1 fun _ f => ?_
                 have f := f.st 229 (congrArg (Value.int .i64) (inR_wrap g_14))
                 obtain ⟨x_26, hx_26, hF_88⟩ := bS hF_87
                 refine Y17 f p_28 (hrec_ref13_weight _ _ x_25 (TA0.shutx (x := x_25) h_76 h_77 h_78 h_79) (d1 + 1) x_26 hx_26) fun w_34 p_29 _ f => ?_
                 obtain ⟨g_15, hF_89⟩ := nS hF_88
                 refine Y f 1 fun _ f => ?_
                 have f := f.st 231 (congrArg (Value.int .i64) (inR_wrap g_15))
                 refine Y f 1 fun _ f => W_end rfl (B_n (T_n (R_reg (Y f 1 fun _ f => ?_))))
                 obtain ⟨g_16, hF_90⟩ := nS hF_89
                 refine Y f 1 fun _ f => ?_
                 have f := f.st 217 (congrArg (Value.int .i64) (inR_wrap g_16))
                 refine Y f 1 fun _ f => eT ?_
                 obtain rfl := sI hF_90
                 exact ⟨⟨m_14, (s_7.1 + x_26, s_7.2 + 1)⟩, Nat.lt_succ_self _, M_22, hM_22, hn_7, f.kp, p_29⟩
                ·have k_37 := iff_f dI h_72
                 refine wp_exit (T_x (T_x ?_))
                 obtain rfl := sI hF_91
                 exact ⟨rfl, s_7.1, (sI hn_7).symm, M_22, hM_22, f.kp, p_28⟩
               ·rintro _ _ w_36 ⟨rfl, y_15, hq_, M_23, hM_23, f, p_30⟩
                subst b_8
                refine B_x (B_n (T_n (R_reg (Y f 1 fun _ f => ?_))))
                obtain ⟨g_17, hF_92⟩ := nS hF_82
                refine Y f 1 fun _ f => ?_
                have f := f.st 131 (congrArg (Value.int .i64) (inR_wrap g_17))
                refine Y f 1 fun _ f => eT ?_
                obtain rfl := sI hF_92
                exact ⟨⟨m_10, (y_15, s_5.2 + 1)⟩, Nat.lt_succ_self _, M_23, ((((hM_16.trans hM_17).trans hM_18).trans hM_21).trans hM_23), hn_5, f.kp, p_30⟩
          ·refine wp_exit (T_x (T_x ?_))
           obtain rfl := sI hF_93
           exact .inr ⟨rfl, s_5.1, (sI hn_5).symm, M_17, (hM_16.trans hM_17), f.kp, p_21⟩
        ·rintro _ _ w_39 (⟨rfl, y_16, rfl, M_24, hM_24, f, p_31⟩ | ⟨rfl, y_17, rfl, M_25, hM_25, f, p_32⟩)
         ·refine B_r (T_r (E_ret1 f rfl (by kernel_rfl : Vc.look _ 4 = some (.int .i64 1048576)) ?_))
          obtain rfl := sI hF_51
          exact ⟨_, rfl, M_24, (((((hM_1.trans hM_2).trans hM_9).trans hM_11).trans hM_15).trans hM_24), p_31, rfl⟩
         ·refine B_x (T_n (RR (Y f 2 fun _ f => eT (wp_ret (E_ret1 f rfl (by kernel_rfl : Vc.look _ 4 = some (.int .i64 y_17)) ?_)))))
          obtain rfl := sI hF_51
          exact ⟨_, rfl, M_25, (((((hM_1.trans hM_2).trans hM_9).trans hM_11).trans hM_15).trans hM_25), p_32, rfl⟩
def ref13_weight_k (n : Nat) : Nat → TA0 → Int → Option Int
  | 0 => fun _ _ => none
  | k + 1 => ref13_weight_b n (ref13_weight_k n k)
def ref13_weight (n : Nat) (d0 : TA0) (d1 : Int) : Option Int := ref13_weight_k n n d0 d1
theorem ref13_weight_ok (n : Nat) (M : Mem) (c0 : List Value) (d0 : TA0) (h0 : Rep M (emb_TA0 d0) c0) (d1 : Int) (r : Int) (hF : ref13_weight n d0 d1 = some r) : Ok Try.prog M 10 [.agg c0.toArray, .int .i64 d1] (fun _ v => v = .int .i64 r) := by
 have key : ∀ (k : Nat) (M : Mem) (c0 : List Value) (d0 : TA0) (h0 : Rep M (emb_TA0 d0) c0) (d1 : Int) (r : Int) (hF : ref13_weight_k n k d0 d1 = some r), Ok Try.prog M 10 [.agg c0.toArray, .int .i64 d1] (fun _ v => v = .int .i64 r) := by
  intro k
  induction k with
  | zero => intro M c0 d0 h0 d1 r hF; simp [ref13_weight_k] at hF
  | succ k ih => intro M c0 d0 h0 d1 r hF; exact ref13_weight_b_ok n (ref13_weight_k n k) ih M c0 d0 h0 d1 r hF
 exact key n M c0 d0 h0 d1 r hF
def ref13_Great (n : Nat) (d0 : TA0) : Option Bool :=
  (ref13_weight n d0 (0 : Int)).bind fun x_1 =>
  some ((decide ((400 : Int) < x_1)))
theorem ref13_Great_ok (n : Nat) (M : Mem) (c0 : List Value) (d0 : TA0) (h0 : Rep M (emb_TA0 d0) c0) (r : Bool) (hF : ref13_Great n d0 = some r) : Ok Try.prog M 5 [.agg c0.toArray] (fun _ v => v = .bool r) := by
 unfold ref13_Great at hF
 intro M1 hM0 w0 H w p0
 replace h0 := Rep.mono hM0 _ _ h0
 obtain ⟨A_1, cap_1, A_2, cap_2, A_3, cap_3, A_4, cap_4, rfl, h_1, h_2, h_3, h_4⟩ := TA0.opn h0
 refine R_enter 6 Try.func5 rfl rfl (by simp) fun a0 f0 => RR (Y12 (cs := #[.slice A_1 d0.fParams.length cap_1, .slice A_2 d0.fConds.length cap_2, .slice A_3 d0.fRes.length cap_3, .slice A_4 d0.fOuts.length cap_4]) (T := 27) f0 p0 fun b_1 M_1 w_1 hM_1 hc_1 p_1 _ f => ?_)
 have hc_2 := fz_box hc_1
 refine Y f 1 fun _ f => eT (RR (Z (v := .agg #[.slice A_1 d0.fParams.length cap_1, .slice A_2 d0.fConds.length cap_2, .slice A_3 d0.fRes.length cap_3, .slice A_4 d0.fOuts.length cap_4]) f (Y27 (cs := [.slice A_1 d0.fParams.length cap_1, .slice A_2 d0.fConds.length cap_2, .slice A_3 d0.fRes.length cap_3, .slice A_4 d0.fOuts.length cap_4]) rfl (ad := ⟨b_1, 0, none⟩) (fun j v h => p_1.cell (hc_2 j v h))) fun _ f => ?_))
 obtain ⟨x_1, hx_1, hF_1⟩ := bS hF
 refine Y17 f p_1 (ref13_weight_ok n _ _ d0 (TA0.shutx (x := d0) (h_1.mono hM_1) (h_2.mono hM_1) (h_3.mono hM_1) (h_4.mono hM_1)) (0 : Int) x_1 hx_1) fun w_2 p_2 _ f => Y f 2 fun _ f => eT (wp_ret (E_ret1 f rfl (by kernel_rfl : Vc.look _ 2 = some (.bool (decide ((400 : Int) < x_1)))) ?_))
 obtain rfl := sI hF_1
 exact ⟨_, rfl, M_1, hM_1, p_2, rfl⟩
end Go.Proofs.Ytpjgpnfdadpkkaa
end

section
namespace Go.Vc
open Go
theorem bnd {α β : Type} (x : α) (f : α → Option β) : (some x).bind f = f x := (Option.bind_some x f).trans (Eq.refl _)
theorem cT {α : Type} (x y : α) : (bif true then x else y) = x := (cond_true x y).trans (Eq.refl _)
theorem cF {α : Type} (x y : α) : (bif false then x else y) = y := (cond_false x y).trans (Eq.refl _)
theorem getI_at {α : Type} {xs : List α} {k : Nat} (d : α) (h : k < xs.length) : getI xs (k : Int) = some (xs.getD k d) := by
 unfold getI
 rw [if_pos (by omega)]
 simp [List.getD, h]
theorem inR_small {x : Int} (h0 : -1000000000000 ≤ x) (h1 : x ≤ 1000000000000) : inR .i64 x := inR_mk.2 ⟨by omega, by omega⟩
theorem need_i {α : Type} {x : Int} {y : Option α} (h0 : -1000000000000 ≤ x) (h1 : x ≤ 1000000000000) : need (inR .i64 x) y = y := need_t (inR_small h0 h1)
section
variable {σ β : Type} {step : σ → Option (Lp σ β)} {n : Nat}
theorem loop_run (f : Nat → σ) (p : Nat → Option β) (len : Nat) (e : β) (hs : ∀ k, k < len → step (f k) = some (match p k with | some b => .br b | none => .nx (f (k + 1)))) (he : step (f len) = some (.br e)) (hn : len < n) :
  loopF step n (f 0) = some (((List.range len).findSome? p).getD e) := by
 have key : ∀ m k, k + m = len → ∀ n, m < n → loopF step n (f k) = some (((List.range' k m).findSome? p).getD e) := by
  intro m
  induction m with
  | zero =>
   intro k hk n hn
   obtain ⟨n, rfl⟩ : ∃ q, n = q + 1 := ⟨n - 1, by omega⟩
   have : k = len := by omega
   subst this
   simp [loopF, he]
  | succ m ih =>
   intro k hk n hn
   obtain ⟨n, rfl⟩ : ∃ q, n = q + 1 := ⟨n - 1, by omega⟩
   have h1 := hs k (by omega)
   rw [loopF, h1, Option.bind_some, List.range'_succ, List.findSome?_cons]
   cases p k with
   | some b => rfl
   | none => exact ih (k + 1) (by omega) n (by omega)
 have := key len 0 (by omega) n hn
 rwa [← List.range_eq_range'] at this
theorem loop_all (f : Nat → σ) (len : Nat) (e : β) (hs : ∀ k, k < len → step (f k) = some (.nx (f (k + 1)))) (he : step (f len) = some (.br e)) (hn : len < n) : loopF step n (f 0) = some e := by
 have := loop_run f (fun _ => none) len e hs he hn
 rw [this]
 have : (List.range len).findSome? (fun _ => (none : Option β)) = none := by simp
 rw [this]; rfl
theorem loop_inv (I : Nat → σ → Prop) (post : β → Prop) (len : Nat) {s0 : σ} (h0 : I 0 s0)
  (hs : ∀ k s, k < len → I k s → (∃ s', step s = some (.nx s') ∧ I (k + 1) s') ∨ ∃ b, step s = some (.br b) ∧ post b)
  (he : ∀ s, I len s → ∃ b, step s = some (.br b) ∧ post b) (hn : len < n) : ∃ b, loopF step n s0 = some b ∧ post b := by
 have key : ∀ m k s, k + m = len → I k s → ∀ n, m < n → ∃ b, loopF step n s = some b ∧ post b := by
  intro m
  induction m with
  | zero =>
   intro k s hk hI n hn
   obtain ⟨n, rfl⟩ : ∃ q, n = q + 1 := ⟨n - 1, by omega⟩
   have : k = len := by omega
   subst this
   obtain ⟨b, h1, h2⟩ := he s hI
   exact ⟨b, by simp [loopF, h1], h2⟩
  | succ m ih =>
   intro k s hk hI n hn
   obtain ⟨n, rfl⟩ : ∃ q, n = q + 1 := ⟨n - 1, by omega⟩
   rcases hs k s (by omega) hI with ⟨s', h1, h2⟩ | ⟨b, h1, h2⟩
   ·obtain ⟨b, h3, h4⟩ := ih (k + 1) s' (by omega) h2 n (by omega)
    exact ⟨b, by simp [loopF, h1, h3], h4⟩
   ·exact ⟨b, by simp [loopF, h1], h2⟩
 exact key len 0 s0 (by omega) h0 n hn
end
theorem any_range {α : Type} (d : α) (q : α → Bool) (xs : List α) : ((List.range xs.length).any fun k => q (xs.getD k d)) = xs.any q := by
 rw [Bool.eq_iff_iff, List.any_eq_true, List.any_eq_true]
 constructor
 ·rintro ⟨k, hk, h⟩
  have hk' : k < xs.length := by simpa using hk
  exact ⟨xs[k], List.getElem_mem hk', by simpa [List.getD, hk'] using h⟩
 ·rintro ⟨x, hx, h⟩
  obtain ⟨k, hk, rfl⟩ := List.mem_iff_getElem.1 hx
  exact ⟨k, by simpa using hk, by simpa [List.getD, hk] using h⟩
mutual
def dsz : Dat → Nat
  | .int _ _ => 1
  | .bool _ => 1
  | .str l => l.length + 1
  | .list _ ds => dszs ds + 1
  | .struct ds => dszs ds + 1
def dszs : List Dat → Nat
  | [] => 0
  | d :: ds => dsz d + dszs ds
end
theorem dszs_app : ∀ (a b : List Dat), dszs (a ++ b) = dszs a + dszs b
 | [], b => by simp [dszs]
 | d :: a, b => by simp only [List.cons_append, dszs, dszs_app a b]; omega
theorem dszs_mem : ∀ {ds : List Dat} {d : Dat}, d ∈ ds → dsz d ≤ dszs ds
 | x :: ds, d, h => by
  rcases List.mem_cons.1 h with rfl | h
  ·simp only [dszs]; omega
  ·have := dszs_mem h; simp only [dszs]; omega
theorem dsz_pos : ∀ d : Dat, 1 ≤ dsz d
 | .int _ _ => by simp [dsz]
 | .bool _ => by simp [dsz]
 | .str l => by simp [dsz]
 | .list _ ds => by simp [dsz]
 | .struct ds => by simp [dsz]
theorem dszs_len : ∀ ds : List Dat, ds.length ≤ dszs ds
 | [] => by simp
 | d :: ds => by have := dsz_pos d; have := dszs_len ds; simp only [dszs, List.length_cons]; omega
theorem le_sum : ∀ {l : List Nat} {x : Nat}, x ∈ l → x ≤ l.sum
 | y :: l, x, h => by
  rcases List.mem_cons.1 h with rfl | h
  ·simp
  ·have := le_sum h; simp only [List.sum_cons]; omega
section
variable {H : Type}
structure BulkOk (B : DataW H → Nat) : Prop where
  one : ∀ d, 1 ≤ B d
  str : ∀ l, B (.lit (.string l)) = l.length + 1
  slice : ∀ e s, (e.map B).sum + 1 ≤ B (.slice e s)
  agg : ∀ e, (e.map B).sum + 1 ≤ B (.agg e)
variable {enc : TypeId × Value → H} {P : Program} {w : World} {t : TypeId} {α : Type} {f : α → Dat} {m : Nat} {B : DataW H → Nat}
def OpnAt (enc : TypeId × Value → H) (P : Program) (w : World) (t : TypeId) {α : Type} (f : α → Dat) (B : DataW H → Nat) (m : Nat) : Prop :=
  ∀ cs x, DataW.trod enc P w 0 (fun _ => true) true m t cs = some x → ∃ a, Rep (Mem.of w) (f a) cs ∧ Vld (f a) ∧ dsz (f a) ≤ B x.1
theorem OpnAt.zero : OpnAt enc P w t f B 0 := fun cs x h => by simp [DataW.trod] at h
theorem opa_int {k : IntKind} (hB : BulkOk B) (ht : P.underlying t = some (.int k)) : OpnAt enc P w t (Dat.int k) B m := fun cs x h => by
 obtain ⟨a, rfl, _, hw⟩ := DataW.trod_int ht h
 exact ⟨a, rfl, hw, hB.one _⟩
theorem opa_bool (hB : BulkOk B) (ht : P.underlying t = some .bool) : OpnAt enc P w t Dat.bool B m := fun cs x h => by
 obtain ⟨a, rfl, _⟩ := DataW.trod_bool ht h
 exact ⟨a, rfl, trivial, hB.one _⟩
theorem opa_str (hB : BulkOk B) (ht : P.underlying t = some .string) : OpnAt enc P w t Dat.str B m := fun cs x h => by
 obtain ⟨s, rfl, hx, hw⟩ := DataW.trod_string ht h
 refine ⟨s.data.toList, (by show [Value.string s] = _; rw [S_eta]), by show s.data.toList.length ≤ maxLen; simpa using hw, ?_⟩
 rw [hx]
 show s.data.toList.length + 1 ≤ B (.lit (.string s.data.toList))
 rw [hB.str]
 exact Nat.le_refl _
theorem opa_slice {e : TypeId} {sz : Nat} (hB : BulkOk B) (ht : P.underlying t = some (.slice e)) (hsz : P.cellsOf e = sz) (h : OpnAt enc P w e f B m) : OpnAt enc P w t (eL sz f) B (m + 1) := fun cs x hx => by
 rcases DataW.trod_slice ht hx with ⟨rfl, hx⟩ | ⟨ad, len, cap, elems, rest, n', hn', rfl, hxe, _, hlc, hcm, hel, hat, _⟩
 ·refine ⟨[], Sli.rep (Sli.nil (sz := sz) (f := f)), by simp [Vld, eL, VldAll], ?_⟩
  have := hB.one x.1
  simpa [eL, dsz, dszs] using this
 ·obtain rfl : n' = m := by omega
  have key : ∀ k, k ≤ len → ∃ xs : List α, xs.length = k ∧ RepArr (Mem.of w) sz (xs.map f) ad ∧ (∀ x ∈ xs, Vld (f x)) ∧ dszs (xs.map f) ≤ ((elems.take k).map fun x => B x.1).sum := by
   intro k
   induction k with
   | zero => intro _; exact ⟨[], rfl, trivial, fun x hx => (by cases hx), by simp [dszs]⟩
   | succ k ih =>
    intro hk
    obtain ⟨xs, h1, h2, h3, h3b⟩ := ih (by omega)
    have hk' : k < elems.length := by omega
    have := hat k (by omega)
    rw [List.getElem?_eq_getElem hk'] at this
    obtain ⟨cs', g1, g2⟩ := Option.bind_eq_some_iff.1 this
    obtain ⟨a, g3, g4, g4b⟩ := h cs' _ g2
    obtain ⟨g5, g6⟩ := cells_of g1
    rw [hsz] at g5 g6
    refine ⟨xs ++ [a], by simp [h1], ?_, fun x hx => ?_, ?_⟩
    ·rw [List.map_append]
     have app : ∀ (ds : List Dat) (ad : Addr), RepArr (Mem.of w) sz ds ad → RepArr (Mem.of w) sz [f a] (ad.add (ds.length * sz)) → RepArr (Mem.of w) sz (ds ++ [f a]) ad := by
      intro ds
      induction ds with
      | nil => intro ad _ hh; simpa [Addr.add] using hh
      | cons d ds ih =>
       intro ad h1 h2
       refine ⟨h1.1, ih _ h1.2 ?_⟩
       rw [add_of_add]
       rw [List.length_cons, show (ds.length + 1) * sz = sz + ds.length * sz by rw [Nat.add_mul]; omega] at h2
       exact h2
     refine app _ _ h2 ⟨⟨cs', g5, g3, ?_⟩, trivial⟩
     rw [List.length_map, h1]
     exact g6
    ·rcases List.mem_append.1 hx with hx | hx
     ·exact h3 x hx
     ·simp at hx; subst hx; exact g4
    ·rw [List.map_append, dszs_app, List.take_add_one, List.getElem?_eq_getElem hk', List.map_append, List.sum_append]
     simp only [List.map_cons, List.map_nil, dszs, Option.toList_some, List.sum_cons, List.sum_nil]
     omega
  obtain ⟨xs, h1, h2, h3, h3b⟩ := key len (Nat.le_refl _)
  subst h1
  refine ⟨xs, Sli.rep ⟨hlc, fun e => (by cases e), .inr ⟨ad, rfl, h2⟩⟩, ?_, ?_⟩
  ·refine ⟨by rw [List.length_map]; omega, VldAll.mk fun d hd => ?_⟩
   obtain ⟨x, hx, rfl⟩ := List.mem_map.1 hd
   exact h3 x hx
  ·rw [hxe]
   show dszs (xs.map f) + 1 ≤ _
   have := hB.slice (elems.map (·.1)) (rest.map (·.1))
   rw [← hel, List.take_length] at h3b
   rw [List.map_map] at this
   have e : (elems.map (B ∘ fun x => x.1)) = elems.map fun x => B x.1 := rfl
   rw [e] at this
   show _ ≤ B (.slice (elems.map (·.1)) (rest.map (·.1)))
   omega
theorem opa_slice0 {e : TypeId} {sz : Nat} (hB : BulkOk B) (ht : P.underlying t = some (.slice e)) (hsz : P.cellsOf e = sz) (h : ∀ k, k < m → OpnAt enc P w e f B k) : OpnAt enc P w t (eL sz f) B m := by
 cases m with
 | zero => exact OpnAt.zero
 | succ m => exact opa_slice hB ht hsz (h m (Nat.lt_succ_self m))
theorem OpnAt.arg (h : ∀ n, OpnAt enc P w t f B n) {v : Value} {d : DataW H} {ps : List MemPlace} (ht : DataW.Trod enc P w 0 (fun _ => true) true t v d ps) : ∃ a, Rep (Mem.of w) (f a) v.cells.toList ∧ Vld (f a) ∧ dsz (f a) ≤ B d := by
 obtain ⟨fuel, hf⟩ := ht
 exact h fuel _ _ hf
theorem OpnAt.struct_arg (h : ∀ n, OpnAt enc P w t f B n) {v : Value} {d : DataW H} {ps : List MemPlace} (hv : ∃ cs : Array Value, v = .agg cs) (ht : DataW.Trod enc P w 0 (fun _ => true) true t v d ps) :
  ∃ (c : List Value) (a : α), v = .agg c.toArray ∧ Rep (Mem.of w) (f a) c ∧ Vld (f a) ∧ dsz (f a) ≤ B d := by
 obtain ⟨cs, rfl⟩ := hv
 obtain ⟨a, h1, h2⟩ := OpnAt.arg h ht
 exact ⟨cs.toList, a, by simp, h1, h2⟩
end
end Go.Vc
end

section
namespace Go.Vc
open Go Go.RowKit
variable {dd : List Deferred}
section
variable {σ α β : Type} {P : Program} {l : Nat} {vals : Mem → α → List Value → Prop} {Y : σ → α → Option (Lp σ β)}
end
section
variable {P : Program} {ops : Array Oper} {Q Q' : Exit → Act → World → Prop} {ro : Option Nat} {a : Act} {w : World}
theorem op_in' {o : Oper} {K K' : Act → World → Prop} (hd : ∀ c, o.op ≠ .defer c) (hQ : ∀ e a w, Q' e a w → e = .normal) (hK : ∀ a w, K a w → K' a w) (h : o.wp P a w K Q') : o.wpIn (fen ro) 0 P a w K' Q := by
 refine ⟨fun f _ => fen_fn f, ?_⟩
 rw [fen_round, Oper.semAt_eq ro _ _ hd]
 unfold Oper.wp at h
 generalize (execOp a.eval o).run P w = r at h ⊢
 cases r with
 | ok x w' =>
  cases x with
  | value v => exact hK _ _ h
  | skip => exact hK _ _ h
  | defer d => exact hK _ _ h
  | enter f args =>
   refine ⟨fen_depth, calls_in (Calls.mono h fun e w'' he => ?_)⟩
   cases e with
   | returned v => exact hK _ _ he
   | panicked c => cases hQ _ _ _ he
   | outgrown =>
    obtain ⟨a', w', h2⟩ := he
    cases hQ _ _ _ h2
  | row row args => exact ⟨fen_depth, rows_in (_root_.Go.Rows.mono h fun v w'' he => hK _ _ he)⟩
  | _ => exact h.elim
 | halt x w' =>
  cases x with
  | panic v => cases hQ _ _ _ h
  | _ => exact h.elim
theorem list_in_then (rest : List Oper) : ∀ (l : List Oper), noDefer l = true → ∀ (a : Act) (w : World), wpList P ops (fun e a w => e = .normal ∧ wpListIn (fen ro) 0 P ops Q rest a w) l a w → wpListIn (fen ro) 0 P ops Q (l ++ rest) a w
 | [], _, a, w, h => h.2
 | o :: l, hd, a, w, h => by
  have hd' : noDefer l = true := by
   unfold noDefer at hd ⊢
   rw [List.all_cons, Bool.and_eq_true] at hd
   exact hd.2
  simp only [wpList] at h
  simp only [List.cons_append, wpListIn]
  split
  ·rename_i hw
   rw [if_pos hw] at h
   rcases h with h | h
   ·exact op_in' (noDefer_at hd (by simp)) (fun _ _ _ h => h.1) (list_in_then rest l hd') h
   ·obtain ⟨a', w', h2, _⟩ := h.2
    cases h2
  ·rename_i hw
   rw [if_neg hw] at h
   exact ⟨fun f _ => fen_fn f, list_in_then rest l hd' _ _ h⟩
theorem WI_pre {l : List Oper} (m : Nat) (hd : noDefer (l.take m) = true) (h : wpList P ops (fun e a w => e = .normal ∧ wpListIn (fen ro) 0 P ops Q (l.drop m) a w) (l.take m) a w) : wpListIn (fen ro) 0 P ops Q l a w := by
 have := list_in_then (l.drop m) (l.take m) hd a w h
 rwa [List.take_append_drop] at this
theorem WI_reg {id : Nat} (h : wpListIn (fen none) 0 P ops Q ops.toList a w) : (Code.region id ops false).wp P Q a w := RI_out (wpIn_region_list h)
end
end Go.Vc
end

section
namespace Go.Proofs.Ytpjgpnfdadpkkaa
open Go Go.Vc Go.RowKit
def isUse (k : Int) : Bool := decide (k = 3) || (decide (k = 4) || decide (k = 6))
mutual
def usesV : TH0 → List TH0
  | ⟨k, t, n, m, a, l⟩ => (bif isUse k then [⟨k, t, n, m, a, l⟩] else []) ++ usesVs l
def usesVs : List TH0 → List TH0
  | [] => []
  | x :: r => usesV x ++ usesVs r
end
mutual
def sizeX : TH0 → Nat
  | ⟨_, _, _, _, _, l⟩ => sizeXs l + 1
def sizeXs : List TH0 → Nat
  | [] => 0
  | x :: r => sizeX x + sizeXs r
end
theorem usesV_eq (v : TH0) : usesV v = (bif isUse v.fKind then [v] else []) ++ usesVs v.fL := by cases v; rw [usesV]
theorem sizeX_eq (v : TH0) : sizeX v = sizeXs v.fL + 1 := by cases v; rw [sizeX]
theorem usesVs_drop {l : List TH0} {i : Nat} {x : TH0} (h : l[i]? = some x) : usesVs (l.drop i) = usesV x ++ usesVs (l.drop (i + 1)) := by
 obtain ⟨hi, hx⟩ := List.getElem?_eq_some_iff.1 h
 rw [List.drop_eq_getElem_cons hi, hx, usesVs]
theorem partX_small {v x : TH0} (h : x ∈ v.fL) : SizeOf.sizeOf x < SizeOf.sizeOf v := by
 have := List.sizeOf_lt_of_mem h
 cases v
 simp only [TH0.mk.sizeOf_spec]
 dsimp only at this
 omega
theorem sizeX_pos (v : TH0) : 1 ≤ sizeX v := by rw [sizeX_eq]; omega
theorem sizeXs_len : ∀ l : List TH0, l.length ≤ sizeXs l
 | [] => Nat.zero_le _
 | x :: r => by
  have h1 := sizeXs_len r
  have h2 := sizeX_pos x
  rw [sizeXs, List.length_cons]
  omega
theorem sizeXs_mem : ∀ {l : List TH0} {x : TH0}, x ∈ l → sizeX x ≤ sizeXs l
 | y :: r, x, h => by
  rw [sizeXs]
  rcases List.mem_cons.1 h with rfl | h
  ·omega
  ·have := sizeXs_mem h
   omega
def valsX (M : Mem) (x : TH0) (vs : List Value) : Prop := ∃ cs, vs = [.agg cs.toArray] ∧ Rep M (emb_TH0 x) cs
def UsePost {σ β : Type} (J : σ → Mem → List Ent → Prop) (Jx : β → Mem → List Ent → Prop) (r : Lp σ β) (w0 : World) (M1 : Mem) (H : List Ent) : Ending → World → Prop := fun e w' =>
  ∃ M' E', M1.le M' ∧ Hp w0 M' (E' ++ H) w' ∧ match r with
    | .nx s' => e = .returned (.bool true) ∧ J s' M' E'
    | .br b => e = .returned (.bool false) ∧ Jx b M' E'
set_option maxRecDepth 100000 in
set_option maxHeartbeats 4000000 in
theorem useIns (by_ bs l : Nat) {σ β : Type} (Y : σ → TH0 → Option (Lp σ β)) (J : σ → Mem → List Ent → Prop) (Jx : β → Mem → List Ent → Prop) (hJ : Grows J) (hY : Yld Try.prog l valsX J Jx Y) :
  ∀ (m : Nat) (v : TH0), SizeOf.sizeOf v < m → sizeX v ≤ 9223372036854775806 → ∀ (s0 : σ) (r : Lp σ β), foldY Y (usesV v) s0 = some r → ∀ (M : Mem) (c0 : List Value), Rep M (emb_TH0 v) c0 →
   M.cell? ⟨by_, 0, none⟩ = some (.func (.yield l) #[] #[]) → M.cell? ⟨bs, 0, none⟩ = some (.func (.func 58) #[] #[.pointer (some ⟨by_, 0, none⟩), .pointer (some ⟨bs, 0, none⟩)]) →
   ∀ w0 M1 E H w, M.le M1 → J s0 M1 E → Hp w0 M1 (E ++ H) w → Calls Try.prog 58 [.agg c0.toArray, .pointer (some ⟨by_, 0, none⟩), .pointer (some ⟨bs, 0, none⟩)].toArray w (UsePost J Jx r w0 M1 H)
 | 0, v, hm => fun _ _ _ => absurd hm (by omega)
 | m + 1, v, hm => by
  intro hw0 s0 r hfold M c0 h0 hby hbs w0 M1 E H w hM0 hj p0
  replace h0 := Rep.mono hM0 _ _ h0
  replace hby := hM0.cell hby
  replace hbs := hM0.cell hbs
  have hvl : v.fL.length < 9223372036854775806 := by
   have h1 := sizeXs_len v.fL
   rw [sizeX_eq] at hw0
   omega
  rw [usesV_eq] at hfold
  have hrep := h0
  obtain ⟨A_1, cap_1, rfl, h_1⟩ := TH0.opn h0
  refine R_enter 29 Try.func58 rfl rfl (by simp) (fun a0 f0 => ?_)
  refine R_seq (R_reg ?_)
  refine V_box (cs := #[.int .i8 v.fKind, S v.fText, .int .i64 v.fNum, S v.fName, S v.fAttr, .slice A_1 v.fL.length cap_1]) (T := 37) f0 p0 (by kernel_rfl) (fun _ => by kernel_rfl) (fun bx M2 w hM1 hc p1 a_1 f_1 => ?_)
  have hc2 := fz_box hc
  replace hby := hM1.cell hby
  replace hbs := hM1.cell hbs
  replace h_1 := h_1.mono hM1
  replace hrep := Rep.mono hM1 _ _ hrep
  have hj2 := hJ _ _ _ _ hM1 hj
  refine V_run f_1 1 (by kernel_rfl) (fun a_2 f_2 => ?_)
  refine W_end rfl (T_n (R_seq ?_))
  refine wp_mono (Q := fun e a w' => (e = .normal ∧ ∃ s1 M3 E3, M2.le M3 ∧ J s1 M3 E3 ∧ foldY Y (usesVs v.fL) s1 = some r ∧ Frm 29 [(1, .pointer (some ⟨by_, 0, none⟩)), (2, .pointer (some ⟨bs, 0, none⟩)), (3, .pointer (some ⟨bx, 0, none⟩))] a ∧ Hp w0 M3 (E3 ++ H) w') ∨ (e = .ret ∧ ∃ b M3 E3, r = .br b ∧ M2.le M3 ∧ Jx b M3 E3 ∧ Frm 29 [(4, .bool false)] a ∧ Hp w0 M3 (E3 ++ H) w')) ?_ ?_
  ·refine R_seq (R_reg ?_)
   refine V_run f_2 1 (by kernel_rfl) (fun a_3 f_3 => ?_)
   refine V_ld f_3 p1 hc2 0 rfl (by kernel_rfl) (by kernel_rfl) (fun a_4 f_4 => ?_)
   refine W_end rfl (T_n (wp_block (R_seq ?_)))
   have f_5 : Frm 29 [(1, .pointer (some ⟨by_, 0, none⟩)), (2, .pointer (some ⟨bs, 0, none⟩)), (3, .pointer (some ⟨bx, 0, none⟩)), (8, .int .i8 v.fKind)] a_4 := f_4.keep (ks := [1, 2, 3, 8]) (by kernel_rfl)
   refine wp_mono (Q := fun e a w' => e = .normal ∧ w' = w ∧ Frm 29 [(1, .pointer (some ⟨by_, 0, none⟩)), (2, .pointer (some ⟨bs, 0, none⟩)), (3, .pointer (some ⟨bx, 0, none⟩)), (9, .bool (isUse v.fKind))] a) ?_ ?_
   ·refine R_seq (R_reg ?_)
    refine W_run (L' := [(1, .pointer (some ⟨by_, 0, none⟩)), (2, .pointer (some ⟨bs, 0, none⟩)), (3, .pointer (some ⟨bx, 0, none⟩)), (8, .int .i8 v.fKind), (9, .bool (decide (v.fKind = 3)))]) (w' := w) f_5 2 [1, 2, 3, 8, 9] (by kernel_rfl) (fun a_6 f_6 => ?_)
    refine W_end rfl (T_n ?_)
    refine R_cond f_6 (b := decide (v.fKind = 3)) (by kernel_rfl) (by kernel_rfl) (fun h1 => ?_) (fun h1 => ?_)
    ·refine wp_skip ?_
     exact ⟨rfl, rfl, (Frm.set f_6 9 (v := .bool (decide (v.fKind = 3))) (v' := .bool (isUse v.fKind)) (by kernel_rfl) (congrArg Value.bool (by unfold isUse; rw [h1]; rfl))).keep (ks := [1, 2, 3, 9]) (by kernel_rfl)⟩
    refine R_seq (R_reg ?_)
    refine W_run (L' := [(1, .pointer (some ⟨by_, 0, none⟩)), (2, .pointer (some ⟨bs, 0, none⟩)), (3, .pointer (some ⟨bx, 0, none⟩)), (8, .int .i8 v.fKind), (9, .bool (decide (v.fKind = 4)))]) (w' := w) f_6 2 [1, 2, 3, 8, 9] (by kernel_rfl) (fun a_7 f_7 => ?_)
    refine W_end rfl (T_n ?_)
    refine R_cond f_7 (b := decide (v.fKind = 4)) (by kernel_rfl) (by kernel_rfl) (fun h2 => ?_) (fun h2 => ?_)
    ·refine wp_skip ?_
     exact ⟨rfl, rfl, (Frm.set f_7 9 (v := .bool (decide (v.fKind = 4))) (v' := .bool (isUse v.fKind)) (by kernel_rfl) (congrArg Value.bool (by unfold isUse; rw [h1, h2]; rfl))).keep (ks := [1, 2, 3, 9]) (by kernel_rfl)⟩
    refine R_reg ?_
    refine W_run (L' := [(1, .pointer (some ⟨by_, 0, none⟩)), (2, .pointer (some ⟨bs, 0, none⟩)), (3, .pointer (some ⟨bx, 0, none⟩)), (8, .int .i8 v.fKind), (9, .bool (decide (v.fKind = 6)))]) (w' := w) f_7 2 [1, 2, 3, 8, 9] (by kernel_rfl) (fun a_8 f_8 => ?_)
    refine W_end rfl ?_
    exact ⟨rfl, rfl, (Frm.set f_8 9 (v := .bool (decide (v.fKind = 6))) (v' := .bool (isUse v.fKind)) (by kernel_rfl) (congrArg Value.bool (by unfold isUse; rw [h1, h2]; rfl))).keep (ks := [1, 2, 3, 9]) (by kernel_rfl)⟩
   rintro _ a_9 w_9 ⟨rfl, rfl, f_9⟩
   refine T_n ?_
   refine R_cond f_9 (b := isUse v.fKind) (by kernel_rfl) (by kernel_rfl) (fun h1 => ?_) (fun h1 => ?_)
   ·rw [h1, cond_true] at hfold
    obtain ⟨r1, hy1, hfold⟩ := Option.bind_eq_some_iff.1 hfold
    refine R_seq ?_
    refine WI_reg ?_
    refine WI_pre 2 (by kernel_rfl) ?_
    refine W_eq (w' := w_9) (v := .func (.yield l) #[] #[]) f_9 (by kernel_rfl) (by kernel_rfl) rfl rfl (X_load1 (v := .func (.yield l) #[] #[]) rfl (ad := ⟨by_, 0, none⟩) (by kernel_rfl) (by kernel_rfl) (p1.cell hby)) (fun a_10 f_10 => ?_)
    refine W_eq (w' := w_9) (v := .agg #[.int .i8 v.fKind, S v.fText, .int .i64 v.fNum, S v.fName, S v.fAttr, .slice A_1 v.fL.length cap_1]) f_10 (by kernel_rfl) (by kernel_rfl) rfl rfl (X_loadN (cs := [.int .i8 v.fKind, S v.fText, .int .i64 v.fNum, S v.fName, S v.fAttr, .slice A_1 v.fL.length cap_1]) rfl (ad := ⟨bx, 0, none⟩) (by kernel_rfl) (by kernel_rfl) (fun j u h => p1.cell (hc2 j u h))) (fun a_11 f_11 => ?_)
    refine W_end rfl ⟨rfl, ?_⟩
    obtain ⟨fn, tmps, asg, bd, hrun, hR⟩ := hY s0 v r1 hy1 w0 M2 E H w_9 _ hj2 ⟨_, rfl, hrep⟩ p1
    refine WI_round f_11 (by kernel_rfl) (by kernel_rfl) rfl rfl (fun c e => by cases e) (hx := Eq.trans (by kernel_rfl) hrun) hR ?_
    rintro e w_3 ⟨M3, E3, hM3, p_3, hr3⟩
    cases r1 with
    | br b =>
     obtain ⟨rfl, hjx⟩ := hr3
     obtain rfl := Option.some.inj hfold
     refine ⟨_, rfl, fun a_12 f_12 => ?_⟩
     refine list_in (ro := none) (by rintro ⟨_, _, h⟩; rcases h with h | h <;> cases h.1) _ (by kernel_rfl) _ _ ?_
     refine W_run (L' := [(16, .bool true)]) (w' := w_3) f_12 1 [16] (by kernel_rfl) (fun a_13 f_13 => ?_)
     refine W_end rfl (T_n ?_)
     refine R_cond_t f_13 (by kernel_rfl) (by kernel_rfl) ?_
     refine R_seq (R_reg ?_)
     refine W_run (L' := [(4, .bool false)]) (w' := w_3) f_13 1 [4] (by kernel_rfl) (fun a_14 f_14 => ?_)
     refine W_end rfl (T_n (wp_ret ?_))
     exact .inr ⟨rfl, b, M3, E3, rfl, hM3, hjx, f_14, p_3⟩
    | nx s1 =>
     obtain ⟨rfl, hj3⟩ := hr3
     refine ⟨_, rfl, fun a_12 f_12 => ?_⟩
     refine list_in (ro := none) (by rintro ⟨_, _, h⟩; rcases h with h | h <;> cases h.1) _ (by kernel_rfl) _ _ ?_
     refine W_run (L' := [(1, .pointer (some ⟨by_, 0, none⟩)), (2, .pointer (some ⟨bs, 0, none⟩)), (3, .pointer (some ⟨bx, 0, none⟩)), (16, .bool false)]) (w' := w_3) f_12 1 [1, 2, 3, 16] (by kernel_rfl) (fun a_13 f_13 => ?_)
     refine W_end rfl (T_n ?_)
     refine R_cond_f f_13 (by kernel_rfl) (by kernel_rfl) ?_
     refine wp_skip ?_
     exact .inl ⟨rfl, s1, M3, E3, hM3, hj3, hfold, f_13.keep (ks := [1, 2, 3]) (by kernel_rfl), p_3⟩
   ·rw [h1, cond_false, List.nil_append] at hfold
    refine wp_skip ?_
    exact .inl ⟨rfl, s0, M2, E, Mem.le_refl _, hj2, hfold, f_9.keep (ks := [1, 2, 3]) (by kernel_rfl), p1⟩
  rintro _ a_15 w_15 (⟨rfl, s1, M3, E3, hM3, hj3, hfold, f_15, p_15⟩ | ⟨rfl, b, M3, E3, rfl, hM3, hjx, f_15, p_15⟩)
  case inr =>
   refine T_r ?_
   refine E_ret1 f_15 rfl (by kernel_rfl : Vc.look _ 4 = some (.bool false)) ?_
   exact ⟨M3, E3, hM1.trans hM3, p_15, rfl, hjx⟩
  refine T_n ?_
  have hc3 := fzu hM3 hc2
  refine R_seq (R_seq (R_reg ?_))
  refine V_run f_15 1 (by kernel_rfl) (fun a_16 f_16 => ?_)
  refine V_ld f_16 p_15 hc3 5 rfl (by kernel_rfl) (by kernel_rfl) (fun a_17 f_17 => ?_)
  refine W_run (L' := [(1, .pointer (some ⟨by_, 0, none⟩)), (2, .pointer (some ⟨bs, 0, none⟩)), (18, .slice A_1 v.fL.length cap_1), (19, .int .i64 ((v.fL.length : Nat) : Int)), (20, .int .i64 0)]) (w' := w_15) f_17 2 [1, 2, 18, 19, 20] (by kernel_rfl) (fun a_18 f_18 => ?_)
  refine W_end rfl (T_n (wp_block ?_))
  refine wp_mono (Q := fun e a w => (e = .exit 1 ∧ ∃ s' M' E', r = .nx s' ∧ M1.le M' ∧ J s' M' E' ∧ Frm 29 [(1, .pointer (some ⟨by_, 0, none⟩))] a ∧ Hp w0 M' (E' ++ H) w) ∨ (e = .ret ∧ ∃ b M' E', r = .br b ∧ M1.le M' ∧ Jx b M' E' ∧ Frm 29 [(4, .bool false)] a ∧ Hp w0 M' (E' ++ H) w))
   (R_loop (n := 29) (w0 := w0) (M := M3) (fun (x : Nat × σ × List Ent) => [(1, .pointer (some ⟨by_, 0, none⟩)), (2, .pointer (some ⟨bs, 0, none⟩)), (18, .slice A_1 v.fL.length cap_1), (19, .int .i64 ((v.fL.length : Nat) : Int)), (20, .int .i64 (x.1 : Int))]) (fun x => x.2.2 ++ H)
    (fun x (MM : Mem) => J x.2.1 MM x.2.2 ∧ foldY Y (usesVs (v.fL.drop x.1)) x.2.1 = some r ∧ x.1 ≤ v.fL.length) (fun x => v.fL.length - x.1) (0, s1, E3) (f_18.keep (ks := [1, 2, 18, 19, 20]) (by kernel_rfl)) p_15 ⟨hj3, by rw [List.drop_zero]; exact hfold, Nat.zero_le _⟩ ?_) ?_
  ·rintro ⟨i, s, Es⟩ M_3 a_11 w_2 hM4 ⟨hjs, hfs, hi⟩ f_11 p_2
   dsimp only at hjs hfs hi
   replace f_11 : Frm 29 [(1, .pointer (some ⟨by_, 0, none⟩)), (2, .pointer (some ⟨bs, 0, none⟩)), (18, .slice A_1 v.fL.length cap_1), (19, .int .i64 ((v.fL.length : Nat) : Int)), (20, .int .i64 (i : Int))] a_11 := f_11
   replace p_2 : Hp w0 M_3 (Es ++ H) w_2 := p_2
   refine R_seq (R_reg ?_)
   refine W_run (L' := [(1, .pointer (some ⟨by_, 0, none⟩)), (2, .pointer (some ⟨bs, 0, none⟩)), (18, .slice A_1 v.fL.length cap_1), (19, .int .i64 ((v.fL.length : Nat) : Int)), (20, .int .i64 (i : Int)), (21, .bool (decide ((i : Int) < ((v.fL.length : Nat) : Int))))]) (w' := w_2) f_11 1 [1, 2, 18, 19, 20, 21] (by kernel_rfl) (fun a_12 f_12 => ?_)
   refine W_end rfl (T_n (R_seq ?_))
   refine R_cond f_12 (b := decide ((i : Int) < ((v.fL.length : Nat) : Int))) (by kernel_rfl) (by kernel_rfl) (fun h_3 => ?_) (fun h_3 => ?_)
   ·have k_1 : i < v.fL.length := by have := of_decide_eq_true h_3; omega
    refine wp_skip (T_n (R_seq (wp_block (R_seq (R_reg ?_)))))
    have hx : v.fL[i]? = some v.fL[i] := List.getElem?_eq_getElem k_1
    have hgx : getI v.fL (i : Int) = some v.fL[i] := by unfold getI; rw [if_pos (by omega)]; exact hx
    rw [usesVs_drop hx, foldY_app] at hfs
    obtain ⟨r2, hr2, hfs⟩ := Option.bind_eq_some_iff.1 hfs
    obtain ⟨ad_1, c_1, e_1, hl_1, hr_1, hc_1⟩ := Sli.at_ (h_1.mono (hM3.trans hM4)) hgx
    have hr_2 := hr_1
    obtain ⟨A_2, cap_2, rfl, h_2⟩ := TH0.opn hr_1
    refine W_eq (v := .pointer (some (ad_1.add ((i : Int).toNat * 6)))) f_12 (by kernel_rfl) (by kernel_rfl) rfl rfl (X_indexAddrA e_1 rfl (len := v.fL.length) (cap := cap_1) (k := .i64) (i := (i : Int)) (by kernel_rfl) (by kernel_rfl) (e := 37) (by kernel_rfl) (sz := 6) (by kernel_rfl) (getI_nn hgx) (getI_lt hgx)) (fun a_13 f_13 => ?_)
    refine W_eq (v := .agg #[.int .i8 v.fL[i].fKind, S v.fL[i].fText, .int .i64 v.fL[i].fNum, S v.fL[i].fName, S v.fL[i].fAttr, .slice A_2 v.fL[i].fL.length cap_2]) f_13 (by kernel_rfl) (by kernel_rfl) rfl rfl (X_loadN (cs := [.int .i8 v.fL[i].fKind, S v.fL[i].fText, .int .i64 v.fL[i].fNum, S v.fL[i].fName, S v.fL[i].fAttr, .slice A_2 v.fL[i].fL.length cap_2]) rfl (ad := ad_1.add ((i : Int).toNat * 6)) (by kernel_rfl) (by kernel_rfl) (fun j u h => p_2.cell (hc_1 j u h))) (fun a_14 f_14 => ?_)
    refine V_alloc f_14 p_2 (.cells #[.int .i8 0, S [], .int .i64 0, S [], S [], .slice none 0 0] 37 (0, 0)) (by kernel_rfl) (fun _ => by kernel_rfl) (fun b_2 w_4 p_4 a_16 f_16 => ?_)
    refine W_storeN (vs := [.int .i8 v.fL[i].fKind, S v.fL[i].fText, .int .i64 v.fL[i].fNum, S v.fL[i].fName, S v.fL[i].fAttr, .slice A_2 v.fL[i].fL.length cap_2]) (j := 0) f_16 p_4 (by kernel_rfl) (by kernel_rfl) rfl rfl (by kernel_rfl) (by kernel_rfl) (by simp [Value.oneCell', S]) (by kernel_rfl) (by simp) (by decide) (cs' := #[.int .i8 v.fL[i].fKind, S v.fL[i].fText, .int .i64 v.fL[i].fNum, S v.fL[i].fName, S v.fL[i].fAttr, .slice A_2 v.fL[i].fL.length cap_2]) (by kernel_rfl) (fun w_5 p_5 a_17 f_17 => ?_)
    refine W_end rfl (T_n (R_seq (R_reg ?_)))
    refine W_eq (v := .func (.func 58) #[] #[.pointer (some ⟨by_, 0, none⟩), .pointer (some ⟨bs, 0, none⟩)]) f_17 (by kernel_rfl) (by kernel_rfl) rfl rfl (X_load1 (v := .func (.func 58) #[] #[.pointer (some ⟨by_, 0, none⟩), .pointer (some ⟨bs, 0, none⟩)]) rfl (ad := ⟨bs, 0, none⟩) (by kernel_rfl) (by kernel_rfl) (p_5.cell ((hM3.trans hM4).cell hbs))) (fun a_18 f_18 => ?_)
    refine W_eq (v := .agg #[.int .i8 v.fL[i].fKind, S v.fL[i].fText, .int .i64 v.fL[i].fNum, S v.fL[i].fName, S v.fL[i].fAttr, .slice A_2 v.fL[i].fL.length cap_2]) f_18 (by kernel_rfl) (by kernel_rfl) rfl rfl (X_loadN (cs := [.int .i8 v.fL[i].fKind, S v.fL[i].fText, .int .i64 v.fL[i].fNum, S v.fL[i].fName, S v.fL[i].fAttr, .slice A_2 v.fL[i].fL.length cap_2]) rfl (ad := ⟨b_2, 0, none⟩) (by kernel_rfl) (by kernel_rfl) (own_cells (p_5.ownCell 0 rfl) 0 rfl)) (fun a_19 f_19 => ?_)
    have p_3 := p_5.dropN 1
    replace p_3 : Hp w0 M_3 (Es ++ H) w_5 := p_3
    have hcall := useIns by_ bs l Y J Jx hJ hY m v.fL[i] (by have := partX_small (v := v) (List.getElem_mem k_1); omega) (by
     have h1 := sizeXs_mem (List.getElem_mem k_1)
     have h2 := hw0
     rw [sizeX_eq] at h2
     omega) s r2 hr2 M_3 _ hr_2 ((hM3.trans hM4).cell hby) ((hM3.trans hM4).cell hbs) w0 M_3 Es H w_5 (Mem.le_refl _) hjs p_3
    refine W_call (R := fun v w' => ∃ M' E', M_3.le M' ∧ Hp w0 M' (E' ++ H) w' ∧ match r2 with
     | .nx s' => v = .bool true ∧ J s' M' E'
     | .br b => v = .bool false ∧ Jx b M' E') f_19 (by kernel_rfl) (by kernel_rfl) rfl rfl (by kernel_rfl) (hcall.mono fun e w' ⟨M', E', g1, g2, g3⟩ => ?_) ?_
    ·cases r2 with
     | nx s' => exact ⟨_, g3.1, M', E', g1, g2, rfl, g3.2⟩
     | br b => exact ⟨_, g3.1, M', E', g1, g2, rfl, g3.2⟩
    rintro v_1 w_4 ⟨M4, E4, hM5, p_4, g4⟩ a_21 f_21
    cases r2 with
    | br b =>
     obtain ⟨rfl, hjx⟩ := g4
     obtain rfl := Option.some.inj hfs
     refine W_run (L' := [(27, .bool true)]) (w' := w_4) f_21 1 [27] (by kernel_rfl) (fun a_22 f_22 => ?_)
     refine W_end rfl (T_n ?_)
     refine R_cond_t f_22 (by kernel_rfl) (by kernel_rfl) ?_
     refine R_seq (R_reg ?_)
     refine W_run (L' := [(4, .bool false)]) (w' := w_4) f_22 1 [4] (by kernel_rfl) (fun a_23 f_23 => ?_)
     refine W_end rfl (T_n (wp_ret (B_r (T_r (T_r ?_)))))
     exact .inr ⟨rfl, b, M4, E4, rfl, hM1.trans (hM3.trans (hM4.trans hM5)), hjx, f_23, p_4⟩
    | nx s2 =>
     obtain ⟨rfl, hj4⟩ := g4
     replace hfs : foldY Y (usesVs (v.fL.drop (i + 1))) s2 = some r := hfs
     refine W_run (L' := [(1, .pointer (some ⟨by_, 0, none⟩)), (2, .pointer (some ⟨bs, 0, none⟩)), (18, .slice A_1 v.fL.length cap_1), (19, .int .i64 ((v.fL.length : Nat) : Int)), (20, .int .i64 (i : Int)), (27, .bool false)]) (w' := w_4) f_21 1 [1, 2, 18, 19, 20, 27] (by kernel_rfl) (fun a_22 f_22 => ?_)
     refine W_end rfl (T_n ?_)
     refine R_cond_f f_22 (by kernel_rfl) (by kernel_rfl) ?_
     refine wp_skip (B_n (T_n (R_reg ?_)))
     have hin : inR .i64 ((i : Int) + 1) := inR_mk.2 ⟨by omega, by omega⟩
     refine W_run (L' := [(1, .pointer (some ⟨by_, 0, none⟩)), (2, .pointer (some ⟨bs, 0, none⟩)), (18, .slice A_1 v.fL.length cap_1), (19, .int .i64 ((v.fL.length : Nat) : Int)), (28, .int .i64 (IntKind.wrap .i64 ((i : Int) + 1)))]) (w' := w_4) f_22 1 [1, 2, 18, 19, 28] (by kernel_rfl) (fun a_23 f_23 => ?_)
     have f_24 := Frm.set f_23 28 (v := .int .i64 (IntKind.wrap .i64 ((i : Int) + 1))) (v' := .int .i64 (((i + 1 : Nat) : Int))) (by kernel_rfl) (congrArg (Value.int .i64) ((inR_wrap hin).trans (by omega)))
     have f_25 : Frm 29 [(1, .pointer (some ⟨by_, 0, none⟩)), (2, .pointer (some ⟨bs, 0, none⟩)), (18, .slice A_1 v.fL.length cap_1), (19, .int .i64 ((v.fL.length : Nat) : Int)), (28, .int .i64 (((i + 1 : Nat) : Int)))] a_23 := f_24.keep (ks := [1, 2, 18, 19, 28]) (by kernel_rfl)
     refine W_run (L' := [(1, .pointer (some ⟨by_, 0, none⟩)), (2, .pointer (some ⟨bs, 0, none⟩)), (18, .slice A_1 v.fL.length cap_1), (19, .int .i64 ((v.fL.length : Nat) : Int)), (20, .int .i64 (((i + 1 : Nat) : Int)))]) (w' := w_4) f_25 1 [1, 2, 18, 19, 20] (by kernel_rfl) (fun a_26 f_26 => ?_)
     refine W_end rfl (T_n ?_)
     exact ⟨(i + 1, s2, E4), by dsimp only; omega, M4, hM4.trans hM5, ⟨hj4, hfs, by dsimp only; omega⟩, f_26, p_4⟩
   ·have k_1 : ¬ (i < v.fL.length) := fun h => by
     have := of_decide_eq_false h_3
     omega
    refine wp_exit (T_x (T_x ?_))
    have : v.fL.drop i = [] := List.drop_eq_nil_of_le (by omega)
    rw [this] at hfs
    obtain rfl := Option.some.inj hfs
    exact .inl ⟨rfl, s, M_3, Es, rfl, hM1.trans (hM3.trans hM4), hjs, f_12.keep (ks := [1]) (by kernel_rfl), p_2⟩
  ·rintro _ a_24 w_4 (⟨rfl, s', M', E', rfl, g1, g2, f_29, p_3⟩ | ⟨rfl, b, M', E', rfl, g1, g2, f_29, p_3⟩)
   ·refine B_x (T_n (R_seq (R_reg ?_)))
    refine W_run (L' := [(4, .bool true)]) (w' := w_4) f_29 1 [4] (by kernel_rfl) (fun a_25 f_30 => ?_)
    refine W_end rfl (T_n (wp_ret ?_))
    refine E_ret1 f_30 rfl (by kernel_rfl : Vc.look _ 4 = some (.bool true)) ?_
    exact ⟨M', E', g1, p_3, rfl, g2⟩
   ·refine B_r (T_r ?_)
    refine E_ret1 f_29 rfl (by kernel_rfl : Vc.look _ 4 = some (.bool false)) ?_
    exact ⟨M', E', g1, p_3, rfl, g2⟩
set_option maxRecDepth 100000 in
theorem use_iter (v : TH0) (hlen : sizeX v ≤ 9223372036854775806) (M : Mem) (bv : Nat) (cs : List Value) (hrep : Rep M (emb_TH0 v) cs) (hbv : ∀ j u, cs[j]? = some u → M.cell? ((⟨bv, 0, none⟩ : Addr).add j) = some u) :
  IterOk Try.prog 57 [.pointer (some ⟨bv, 0, none⟩)] valsX (usesV v) M := by
 refine ⟨Go.Proofs.enters_of Try.func57 (by kernel_rfl) rfl, fun σ β Y s0 r hr l J Jx hJ hJx hY w0 M1 E H w hM0 hj p0 => ?_⟩
 refine R_enter 8 Try.func57 rfl rfl (by simp) (fun a0 f0 => ?_)
 replace f0 : Frm 8 [(0, .func (.yield l) #[] #[]), (1, .pointer (some ⟨bv, 0, none⟩))] a0 := f0
 refine R_seq ?_
 refine R_reg ?_
 refine W_box (cs := #[.func (.yield l) #[] #[]]) (T := 73) f0 p0 1 [1, 2] (fun b => [(1, .pointer (some ⟨bv, 0, none⟩)), (2, .pointer (some ⟨b, 0, none⟩))]) (fun _ => by kernel_rfl) (fun by_ M2 w hM1 hc p1 a_1 f_1 => ?_)
 replace f_1 : Frm 8 [(1, .pointer (some ⟨bv, 0, none⟩)), (2, .pointer (some ⟨by_, 0, none⟩))] a_1 := f_1
 refine W_end rfl ?_
 refine T_n ?_
 refine R_seq ?_
 refine R_reg ?_
 refine W_alloc f_1 p1 1 [1, 2, 3] (.cells #[.nilFunc] 73 (0, 0)) (fun b => [(1, .pointer (some ⟨bv, 0, none⟩)), (2, .pointer (some ⟨by_, 0, none⟩)), (3, .pointer (some ⟨b, 0, none⟩))]) (fun _ => by kernel_rfl) (fun bs w p2 a_2 f_2 => ?_)
 replace f_2 : Frm 8 [(1, .pointer (some ⟨bv, 0, none⟩)), (2, .pointer (some ⟨by_, 0, none⟩)), (3, .pointer (some ⟨bs, 0, none⟩))] a_2 := f_2
 refine W_end rfl ?_
 refine T_n ?_
 refine R_seq ?_
 refine R_reg ?_
 refine W_run (L' := [(1, .pointer (some ⟨bv, 0, none⟩)), (3, .pointer (some ⟨bs, 0, none⟩)), (4, .func (.func 58) #[] #[.pointer (some ⟨by_, 0, none⟩), .pointer (some ⟨bs, 0, none⟩)])]) (w' := w) f_2 1 [1, 3, 4] (by kernel_rfl) (fun a_3 f_3 => ?_)
 refine W_store1 f_3 p2 0 (by kernel_rfl) (by kernel_rfl) rfl rfl (b := bs) (j := 0) (v := .func (.func 58) #[] #[.pointer (some ⟨by_, 0, none⟩), .pointer (some ⟨bs, 0, none⟩)]) (by kernel_rfl) (by kernel_rfl) rfl (by kernel_rfl) (by exact rfl) (by simp) (by simp)
  (.obj bs (.cells #[.func (.func 58) #[] #[.pointer (some ⟨by_, 0, none⟩), .pointer (some ⟨bs, 0, none⟩)]] 73 (0, 0)) :: (E ++ H)) (by exact rfl) (fun w p3 a_4 f_4 => ?_)
 refine W_end rfl ?_
 refine T_n ?_
 obtain ⟨hM2, p4⟩ := p3.freeze
 have hself : (M2.add bs (.cells #[.func (.func 58) #[] #[.pointer (some ⟨by_, 0, none⟩), .pointer (some ⟨bs, 0, none⟩)]] 73 (0, 0))).cell? ⟨bs, 0, none⟩ = some (.func (.func 58) #[] #[.pointer (some ⟨by_, 0, none⟩), .pointer (some ⟨bs, 0, none⟩)]) := by rw [add_cell]; rfl
 generalize (M2.add bs (.cells #[.func (.func 58) #[] #[.pointer (some ⟨by_, 0, none⟩), .pointer (some ⟨bs, 0, none⟩)]] 73 (0, 0))) = M3 at hM2 p4 hself
 have hM3 := hM1.trans hM2
 refine R_reg ?_
 refine W_eq (v := .func (.func 58) #[] #[.pointer (some ⟨by_, 0, none⟩), .pointer (some ⟨bs, 0, none⟩)]) f_4 (by kernel_rfl) (by kernel_rfl) rfl rfl (X_load1 (v := .func (.func 58) #[] #[.pointer (some ⟨by_, 0, none⟩), .pointer (some ⟨bs, 0, none⟩)]) rfl (ad := ⟨bs, 0, none⟩) (by kernel_rfl) (by kernel_rfl) (p4.cell hself)) (fun a_5 f_5 => ?_)
 have hrep2 := hrep
 obtain ⟨A_1, cap_1, rfl, h_1⟩ := TH0.opn hrep2
 refine W_eq (v := .agg #[.int .i8 v.fKind, S v.fText, .int .i64 v.fNum, S v.fName, S v.fAttr, .slice A_1 v.fL.length cap_1]) f_5 (by kernel_rfl) (by kernel_rfl) rfl rfl (X_loadN (cs := [.int .i8 v.fKind, S v.fText, .int .i64 v.fNum, S v.fName, S v.fAttr, .slice A_1 v.fL.length cap_1]) rfl (ad := ⟨bv, 0, none⟩) (by kernel_rfl) (by kernel_rfl) (fun j u h => p4.cell ((hM0.trans hM3).cell (hbv j u h)))) (fun a_5 f_5 => ?_)
 have hcall := useIns by_ bs l Y J Jx hJ hY (SizeOf.sizeOf v + 1) v (Nat.lt_succ_self _) hlen s0 r hr M3 _ (Rep.mono (hM0.trans hM3) _ _ hrep) (hM2.cell (hc 0 _ rfl)) hself w0 M3 E H w (Mem.le_refl _) (hJ _ _ _ _ hM3 hj) p4
 refine W_call (R := fun _ w' => ∃ M' E', M3.le M' ∧ Hp w0 M' (E' ++ H) w' ∧ match r with
  | .nx s' => J s' M' E'
  | .br b => Jx b M' E') f_5 (by kernel_rfl) (by kernel_rfl) rfl rfl (by kernel_rfl) (hcall.mono fun e w' ⟨M', E', g1, g2, g3⟩ => ?_) ?_
 ·cases r with
  | nx s' => exact ⟨_, g3.1, M', E', g1, g2, g3.2⟩
  | br b => exact ⟨_, g3.1, M', E', g1, g2, g3.2⟩
 rintro v_1 w_4 ⟨M4, E4, hM4, p_4, g4⟩ a_6 f_6
 refine W_end rfl ?_
 refine E_end0 f_6 rfl ?_
 cases r with
 | nx s' => exact ⟨_, rfl, M4, E4, hM3.trans hM4, p_4, g4⟩
 | br b => exact ⟨_, rfl, M4, E4, hM3.trans hM4, p_4, g4⟩
def UseRes (v : TH0) (M : Mem) (u : Value) : Prop := ∃ f caps, u = .func (.func f) #[] caps.toArray ∧ IterOk Try.prog f caps valsX (usesV v) M
set_option maxRecDepth 100000 in
theorem all_it (v : TH0) (hlen : sizeX v ≤ 9223372036854775806) (M : Mem) (cs : List Value) (h0 : Rep M (emb_TH0 v) cs) : Ok Try.prog M 43 [.agg cs.toArray] (fun M' u => UseRes v M' u) := by
 intro M1 hM0 w0 H w p0
 replace h0 := Rep.mono hM0 _ _ h0
 obtain ⟨A_1, cap_1, rfl, h_1⟩ := TH0.opn h0
 refine R_enter 4 Try.func43 rfl rfl (by simp) (fun a0 f0 => ?_)
 replace f0 : Frm 4 [(0, .agg #[.int .i8 v.fKind, S v.fText, .int .i64 v.fNum, S v.fName, S v.fAttr, .slice A_1 v.fL.length cap_1])] a0 := f0
 refine R_seq ?_
 refine R_reg ?_
 refine W_box (cs := #[.int .i8 v.fKind, S v.fText, .int .i64 v.fNum, S v.fName, S v.fAttr, .slice A_1 v.fL.length cap_1]) (T := 37) f0 p0 1 [1] (fun b => [(1, .pointer (some ⟨b, 0, none⟩))]) (fun _ => by kernel_rfl) (fun bv M2 w hM1 hc p1 a_1 f_1 => ?_)
 replace f_1 : Frm 4 [(1, .pointer (some ⟨bv, 0, none⟩))] a_1 := f_1
 have hc2 := fz_box hc
 refine W_run (L' := [(1, .pointer (some ⟨bv, 0, none⟩))]) (w' := w) f_1 1 [1] (by kernel_rfl) (fun a_2 f_2 => ?_)
 refine W_end rfl ?_
 refine T_n ?_
 refine R_seq ?_
 refine R_reg ?_
 refine W_run (L' := [(2, .func (.func 57) #[] #[.pointer (some ⟨bv, 0, none⟩)])]) (w' := w) f_2 2 [2] (by kernel_rfl) (fun a_3 f_3 => ?_)
 refine W_end rfl ?_
 refine T_n ?_
 refine wp_ret ?_
 refine E_ret1 f_3 rfl (by kernel_rfl : Vc.look _ 2 = some (.func (.func 57) #[] #[.pointer (some ⟨bv, 0, none⟩)])) ?_
 refine ⟨_, rfl, M2, hM1, p1, 57, [.pointer (some ⟨bv, 0, none⟩)], rfl, ?_⟩
 exact use_iter v hlen M2 bv _ (Rep.mono hM1 _ _ h0) hc2
theorem getI_here {α : Type} {xs : List α} {k : Nat} (h : k < xs.length) : getI xs (k : Int) = some xs[k] := by simp [getI, h]
theorem eta_X (x : TH0) : (⟨x.fKind, x.fText, x.fNum, x.fName, x.fAttr, x.fL⟩ : TH0) = x := by cases x; rfl
theorem eta_V (v : TE0) : (⟨v.fKind, v.fBool, v.fNum, v.fText, v.fList, v.fKeys⟩ : TE0) = v := by cases v; rfl
theorem mem_sz {α : Type} {f : α → Dat} {l : List α} {x : α} (h : x ∈ l) : dsz (f x) ≤ dszs (l.map f) := dszs_mem (List.mem_map_of_mem h)
theorem len_sz {α : Type} {f : α → Dat} (l : List α) : l.length ≤ dszs (l.map f) := by have := dszs_len (l.map f); simpa using this
theorem szE (x : TH0) : dsz (emb_TH0 x) = 7 + x.fText.length + x.fName.length + x.fAttr.length + dszs (x.fL.map emb_TH0) := by
 rw [emb_TH0_eq]
 simp only [dsz, dszs, eL]
 omega
theorem szC (x : TF0) : x.fName.length + dsz (emb_TH0 x.fA) + dsz (emb_TH0 x.fB) + dszs (x.fL.map emb_TF0) + 1 ≤ dsz (emb_TF0 x) := by
 rw [emb_TF0_eq]
 simp only [dsz, dszs, eL]
 omega
theorem szP (x : TD0) : x.fName.length + dszs (x.fAllowed.map emb_TE0) ≤ dsz (emb_TD0 x) := by
 rw [emb_TD0_eq]
 simp only [dsz, dszs, eL]
 omega
theorem szPr (x : TI0) : x.fName.length + dsz (emb_TH0 x.fE) ≤ dsz (emb_TI0 x) := by
 rw [emb_TI0_eq]
 simp only [dsz, dszs, eL]
 omega
theorem szO (x : TC0) : x.fName.length + x.fCond.length + dsz (emb_TH0 x.fE) ≤ dsz (emb_TC0 x) := by
 rw [emb_TC0_eq]
 simp only [dsz, dszs, eL]
 omega
theorem szR (x : TB0) : x.fId.length + x.fType.length + x.fCond.length + dszs (x.fProps.map emb_TI0) + dszs (x.fDepends.map Dat.str) + dszs (x.fInner.map emb_TA0) + 5 ≤ dsz (emb_TB0 x) := by
 rw [emb_TB0_eq]
 simp only [dsz, dszs, eL]
 omega
theorem szT (x : TA0) : dszs (x.fParams.map emb_TD0) + dszs (x.fConds.map emb_TF0) + dszs (x.fRes.map emb_TB0) + dszs (x.fOuts.map emb_TC0) + 5 = dsz (emb_TA0 x) := by
 rw [emb_TA0_eq]
 simp only [dsz, dszs, eL]
 omega
mutual
theorem sizeX_sz : ∀ x : TH0, sizeX x ≤ dsz (emb_TH0 x)
 | ⟨k, t, n, m, a, l⟩ => by
  have h := sizeXs_sz l
  have hd := szE ⟨k, t, n, m, a, l⟩
  dsimp only at hd
  rw [sizeX, hd]
  omega
theorem sizeXs_sz : ∀ l : List TH0, sizeXs l ≤ dszs (l.map emb_TH0)
 | [] => by simp [sizeXs]
 | x :: r => by
  have h1 := sizeX_sz x
  have h2 := sizeXs_sz r
  rw [sizeXs, List.map_cons, dszs]
  omega
end
theorem v_weight {n : Nat} (hn : 3000 < n) : ∀ (k d : Nat) (v : TE0), d < k → d ≤ 1000 → ∃ W : Int, ref03_weight_k n k v (d : Int) = some W ∧ 0 ≤ W ∧ W ≤ 30010001 + 10000 * d
 | 0, d, v, h, _ => absurd h (by omega)
 | k + 1, d, v, h, hd => by
  show ∃ W : Int, ref03_weight_b n (ref03_weight_k n k) v (d : Int) = some W ∧ _
  unfold ref03_weight_b
  by_cases h0 : d = 0 ∨ 3000 < v.fList.length ∨ 3000 < v.fKeys.length
  ·have e : (bif decide ((d : Int) = 0) then some true else bif decide ((3000 : Int) < ((v.fList.length : Nat) : Int)) then some true else some (decide ((3000 : Int) < ((v.fKeys.length : Nat) : Int))) : Option Bool) = some true := by
    by_cases a : (d : Int) = 0
    ·rw [decide_eq_true a, cT]
    ·rw [decide_eq_false a, cF]
     by_cases b : (3000 : Int) < ((v.fList.length : Nat) : Int)
     ·rw [decide_eq_true b, cT]
     ·rw [decide_eq_false b, cF, decide_eq_true (by omega)]
   rw [e, bnd, cT]
   exact ⟨10000, rfl, by omega, by omega⟩
  ·have e : (bif decide ((d : Int) = 0) then some true else bif decide ((3000 : Int) < ((v.fList.length : Nat) : Int)) then some true else some (decide ((3000 : Int) < ((v.fKeys.length : Nat) : Int))) : Option Bool) = some false := by
    rw [decide_eq_false (by omega), cF, decide_eq_false (by omega), cF, decide_eq_false (by omega)]
   rw [e, bnd, cF]
   obtain ⟨base, hbase⟩ : ∃ base : Int, base = (1 : Int) + (min (v.fText.length : Int) (10000 : Int)) := ⟨_, rfl⟩
   rw [← hbase, need_i (by omega) (by omega)]
   obtain ⟨y, hy, hy1, hy2⟩ := loop_inv (step := ref03_weight_s1 n v) (n := n) (s0 := (base, (0 : Int)))
    (fun k s => s.2 = (k : Int) ∧ base ≤ s.1 ∧ s.1 ≤ base + 10000 * k)
    (fun b => base ≤ b ∧ b ≤ base + 10000 * v.fKeys.length) v.fKeys.length
    ⟨rfl, Int.le_refl _, by simp⟩
    (fun q s hq hI => by
     obtain ⟨t, i⟩ := s
     obtain ⟨h1, h2, h3⟩ := hI
     dsimp only at h1 h2 h3
     subst h1
     left
     refine ⟨(t + min ((v.fKeys.getD q []).length : Int) 10000, (q : Int) + 1), ?_, by simp, ?_, ?_⟩
     ·unfold ref03_weight_s1
      dsimp only
      rw [decide_eq_true (by omega), cT, getI_at [] hq, bnd, need_i (by omega) (by omega), need_i (by omega) (by omega)]
     ·dsimp only; omega
     ·dsimp only; omega)
    (fun s hI => by
     obtain ⟨t, i⟩ := s
     obtain ⟨h1, h2, h3⟩ := hI
     dsimp only at h1 h2 h3
     subst h1
     refine ⟨t, ?_, h2, h3⟩
     unfold ref03_weight_s1
     dsimp only
     rw [decide_eq_false (by omega), cF])
    (by omega)
   rw [hy, bnd]
   obtain ⟨z, hz, hz1, hz2⟩ := loop_inv (step := ref03_weight_s2 n (ref03_weight_k n k) v (d : Int)) (n := n) (s0 := (y, (0 : Int)))
    (fun k s => s.2 = (k : Int) ∧ y ≤ s.1 ∧ s.1 ≤ 30010001 + 10000 * d)
    (fun b => y ≤ b ∧ b ≤ 30010001 + 10000 * d) v.fList.length
    ⟨rfl, Int.le_refl _, by dsimp only; omega⟩
    (fun q s hq hI => by
     obtain ⟨t, i⟩ := s
     obtain ⟨h1, h2, h3⟩ := hI
     dsimp only at h1 h2 h3
     subst h1
     unfold ref03_weight_s2
     dsimp only
     rw [decide_eq_true (by omega), cT]
     by_cases h6 : t ≤ 10000
     ·obtain ⟨w, g1, g2, g3⟩ := v_weight hn k (d - 1) v.fList[q] (by omega) (by omega)
      have e : (d : Int) - 1 = ((d - 1 : Nat) : Int) := by omega
      rw [decide_eq_true h6, bnd, cT, getI_here hq, bnd, need_i (by omega) (by omega), e, g1, bnd, need_i (by omega) (by omega), need_i (by omega) (by omega)]
      exact .inl ⟨_, rfl, by dsimp only; omega, by dsimp only; omega, by dsimp only; omega⟩
     ·rw [decide_eq_false h6, bnd, cF]
      exact .inr ⟨_, rfl, by omega, by omega⟩)
    (fun s hI => by
     obtain ⟨t, i⟩ := s
     obtain ⟨h1, h2, h3⟩ := hI
     dsimp only at h1 h2 h3
     subst h1
     unfold ref03_weight_s2
     dsimp only
     rw [decide_eq_false (by omega), cF, bnd, cF]
     exact ⟨_, rfl, by omega, by omega⟩)
    (by omega)
   rw [hz, bnd]
   exact ⟨z, rfl, by omega, by omega⟩
theorem great03 {n : Nat} (hn : 3000 < n) (v : TE0) : ∃ g, ref03_Great n v = some g := by
 obtain ⟨W, w1, -⟩ := v_weight hn n 30 v (by omega) (by omega)
 refine ⟨decide ((5000 : Int) < W), ?_⟩
 unfold ref03_Great ref03_weight
 have e : ((30 : Nat) : Int) = 30 := rfl
 rw [e] at w1
 rw [w1, bnd]
theorem x_weight {n : Nat} (hn : 2000000 ≤ n) : ∀ (left k : Nat) (x : TH0), left < k → left ≤ 30 → dsz (emb_TH0 x) ≤ 1100000 →
  ∃ w : Int, ref12_weight_k n k x (left : Int) = some w ∧ 0 ≤ w ∧ w ≤ 30000 * (left + 1)
 | left, k, x, hk, hl, hb => by
  obtain ⟨k, rfl⟩ : ∃ r, k = r + 1 := ⟨k - 1, by omega⟩
  have hd := szE x
  have hlen := len_sz (f := emb_TH0) x.fL
  unfold ref12_weight_k ref12_weight_b
  by_cases h0 : left = 0
  ·subst h0
   rw [decide_eq_true (by omega), cT, bnd, cT]
   exact ⟨10000, rfl, by omega, by omega⟩
  rw [decide_eq_false (by omega), cF]
  by_cases h5 : 500 < x.fL.length
  ·rw [decide_eq_true (by omega), bnd, cT]
   exact ⟨10000, rfl, by omega, by omega⟩
  rw [decide_eq_false (by omega), bnd, cF, need_i (by omega) (by omega), need_i (by omega) (by omega), need_i (by omega) (by omega)]
  obtain ⟨w0, hw0⟩ : ∃ w0 : Int, w0 = 1 + min ((x.fText.length : Int) + (x.fName.length : Int) + (x.fAttr.length : Int)) 10000 := ⟨_, rfl⟩
  rw [← hw0]
  have hloop := loop_inv (n := n) (step := ref12_weight_s1 n (ref12_weight_k n k) x (left : Int)) (fun j s => s.2 = (j : Int) ∧ w0 ≤ s.1 ∧ s.1 ≤ 10000 + 30000 * left) (fun b => w0 ≤ b ∧ b ≤ 10000 + 30000 * left) x.fL.length (s0 := (w0, 0)) ⟨rfl, by omega, by dsimp only; omega⟩ (fun j s hj hI => by
   obtain ⟨a, b⟩ := s
   obtain ⟨h1, h2, h3⟩ := hI
   dsimp only at h1 h2 h3
   subst h1
   unfold ref12_weight_s1
   dsimp only
   rw [decide_eq_true (by omega), cT]
   by_cases h6 : a ≤ 10000
   ·have hdx := mem_sz (f := emb_TH0) (List.getElem_mem hj)
    obtain ⟨w, g1, g2, g3⟩ := x_weight hn (left - 1) k x.fL[j] (by omega) (by omega) (by omega)
    have e : (left : Int) - 1 = ((left - 1 : Nat) : Int) := by omega
    rw [decide_eq_true h6, bnd, cT, getI_here hj, bnd, need_i (by omega) (by omega), e, g1, bnd, need_i (by omega) (by omega), need_i (by omega) (by omega)]
    exact .inl ⟨_, rfl, by dsimp only; omega, by dsimp only; omega, by dsimp only; omega⟩
   ·rw [decide_eq_false h6, bnd, cF]
    exact .inr ⟨_, rfl, by omega, by omega⟩) (fun s hI => by
   obtain ⟨a, b⟩ := s
   obtain ⟨h1, h2, h3⟩ := hI
   dsimp only at h1 h2 h3
   subst h1
   unfold ref12_weight_s1
   dsimp only
   rw [decide_eq_false (by omega), cF, bnd, cF]
   exact ⟨_, rfl, by omega, by omega⟩) (by omega)
  obtain ⟨b, g1, g2, g3⟩ := hloop
  rw [g1, bnd]
  exact ⟨b, rfl, by omega, by omega⟩
theorem great12 {n : Nat} (hn : 2000000 ≤ n) {x : TH0} (hb : dsz (emb_TH0 x) ≤ 1100000) : ∃ g, ref12_Great n x = some g := by
 unfold ref12_Great ref12_weight
 obtain ⟨w, g1, g2, g3⟩ := x_weight hn 30 n x (by omega) (by omega) hb
 rw [show ((30 : Nat) : Int) = 30 from rfl] at g1
 rw [g1, bnd]
 exact ⟨_, rfl⟩
theorem c_weight {n : Nat} (hn : 2000000 ≤ n) : ∀ (left k d : Nat) (x : TF0), d + left = 13 → left < k → dsz (emb_TF0 x) ≤ 1100000 →
  ∃ w : Int, ref13_weightCond_k n k x (d : Int) = some w ∧ 0 ≤ w ∧ w ≤ 1048576 + 500 * left
 | left, k, d, x, hd, hk, hb => by
  obtain ⟨k, rfl⟩ : ∃ r, k = r + 1 := ⟨k - 1, by omega⟩
  have hs := szC x
  have hlen := len_sz (f := emb_TF0) x.fL
  obtain ⟨gA, hA⟩ := great12 hn (x := x.fA) (by omega)
  obtain ⟨gB, hB⟩ := great12 hn (x := x.fB) (by omega)
  unfold ref13_weightCond_k ref13_weightCond_b
  rw [eta_X, eta_X]
  by_cases h0 : left = 0
  ·rw [decide_eq_true (by omega), cT, bnd, cT]
   exact ⟨_, rfl, by omega, by omega⟩
  rw [decide_eq_false (by omega), cF]
  by_cases h5 : 20 < x.fL.length
  ·rw [decide_eq_true (by omega), cT, bnd, cT]
   exact ⟨_, rfl, by omega, by omega⟩
  rw [decide_eq_false (by omega), cF, hA, bnd]
  cases gA with
  | true => rw [cT, bnd, cT]; exact ⟨_, rfl, by omega, by omega⟩
  | false =>
   rw [cF, hB, bnd, bnd]
   cases gB with
   | true => rw [cT]; exact ⟨_, rfl, by omega, by omega⟩
   | false =>
    rw [cF]
    have hloop := loop_inv (n := n) (step := ref13_weightCond_s1 n (ref13_weightCond_k n k) x (d : Int)) (fun j s => s.2 = (j : Int) ∧ 1 ≤ s.1 ∧ s.1 ≤ 1048576 + 500 * left) (fun b => 1 ≤ b ∧ b ≤ 1048576 + 500 * left) x.fL.length (s0 := (1, 0)) ⟨rfl, by decide, by dsimp only; omega⟩ (fun j s hj hI => by
     obtain ⟨a, b⟩ := s
     obtain ⟨h1, h2, h3⟩ := hI
     dsimp only at h1 h2 h3
     subst h1
     unfold ref13_weightCond_s1
     dsimp only
     rw [decide_eq_true (by omega), cT]
     by_cases h6 : a < 400
     ·have hdx := mem_sz (f := emb_TF0) (List.getElem_mem hj)
      obtain ⟨w, g1, g2, g3⟩ := c_weight hn (left - 1) k (d + 1) x.fL[j] (by omega) (by omega) (by omega)
      have e : (d : Int) + 1 = ((d + 1 : Nat) : Int) := by omega
      rw [decide_eq_true h6, bnd, cT, getI_here hj, bnd, need_i (by omega) (by omega), e, g1, bnd, need_i (by omega) (by omega), need_i (by omega) (by omega)]
      exact .inl ⟨_, rfl, by dsimp only; omega, by dsimp only; omega, by dsimp only; omega⟩
     ·rw [decide_eq_false h6, bnd, cF]
      exact .inr ⟨_, rfl, by omega, by omega⟩) (fun s hI => by
     obtain ⟨a, b⟩ := s
     obtain ⟨h1, h2, h3⟩ := hI
     dsimp only at h1 h2 h3
     subst h1
     unfold ref13_weightCond_s1
     dsimp only
     rw [decide_eq_false (by omega), cF, bnd, cF]
     exact ⟨_, rfl, by omega, by omega⟩) (by omega)
    obtain ⟨b, g1, g2, g3⟩ := hloop
    rw [g1, bnd]
    exact ⟨b, rfl, by omega, by omega⟩
def refs_open_s1 (n : Nat) (d0 : TA0) (s_1 : Int × (List ((List UInt8) × Bool))) : Option (Lp (Int × (List ((List UInt8) × Bool))) (List ((List UInt8) × Bool))) :=
    bif (decide (s_1.1 < ((d0.fParams.length : Nat) : Int))) then
      ((getI d0.fParams s_1.1).bind fun x_1 =>
      need (inR .i64 (s_1.1 + 1)) <|
      some (.nx (s_1.1 + 1, mput s_1.2 x_1.fName (true))))
    else
      some (.br s_1.2)
def refs_open_s2 (n : Nat) (d0 : TA0) (s_2 : Int × (List ((List UInt8) × Bool))) : Option (Lp (Int × (List ((List UInt8) × Bool))) (List ((List UInt8) × Bool))) :=
    bif (decide (s_2.1 < ((d0.fConds.length : Nat) : Int))) then
      ((getI d0.fConds s_2.1).bind fun x_2 =>
      need (inR .i64 (s_2.1 + 1)) <|
      some (.nx (s_2.1 + 1, mput s_2.2 x_2.fName (true))))
    else
      some (.br s_2.2)
def refs_open_s3 (n : Nat) (d0 : TA0) (s_3 : Int × (List ((List UInt8) × TB0))) : Option (Lp (Int × (List ((List UInt8) × TB0))) (List ((List UInt8) × TB0))) :=
    bif (decide ((0 : Int) ≤ s_3.1)) then
      ((getI d0.fRes s_3.1).bind fun x_3 =>
      (getI d0.fRes s_3.1).bind fun x_4 =>
      need (inR .i64 (s_3.1 - 1)) <|
      some (.nx (s_3.1 - 1, mput s_3.2 x_3.fId x_4)))
    else
      some (.br s_3.2)
def refs_open (n : Nat) (d0 : TA0) : Option (List TD0 × List TF0 × List TB0 × List TC0 × (List ((List UInt8) × Bool)) × (List ((List UInt8) × Bool)) × (List ((List UInt8) × TB0))) :=
  (loopF (refs_open_s1 n d0) n ((0 : Int), ([] : List ((List UInt8) × Bool)))).bind fun y_1 =>
  (loopF (refs_open_s2 n d0) n ((0 : Int), ([] : List ((List UInt8) × Bool)))).bind fun y_2 =>
  need (inR .i64 (((d0.fRes.length : Nat) : Int) - 1)) <|
  (loopF (refs_open_s3 n d0) n (((d0.fRes.length : Nat) : Int) - 1, ([] : List ((List UInt8) × TB0)))).bind fun y_3 =>
  some ((d0.fParams, d0.fConds, d0.fRes, d0.fOuts, y_1, y_2, y_3))
set_option maxRecDepth 20000 in
theorem refs_open_ok (n : Nat) (M : Mem) (c0 : List Value) (d0 : TA0) (h0 : Rep M (emb_TA0 d0) c0) (r : (List TD0 × List TF0 × List TB0 × List TC0 × (List ((List UInt8) × Bool)) × (List ((List UInt8) × Bool)) × (List ((List UInt8) × TB0)))) (hF : refs_open n d0 = some r) : Ok Try.prog M 14 [.agg c0.toArray] (fun M' v => ∃ (A0_0 : Option Addr) (k0_0 : Nat) (A0_1 : Option Addr) (k0_1 : Nat) (A0_2 : Option Addr) (k0_2 : Nat) (A0_3 : Option Addr) (k0_3 : Nat) (b0_4 : Nat) (b0_5 : Nat) (b0_6 : Nat) (m0_6 : List ((List UInt8) × Value)), v = .agg #[.slice A0_0 r.1.length k0_0, .slice A0_1 r.2.1.length k0_1, .slice A0_2 r.2.2.1.length k0_2, .slice A0_3 r.2.2.2.1.length k0_3, .map (some b0_4), .map (some b0_5), .map (some b0_6)] ∧ Sli M' 10 emb_TD0 A0_0 k0_0 r.1 ∧ Sli M' 15 emb_TF0 A0_1 k0_1 r.2.1 ∧ Sli M' 7 emb_TB0 A0_2 k0_2 r.2.2.1 ∧ Sli M' 8 emb_TC0 A0_3 k0_3 r.2.2.2.1 ∧ M' b0_4 = some (mapO S Value.bool r.2.2.2.2.1) ∧ M' b0_5 = some (mapO S Value.bool r.2.2.2.2.2.1) ∧ M' b0_6 = some (mapO S idV m0_6) ∧ RepMap M' emb_TB0 r.2.2.2.2.2.2 m0_6) := by
 unfold refs_open at hF
 intro M1 hM0 w0 H w p0
 replace h0 := Rep.mono hM0 _ _ h0
 obtain ⟨A_1, cap_1, A_2, cap_2, A_3, cap_3, A_4, cap_4, rfl, h_1, h_2, h_3, h_4⟩ := TA0.opn h0
 refine R_enter 60 Try.func14 rfl rfl (by simp) fun a0 f0 => RR (Y12 (cs := #[.slice A_1 d0.fParams.length cap_1, .slice A_2 d0.fConds.length cap_2, .slice A_3 d0.fRes.length cap_3, .slice A_4 d0.fOuts.length cap_4]) (T := 27) f0 p0 fun b_1 M_1 w_1 hM_1 hc_1 p_1 _ f => ?_)
 have hc_2 := fz_box hc_1
 refine Y11 f p_1 (.cells #[.slice none 0 0, .slice none 0 0, .slice none 0 0, .slice none 0 0, .map none, .map none, .map none] 62 (0, 0)) fun b_2 w_2 p_2 _ f => eT (RR (Z (v := .agg #[.slice A_1 d0.fParams.length cap_1, .slice A_2 d0.fConds.length cap_2, .slice A_3 d0.fRes.length cap_3, .slice A_4 d0.fOuts.length cap_4]) f (Y27 (cs := [.slice A_1 d0.fParams.length cap_1, .slice A_2 d0.fConds.length cap_2, .slice A_3 d0.fRes.length cap_3, .slice A_4 d0.fOuts.length cap_4]) rfl (ad := ⟨b_1, 0, none⟩) (fun j v h => p_2.cell (hc_2 j v h))) fun _ f => W_newmap S Value.bool f p_2 (by kernel_rfl) (by kernel_rfl) rfl rfl rfl fun bm_1 w_3 p_3 _ f => W_newmap S Value.bool f p_3 (by kernel_rfl) (by kernel_rfl) rfl rfl rfl fun bm_2 w_4 p_4 _ f => W_newmap S idV f p_4 (by kernel_rfl) (by kernel_rfl) rfl rfl rfl fun bm_3 w_5 p_5 _ f => ?_))
 have hm_1 : RepMap M_1 emb_TB0 ([] : List ((List UInt8) × TB0)) ([] : List ((List UInt8) × Value)) := RepMap.nil
 refine Y f 1 fun _ f => Y11 f p_5 (.cells #[.slice none 0 0, .slice none 0 0, .slice none 0 0, .slice none 0 0, .map none, .map none, .map none] 62 (0, 0)) fun b_3 w_6 p_6 _ f => Y22 (vs := [.slice A_1 d0.fParams.length cap_1, .slice A_2 d0.fConds.length cap_2, .slice A_3 d0.fRes.length cap_3, .slice A_4 d0.fOuts.length cap_4, .map (some bm_1), .map (some bm_2), .map (some bm_3)]) (j := 0) f p_6 rfl rfl (by simp [Value.oneCell', S]) (by simp) (by decide) (cs' := #[.slice A_1 d0.fParams.length cap_1, .slice A_2 d0.fConds.length cap_2, .slice A_3 d0.fRes.length cap_3, .slice A_4 d0.fOuts.length cap_4, .map (some bm_1), .map (some bm_2), .map (some bm_3)]) (by kernel_rfl) fun w_7 p_7 _ f => eT (R_seq (RR (Y f 1 fun _ f => Y14 f p_7 hc_2 0 rfl fun _ f => Y f 2 fun _ f => eT (wp_block ?_))))
 have p_12 := p_7.pl [4, 3, 3, 3, 4]
 obtain ⟨b_4, hL_1, hF_1⟩ := bS hF
 refine wp_mono (Q := fun e a w => (e = .exit 0 ∧ (∃ y_1 : (List ((List UInt8) × Bool)), b_4 = y_1 ∧ ∃ M_3 : Mem, M_1.le M_3 ∧ Frm 60 [(1, .pointer (some (⟨b_1, 0, none⟩))), (2, .pointer (some (⟨b_2, 0, none⟩))), (3, .pointer (some (⟨b_3, 0, none⟩)))] a ∧ Hp w0 M_3 ((Ent.obj bm_1 (mapO S Value.bool y_1)) :: (Ent.obj b_3 (.cells #[.slice A_1 d0.fParams.length cap_1, .slice A_2 d0.fConds.length cap_2, .slice A_3 d0.fRes.length cap_3, .slice A_4 d0.fOuts.length cap_4, .map (some bm_1), .map (some bm_2), .map (some bm_3)] 62 (0, 0))) :: (Ent.obj bm_3 (mapO S idV ([] : List ((List UInt8) × Value)))) :: (Ent.obj bm_2 (mapO S Value.bool ([] : List ((List UInt8) × Bool)))) :: (Ent.obj b_2 (.cells #[.slice none 0 0, .slice none 0 0, .slice none 0 0, .slice none 0 0, .map none, .map none, .map none] 62 (0, 0))) :: H) w))) (R_loop (n := 60) (w0 := w0) (M := M_1) (fun (x : Nat × (Int × (List ((List UInt8) × Bool)))) => match x with | (m_1, s_1) => [(1, .pointer (some (⟨b_1, 0, none⟩))), (2, .pointer (some (⟨b_2, 0, none⟩))), (3, .pointer (some (⟨b_3, 0, none⟩))), (15, .slice A_1 d0.fParams.length cap_1), (16, .int .i64 ((d0.fParams.length : Nat) : Int)), (17, .int .i64 s_1.1)]) (fun (x : Nat × (Int × (List ((List UInt8) × Bool)))) => match x with | (m_1, s_1) => ((Ent.obj bm_1 (mapO S Value.bool s_1.2)) :: (Ent.obj b_3 (.cells #[.slice A_1 d0.fParams.length cap_1, .slice A_2 d0.fConds.length cap_2, .slice A_3 d0.fRes.length cap_3, .slice A_4 d0.fOuts.length cap_4, .map (some bm_1), .map (some bm_2), .map (some bm_3)] 62 (0, 0))) :: (Ent.obj bm_3 (mapO S idV ([] : List ((List UInt8) × Value)))) :: (Ent.obj bm_2 (mapO S Value.bool ([] : List ((List UInt8) × Bool)))) :: (Ent.obj b_2 (.cells #[.slice none 0 0, .slice none 0 0, .slice none 0 0, .slice none 0 0, .map none, .map none, .map none] 62 (0, 0))) :: H)) (fun (x : Nat × (Int × (List ((List UInt8) × Bool)))) (MM : Mem) => match x with | (m_1, s_1) => loopF (refs_open_s1 n d0) m_1 s_1 = some b_4) (fun (x : Nat × (Int × (List ((List UInt8) × Bool)))) => match x with | (m_1, s_1) => m_1) (n, ((0 : Int), ([] : List ((List UInt8) × Bool)))) (f.kp) p_12 hL_1 ?_) ?_
 ·rintro ⟨m_1, s_1⟩ M_2 _ w_8 hM_2 I_1 f p_13
  have I_1L := I_1
  obtain ⟨m_2, r_1, rfl, hs_1, hn_1⟩ := loop_step I_1L
  unfold refs_open_s1 at hs_1
  refine RR (Y f 1 fun _ f => eT (R_seq (RcF f hs_1 (fun h_5 hF_2 => ?_) fun h_5 hF_5 => ?_)))
  ·have k_1 := dI.1 h_5
   refine wp_skip (T_n (R_seq (wp_block (RR ?_))))
   obtain ⟨x_1, hx_1, hF_3⟩ := bS hF_2
   obtain ⟨ad_1, c_1, e_1, -, hr_1, hc_3⟩ := Sli.at_ (h_1.mono (hM_1.trans hM_2)) hx_1
   obtain ⟨A_5, cap_5, A_6, cap_6, A_7, cap_7, rfl, h_6, h_7, h_8⟩ := TD0.opn hr_1
   refine Z f (Y25 e_1 rfl (len := d0.fParams.length) (cap := cap_1) (k := .i64) (i := s_1.1) (e := 43) (sz := 10) (getI_nn hx_1) (getI_lt hx_1)) fun _ f => Z (v := .agg #[S x_1.fName, .bool x_1.fNumber, .bool x_1.fHas, .int .i8 x_1.fDefault.fKind, .bool x_1.fDefault.fBool, .int .i64 x_1.fDefault.fNum, S x_1.fDefault.fText, .slice A_5 x_1.fDefault.fList.length cap_5, .slice A_6 x_1.fDefault.fKeys.length cap_6, .slice A_7 x_1.fAllowed.length cap_7]) f (Y27 (cs := [S x_1.fName, .bool x_1.fNumber, .bool x_1.fHas, .int .i8 x_1.fDefault.fKind, .bool x_1.fDefault.fBool, .int .i64 x_1.fDefault.fNum, S x_1.fDefault.fText, .slice A_5 x_1.fDefault.fList.length cap_5, .slice A_6 x_1.fDefault.fKeys.length cap_6, .slice A_7 x_1.fAllowed.length cap_7]) rfl (ad := ad_1.add (s_1.1.toNat * 10)) (fun j v h => p_13.cell (hc_3 j v h))) fun _ f => Y11 f p_13 (.cells #[S [], .bool false, .bool false, .int .i8 0, .bool false, .int .i64 0, S [], .slice none 0 0, .slice none 0 0, .slice none 0 0] 43 (0, 0)) fun b_5 w_9 p_14 _ f => Y22 (vs := [S x_1.fName, .bool x_1.fNumber, .bool x_1.fHas, .int .i8 x_1.fDefault.fKind, .bool x_1.fDefault.fBool, .int .i64 x_1.fDefault.fNum, S x_1.fDefault.fText, .slice A_5 x_1.fDefault.fList.length cap_5, .slice A_6 x_1.fDefault.fKeys.length cap_6, .slice A_7 x_1.fAllowed.length cap_7]) (j := 0) f p_14 rfl rfl (by simp [Value.oneCell', S]) (by simp) (by decide) (cs' := #[S x_1.fName, .bool x_1.fNumber, .bool x_1.fHas, .int .i8 x_1.fDefault.fKind, .bool x_1.fDefault.fBool, .int .i64 x_1.fDefault.fNum, S x_1.fDefault.fText, .slice A_5 x_1.fDefault.fList.length cap_5, .slice A_6 x_1.fDefault.fKeys.length cap_6, .slice A_7 x_1.fAllowed.length cap_7]) (by kernel_rfl) fun w_10 p_15 _ f => eT (R_reg (Y f 1 fun _ f => Z f (Y26 (v := .map (some bm_1)) rfl (ad := ⟨b_3, 4, none⟩) (p_15.ownCell 2 rfl 4)) fun _ f => Y f 1 fun _ f => Z f (Y26 (v := S x_1.fName) rfl (ad := ⟨b_5, 0, none⟩) (p_15.ownCell 0 rfl 0)) fun _ f => ?_))
   have p_16 := p_15.pl [1]
   refine W_mapput (ek := S) (ev := Value.bool) (m := s_1.2) (k := x_1.fName) (v := (true)) (kt := 9) (et := 4) f p_16 (by kernel_rfl) (by kernel_rfl) rfl (.inl rfl) (by kernel_rfl) (by kernel_rfl) (by kernel_rfl) (by kernel_rfl) (strKey (by kernel_rfl)) fun w_11 p_17 _ f => W_end rfl (B_n (T_n (R_reg ?_)))
   obtain ⟨g_1, hF_4⟩ := nS hF_3
   refine Y f 1 fun _ f => ?_
   have f := f.st 25 (congrArg (Value.int .i64) (inR_wrap g_1))
   refine Y f 1 fun _ f => W_end rfl ?_
   have p_24 := p_17.pl [5, 5, 5, 5, 4, 5]
   refine T_n ?_
   obtain rfl := sI hF_4
   exact ⟨⟨m_2, (s_1.1 + 1, mput s_1.2 x_1.fName (true))⟩, Nat.lt_succ_self _, M_2, hM_2, hn_1, f.kp, (p_24.dropN 1)⟩
  ·have k_2 := iff_f dI h_5
   refine wp_exit (T_x (T_x ?_))
   obtain rfl := sI hF_5
   exact ⟨rfl, s_1.2, (sI hn_1).symm, M_2, hM_2, f.kp, p_13⟩
 ·rintro _ _ w_13 ⟨rfl, y_1, hq_, M_3, hM_3, f, p_18⟩
  subst b_4
  refine B_x (T_n (R_seq (RR (Y f 1 fun _ f => Y14 f p_18 (fzu hM_3 hc_2) 1 rfl fun _ f => Y f 2 fun _ f => eT (wp_block ?_)))))
  have p_29 := p_18.pl [4, 3, 3, 3, 4]
  obtain ⟨b_6, hL_2, hF_6⟩ := bS hF_1
  refine wp_mono (Q := fun e a w => (e = .exit 2 ∧ (∃ y_2 : (List ((List UInt8) × Bool)), b_6 = y_2 ∧ ∃ M_5 : Mem, M_3.le M_5 ∧ Frm 60 [(1, .pointer (some (⟨b_1, 0, none⟩))), (2, .pointer (some (⟨b_2, 0, none⟩))), (3, .pointer (some (⟨b_3, 0, none⟩)))] a ∧ Hp w0 M_5 ((Ent.obj bm_2 (mapO S Value.bool y_2)) :: (Ent.obj bm_1 (mapO S Value.bool y_1)) :: (Ent.obj b_3 (.cells #[.slice A_1 d0.fParams.length cap_1, .slice A_2 d0.fConds.length cap_2, .slice A_3 d0.fRes.length cap_3, .slice A_4 d0.fOuts.length cap_4, .map (some bm_1), .map (some bm_2), .map (some bm_3)] 62 (0, 0))) :: (Ent.obj bm_3 (mapO S idV ([] : List ((List UInt8) × Value)))) :: (Ent.obj b_2 (.cells #[.slice none 0 0, .slice none 0 0, .slice none 0 0, .slice none 0 0, .map none, .map none, .map none] 62 (0, 0))) :: H) w))) (R_loop (n := 60) (w0 := w0) (M := M_3) (fun (x : Nat × (Int × (List ((List UInt8) × Bool)))) => match x with | (m_3, s_2) => [(1, .pointer (some (⟨b_1, 0, none⟩))), (2, .pointer (some (⟨b_2, 0, none⟩))), (3, .pointer (some (⟨b_3, 0, none⟩))), (27, .slice A_2 d0.fConds.length cap_2), (28, .int .i64 ((d0.fConds.length : Nat) : Int)), (29, .int .i64 s_2.1)]) (fun (x : Nat × (Int × (List ((List UInt8) × Bool)))) => match x with | (m_3, s_2) => ((Ent.obj bm_2 (mapO S Value.bool s_2.2)) :: (Ent.obj bm_1 (mapO S Value.bool y_1)) :: (Ent.obj b_3 (.cells #[.slice A_1 d0.fParams.length cap_1, .slice A_2 d0.fConds.length cap_2, .slice A_3 d0.fRes.length cap_3, .slice A_4 d0.fOuts.length cap_4, .map (some bm_1), .map (some bm_2), .map (some bm_3)] 62 (0, 0))) :: (Ent.obj bm_3 (mapO S idV ([] : List ((List UInt8) × Value)))) :: (Ent.obj b_2 (.cells #[.slice none 0 0, .slice none 0 0, .slice none 0 0, .slice none 0 0, .map none, .map none, .map none] 62 (0, 0))) :: H)) (fun (x : Nat × (Int × (List ((List UInt8) × Bool)))) (MM : Mem) => match x with | (m_3, s_2) => loopF (refs_open_s2 n d0) m_3 s_2 = some b_6) (fun (x : Nat × (Int × (List ((List UInt8) × Bool)))) => match x with | (m_3, s_2) => m_3) (n, ((0 : Int), ([] : List ((List UInt8) × Bool)))) (f.kp) p_29 hL_2 ?_) ?_
  ·rintro ⟨m_3, s_2⟩ M_4 _ w_14 hM_4 I_2 f p_30
   have I_2L := I_2
   obtain ⟨m_4, r_2, rfl, hs_2, hn_2⟩ := loop_step I_2L
   unfold refs_open_s2 at hs_2
   refine RR (Y f 1 fun _ f => eT (R_seq (RcF f hs_2 (fun h_9 hF_7 => ?_) fun h_9 hF_10 => ?_)))
   ·have k_3 := dI.1 h_9
    refine wp_skip (T_n (R_seq (wp_block (RR ?_))))
    obtain ⟨x_2, hx_2, hF_8⟩ := bS hF_7
    obtain ⟨ad_2, c_2, e_2, -, hr_2, hc_4⟩ := Sli.at_ (h_2.mono ((hM_1.trans hM_3).trans hM_4)) hx_2
    obtain ⟨A_8, cap_8, A_9, cap_9, A_10, cap_10, rfl, h_10, h_11, h_12⟩ := TF0.opn hr_2
    refine Z f (Y25 e_2 rfl (len := d0.fConds.length) (cap := cap_2) (k := .i64) (i := s_2.1) (e := 45) (sz := 15) (getI_nn hx_2) (getI_lt hx_2)) fun _ f => Z (v := .agg #[S x_2.fName, .int .i8 x_2.fKind, .int .i8 x_2.fA.fKind, S x_2.fA.fText, .int .i64 x_2.fA.fNum, S x_2.fA.fName, S x_2.fA.fAttr, .slice A_8 x_2.fA.fL.length cap_8, .int .i8 x_2.fB.fKind, S x_2.fB.fText, .int .i64 x_2.fB.fNum, S x_2.fB.fName, S x_2.fB.fAttr, .slice A_9 x_2.fB.fL.length cap_9, .slice A_10 x_2.fL.length cap_10]) f (Y27 (cs := [S x_2.fName, .int .i8 x_2.fKind, .int .i8 x_2.fA.fKind, S x_2.fA.fText, .int .i64 x_2.fA.fNum, S x_2.fA.fName, S x_2.fA.fAttr, .slice A_8 x_2.fA.fL.length cap_8, .int .i8 x_2.fB.fKind, S x_2.fB.fText, .int .i64 x_2.fB.fNum, S x_2.fB.fName, S x_2.fB.fAttr, .slice A_9 x_2.fB.fL.length cap_9, .slice A_10 x_2.fL.length cap_10]) rfl (ad := ad_2.add (s_2.1.toNat * 15)) (fun j v h => p_30.cell (hc_4 j v h))) fun _ f => Y11 f p_30 (.cells #[S [], .int .i8 0, .int .i8 0, S [], .int .i64 0, S [], S [], .slice none 0 0, .int .i8 0, S [], .int .i64 0, S [], S [], .slice none 0 0, .slice none 0 0] 45 (0, 0)) fun b_7 w_15 p_31 _ f => Y22 (vs := [S x_2.fName, .int .i8 x_2.fKind, .int .i8 x_2.fA.fKind, S x_2.fA.fText, .int .i64 x_2.fA.fNum, S x_2.fA.fName, S x_2.fA.fAttr, .slice A_8 x_2.fA.fL.length cap_8, .int .i8 x_2.fB.fKind, S x_2.fB.fText, .int .i64 x_2.fB.fNum, S x_2.fB.fName, S x_2.fB.fAttr, .slice A_9 x_2.fB.fL.length cap_9, .slice A_10 x_2.fL.length cap_10]) (j := 0) f p_31 rfl rfl (by simp [Value.oneCell', S]) (by simp) (by decide) (cs' := #[S x_2.fName, .int .i8 x_2.fKind, .int .i8 x_2.fA.fKind, S x_2.fA.fText, .int .i64 x_2.fA.fNum, S x_2.fA.fName, S x_2.fA.fAttr, .slice A_8 x_2.fA.fL.length cap_8, .int .i8 x_2.fB.fKind, S x_2.fB.fText, .int .i64 x_2.fB.fNum, S x_2.fB.fName, S x_2.fB.fAttr, .slice A_9 x_2.fB.fL.length cap_9, .slice A_10 x_2.fL.length cap_10]) (by kernel_rfl) fun w_16 p_32 _ f => eT (R_reg (Y f 1 fun _ f => Z f (Y26 (v := .map (some bm_2)) rfl (ad := ⟨b_3, 5, none⟩) (p_32.ownCell 3 rfl 5)) fun _ f => Y f 1 fun _ f => Z f (Y26 (v := S x_2.fName) rfl (ad := ⟨b_7, 0, none⟩) (p_32.ownCell 0 rfl 0)) fun _ f => ?_))
    have p_33 := p_32.pl [1]
    refine W_mapput (ek := S) (ev := Value.bool) (m := s_2.2) (k := x_2.fName) (v := (true)) (kt := 9) (et := 4) f p_33 (by kernel_rfl) (by kernel_rfl) rfl (.inl rfl) (by kernel_rfl) (by kernel_rfl) (by kernel_rfl) (by kernel_rfl) (strKey (by kernel_rfl)) fun w_17 p_34 _ f => W_end rfl (B_n (T_n (R_reg ?_)))
    obtain ⟨g_2, hF_9⟩ := nS hF_8
    refine Y f 1 fun _ f => ?_
    have f := f.st 37 (congrArg (Value.int .i64) (inR_wrap g_2))
    refine Y f 1 fun _ f => W_end rfl ?_
    have p_41 := p_34.pl [5, 5, 5, 5, 4, 5]
    refine T_n ?_
    obtain rfl := sI hF_9
    exact ⟨⟨m_4, (s_2.1 + 1, mput s_2.2 x_2.fName (true))⟩, Nat.lt_succ_self _, M_4, hM_4, hn_2, f.kp, (p_41.dropN 1)⟩
   ·have k_4 := iff_f dI h_9
    refine wp_exit (T_x (T_x ?_))
    obtain rfl := sI hF_10
    exact ⟨rfl, s_2.2, (sI hn_2).symm, M_4, hM_4, f.kp, p_30⟩
  ·rintro _ _ w_19 ⟨rfl, y_2, hq_, M_5, hM_5, f, p_35⟩
   subst b_6
   refine B_x (T_n (R_seq (RR (Y f 1 fun _ f => Y14 f p_35 (fzu (hM_3.trans hM_5) hc_2) 2 rfl fun _ f => Y f 1 fun _ f => ?_))))
   obtain ⟨g_3, hF_11⟩ := nS hF_6
   refine Y f 1 fun _ f => ?_
   have f := f.st 41 (congrArg (Value.int .i64) (inR_wrap g_3))
   refine Y f 1 fun _ f => eT (wp_block ?_)
   have p_46 := p_35.pl [4, 3, 3, 3, 4]
   obtain ⟨b_8, hL_3, hF_12⟩ := bS hF_11
   refine wp_mono (Q := fun e a w => (e = .exit 4 ∧ (∃ y_3 : (List ((List UInt8) × TB0)), b_8 = y_3 ∧ ∃ M_7 : Mem, M_5.le M_7 ∧ ∃ (m_8 : List ((List UInt8) × Value)), RepMap M_7 emb_TB0 y_3 m_8 ∧ Frm 60 [(2, .pointer (some (⟨b_2, 0, none⟩))), (3, .pointer (some (⟨b_3, 0, none⟩)))] a ∧ Hp w0 M_7 ((Ent.obj bm_3 (mapO S idV m_8)) :: (Ent.obj bm_2 (mapO S Value.bool y_2)) :: (Ent.obj bm_1 (mapO S Value.bool y_1)) :: (Ent.obj b_3 (.cells #[.slice A_1 d0.fParams.length cap_1, .slice A_2 d0.fConds.length cap_2, .slice A_3 d0.fRes.length cap_3, .slice A_4 d0.fOuts.length cap_4, .map (some bm_1), .map (some bm_2), .map (some bm_3)] 62 (0, 0))) :: (Ent.obj b_2 (.cells #[.slice none 0 0, .slice none 0 0, .slice none 0 0, .slice none 0 0, .map none, .map none, .map none] 62 (0, 0))) :: H) w))) (R_loop (n := 60) (w0 := w0) (M := M_5) (fun (x : Nat × (Int × (List ((List UInt8) × TB0))) × (List ((List UInt8) × Value))) => match x with | (m_5, s_3, m_6) => [(1, .pointer (some (⟨b_1, 0, none⟩))), (2, .pointer (some (⟨b_2, 0, none⟩))), (3, .pointer (some (⟨b_3, 0, none⟩))), (8, .int .i64 s_3.1)]) (fun (x : Nat × (Int × (List ((List UInt8) × TB0))) × (List ((List UInt8) × Value))) => match x with | (m_5, s_3, m_6) => ((Ent.obj bm_3 (mapO S idV m_6)) :: (Ent.obj bm_2 (mapO S Value.bool y_2)) :: (Ent.obj bm_1 (mapO S Value.bool y_1)) :: (Ent.obj b_3 (.cells #[.slice A_1 d0.fParams.length cap_1, .slice A_2 d0.fConds.length cap_2, .slice A_3 d0.fRes.length cap_3, .slice A_4 d0.fOuts.length cap_4, .map (some bm_1), .map (some bm_2), .map (some bm_3)] 62 (0, 0))) :: (Ent.obj b_2 (.cells #[.slice none 0 0, .slice none 0 0, .slice none 0 0, .slice none 0 0, .map none, .map none, .map none] 62 (0, 0))) :: H)) (fun (x : Nat × (Int × (List ((List UInt8) × TB0))) × (List ((List UInt8) × Value))) (MM : Mem) => match x with | (m_5, s_3, m_6) => loopF (refs_open_s3 n d0) m_5 s_3 = some b_8 ∧ RepMap MM emb_TB0 s_3.2 m_6) (fun (x : Nat × (Int × (List ((List UInt8) × TB0))) × (List ((List UInt8) × Value))) => match x with | (m_5, s_3, m_6) => m_5) (n, (((d0.fRes.length : Nat) : Int) - 1, ([] : List ((List UInt8) × TB0))), ([] : List ((List UInt8) × Value))) (f.kp) p_46 ⟨hL_3, (hm_1.mono (hM_3.trans hM_5))⟩ ?_) ?_
   ·rintro ⟨m_5, s_3, m_6⟩ M_6 _ w_20 hM_6 I_3 f p_47
    obtain ⟨I_3L, hm_2⟩ := I_3
    obtain ⟨m_7, r_3, rfl, hs_3, hn_3⟩ := loop_step I_3L
    unfold refs_open_s3 at hs_3
    refine R_seq (RR (Y f 2 fun _ f => eT (RcF f hs_3 (fun h_13 hF_13 => ?_) fun h_13 hF_17 => ?_)))
    ·have k_5 := dI.1 h_13
     refine wp_skip (T_n (R_seq (wp_block (R_drawT 13 p_47 (by kernel_rfl) (by kernel_rfl) fun w_21 p_48 => ST_eq (v := .pointer (some (⟨b_3, 6, none⟩))) f (by kernel_rfl) (by kernel_rfl) rfl rfl (by kernel_rfl) fun _ f => ST_eq (v := .map (some bm_3)) f (by kernel_rfl) (by kernel_rfl) rfl rfl (Y26 (v := .map (some bm_3)) rfl (ad := ⟨b_3, 6, none⟩) (p_48.ownCell 3 rfl 6)) fun _ f => ST_eq (v := .pointer (some ((⟨b_1, 0, none⟩ : Addr).add 2))) f (by kernel_rfl) (by kernel_rfl) rfl rfl (by kernel_rfl) fun _ f => ST_eq (v := .slice A_3 d0.fRes.length cap_3) f (by kernel_rfl) (by kernel_rfl) rfl rfl (Y26 (v := .slice A_3 d0.fRes.length cap_3) rfl (ad := (⟨b_1, 0, none⟩ : Addr).add 2) (p_48.cell ((fzu ((hM_3.trans hM_5).trans hM_6) hc_2) 2 _ rfl))) fun _ f => ST_eq (v := .int .i64 s_3.1) f (by kernel_rfl) (by kernel_rfl) rfl rfl (by kernel_rfl) fun _ f => ?_))))
     obtain ⟨x_3, hx_3, hF_14⟩ := bS hF_13
     obtain ⟨ad_3, c_3, e_3, -, hr_3, hc_5⟩ := Sli.at_ (h_3.mono (((hM_1.trans hM_3).trans hM_5).trans hM_6)) hx_3
     obtain ⟨A_11, cap_11, A_12, cap_12, A_13, cap_13, rfl, h_14, h_15, h_16⟩ := TB0.opn hr_3
     refine ST_eq (v := .pointer (some (ad_3.add (s_3.1.toNat * 7)))) f (by kernel_rfl) (by kernel_rfl) rfl rfl (Y25 e_3 rfl (len := d0.fRes.length) (cap := cap_3) (k := .i64) (i := s_3.1) (e := 49) (sz := 7) (getI_nn hx_3) (getI_lt hx_3)) fun _ f => ST_eq (v := .pointer (some ((ad_3.add (s_3.1.toNat * 7)).add 0))) f (by kernel_rfl) (by kernel_rfl) rfl rfl (by kernel_rfl) fun _ f => ST_eq (v := S x_3.fId) f (by kernel_rfl) (by kernel_rfl) rfl rfl (Y26 (v := S x_3.fId) rfl (ad := (ad_3.add (s_3.1.toNat * 7)).add 0) (p_48.cell (hc_5 0 _ rfl))) fun _ f => ST_eq (v := .pointer (some ((⟨b_1, 0, none⟩ : Addr).add 2))) f (by kernel_rfl) (by kernel_rfl) rfl rfl (by kernel_rfl) fun _ f => ST_eq (v := .slice A_3 d0.fRes.length cap_3) f (by kernel_rfl) (by kernel_rfl) rfl rfl (Y26 (v := .slice A_3 d0.fRes.length cap_3) rfl (ad := (⟨b_1, 0, none⟩ : Addr).add 2) (p_48.cell ((fzu ((hM_3.trans hM_5).trans hM_6) hc_2) 2 _ rfl))) fun _ f => ST_eq (v := .int .i64 s_3.1) f (by kernel_rfl) (by kernel_rfl) rfl rfl (by kernel_rfl) fun _ f => ?_
     obtain ⟨x_4, hx_4, hF_15⟩ := bS hF_14
     obtain ⟨ad_4, c_4, e_4, -, hr_4, hc_6⟩ := Sli.at_ (h_3.mono (((hM_1.trans hM_3).trans hM_5).trans hM_6)) hx_4
     obtain ⟨A_14, cap_14, A_15, cap_15, A_16, cap_16, rfl, h_17, h_18, h_19⟩ := TB0.opn hr_4
     refine ST_eq (v := .pointer (some (ad_4.add (s_3.1.toNat * 7)))) f (by kernel_rfl) (by kernel_rfl) rfl rfl (Y25 e_4 rfl (len := d0.fRes.length) (cap := cap_3) (k := .i64) (i := s_3.1) (e := 49) (sz := 7) (getI_nn hx_4) (getI_lt hx_4)) fun _ f => ST_eq (v := .agg #[S x_4.fId, S x_4.fType, S x_4.fCond, .slice A_14 x_4.fProps.length cap_14, .slice A_15 x_4.fDepends.length cap_15, .bool x_4.fRetain, .slice A_16 x_4.fInner.length cap_16]) f (by kernel_rfl) (by kernel_rfl) rfl rfl (Y27 (cs := [S x_4.fId, S x_4.fType, S x_4.fCond, .slice A_14 x_4.fProps.length cap_14, .slice A_15 x_4.fDepends.length cap_15, .bool x_4.fRetain, .slice A_16 x_4.fInner.length cap_16]) rfl (ad := ad_4.add (s_3.1.toNat * 7)) (fun j v h => p_48.cell (hc_6 j v h))) fun _ f => ST_end rfl ?_
     have hm_3 := RepMap.put (k := x_3.fId) (x := x_4) (cs := [S x_4.fId, S x_4.fType, S x_4.fCond, .slice A_14 x_4.fProps.length cap_14, .slice A_15 x_4.fDepends.length cap_15, .bool x_4.fRetain, .slice A_16 x_4.fInner.length cap_16]) (TB0.shutx (x := x_4) h_17 h_18 h_19) hm_2
     refine W_mapput (ek := S) (ev := idV) (m := m_6) (k := x_3.fId) (v := .agg [S x_4.fId, S x_4.fType, S x_4.fCond, .slice A_14 x_4.fProps.length cap_14, .slice A_15 x_4.fDepends.length cap_15, .bool x_4.fRetain, .slice A_16 x_4.fInner.length cap_16].toArray) (kt := 9) (et := 49) f p_48 (by kernel_rfl) (by kernel_rfl) rfl (.inl rfl) (by kernel_rfl) (by kernel_rfl) (by kernel_rfl) (by kernel_rfl) (strKey (by kernel_rfl)) fun w_22 p_49 _ f => W_end rfl (B_n (T_n (R_reg (Y f 1 fun _ f => ?_))))
     obtain ⟨g_4, hF_16⟩ := nS hF_15
     refine Y f 1 fun _ f => ?_
     have f := f.st 45 (congrArg (Value.int .i64) (inR_wrap g_4))
     refine Y f 1 fun _ f => eT ?_
     obtain rfl := sI hF_16
     exact ⟨⟨m_7, (s_3.1 - 1, mput s_3.2 x_3.fId x_4), mput m_6 x_3.fId (.agg [S x_4.fId, S x_4.fType, S x_4.fCond, .slice A_14 x_4.fProps.length cap_14, .slice A_15 x_4.fDepends.length cap_15, .bool x_4.fRetain, .slice A_16 x_4.fInner.length cap_16].toArray)⟩, Nat.lt_succ_self _, M_6, hM_6, ⟨hn_3, hm_3⟩, f.kp, p_49⟩
    ·have k_6 := iff_f dI h_13
     refine wp_exit (T_x (T_x ?_))
     obtain rfl := sI hF_17
     exact ⟨rfl, s_3.2, (sI hn_3).symm, M_6, hM_6, m_6, hm_2, f.kp, p_47⟩
   ·rintro _ _ w_24 ⟨rfl, y_3, hq_, M_7, hM_7, m_8, hm_4, f, p_50⟩
    subst b_8
    refine B_x (T_n (RR (Z (v := .agg #[.slice A_1 d0.fParams.length cap_1, .slice A_2 d0.fConds.length cap_2, .slice A_3 d0.fRes.length cap_3, .slice A_4 d0.fOuts.length cap_4, .map (some bm_1), .map (some bm_2), .map (some bm_3)]) f (Y27 (cs := [.slice A_1 d0.fParams.length cap_1, .slice A_2 d0.fConds.length cap_2, .slice A_3 d0.fRes.length cap_3, .slice A_4 d0.fOuts.length cap_4, .map (some bm_1), .map (some bm_2), .map (some bm_3)]) rfl (ad := ⟨b_3, 0, none⟩) (own_cells (p_50.ownCell 3 rfl) 0 rfl)) fun _ f => ?_)))
    have p_51 := p_50.pl [4]
    refine Y22 (vs := [.slice A_1 d0.fParams.length cap_1, .slice A_2 d0.fConds.length cap_2, .slice A_3 d0.fRes.length cap_3, .slice A_4 d0.fOuts.length cap_4, .map (some bm_1), .map (some bm_2), .map (some bm_3)]) (j := 0) f p_51 rfl rfl (by simp [Value.oneCell', S]) (by simp) (by decide) (cs' := #[.slice A_1 d0.fParams.length cap_1, .slice A_2 d0.fConds.length cap_2, .slice A_3 d0.fRes.length cap_3, .slice A_4 d0.fOuts.length cap_4, .map (some bm_1), .map (some bm_2), .map (some bm_3)]) (by kernel_rfl) fun w_25 p_52 _ f => eT (wp_ret ?_)
    have p_53 := p_52.pl [3]
    obtain ⟨M_8, hM_8, p_54, h_20⟩ := p_53.fzObj
    have p_55 := p_54.pl [2]
    obtain ⟨M_9, hM_9, p_56, h_21⟩ := p_55.fzObj
    have p_57 := p_56.pl [1]
    obtain ⟨M_10, hM_10, p_58, h_22⟩ := p_57.fzObj
    refine E_rv1 f rfl (Y9 (cs := [.slice A_1 d0.fParams.length cap_1, .slice A_2 d0.fConds.length cap_2, .slice A_3 d0.fRes.length cap_3, .slice A_4 d0.fOuts.length cap_4, .map (some bm_1), .map (some bm_2), .map (some bm_3)]) (ad := ⟨b_2, 0, none⟩) f (own_cells (p_58.ownCell 0 rfl) 0 rfl)) ?_
    obtain rfl := sI hF_12
    exact ⟨_, rfl, M_10, ((((((hM_1.trans hM_3).trans hM_5).trans hM_7).trans hM_8).trans hM_9).trans hM_10), (p_58.dropN 2), ⟨A_1, cap_1, A_2, cap_2, A_3, cap_3, A_4, cap_4, bm_1, bm_2, bm_3, m_8, rfl, (h_1.mono ((((((hM_1.trans hM_3).trans hM_5).trans hM_7).trans hM_8).trans hM_9).trans hM_10)), (h_2.mono ((((((hM_1.trans hM_3).trans hM_5).trans hM_7).trans hM_8).trans hM_9).trans hM_10)), (h_3.mono ((((((hM_1.trans hM_3).trans hM_5).trans hM_7).trans hM_8).trans hM_9).trans hM_10)), (h_4.mono ((((((hM_1.trans hM_3).trans hM_5).trans hM_7).trans hM_8).trans hM_9).trans hM_10)), ((hM_9.trans hM_10) _ _ h_20), (hM_10 _ _ h_21), h_22, (hm_4.mono ((hM_8.trans hM_9).trans hM_10))⟩⟩
end Go.Proofs.Ytpjgpnfdadpkkaa
end

section
namespace Go.Vc
open Go Go.RowKit
section
variable {P : Program} {w0 w : World} {M : Mem} {H : List Ent} {e T : TypeId} {k : IntKind}
end
section
variable {P : Program} {ops : Array Oper} {n : Nat} {Q : Exit → Act → World → Prop} {L : Fr} {a : Act} {w0 w : World} {M : Mem} {H : List Ent} {dd : List Deferred}
end
end Go.Vc
end

section
namespace Go.Vc
open Go Go.RowKit Go.Sort
section
variable {α : Type}
theorem seg_eq {cs c0 : List Value} {k sz : Nat} (hl : c0.length = sz) (h : ∀ j v, c0[j]? = some v → cs[k + j]? = some v) : cs = cs.take k ++ (c0 ++ cs.drop (k + sz)) := by
 apply List.ext_getElem?
 intro j
 by_cases h1 : j < k
 ·by_cases h2 : j < cs.length
  ·rw [List.getElem?_append_left (by rw [List.length_take]; omega), List.getElem?_take_of_lt h1]
  ·have hz : sz = 0 ∨ 0 < sz := by omega
   rcases hz with hz | hz
   ·have e : c0 = [] := List.eq_nil_of_length_eq_zero (by omega)
    subst e
    rw [hz, Nat.add_zero, List.nil_append, List.take_append_drop]
   ·have h3 := h 0 c0[0] (List.getElem?_eq_getElem (by omega))
    rw [Nat.add_zero] at h3
    have := (List.getElem?_eq_some_iff.1 h3).1
    omega
 ·by_cases h2 : j < k + sz
  ·have hj : c0[j - k]? = some c0[j - k] := List.getElem?_eq_getElem (by omega)
   have h3 := h _ _ hj
   have e : k + (j - k) = j := by omega
   rw [e] at h3
   have hk : k ≤ cs.length := by have := (List.getElem?_eq_some_iff.1 h3).1; omega
   rw [h3, List.getElem?_append_right (by rw [List.length_take]; omega), List.length_take, Nat.min_eq_left hk, List.getElem?_append_left (by omega), hj]
  ·by_cases hk : k ≤ cs.length
   ·rw [List.getElem?_append_right (by rw [List.length_take]; omega), List.length_take, Nat.min_eq_left hk, List.getElem?_append_right (by omega), List.getElem?_drop]
    congr 1
    omega
   ·rw [List.getElem?_eq_none (by omega), List.getElem?_eq_none]
    rw [List.length_append, List.length_take, List.length_append, List.length_drop, hl]
    have hz : sz = 0 := by
     rcases Nat.eq_zero_or_pos sz with hz | hz
     ·exact hz
     ·have h3 := h 0 c0[0] (List.getElem?_eq_getElem (by omega))
      have := (List.getElem?_eq_some_iff.1 h3).1
      omega
    omega
end
section
variable {α : Type} {P : Program} {ops : Array Oper} {n : Nat} {Q : Exit → Act → World → Prop} {L : Fr} {a : Act} {w0 w : World} {M : Mem} {H : List Ent} {sz : Nat} {f : α → Dat} {dd : List Deferred}
end
theorem strs_eq_ {M : Mem} : ∀ {xs : List (List UInt8)} {cs : List Value}, RepSeq M (xs.map Dat.str) cs → cs = xs.map S
 | [], _, h => h
 | x :: r, _, ⟨c, c', e1, e2, h⟩ => by
  subst e1
  have e3 : c = [S x] := e2
  rw [e3, strs_eq_ h]; rfl
theorem strs_rep {M : Mem} : ∀ xs : List (List UInt8), RepSeq M (xs.map Dat.str) (xs.map S)
 | [] => rfl
 | x :: r => ⟨[S x], _, rfl, rfl, strs_rep r⟩
end Go.Vc
end

section
namespace Go.Proofs
open Go.Shelf
def Try.lays156_ren : Go.Shelf.Ren := ⟨fun | 156 => 40 | 165 => 54 | 166 => 55 | 169 => 56 | 240 => 68 | 241 => 69 | 276 => 86 | 277 => 87 | n => n, fun | 31 => 39 | 9 => 9 | 3 => 3 | 4 => 4 | 0 => 0 | 20 => 20 | 72 => 109 | 76 => 113 | 70 => 106 | 37 => 107 | 75 => 112 | 127 => 130 | 164 => 146 | 5 => 5 | 80 => 115 | n => n, fun | n => n⟩
theorem Try.lays156 : Go.Proofs.Lays.n156 Try.prog Try.lays156_ren := {
 mixed := by kernel_rfl
 f156 := Try.func40.trans (congrArg some (by kernel_rfl))
 f165 := Try.func54.trans (congrArg some (by kernel_rfl))
 f166 := Try.func55.trans (congrArg some (by kernel_rfl))
 f169 := Try.func56.trans (congrArg some (by kernel_rfl))
 f240 := Try.func68.trans (congrArg some (by kernel_rfl))
 f241 := Try.func69.trans (congrArg some (by kernel_rfl))
 f276 := Try.func86.trans (congrArg some (by kernel_rfl))
 f277 := Try.func87.trans (congrArg some (by kernel_rfl))
 t0 := Try.underlying0
 a0 := Try.isAgg0
 z0 := Try.sizeOf0
 v0 := Try.zeroValue0
 t3 := Try.underlying3
 a3 := Try.isAgg3
 z3 := Try.sizeOf3
 v3 := Try.zeroValue3
 t4 := Try.underlying4
 a4 := Try.isAgg4
 z4 := Try.sizeOf4
 v4 := Try.zeroValue4
 t9 := Try.underlying9
 a9 := Try.isAgg9
 z9 := Try.sizeOf9
 v9 := Try.zeroValue9
 t20 := Try.underlying20
 a20 := Try.isAgg20
 z20 := Try.sizeOf20
 v20 := Try.zeroValue20
 t31 := Try.underlying39
 a31 := Try.isAgg39
 z31 := Try.sizeOf39
 v31 := Try.zeroValue39
 t37 := Try.underlying107
 a37 := Try.isAgg107
 z37 := Try.sizeOf107
 v37 := Try.zeroValue107
 t70 := Try.underlying106
 a70 := Try.isAgg106
 z70 := Try.sizeOf106
 v70 := Try.zeroValue106
 t72 := Try.underlying109
 a72 := Try.isAgg109
 z72 := Try.sizeOf109
 v72 := Try.zeroValue109
 t75 := Try.underlying112
 a75 := Try.isAgg112
 z75 := Try.sizeOf112
 v75 := Try.zeroValue112
 t76 := Try.underlying113
 a76 := Try.isAgg113
 z76 := Try.sizeOf113
 v76 := Try.zeroValue113
 t127 := Try.underlying130
 a127 := Try.isAgg130
 z127 := Try.sizeOf130
 v127 := Try.zeroValue130
 t164 := Try.underlying146
 a164 := Try.isAgg146
 z164 := Try.sizeOf146
 v164 := Try.zeroValue146 }
theorem Try.Builder_Extra_156 : Builder.Extra Try.prog Try.lays156_ren := {
 sizeBuilder := by kernel_rfl
 liesBuilder := by kernel_rfl
 t5 := Try.underlying5
 a5 := Try.isAgg5
 z5 := Try.sizeOf5
 v5 := Try.zeroValue5
 infoByte := by kernel_rfl
 cellsByte := by kernel_rfl
 sizeByte := by kernel_rfl
 neB5 := by decide }
open Go.RowKit in
theorem Try.strings_Join (bk o c : Nat) (xs : List ByteArray) (sep : ByteArray) (w : World) (hcells : ∀ (j : Nat) x, xs[j]? = some x → w.cell? ⟨bk, o + j, none⟩ = some (.string x)) (hbk : bk < w.heap.size) (hN : xs.length ≤ 140737488355328) (hcap : xs.length ≤ c) (hlen : (Lib.join (xs.map (·.data.toList)) sep.data.toList).length ≤ 140737488355328) :
  Calls Try.prog 40 #[.slice (some ⟨bk, o, none⟩) xs.length c, .string sep] w fun e w' => e = .returned (.string ⟨(Lib.join (xs.map (·.data.toList)) sep.data.toList).toArray⟩) ∧ Below w.heap.size w w' := Any.strings_Join Try.lays156 Try.Builder_Extra_156 bk o c xs sep w hcells hbk hN hcap hlen
def Try.lays190_ren : Go.Shelf.Ren := ⟨fun | 190 => 49 | 125 => 65 | 258 => 64 | 128 => 82 | 129 => 83 | 302 => 73 | 303 => 74 | 304 => 75 | 305 => 76 | 306 => 77 | 307 => 78 | 308 => 79 | 309 => 80 | 310 => 81 | 333 => 89 | 329 => 90 | 330 => 91 | 334 => 92 | 335 => 93 | 336 => 94 | 344 => 96 | n => n, fun | 31 => 39 | 9 => 9 | 3 => 3 | 46 => 123 | 0 => 0 | 51 => 143 | 53 => 145 | 4 => 4 | 183 => 135 | 182 => 134 | 131 => 140 | 5 => 5 | 218 => 149 | 222 => 153 | 228 => 156 | 229 => 157 | n => n, fun | n => n⟩
theorem Try.lays190 : Go.Proofs.Lays.n190 Try.prog Try.lays190_ren := {
 mixed := by kernel_rfl
 f125 := Try.func65.trans (congrArg some (by kernel_rfl))
 f128 := Try.func82.trans (congrArg some (by kernel_rfl))
 f129 := Try.func83.trans (congrArg some (by kernel_rfl))
 f190 := Try.func49.trans (congrArg some (by kernel_rfl))
 f258 := Try.func64.trans (congrArg some (by kernel_rfl))
 f302 := Try.func73.trans (congrArg some (by kernel_rfl))
 f303 := Try.func74.trans (congrArg some (by kernel_rfl))
 f304 := Try.func75.trans (congrArg some (by kernel_rfl))
 f305 := Try.func76.trans (congrArg some (by kernel_rfl))
 f306 := Try.func77.trans (congrArg some (by kernel_rfl))
 f307 := Try.func78.trans (congrArg some (by kernel_rfl))
 f308 := Try.func79.trans (congrArg some (by kernel_rfl))
 f309 := Try.func80.trans (congrArg some (by kernel_rfl))
 f310 := Try.func81.trans (congrArg some (by kernel_rfl))
 f329 := Try.func90.trans (congrArg some (by kernel_rfl))
 f330 := Try.func91.trans (congrArg some (by kernel_rfl))
 f333 := Try.func89.trans (congrArg some (by kernel_rfl))
 f334 := Try.func92.trans (congrArg some (by kernel_rfl))
 f335 := Try.func93.trans (congrArg some (by kernel_rfl))
 f336 := Try.func94.trans (congrArg some (by kernel_rfl))
 f344 := Try.func96.trans (congrArg some (by kernel_rfl))
 t0 := Try.underlying0
 a0 := Try.isAgg0
 z0 := Try.sizeOf0
 v0 := Try.zeroValue0
 t3 := Try.underlying3
 a3 := Try.isAgg3
 z3 := Try.sizeOf3
 v3 := Try.zeroValue3
 t4 := Try.underlying4
 a4 := Try.isAgg4
 z4 := Try.sizeOf4
 v4 := Try.zeroValue4
 t5 := Try.underlying5
 a5 := Try.isAgg5
 z5 := Try.sizeOf5
 v5 := Try.zeroValue5
 t9 := Try.underlying9
 a9 := Try.isAgg9
 z9 := Try.sizeOf9
 v9 := Try.zeroValue9
 t31 := Try.underlying39
 a31 := Try.isAgg39
 z31 := Try.sizeOf39
 v31 := Try.zeroValue39
 t46 := Try.underlying123
 a46 := Try.isAgg123
 z46 := Try.sizeOf123
 v46 := Try.zeroValue123
 t51 := Try.underlying143
 a51 := Try.isAgg143
 z51 := Try.sizeOf143
 v51 := Try.zeroValue143
 t53 := Try.underlying145
 a53 := Try.isAgg145
 z53 := Try.sizeOf145
 v53 := Try.zeroValue145
 t131 := Try.underlying140
 a131 := Try.isAgg140
 z131 := Try.sizeOf140
 v131 := Try.zeroValue140
 t182 := Try.underlying134
 a182 := Try.isAgg134
 z182 := Try.sizeOf134
 v182 := Try.zeroValue134
 t183 := Try.underlying135
 a183 := Try.isAgg135
 z183 := Try.sizeOf135
 v183 := Try.zeroValue135
 t218 := Try.underlying149
 a218 := Try.isAgg149
 z218 := Try.sizeOf149
 v218 := Try.zeroValue149
 t222 := Try.underlying153
 a222 := Try.isAgg153
 z222 := Try.sizeOf153
 v222 := Try.zeroValue153
 t228 := Try.underlying156
 a228 := Try.isAgg156
 z228 := Try.sizeOf156
 v228 := Try.zeroValue156
 t229 := Try.underlying157
 a229 := Try.isAgg157
 z229 := Try.sizeOf157
 v229 := Try.zeroValue157 }
open Go.Sort Go.RowKit in
theorem Try.slices_Sort_string (blk off cap : Nat) (ss : List (List UInt8)) (w : World) (hH : Holds encStr w blk off ss.toArray) (hblk : blk < w.heap.size) (hsz : ss.length < 4611686018427387904) :
  Calls Try.prog 49 #[.slice (some ⟨blk, off, none⟩) ss.length cap] w fun e w' =>
   e = .returned (.tuple #[]) ∧ ∃ n os, w' = grow (putRow encStr (Sort.ahead w n) blk off (ss.mergeSort fun x y => decide (x ≤ y)).toArray) os := Any.slices_Sort_string Try.lays190 blk off cap ss w hH hblk hsz
open Go.RowKit Go.Sort in
theorem Try.slices_Sort_string_none (p : Option Addr) (cap : Nat) (w : World) :
  Calls Try.prog 49 #[.slice p 0 cap] w fun e w' => e = .returned (.tuple #[]) ∧ w' = w := Any.slices_Sort_string_none Try.lays190 p cap w
end Go.Proofs
end

section
namespace Go.Proofs.Ytpjgpnfdadpkkaa
open Go Go.Vc Go.RowKit Go.Sort
def insG {α : Type} (le : α → α → Bool) (x : α) : List α → List α
  | [] => [x]
  | y :: r => bif le x y then x :: y :: r else y :: insG le x r
def sortG {α : Type} (le : α → α → Bool) : List α → List α
  | [] => []
  | x :: r => insG le x (sortG le r)
section
variable {α : Type} {le : α → α → Bool}
theorem insG_perm (le : α → α → Bool) (x : α) : ∀ l, (insG le x l).Perm (x :: l)
 | [] => List.Perm.refl _
 | y :: r => by
  unfold insG
  cases le x y with
  | true => exact List.Perm.refl _
  | false => exact ((insG_perm le x r).cons y).trans (List.Perm.swap x y r)
theorem sortG_perm (le : α → α → Bool) : ∀ l, (sortG le l).Perm l
 | [] => List.Perm.refl _
 | x :: r => (insG_perm le x _).trans ((sortG_perm le r).cons x)
theorem sortG_len (le : α → α → Bool) (l : List α) : (sortG le l).length = l.length := (sortG_perm le l).length_eq
theorem insG_sorted (ht : ∀ a b c, le a b = true → le b c = true → le a c = true) (hn : ∀ a b, le a b = true ∨ le b a = true) (x : α) : ∀ l, l.Pairwise (fun a b => le a b = true) → (insG le x l).Pairwise (fun a b => le a b = true)
 | [], _ => by simp [insG]
 | y :: r, h => by
  obtain ⟨h1, h2⟩ := List.pairwise_cons.1 h
  unfold insG
  cases hxy : le x y with
  | true => exact List.pairwise_cons.2 ⟨fun z hz => by
    rcases List.mem_cons.1 hz with rfl | hz
    ·exact hxy
    ·exact ht _ _ _ hxy (h1 z hz), h⟩
  | false =>
   refine List.pairwise_cons.2 ⟨fun z hz => ?_, insG_sorted ht hn x r h2⟩
   rcases List.mem_cons.1 ((insG_perm le x r).mem_iff.1 hz) with rfl | hz
   ·exact (hn z y).resolve_left (by simp [hxy])
   ·exact h1 z hz
theorem sortG_sorted (ht : ∀ a b c, le a b = true → le b c = true → le a c = true) (hn : ∀ a b, le a b = true ∨ le b a = true) : ∀ l, (sortG le l).Pairwise (fun a b => le a b = true)
 | [] => List.Pairwise.nil
 | x :: r => insG_sorted ht hn x _ (sortG_sorted ht hn r)
theorem sortG_eq (ht : ∀ a b c, le a b = true → le b c = true → le a c = true) (hn : ∀ a b, le a b = true ∨ le b a = true) (ha : ∀ a b, le a b = true → le b a = true → a = b) (l : List α) : l.mergeSort le = sortG le l :=
 List.Perm.eq_of_pairwise (le := fun a b => le a b = true) (fun a b _ _ h1 h2 => ha a b h1 h2) (List.pairwise_mergeSort ht (fun a b => by simpa using hn a b) l) (sortG_sorted ht hn l) ((List.mergeSort_perm l _).trans (sortG_perm _ l).symm)
end
def leS (x y : List UInt8) : Bool := decide (x ≤ y)
theorem sortS_eq (l : List (List UInt8)) : l.mergeSort (fun x y => decide (x ≤ y)) = sortG leS l :=
 sortG_eq (le := leS) (fun a b c h1 h2 => by simp only [leS, decide_eq_true_eq] at *; exact List.le_trans h1 h2) (fun a b => by simp only [leS, decide_eq_true_eq]; exact List.le_total a b) (fun a b h1 h2 => by simp only [leS, decide_eq_true_eq] at *; exact List.le_antisymm h1 h2) l
def h_SortS (_ : Nat) (d : List (List UInt8)) : Option (List (List UInt8)) := need (d.length < 4611686018427387904) (some (sortG leS d))
theorem h_SortS_ok (n : Nat) (M : Mem) (A : Option Addr) (cap : Nat) (d : List (List UInt8)) (cs : List Value) (hr : RepSeq M (d.map Dat.str) cs) (r : List (List UInt8)) (hF : h_SortS n d = some r) :
  OkH Try.prog M [.row 9 1 (.slice A d.length cap) d.length cs] 49 [.slice A d.length cap] fun M' E' v => ∃ s, v = .tuple #[] ∧ E' = [.row 9 1 (.slice A d.length cap) r.length s] ∧ RepSeq M' (r.map Dat.str) s ∧ r.length = d.length := by
 unfold h_SortS at hF
 obtain ⟨g0, hF⟩ := need_some hF
 obtain rfl := Option.some.inj hF
 have hl := sortG_len leS d
 obtain rfl := strs_eq_ hr
 intro M2 hM w0 H w hp
 refine (sortRow (P := Try.prog) (f := 49) (e := 9) (enc := S) (zs := d) (ys := sortG leS d) hl (fun blk off cap w hH hb => by have := Try.slices_Sort_string blk off cap d w hH hb g0; rwa [sortS_eq] at this) (fun _ M => Ok.ofPure fun w => Try.slices_Sort_string_none none 0 w) M (.slice A d.length cap) M2 hM w0 H w hp).mono fun _ w' ⟨v, he, M', E', h1, h2, h3, h4⟩ => ⟨v, he, M', E', h1, h2, _, h3, by rw [hl]; exact h4, strs_rep _, hl⟩
theorem mem_spot {M : Mem} {a : Addr} {v : Value} (h : M.cell? a = some v) : a.spot = none := by
 unfold Mem.cell? at h
 cases hb : M a.block with
 | none => rw [hb] at h; cases h
 | some o =>
  rw [hb] at h
  cases o with
  | cells c t k =>
   dsimp only at h
   cases hs : a.spot with
   | none => rfl
   | some s => rw [hs] at h; cases h
  | _ => cases h
theorem cell_lt {w : World} {a : Addr} {v : Value} (h : w.cell? a = some v) : a.block < w.heap.size := by
 apply Classical.byContradiction
 intro hn
 have : w.heap[a.block]? = none := Array.getElem?_eq_none (by omega)
 unfold World.cell? at h
 rw [this] at h
 cases h
def h_Join (_ : Nat) (d : List (List UInt8)) (sep : List UInt8) : Option (List UInt8) := need (0 < d.length ∧ d.length ≤ 1000 ∧ (Lib.join d sep).length ≤ 140737488355328) (some (Lib.join d sep))
theorem h_Join_ok (n : Nat) (M : Mem) (A : Option Addr) (cap : Nat) (d : List (List UInt8)) (h : Sli M 1 Dat.str A cap d) (sep : List UInt8) (r : List UInt8) (hF : h_Join n d sep = some r) :
  Ok Try.prog M 40 [.slice A d.length cap, S sep] (fun _ v => v = S r) := by
 unfold h_Join at hF
 obtain ⟨⟨g0, g1, g2⟩, hF⟩ := need_some hF
 obtain rfl := Option.some.inj hF
 refine Ok.ofBelow fun M2 w0 H w hM hp => ?_
 have hs := h.mono hM
 have key : ∀ j (hj : j < d.length), ∃ ad, A = some ad ∧ M2.cell? (ad.add j) = some (S d[j]) := by
  intro j hj
  have hg : getI d (j : Int) = some d[j] := by
   unfold getI
   rw [if_pos (by omega)]
   simp [hj]
  obtain ⟨ad, c, e1, _, e3, e4⟩ := hs.at_ hg
  obtain rfl : c = [S d[j]] := e3
  have h5 := e4 0 _ rfl
  rw [add_of_add', Int.toNat_natCast, Nat.mul_one, Nat.add_zero] at h5
  exact ⟨ad, e1, h5⟩
 obtain ⟨ad, rfl, h0⟩ := key 0 g0
 have hsp : ad.spot = none := mem_spot h0
 obtain ⟨bk, o, sp⟩ := ad
 dsimp only at hsp
 subst hsp
 have hx : ∀ l : List (List UInt8), (l.map mkS).map (fun b : ByteArray => b.data.toList) = l := fun l => by
  rw [List.map_map]
  exact (List.map_congr_left fun a _ => rfl).trans (List.map_id l)
 have hk := Try.strings_Join bk o cap (d.map mkS) (mkS sep) w (fun j x hj => by
  rw [List.getElem?_map] at hj
  obtain ⟨y, hy, rfl⟩ := Option.map_eq_some_iff.1 hj
  obtain ⟨hl, rfl⟩ := List.getElem?_eq_some_iff.1 hy
  obtain ⟨ad2, e2, h2⟩ := key j hl
  obtain rfl := Option.some.inj e2
  have h3 := hp.cell h2
  rw [Addr.add_lit] at h3
  exact h3) (cell_lt (hp.cell h0)) (by rw [List.length_map]; omega) (by rw [List.length_map]; exact h.1) (by rw [hx]; exact g2)
 rw [hx, List.length_map] at hk
 exact hk
end Go.Proofs.Ytpjgpnfdadpkkaa
end

section
namespace Go.Proofs.Ytpjgpnfdadpkkaa
open Go Go.Vc Go.RowKit
def slices_Indexint8_int8_s1 (n : Nat) (d0 : List Int) (d1 : Int) (s_1 : Int) : Option (Lp Int (Sum Int Unit)) :=
    bif (decide (s_1 < ((d0.length : Nat) : Int))) then
      ((getI d0 s_1).bind fun x_1 =>
      bif (decide (d1 = x_1)) then
        (some (.br (.inl s_1)))
      else
        need (inR .i64 (s_1 + 1)) <|
        some (.nx (s_1 + 1)))
    else
      some (.br (.inr ()))
def slices_Indexint8_int8 (n : Nat) (d0 : List Int) (d1 : Int) : Option Int :=
  (loopF (slices_Indexint8_int8_s1 n d0 d1) n (0 : Int)).bind fun b_1 =>
  (match b_1 with 
  | .inl y_1 => some (y_1) 
  | .inr y_2 => some ((-1 : Int)))
theorem slices_Indexint8_int8_ok (n : Nat) (M : Mem) (A0 : Option Addr) (cap0 : Nat) (d0 : List Int) (h0 : Sli M 1 (Dat.int .i8) A0 cap0 d0) (d1 : Int) (r : Int) (hF : slices_Indexint8_int8 n d0 d1 = some r) : Ok Try.prog M 63 [.slice A0 d0.length cap0, .int .i8 d1] (fun _ v => v = .int .i64 r) := by
 unfold slices_Indexint8_int8 at hF
 intro M1 hM0 w0 H w p0
 replace h0 := h0.mono hM0
 refine R_enter 19 Try.func63 rfl rfl (by simp) fun a0 f0 => RR (Y f0 1 fun _ f => eT (R_seq (RR (Y f 3 fun _ f => eT (wp_block ?_)))))
 obtain ⟨b_1, hL_1, hF_1⟩ := bS hF
 refine wp_mono (Q := fun e a w => (e = .ret ∧ (∃ y_1 : Int, b_1 = .inl y_1 ∧ ∃ M_2 : Mem, M1.le M_2 ∧ Frm 19 [(4, .int .i64 y_1)] a ∧ Hp w0 M_2 (H) w)) ∨ (e = .exit 0 ∧ (∃ y_2 : Unit, b_1 = .inr y_2 ∧ ∃ M_3 : Mem, M1.le M_3 ∧ Frm 19 [] a ∧ Hp w0 M_3 (H) w))) (R_loop (n := 19) (w0 := w0) (M := M1) (fun (x : Nat × Int) => match x with | (m_1, s_1) => [(0, .slice A0 d0.length cap0), (1, .int .i8 d1), (7, .int .i64 ((d0.length : Nat) : Int)), (8, .int .i64 s_1)]) (fun (x : Nat × Int) => match x with | (m_1, s_1) => (H)) (fun (x : Nat × Int) (MM : Mem) => match x with | (m_1, s_1) => loopF (slices_Indexint8_int8_s1 n d0 d1) m_1 s_1 = some b_1) (fun (x : Nat × Int) => match x with | (m_1, s_1) => m_1) (n, (0 : Int)) (f.kp) p0 hL_1 ?_) ?_
 ·rintro ⟨m_1, s_1⟩ M_1 _ w_1 hM_1 I_1 f p_1
  have I_1L := I_1
  obtain ⟨m_2, r_1, rfl, hs_1, hn_1⟩ := loop_step I_1L
  unfold slices_Indexint8_int8_s1 at hs_1
  refine RR (Y f 1 fun _ f => eT (R_seq (RcF f hs_1 (fun h_1 hF_2 => ?_) fun h_1 hF_7 => ?_)))
  ·have k_1 := dI.1 h_1
   refine wp_skip (T_n (R_seq (wp_block (RR (Y f 2 fun _ f => eT (RR (Y f 3 fun _ f => ?_)))))))
   obtain ⟨x_1, hx_1, hF_3⟩ := bS hF_2
   obtain ⟨ad_1, c_1, e_1, -, hr_1, hc_1⟩ := Sli.at_ (h0.mono hM_1) hx_1
   obtain rfl : c_1 = [.int .i8 x_1] := hr_1
   refine Z f (Y25 e_1 rfl (len := d0.length) (cap := cap0) (k := .i64) (i := s_1) (e := 34) (sz := 1) (getI_nn hx_1) (getI_lt hx_1)) fun _ f => Y14 f p_1 hc_1 0 rfl fun _ f => Y f 1 fun _ f => eT (RcF f hF_3 (fun h_2 hF_4 => ?_) fun h_2 hF_5 => ?_)
   ·have k_2 := dI.1 h_2
    refine RR (Y f 2 fun _ f => eT (wp_ret (B_r (T_r (T_r ?_)))))
    obtain rfl := sI hF_4
    exact .inl ⟨rfl, s_1, (sI hn_1).symm, M_1, hM_1, f.kp, p_1⟩
   ·have k_3 := iff_f dI h_2
    refine wp_skip (B_n (T_n (R_reg ?_)))
    obtain ⟨g_1, hF_6⟩ := nS hF_5
    refine Y f 1 fun _ f => ?_
    have f := f.st 18 (congrArg (Value.int .i64) (inR_wrap g_1))
    refine Y f 1 fun _ f => eT ?_
    obtain rfl := sI hF_6
    exact ⟨⟨m_2, s_1 + 1⟩, Nat.lt_succ_self _, M_1, hM_1, hn_1, f.kp, p_1⟩
  ·have k_4 := iff_f dI h_1
   refine wp_exit (T_x (T_x ?_))
   obtain rfl := sI hF_7
   exact .inr ⟨rfl, (), (sI hn_1).symm, M_1, hM_1, f.kp, p_1⟩
 ·rintro _ _ w_4 (⟨rfl, y_1, rfl, M_2, hM_2, f, p_2⟩ | ⟨rfl, y_2, rfl, M_3, hM_3, f, p_3⟩)
  ·refine B_r (T_r (E_ret1 f rfl (by kernel_rfl : Vc.look _ 4 = some (.int .i64 y_1)) ?_))
   obtain rfl := sI hF_1
   exact ⟨_, rfl, M_2, hM_2, p_2, rfl⟩
  ·refine B_x (T_n (RR (Y f 1 fun _ f => eT (wp_ret (E_ret1 f rfl (by kernel_rfl : Vc.look _ 4 = some (.int .i64 (-1))) ?_)))))
   obtain rfl := sI hF_1
   exact ⟨_, rfl, M_3, hM_3, p_3, rfl⟩
def slices_Containsint8_int8 (n : Nat) (d0 : List Int) (d1 : Int) : Option Bool :=
  (slices_Indexint8_int8 n d0 d1).bind fun x_1 =>
  some ((decide ((0 : Int) ≤ x_1)))
theorem slices_Containsint8_int8_ok (n : Nat) (M : Mem) (A0 : Option Addr) (cap0 : Nat) (d0 : List Int) (h0 : Sli M 1 (Dat.int .i8) A0 cap0 d0) (d1 : Int) (r : Bool) (hF : slices_Containsint8_int8 n d0 d1 = some r) : Ok Try.prog M 48 [.slice A0 d0.length cap0, .int .i8 d1] (fun _ v => v = .bool r) := by
 unfold slices_Containsint8_int8 at hF
 intro M1 hM0 w0 H w p0
 replace h0 := h0.mono hM0
 refine R_enter 9 Try.func48 rfl rfl (by simp) fun a0 f0 => RR (Y f0 1 fun _ f => eT (RR (Y f 2 fun _ f => ?_)))
 obtain ⟨x_1, hx_1, hF_1⟩ := bS hF
 refine Y17 f p0 (slices_Indexint8_int8_ok n _ A0 cap0 d0 h0 d1 x_1 hx_1) fun w_1 p_1 _ f => Y f 2 fun _ f => eT (wp_ret (E_ret1 f rfl (by kernel_rfl : Vc.look _ 4 = some (.bool (decide ((0 : Int) ≤ x_1)))) ?_))
 obtain rfl := sI hF_1
 exact ⟨_, rfl, M1, (mR _), p_1, rfl⟩
def refs_names_s1 (n : Nat) (d1 : List Int) (s_1 : List (List UInt8) × (List ((List UInt8) × Bool))) (x_1 : TH0) : Option (Lp (List (List UInt8) × (List ((List UInt8) × Bool))) Empty) :=
    (((slices_Containsint8_int8 n d1 x_1.fKind).bind fun x_2 =>
      bif x_2 then
        (some ((!((mget s_1.2 x_1.fName).getD false))))
      else
        some ((false)) : Option Bool)).bind fun y_1 =>
    bif y_1 then
      (need ((s_1.1.length + 1) * 16 ≤ 140737488355328) <|
      some (.nx (s_1.1 ++ [x_1.fName], mput s_1.2 x_1.fName (true))))
    else
      some (.nx (s_1.1, s_1.2))
def refs_names (n : Nat) (d0 : TH0) (d1 : List Int) : Option (List (List UInt8)) :=
  need (sizeX d0 ≤ 9223372036854775806) <|
  (foldY (refs_names_s1 n d1) (usesV d0) (([] : List (List UInt8)), ([] : List ((List UInt8) × Bool)))).bind fun j_1 =>
  (match j_1 with 
  | .nx s_2 => (h_SortS n s_2.1).bind fun x_3 =>
    some (x_3) 
  | .br _ => none)
set_option maxRecDepth 20000 in
theorem refs_names_ok (n : Nat) (M : Mem) (c0 : List Value) (d0 : TH0) (h0 : Rep M (emb_TH0 d0) c0) (A1 : Option Addr) (cap1 : Nat) (d1 : List Int) (h1 : Sli M 1 (Dat.int .i8) A1 cap1 d1) (r : List (List UInt8)) (hF : refs_names n d0 d1 = some r) : OkH Try.prog M [] 23 [.agg c0.toArray, .slice A1 d1.length cap1] (fun M' E' v => ∃ (A0 : Option Addr) (k0 : Nat) (s0 : List Value), v = .slice A0 r.length k0 ∧ E' = [.row 9 1 (.slice A0 r.length k0) r.length s0] ∧ RepSeq M' (r.map Dat.str) s0) := by
 unfold refs_names at hF
 intro M1 hM0 w0 H w p0
 replace h0 := Rep.mono hM0 _ _ h0
 replace h1 := h1.mono hM0
 obtain ⟨A_1, cap_1, rfl, h_1⟩ := TH0.opn h0
 refine R_enterM 33 Try.func23 rfl rfl (by simp) fun a0 f0 => RR (Y12 (cs := #[.int .i8 d0.fKind, S d0.fText, .int .i64 d0.fNum, S d0.fName, S d0.fAttr, .slice A_1 d0.fL.length cap_1]) (T := 37) f0 p0 fun b_1 M_1 w_1 hM_1 hc_1 p_1 _ f => ?_)
 have hc_2 := fz_box hc_1
 refine Y12 (cs := #[.slice A1 d1.length cap1]) (T := 92) f p_1 fun b_2 M_2 w_2 hM_2 hc_3 p_2 _ f => ?_
 have hc_4 := fz_box hc_3
 refine Y11 f p_2 (.cells #[.slice none 0 0] 39 (0, 0)) fun b_3 w_3 p_3 _ f => eT (RR (W_newmap S Value.bool f p_3 (by kernel_rfl) (by kernel_rfl) rfl rfl rfl fun bm_1 w_4 p_4 _ f => Y11 f p_4 (.cells #[.map none] 59 (0, 0)) fun b_4 w_5 p_5 _ f => Y21 f p_5 0 rfl rfl (b := b_4) (j := 0) (v := .map (some bm_1)) rfl (by exact rfl) (by simp) (by simp) ((Ent.obj b_4 (.cells #[.map (some bm_1)] 59 (0, 0))) :: (Ent.obj bm_1 (mapO S Value.bool ([] : List ((List UInt8) × Bool)))) :: (Ent.obj b_3 (.cells #[.slice none 0 0] 39 (0, 0))) :: H) rfl fun w_6 p_6 _ f => eT (R_seq (RR (Z (v := .agg #[.int .i8 d0.fKind, S d0.fText, .int .i64 d0.fNum, S d0.fName, S d0.fAttr, .slice A_1 d0.fL.length cap_1]) f (Y27 (cs := [.int .i8 d0.fKind, S d0.fText, .int .i64 d0.fNum, S d0.fName, S d0.fAttr, .slice A_1 d0.fL.length cap_1]) rfl (ad := ⟨b_1, 0, none⟩) (fun j v h => p_6.cell ((fzu hM_2 hc_2) j v h))) fun _ f => ?_)))))
 obtain ⟨g_1, hF_1⟩ := nS hF
 refine Y15 f p_6 (all_it d0 g_1 _ [.int .i8 d0.fKind, S d0.fText, .int .i64 d0.fNum, S d0.fName, S d0.fAttr, .slice A_1 d0.fL.length cap_1] (TH0.shutx (x := d0) (h_1.mono (hM_1.trans hM_2)))) fun _ M_3 w_7 hM_3 p_7 q_1 a_8 f => ?_
 obtain ⟨fv_1, cp_1, rfl, hit_1⟩ := q_1
 refine eT (wp_block ?_)
 obtain ⟨A_2, cap_2, hv_1⟩ : ∃ A cap, Value.slice none 0 0 = .slice A ([] : List (List UInt8)).length cap := ⟨none, 0, rfl⟩
 have p_8 : Hp w0 M_3 ((Ent.row 9 1 (.slice A_2 ([] : List (List UInt8)).length cap_2) ([] : List (List UInt8)).length []) :: (Ent.obj b_4 (.cells #[.map (some bm_1)] 59 (0, 0))) :: (Ent.obj bm_1 (mapO S Value.bool ([] : List ((List UInt8) × Bool)))) :: (Ent.obj b_3 (.cells #[.slice A_2 ([] : List (List UInt8)).length cap_2] 39 (0, 0))) :: H) w_7 := by rw [← hv_1]; exact p_7.nilRow 9 1
 have hr_1 : RepSeq M_3 (([] : List (List UInt8)).map Dat.str) [] := rfl
 have p_12 := p_8.pl [3, 2, 3, 3]
 have f : Frm 33 [(3, .pointer (some (⟨b_2, 0, none⟩))), (4, .pointer (some (⟨b_3, 0, none⟩))), (5, .pointer (some (⟨b_4, 0, none⟩))), (9, .func (.func fv_1) #[] cp_1.toArray)] a_8 := f.kp
 obtain ⟨j_1, hL_1, hF_2⟩ := bS hF_1
 refine R_range (σ := List (List UInt8) × (List ((List UInt8) × Bool))) (β := Empty) (vals := valsX) (Y := (refs_names_s1 n d1)) (E0 := [Ent.row 9 1 (.slice A_2 ([] : List (List UInt8)).length cap_2) ([] : List (List UInt8)).length [], Ent.obj bm_1 (mapO S Value.bool ([] : List ((List UInt8) × Bool))), Ent.obj b_4 (.cells #[.map (some bm_1)] 59 (0, 0)), Ent.obj b_3 (.cells #[.slice A_2 ([] : List (List UInt8)).length cap_2] 39 (0, 0))]) (H := H) (w0 := w0) (M := M_3) (f := fv_1) (caps := cp_1) f p_12 (by kernel_rfl) (by kernel_rfl) (by kernel_rfl) hit_1.1 (fun (s_1 : List (List UInt8) × (List ((List UInt8) × Bool))) M' E1 => ∃ (A_3 : Option Addr) (cap_3 : Nat) (cs_1 : List Value), E1 = [Ent.row 9 1 (.slice A_3 s_1.1.length cap_3) s_1.1.length cs_1, Ent.obj bm_1 (mapO S Value.bool s_1.2), Ent.obj b_4 (.cells #[.map (some bm_1)] 59 (0, 0)), Ent.obj b_3 (.cells #[.slice A_3 s_1.1.length cap_3] 39 (0, 0))] ∧ RepSeq M' (s_1.1.map Dat.str) cs_1) (fun (b : Empty) _ _ => b.elim) (fun (b : Empty) => b.elim) (([] : List (List UInt8)), ([] : List ((List UInt8) × Bool))) j_1 ⟨A_2, cap_2, [], rfl, hr_1⟩ (fun s_ M_ M2_ E_ hM h => by obtain ⟨A_3, cap_3, cs_1, rfl, hr_3⟩ := h; exact ⟨A_3, cap_3, cs_1, rfl, RepSeq.mono hM _ _ hr_3⟩) (fun b => b.elim) (fun M_ x_ vs_ h => by obtain ⟨c_, h, _⟩ := h; exact ⟨_, h⟩) (hit_1.2 _ _ _ _ _ hL_1) ?_ ?_ ?_
 ·rintro s_1 x_1 r_1 hs_1 l_1 w0 M_4 E_1 H w_8 _ v_1 hM_4 ⟨A_3, cap_3, cs_1, rfl, hr_3⟩ ⟨cc_1, hv_2, hr_2⟩ p_13 f
  obtain rfl : v_1 = .agg cc_1.toArray := by simpa using hv_2
  unfold refs_names_s1 at hs_1
  obtain ⟨A_4, cap_4, rfl, h_2⟩ := TH0.opn hr_2
  refine RI_reg (then_out F_out) (by kernel_rfl) (Y11 f p_13 (.cells #[.int .i8 0, S [], .int .i64 0, S [], S [], .slice none 0 0] 37 (0, 0)) fun b_5 w_9 p_14 _ f => Y22 (vs := [.int .i8 x_1.fKind, S x_1.fText, .int .i64 x_1.fNum, S x_1.fName, S x_1.fAttr, .slice A_4 x_1.fL.length cap_4]) (j := 0) f p_14 rfl rfl (by simp [Value.oneCell', S]) (by simp) (by decide) (cs' := #[.int .i8 x_1.fKind, S x_1.fText, .int .i64 x_1.fNum, S x_1.fName, S x_1.fAttr, .slice A_4 x_1.fL.length cap_4]) (by kernel_rfl) fun w_10 p_15 _ f => eT (⟨M_4, [Ent.obj b_5 (.cells #[.int .i8 x_1.fKind, S x_1.fText, .int .i64 x_1.fNum, S x_1.fName, S x_1.fAttr, .slice A_4 x_1.fL.length cap_4] 37 (0, 0)), Ent.row 9 1 (.slice A_3 s_1.1.length cap_3) s_1.1.length cs_1, Ent.obj bm_1 (mapO S Value.bool s_1.2), Ent.obj b_4 (.cells #[.map (some bm_1)] 59 (0, 0)), Ent.obj b_3 (.cells #[.slice A_3 s_1.1.length cap_3] 39 (0, 0))], (mR _), p_15, fun H w_11 p_16 => ?_⟩))
  refine RI_block (RI_seq ?_)
  obtain ⟨j_2, hj_1, hF_3⟩ := bS hs_1
  refine RI_mid (fun a_23 w_13 => ∃ y_1 : Bool, j_2 = y_1 ∧ ∃ M_5 : Mem, M_4.le M_5 ∧ Frm 33 [(4, .pointer (some (⟨b_3, 0, none⟩))), (5, .pointer (some (⟨b_4, 0, none⟩))), (6, .pointer (some (⟨b_5, 0, none⟩))), (21, .bool y_1)] a_23 ∧ Hp w0 M_5 ((Ent.obj b_5 (.cells #[.int .i8 x_1.fKind, S x_1.fText, .int .i64 x_1.fNum, S x_1.fName, S x_1.fAttr, .slice A_4 x_1.fL.length cap_4] 37 (0, 0))) :: (Ent.row 9 1 (.slice A_3 s_1.1.length cap_3) s_1.1.length cs_1) :: (Ent.obj bm_1 (mapO S Value.bool s_1.2)) :: (Ent.obj b_4 (.cells #[.map (some bm_1)] 59 (0, 0))) :: (Ent.obj b_3 (.cells #[.slice A_3 s_1.1.length cap_3] 39 (0, 0))) :: H) w_13) ?_ ?_
  ·refine RI_reg (then_out (then_out (block_out (RB_out)))) (by kernel_rfl) (Y14 f p_16 (fzu (hM_3.trans hM_4) hc_4) 0 rfl fun _ f => Y f 1 fun _ f => Z f (Y26 (v := .int .i8 x_1.fKind) rfl (ad := ⟨b_5, 0, none⟩) (p_16.ownCell 0 rfl 0)) fun _ f => ?_)
   obtain ⟨x_2, hx_1, hF_4⟩ := bS hj_1
   refine Y17 f p_16 (slices_Containsint8_int8_ok n _ A1 cap1 d1 (h1.mono (((hM_1.trans hM_2).trans hM_3).trans hM_4)) x_1.fKind x_2 hx_1) fun w_12 p_17 _ f => Y f 1 fun _ f => ?_
   rcases cE hF_4 with ⟨h_3, hF_5⟩ | ⟨h_3, hF_6⟩
   ·have f := f.st 15 (cB h_3)
    refine Z f (Y26 (v := .map (some bm_1)) rfl (ad := ⟨b_4, 0, none⟩) (p_17.ownCell 3 rfl 0)) fun _ f => Y f 1 fun _ f => Z f (Y26 (v := S x_1.fName) rfl (ad := ⟨b_5, 3, none⟩) (p_17.ownCell 0 rfl 3)) fun _ f => Z (v := .bool ((mget s_1.2 x_1.fName).getD false)) f (X_lookup1 (ek := S) (ev := Value.bool) (m := s_1.2) (k := x_1.fName) (z := false) (kt := 9) (et := 4) rfl (by kernel_rfl) (by kernel_rfl) (by kernel_rfl) (strKey (by kernel_rfl)) (by kernel_rfl) (p_17.ownObj 2 rfl)) fun _ f => Y f 2 fun _ f => eT ?_
    exact ⟨(!((mget s_1.2 x_1.fName).getD false)), (sI hF_5).symm, M_4, (mR _), f.kp, p_17⟩
   ·have f := f.st 15 (cB h_3)
    refine Y f 6 fun _ f => eT ?_
    exact ⟨(false), (sI hF_6).symm, M_4, (mR _), f.kp, p_17⟩
  ·rintro a_23 w_13 ⟨y_1, hq_1, M_5, hM_5, f, p_18⟩
   subst j_2
   refine T_n (RI_cond f (b := y_1) (by kernel_rfl) (by kernel_rfl) (fun h_4 => ?_) fun h_4 => ?_)
   ·have hF_7 := cnd_t h_4 hF_3
    refine RI_seq (RI_reg (then_out (block_out (RB_out))) (by kernel_rfl) (Z f (Y26 (v := .map (some bm_1)) rfl (ad := ⟨b_4, 0, none⟩) (p_18.ownCell 3 rfl 0)) fun _ f => Y f 1 fun _ f => Z f (Y26 (v := S x_1.fName) rfl (ad := ⟨b_5, 3, none⟩) (p_18.ownCell 0 rfl 3)) fun _ f => ?_))
    have p_19 := p_18.pl [2]
    refine W_mapput (ek := S) (ev := Value.bool) (m := s_1.2) (k := x_1.fName) (v := (true)) (kt := 9) (et := 4) f p_19 (by kernel_rfl) (by kernel_rfl) rfl (.inl rfl) (by kernel_rfl) (by kernel_rfl) (by kernel_rfl) (by kernel_rfl) (strKey (by kernel_rfl)) fun w_14 p_20 _ f => eT (RI_reg (block_out (RB_out)) (by kernel_rfl) (Z f (Y26 (v := .slice A_3 s_1.1.length cap_3) rfl (ad := ⟨b_3, 0, none⟩) (p_20.ownCell 4 rfl 0)) fun _ f => Y f 1 fun _ f => Z f (Y26 (v := S x_1.fName) rfl (ad := ⟨b_5, 3, none⟩) (p_20.ownCell 1 rfl 3)) fun _ f => V_allocS (k := 1) (c := 1) f p_20 (.cells #[S x_1.fName] 9 (0, 0)) (by kernel_rfl) (fun _ => by kernel_rfl) fun b_6 w_15 p_21 _ f => ?_))
    have p_22 := p_21.pl [3]
    obtain ⟨g_2, hF_8⟩ := nS hF_7
    refine Y19 (z := S []) (f := Dat.str) (xs := s_1.1) (ys := [x_1.fName]) (news := [S x_1.fName]) (ad := ⟨b_6, 0, none⟩) (m := 1) (c := 1) f p_22 (RepSeq.mono hM_5 _ _ hr_3) (by exact ⟨_, _, rfl, rfl, rfl⟩) rfl rfl rfl rfl (own_cells (p_22.ownCell 1 rfl) 0 rfl) (by exact g_2) (by have hg_ := g_2; first | omega | (simp only [List.length_cons, List.length_nil] at *; omega)) fun A_5 cap_5 cs_2 w_16 p_23 hr_4 _ f => ?_
    have p_24 := p_23.pl [1]
    have p_25 := p_24.drop
    refine Y21 f p_25 4 rfl rfl (b := b_3) (j := 0) (v := .slice A_5 (s_1.1 ++ [x_1.fName]).length cap_5) rfl (by exact rfl) (by simp) (by simp) ((Ent.row 9 1 (.slice A_5 (s_1.1 ++ [x_1.fName]).length cap_5) (s_1.1 ++ [x_1.fName]).length cs_2) :: (Ent.obj bm_1 (mapO S Value.bool (mput s_1.2 x_1.fName (true)))) :: (Ent.obj b_5 (.cells #[.int .i8 x_1.fKind, S x_1.fText, .int .i64 x_1.fNum, S x_1.fName, S x_1.fAttr, .slice A_4 x_1.fL.length cap_4] 37 (0, 0))) :: (Ent.obj b_4 (.cells #[.map (some bm_1)] 59 (0, 0))) :: (Ent.obj b_3 (.cells #[.slice A_5 (s_1.1 ++ [x_1.fName]).length cap_5] 39 (0, 0))) :: H) rfl fun w_17 p_26 _ f => W_end rfl (B_n ?_)
    have p_31 := p_26.pl [4, 4, 3, 3, 4]
    obtain rfl := sI hF_8
    exact RB_n ⟨M_5, [Ent.row 9 1 (.slice A_5 (s_1.1 ++ [x_1.fName]).length cap_5) (s_1.1 ++ [x_1.fName]).length cs_2, Ent.obj bm_1 (mapO S Value.bool (mput s_1.2 x_1.fName (true))), Ent.obj b_4 (.cells #[.map (some bm_1)] 59 (0, 0)), Ent.obj b_3 (.cells #[.slice A_5 (s_1.1 ++ [x_1.fName]).length cap_5] 39 (0, 0))], hM_5, (p_31.dropN 1), ⟨A_5, cap_5, cs_2, rfl, hr_4⟩⟩
   ·have hF_9 := cnd_f h_4 hF_3
    refine RI_skip (B_n ?_)
    obtain rfl := sI hF_9
    exact RB_n ⟨M_5, [Ent.row 9 1 (.slice A_3 s_1.1.length cap_3) s_1.1.length cs_1, Ent.obj bm_1 (mapO S Value.bool s_1.2), Ent.obj b_4 (.cells #[.map (some bm_1)] 59 (0, 0)), Ent.obj b_3 (.cells #[.slice A_3 s_1.1.length cap_3] 39 (0, 0))], hM_5, (p_18.dropN 1), ⟨A_3, cap_3, cs_1, rfl, (RepSeq.mono hM_5 _ _ hr_3)⟩⟩
 ·rintro s_2 rfl l_2 D_1 rr_1 M_6 E_2 w_18 _ hM_6 ⟨A_6, cap_6, cs_3, rfl, hr_5⟩ p_32 f
  replace p_32 : Hp w0 M_6 ((Ent.obj D_1 (.deferred (some []))) :: (Ent.row 9 1 (.slice A_6 s_2.1.length cap_6) s_2.1.length cs_3) :: (Ent.obj bm_1 (mapO S Value.bool s_2.2)) :: (Ent.obj b_4 (.cells #[.map (some bm_1)] 59 (0, 0))) :: (Ent.obj b_3 (.cells #[.slice A_6 s_2.1.length cap_6] 39 (0, 0))) :: H) w_18 := p_32.drop
  replace hF_2 : (_ : Option _) = some _ := hF_2
  refine B_n (T_n (RR (Z f (Y26 (v := .slice A_6 s_2.1.length cap_6) rfl (ad := ⟨b_3, 0, none⟩) (p_32.ownCell 4 rfl 0)) fun _ f => ?_)))
  have p_33 := p_32.pl [1]
  obtain ⟨x_3, hx_2, hF_10⟩ := bS hF_2
  refine Y16 (E := [Ent.row 9 1 (.slice A_6 s_2.1.length cap_6) s_2.1.length cs_3]) (H := ((Ent.obj D_1 (.deferred (some []))) :: (Ent.obj bm_1 (mapO S Value.bool s_2.2)) :: (Ent.obj b_4 (.cells #[.map (some bm_1)] 59 (0, 0))) :: (Ent.obj b_3 (.cells #[.slice A_6 s_2.1.length cap_6] 39 (0, 0))) :: H)) f p_33 (h_SortS_ok n _ A_6 cap_6 s_2.1 cs_3 hr_5 x_3 hx_2) fun _ M_7 E_3 w_19 hM_7 p_34 q_2 _ f => ?_
  obtain ⟨cs_4, rfl, rfl, hr_6, hl_1⟩ := q_2
  have hv_3 : (.slice A_6 s_2.1.length cap_6 : Value) = .slice A_6 x_3.length cap_6 := by rw [hl_1]
  have p_35 : Hp w0 M_7 ((Ent.row 9 1 (.slice A_6 x_3.length cap_6) x_3.length cs_4) :: (Ent.obj D_1 (.deferred (some []))) :: (Ent.obj bm_1 (mapO S Value.bool s_2.2)) :: (Ent.obj b_4 (.cells #[.map (some bm_1)] 59 (0, 0))) :: (Ent.obj b_3 (.cells #[.slice A_6 x_3.length cap_6] 39 (0, 0))) :: H) w_19 := by rw [← hv_3]; exact p_34
  have f := f.st 30 (hv_3)
  refine eT (RR (Z f (Y26 (v := .slice A_6 x_3.length cap_6) rfl (ad := ⟨b_3, 0, none⟩) (p_35.ownCell 4 rfl 0)) fun _ f => Y21 f p_35 4 rfl rfl (b := b_3) (j := 0) (v := .slice A_6 x_3.length cap_6) rfl (by exact rfl) (by simp) (by simp) ((Ent.row 9 1 (.slice A_6 x_3.length cap_6) x_3.length cs_4) :: (Ent.obj D_1 (.deferred (some []))) :: (Ent.obj bm_1 (mapO S Value.bool s_2.2)) :: (Ent.obj b_4 (.cells #[.map (some bm_1)] 59 (0, 0))) :: (Ent.obj b_3 (.cells #[.slice A_6 x_3.length cap_6] 39 (0, 0))) :: H) rfl fun w_20 p_36 _ f => eT (wp_ret ?_)))
  have p_37 := p_36.pl [1]
  refine E_M1 f p_37 fun w_21 p_38 => V_rv1 rfl (Y8 (v := .slice A_6 x_3.length cap_6) (ad := ⟨b_3, 0, none⟩) f (p_38.ownCell 3 rfl 0)) ?_
  obtain rfl := sI hF_10
  have p_41 := p_38.pl [3, 3, 3]
  exact ⟨_, rfl, M_7, _, ((((hM_1.trans hM_2).trans hM_3).trans hM_6).trans hM_7), (p_41.dropN 3), ⟨A_6, cap_6, cs_4, rfl, rfl, hr_6⟩⟩
 ·intro b; exact b.elim
def refs_Resources (n : Nat) (d0 : TH0) : Option (List (List UInt8)) :=
  (refs_names n d0 [(3 : Int), (4 : Int)]).bind fun x_1 =>
  some (x_1)
theorem refs_Resources_ok (n : Nat) (M : Mem) (c0 : List Value) (d0 : TH0) (h0 : Rep M (emb_TH0 d0) c0) (r : List (List UInt8)) (hF : refs_Resources n d0 = some r) : OkH Try.prog M [] 13 [.agg c0.toArray] (fun M' E' v => ∃ (A0 : Option Addr) (k0 : Nat) (s0 : List Value), v = .slice A0 r.length k0 ∧ E' = [.row 9 1 (.slice A0 r.length k0) r.length s0] ∧ RepSeq M' (r.map Dat.str) s0) := by
 unfold refs_Resources at hF
 intro M1 hM0 w0 H w p0
 replace h0 := Rep.mono hM0 _ _ h0
 obtain ⟨A_1, cap_1, rfl, h_1⟩ := TH0.opn h0
 refine R_enter 6 Try.func13 rfl rfl (by simp) fun a0 f0 => RR (Y12 (cs := #[.int .i8 d0.fKind, S d0.fText, .int .i64 d0.fNum, S d0.fName, S d0.fAttr, .slice A_1 d0.fL.length cap_1]) (T := 37) f0 p0 fun b_1 M_1 w_1 hM_1 hc_1 p_1 _ f => ?_)
 have hc_2 := fz_box hc_1
 refine Y f 1 fun _ f => eT (RR (Z (v := .agg #[.int .i8 d0.fKind, S d0.fText, .int .i64 d0.fNum, S d0.fName, S d0.fAttr, .slice A_1 d0.fL.length cap_1]) f (Y27 (cs := [.int .i8 d0.fKind, S d0.fText, .int .i64 d0.fNum, S d0.fName, S d0.fAttr, .slice A_1 d0.fL.length cap_1]) rfl (ad := ⟨b_1, 0, none⟩) (fun j v h => p_1.cell (hc_2 j v h))) fun _ f => V_allocS (k := 2) (c := 2) f p_1 (.cells #[.int .i8 3, .int .i8 4] 34 (0, 0)) (by kernel_rfl) (fun _ => by kernel_rfl) fun b_2 w_2 p_2 _ f => ?_))
 have hr_1 : RepSeq M_1 ([(3 : Int), (4 : Int)].map (Dat.int .i8)) [.int .i8 3, .int .i8 4] := ⟨_, _, rfl, rfl, ⟨_, _, rfl, rfl, rfl⟩⟩
 have p_3 : Hp w0 M_1 ((Ent.row 34 1 (.slice (some ⟨b_2, 0, none⟩) 2 2) [(3 : Int), (4 : Int)].length [.int .i8 3, .int .i8 4]) :: H) w_2 := p_2.objRow (n := 2) (cap := 2) (size := 1) (by decide) (by decide) (blk_eq (by decide) rfl) rfl rfl
 obtain ⟨M_2, A_2, cap_2, hM_2, hv_1, p_4, h_2, hb_1⟩ := p_3.lend (f := (Dat.int .i8)) (xs := [(3 : Int), (4 : Int)]) (szd_int .i8) hr_1
 have f := f.st 4 (hv_1)
 obtain ⟨x_1, hx_1, hF_1⟩ := bS hF
 refine Y16 (E := []) (H := (H)) f p_4 (refs_names_ok n _ _ d0 (TH0.shutx (x := d0) (h_1.mono (hM_1.trans hM_2))) A_2 cap_2 [(3 : Int), (4 : Int)] h_2 x_1 hx_1) fun _ M_3 E_1 w_3 hM_3 p_5 q_1 _ f => ?_
 obtain ⟨A_3, cap_3, cs_1, rfl, rfl, hr_2⟩ := q_1
 have hr_3 : ∀ M, RepSeq M (x_1.map Dat.str) cs_1 := fun M => RepSeq.flat flat_str _ hr_2
 obtain ⟨M_4, hM_4, p_6⟩ := hb_1 _ _ _ hM_3 p_5
 have f := f.st 4 (hv_1.symm)
 have hr_4 := hr_3 M_4
 refine Y f 1 fun _ f => eT (wp_ret (E_ret1 f rfl (by kernel_rfl : Vc.look _ 2 = some (.slice A_3 x_1.length cap_3)) ?_))
 obtain rfl := sI hF_1
 exact ⟨_, rfl, M_4, _, (hM_1.trans hM_4), (p_6.dropN 1), ⟨A_3, cap_3, cs_1, rfl, rfl, hr_4⟩⟩
def kDisk : List UInt8 := [68, 105, 115, 107]
def kNet : List UInt8 := [78, 101, 116]
def kNode : List UInt8 := [78, 111, 100, 101]
def kRule : List UInt8 := [82, 117, 108, 101]
def dDisk : List (List UInt8 × TG0) := [([83, 105, 122, 101], ⟨[83, 105, 122, 101], 2, false⟩), ([84, 97, 103, 115], ⟨[84, 97, 103, 115], 4, false⟩), ([75, 105, 110, 100], ⟨[75, 105, 110, 100], 3, true⟩)]
def dNet : List (List UInt8 × TG0) := [([76, 97, 98, 101, 108], ⟨[76, 97, 98, 101, 108], 3, false⟩), ([82, 97, 110, 103, 101], ⟨[82, 97, 110, 103, 101], 3, true⟩)]
def dNode : List (List UInt8 × TG0) := [([67, 111, 117, 110, 116], ⟨[67, 111, 117, 110, 116], 2, false⟩), ([68, 105, 115, 107], ⟨[68, 105, 115, 107], 3, false⟩), ([73, 109, 97, 103, 101], ⟨[73, 109, 97, 103, 101], 3, true⟩), ([78, 101, 116], ⟨[78, 101, 116], 3, true⟩)]
def dRule : List (List UInt8 × TG0) := [([78, 111, 100, 101], ⟨[78, 111, 100, 101], 3, false⟩), ([80, 111, 114, 116], ⟨[80, 111, 114, 116], 2, true⟩)]
def propsD (kind : List UInt8) : List (List UInt8 × TG0) := bif decide (kDisk = kind) then dDisk else bif decide (kNet = kind) then dNet else bif decide (kNode = kind) then dNode else bif decide (kRule = kind) then dRule else []
def kindIn (kind : List UInt8) : Bool := decide (kDisk = kind) || (decide (kNet = kind) || (decide (kNode = kind) || decide (kRule = kind)))
def specE (x : TG0) : Value := .agg #[S x.fName, .int .i8 x.fKind, .bool x.fReplace]
def mapE (o : Option Nat) : Value := .map o
def allB (b1 b2 b3 b4 : Nat) : List (List UInt8 × Option Nat) := [(kDisk, some b1), (kNet, some b2), (kNode, some b3), (kRule, some b4)]
def blkOf (b1 b2 b3 b4 : Nat) (kind : List UInt8) : Option Nat := bif decide (kDisk = kind) then some b1 else bif decide (kNet = kind) then some b2 else bif decide (kNode = kind) then some b3 else bif decide (kRule = kind) then some b4 else none
structure AllAt (M : Mem) (b0 b1 b2 b3 b4 : Nat) : Prop where
  h0 : M b0 = some (mapO S mapE (allB b1 b2 b3 b4))
  h1 : M b1 = some (mapO S specE dDisk)
  h2 : M b2 = some (mapO S specE dNet)
  h3 : M b3 = some (mapO S specE dNode)
  h4 : M b4 = some (mapO S specE dRule)
theorem AllAt.mono {M M' : Mem} {b0 b1 b2 b3 b4 : Nat} (hM : M.le M') (h : AllAt M b0 b1 b2 b3 b4) : AllAt M' b0 b1 b2 b3 b4 := ⟨hM _ _ h.h0, hM _ _ h.h1, hM _ _ h.h2, hM _ _ h.h3, hM _ _ h.h4⟩
theorem mget_allB (b1 b2 b3 b4 : Nat) (kind : List UInt8) : (mget (allB b1 b2 b3 b4) kind).getD none = blkOf b1 b2 b3 b4 kind ∧ (mget (allB b1 b2 b3 b4) kind).isSome = kindIn kind := by
 unfold allB blkOf kindIn mget mget mget mget mget
 dsimp only
 by_cases h1 : kDisk = kind
 ·rw [if_pos h1, decide_eq_true h1]; exact ⟨rfl, rfl⟩
 rw [if_neg h1, decide_eq_false h1, cond_false, Bool.false_or]
 by_cases h2 : kNet = kind
 ·rw [if_pos h2, decide_eq_true h2]; exact ⟨rfl, rfl⟩
 rw [if_neg h2, decide_eq_false h2, cond_false, Bool.false_or]
 by_cases h3 : kNode = kind
 ·rw [if_pos h3, decide_eq_true h3]; exact ⟨rfl, rfl⟩
 rw [if_neg h3, decide_eq_false h3, cond_false, Bool.false_or]
 by_cases h4 : kRule = kind
 ·rw [if_pos h4, decide_eq_true h4]; exact ⟨rfl, rfl⟩
 rw [if_neg h4, decide_eq_false h4]
 exact ⟨rfl, rfl⟩
section
variable {P : Program} {ρ : Operand → Value} {o : Oper} {w0 w : World} {M : Mem} {H : List Ent} {b0 b1 b2 b3 b4 : Nat}
theorem X_all2 {t kt et : TypeId} {x ix : Operand} {k : List UInt8} (hA : AllAt M b0 b1 b2 b3 b4) (hp : Hp w0 M H w) (ho : o.op = .lookup t x ix true) (hx : ρ x = .map (some b0)) (hk : ρ ix = S k) (ht : P.underlying t = some (.map kt et)) (K : KeyLaw P kt S) (hz : (P.info? et).bind (·.zero) = some (.map none)) :
  (execOp ρ o).run P w = .ok (.value (.tuple #[.map (blkOf b1 b2 b3 b4 k), .bool (kindIn k)])) w := by
 have := X_lookup2 (ek := S) (ev := mapE) (m := allB b1 b2 b3 b4) (k := k) (z := none) ho hx hk ht K hz (hp.mem _ _ hA.h0)
 rw [(mget_allB b1 b2 b3 b4 k).1, (mget_allB b1 b2 b3 b4 k).2] at this
 exact this
theorem X_all1 {t kt et : TypeId} {x ix : Operand} {k : List UInt8} (hA : AllAt M b0 b1 b2 b3 b4) (hp : Hp w0 M H w) (ho : o.op = .lookup t x ix false) (hx : ρ x = .map (some b0)) (hk : ρ ix = S k) (ht : P.underlying t = some (.map kt et)) (K : KeyLaw P kt S) (hz : (P.info? et).bind (·.zero) = some (.map none)) :
  (execOp ρ o).run P w = .ok (.value (.map (blkOf b1 b2 b3 b4 k))) w := by
 have := X_lookup1 (ek := S) (ev := mapE) (m := allB b1 b2 b3 b4) (k := k) (z := none) ho hx hk ht K hz (hp.mem _ _ hA.h0)
 rw [(mget_allB b1 b2 b3 b4 k).1] at this
 exact this
theorem blk_at (hA : AllAt M b0 b1 b2 b3 b4) (kind : List UInt8) : (∃ b, blkOf b1 b2 b3 b4 kind = some b ∧ M b = some (mapO S specE (propsD kind))) ∨ (blkOf b1 b2 b3 b4 kind = none ∧ propsD kind = [] ∧ kindIn kind = false) := by
 unfold blkOf propsD kindIn
 by_cases h1 : kDisk = kind
 ·rw [decide_eq_true h1]; exact .inl ⟨b1, rfl, hA.h1⟩
 rw [decide_eq_false h1, cond_false, cond_false, Bool.false_or]
 by_cases h2 : kNet = kind
 ·rw [decide_eq_true h2]; exact .inl ⟨b2, rfl, hA.h2⟩
 rw [decide_eq_false h2, cond_false, cond_false, Bool.false_or]
 by_cases h3 : kNode = kind
 ·rw [decide_eq_true h3]; exact .inl ⟨b3, rfl, hA.h3⟩
 rw [decide_eq_false h3, cond_false, cond_false, Bool.false_or]
 by_cases h4 : kRule = kind
 ·rw [decide_eq_true h4]; exact .inl ⟨b4, rfl, hA.h4⟩
 rw [decide_eq_false h4]
 exact .inr ⟨rfl, rfl, rfl⟩
def specAt (kind prop : List UInt8) : Option TG0 := mget (propsD kind) prop
theorem X_prop2 {t kt et : TypeId} {x ix : Operand} {k kind : List UInt8} {z : TG0} (hA : AllAt M b0 b1 b2 b3 b4) (hp : Hp w0 M H w) (ho : o.op = .lookup t x ix true) (hx : ρ x = .map (blkOf b1 b2 b3 b4 kind)) (hk : ρ ix = S k) (ht : P.underlying t = some (.map kt et)) (K : KeyLaw P kt S) (hz : (P.info? et).bind (·.zero) = some (specE z)) :
  (execOp ρ o).run P w = .ok (.value (.tuple #[specE ((specAt kind k).getD z), .bool (specAt kind k).isSome])) w := by
 rcases blk_at hA kind with ⟨b, h1, h2⟩ | ⟨h1, h2, _⟩
 ·rw [h1] at hx
  exact X_lookup2 (ek := S) (ev := specE) (m := propsD kind) (k := k) (z := z) ho hx hk ht K hz (hp.mem _ _ h2)
 ·rw [h1] at hx
  have := X_lookup_nil (ok := true) (enc := S) (k := k) ho hx hk ht K hz (w := w)
  rw [this]
  unfold specAt
  rw [h2]
  rfl
theorem X_prop1 {t kt et : TypeId} {x ix : Operand} {k kind : List UInt8} {z : TG0} (hA : AllAt M b0 b1 b2 b3 b4) (hp : Hp w0 M H w) (ho : o.op = .lookup t x ix false) (hx : ρ x = .map (blkOf b1 b2 b3 b4 kind)) (hk : ρ ix = S k) (ht : P.underlying t = some (.map kt et)) (K : KeyLaw P kt S) (hz : (P.info? et).bind (·.zero) = some (specE z)) :
  (execOp ρ o).run P w = .ok (.value (specE ((specAt kind k).getD z))) w := by
 rcases blk_at hA kind with ⟨b, h1, h2⟩ | ⟨h1, h2, _⟩
 ·rw [h1] at hx
  exact X_lookup1 (ek := S) (ev := specE) (m := propsD kind) (k := k) (z := z) ho hx hk ht K hz (hp.mem _ _ h2)
 ·rw [h1] at hx
  have := X_lookup_nil (ok := false) (enc := S) (k := k) ho hx hk ht K hz (w := w)
  rw [this]
  unfold specAt
  rw [h2]
  rfl
end
theorem X_lookupL {P : Program} {o : Oper} {ρ : Operand → Value} {w : World} {κ V : Type} [DecidableEq κ] {ek : κ → Value} {ev : V → Value} {t kt et : TypeId} {x ix : Operand} {b : Nat} {m : List (κ × V)} {k : κ} {z v : V} (ho : o.op = .lookup t x ix false) (hx : ρ x = .map (some b)) (hk : ρ ix = ek k) (ht : P.underlying t = some (.map kt et)) (K : KeyLaw P kt ek)
  (hz : (P.info? et).bind (·.zero) = some (ev z)) (hv : (mget m k).getD z = v) (hb : w.heap[b]? = some (mapO ek ev m)) : (execOp ρ o).run P w = .ok (.value (ev v)) w := by
 subst hv
 exact X_lookup1 ho hx hk ht K hz hb
theorem W_mapputL {P : Program} {ops : Array Oper} {n : Nat} {Q : Exit → Act → World → Prop} {L : Fr} {a : Act} {w0 w : World} {M : Mem} {H : List Ent} {κ V : Type} [DecidableEq κ] {ek : κ → Value} {ev : V → Value} {o : Oper} {rest : List Oper} {t kt et : TypeId} {x ix y : Operand} {b : Nat} {m m2 : List (κ × V)} {k : κ} {v : V} (hm : mput m k v = m2) (hf : Frm n L a) (hp : Hp w0 M (.obj b (mapO ek ev m) :: H) w) (hw : wantedL ops L o = some true) (hr : readyL L o = true) (hd : o.dst = none)
  (ho : o.op = .mapUpdate t x ix y ∨ o.op = .insert t x ix y) (hx : Vc.ev L x = .map (some b)) (hk : Vc.ev L ix = ek k) (hv : Vc.ev L y = ev v) (ht : P.underlying t = some (.map kt et)) (K : KeyLaw P kt ek)
  (hq : ∀ w', Hp w0 M (.obj b (mapO ek ev m2) :: H) w' → ∀ a', Frm n L a' → wpList P ops Q rest a' w') : wpList P ops Q (o :: rest) a w := by
 subst hm
 exact W_mapput hf hp hw hr hd ho hx hk hv ht K hq
theorem fzObj {w0 w : World} {M : Mem} {H : List Ent} {b : Nat} {o : Obj} (h : Hp w0 M (.obj b o :: H) w) : ∃ M', M.le M' ∧ Hp w0 M' H w ∧ M' b = some o :=
 ⟨_, h.freeze.1, h.freeze.2, by simp [Mem.add]⟩
theorem rounds_go {P : Program} {Q : Exit → Act → World → Prop} {c : Code} {n : Nat} {a : Act} {w : World} (h : c.wp P (Exit.then (Code.rounds P c Q n) Q) a w) : Code.rounds P c Q (n + 1) a w := h
set_option maxRecDepth 100000 in
set_option maxHeartbeats 4000000 in
theorem all_ok (M : Mem) : Ok Try.prog M 50 [] (fun M' v => ∃ b0 b1 b2 b3 b4, v = .map (some b0) ∧ AllAt M' b0 b1 b2 b3 b4) := by
 intro M1 hM0 w0 H w p0
 refine R_enter 47 Try.func50 rfl rfl (by simp) fun a0 f0 => RR (Y f0 1 fun _ f => eT (RR (W_newmap S mapE f p0 (by kernel_rfl) (by kernel_rfl) rfl rfl rfl fun bm_1 w_1 p_1 _ f => W_newmap S specE f p_1 (by kernel_rfl) (by kernel_rfl) rfl rfl rfl fun bm_2 w_2 p_2 _ f => ?_)))
 have p_3 := p_2.pl [1]
 refine W_mapputL (ek := S) (ev := mapE) (m := ([] : List (List UInt8 × Option Nat))) (k := [68, 105, 115, 107]) (v := some bm_2) (m2 := [([68, 105, 115, 107], some bm_2)]) (kt := 9) (et := 96) (by kernel_rfl) f p_3 (by kernel_rfl) (by kernel_rfl) rfl (.inr rfl) (by kernel_rfl) (by kernel_rfl) (by kernel_rfl) (by kernel_rfl) (strKey (by kernel_rfl)) fun w_3 p_4 _ f => W_newmap S specE f p_4 (by kernel_rfl) (by kernel_rfl) rfl rfl rfl fun bm_3 w_4 p_5 _ f => ?_
 have p_6 := p_5.pl [1]
 refine W_mapputL (ek := S) (ev := mapE) (m := [([68, 105, 115, 107], some bm_2)]) (k := [78, 101, 116]) (v := some bm_3) (m2 := [([68, 105, 115, 107], some bm_2), ([78, 101, 116], some bm_3)]) (kt := 9) (et := 96) (by kernel_rfl) f p_6 (by kernel_rfl) (by kernel_rfl) rfl (.inr rfl) (by kernel_rfl) (by kernel_rfl) (by kernel_rfl) (by kernel_rfl) (strKey (by kernel_rfl)) fun w_5 p_7 _ f => W_newmap S specE f p_7 (by kernel_rfl) (by kernel_rfl) rfl rfl rfl fun bm_4 w_6 p_8 _ f => ?_
 have p_9 := p_8.pl [1]
 refine W_mapputL (ek := S) (ev := mapE) (m := [([68, 105, 115, 107], some bm_2), ([78, 101, 116], some bm_3)]) (k := [78, 111, 100, 101]) (v := some bm_4) (m2 := [([68, 105, 115, 107], some bm_2), ([78, 101, 116], some bm_3), ([78, 111, 100, 101], some bm_4)]) (kt := 9) (et := 96) (by kernel_rfl) f p_9 (by kernel_rfl) (by kernel_rfl) rfl (.inr rfl) (by kernel_rfl) (by kernel_rfl) (by kernel_rfl) (by kernel_rfl) (strKey (by kernel_rfl)) fun w_7 p_10 _ f => W_newmap S specE f p_10 (by kernel_rfl) (by kernel_rfl) rfl rfl rfl fun bm_5 w_8 p_11 _ f => ?_
 have p_12 := p_11.pl [1]
 refine W_mapputL (ek := S) (ev := mapE) (m := [([68, 105, 115, 107], some bm_2), ([78, 101, 116], some bm_3), ([78, 111, 100, 101], some bm_4)]) (k := [82, 117, 108, 101]) (v := some bm_5) (m2 := [([68, 105, 115, 107], some bm_2), ([78, 101, 116], some bm_3), ([78, 111, 100, 101], some bm_4), ([82, 117, 108, 101], some bm_5)]) (kt := 9) (et := 96) (by kernel_rfl) f p_12 (by kernel_rfl) (by kernel_rfl) rfl (.inr rfl) (by kernel_rfl) (by kernel_rfl) (by kernel_rfl) (by kernel_rfl) (strKey (by kernel_rfl)) fun w_9 p_13 _ f => Y f 2 fun _ f => eT (R_seq (RR (Y f 24 fun _ f => eT (wp_block ?_))))
 refine wp_loop_rounds 12 (rounds_go (RR (Y f 1 fun _ f => eT (R_seq (Y7 f (wp_skip (T_n ?_)))))))
 refine R_seq (wp_block (RR (Y f 1 fun _ f => Y11 f p_13 (.cells #[S [], S [], .int .i8 0, .bool false] 124 (0, 0)) fun b_1 w_10 p_14 _ f => Y22 (vs := [S [68, 105, 115, 107], S [83, 105, 122, 101], .int .i8 2, .bool false]) (j := 0) f p_14 rfl rfl (by simp [Value.oneCell', S]) (by simp) (by decide) (cs' := #[S [68, 105, 115, 107], S [83, 105, 122, 101], .int .i8 2, .bool false]) rfl fun w_11 p_15 _ f => eT (R_reg (Y f 2 fun _ f => ?_)))))
 refine Z f (Y26 (v := S [68, 105, 115, 107]) rfl (ad := ⟨b_1, 0, none⟩) (p_15.ownCell 0 rfl 0)) fun _ f => Z (v := .map (some bm_2)) f (X_lookupL (ek := S) (ev := mapE) (m := [([68, 105, 115, 107], some bm_2), ([78, 101, 116], some bm_3), ([78, 111, 100, 101], some bm_4), ([82, 117, 108, 101], some bm_5)]) (k := [68, 105, 115, 107]) (z := none) (v := some bm_2) (kt := 9) (et := 96) rfl (by kernel_rfl) (by kernel_rfl) (by kernel_rfl) (strKey (by kernel_rfl)) (by kernel_rfl) (by kernel_rfl) (p_15.ownObj 1 rfl)) fun _ f => Y f 2 fun _ f => Z f (Y26 (v := S [83, 105, 122, 101]) rfl (ad := ⟨b_1, 1, none⟩) (p_15.ownCell 0 rfl 1)) fun _ f => Y f 1 fun _ f => Z (v := .agg #[S [83, 105, 122, 101], .int .i8 2, .bool false]) f (Y27 (cs := [S [83, 105, 122, 101], .int .i8 2, .bool false]) rfl (ad := ⟨b_1, 1, none⟩) (own_cells (p_15.ownCell 0 rfl) 1 rfl)) fun _ f => ?_
 have p_16 := p_15.pl [5]
 refine W_mapputL (ek := S) (ev := specE) (m := ([] : List (List UInt8 × TG0))) (k := [83, 105, 122, 101]) (v := ⟨[83, 105, 122, 101], 2, false⟩) (m2 := [([83, 105, 122, 101], ⟨[83, 105, 122, 101], 2, false⟩)]) (kt := 9) (et := 102) (by kernel_rfl) f p_16 (by kernel_rfl) (by kernel_rfl) rfl (.inl rfl) (by kernel_rfl) (by kernel_rfl) (by kernel_rfl) (by kernel_rfl) (strKey (by kernel_rfl)) fun w_12 p_17 _ f => W_end rfl (B_n (T_n (R_reg (Y f 2 fun _ f => eT (rounds_go (RR ?_))))))
 refine Y f 1 fun _ f => eT (R_seq (Y7 f (wp_skip (T_n (R_seq (wp_block (RR ?_)))))))
 refine Y f 1 fun _ f => Y11 f p_17 (.cells #[S [], S [], .int .i8 0, .bool false] 124 (0, 0)) fun b_2 w_13 p_18 _ f => Y22 (vs := [S [68, 105, 115, 107], S [84, 97, 103, 115], .int .i8 4, .bool false]) (j := 0) f p_18 rfl rfl (by simp [Value.oneCell', S]) (by simp) (by decide) (cs' := #[S [68, 105, 115, 107], S [84, 97, 103, 115], .int .i8 4, .bool false]) rfl fun w_14 p_19 _ f => eT (R_reg (Y f 2 fun _ f => Z f (Y26 (v := S [68, 105, 115, 107]) rfl (ad := ⟨b_2, 0, none⟩) (p_19.ownCell 0 rfl 0)) fun _ f => Z (v := .map (some bm_2)) f (X_lookupL (ek := S) (ev := mapE) (m := [([68, 105, 115, 107], some bm_2), ([78, 101, 116], some bm_3), ([78, 111, 100, 101], some bm_4), ([82, 117, 108, 101], some bm_5)]) (k := [68, 105, 115, 107]) (z := none) (v := some bm_2) (kt := 9) (et := 96) rfl (by kernel_rfl) (by kernel_rfl) (by kernel_rfl) (strKey (by kernel_rfl)) (by kernel_rfl) (by kernel_rfl) (p_19.ownObj 3 rfl)) fun _ f => Y f 2 fun _ f => Z f (Y26 (v := S [84, 97, 103, 115]) rfl (ad := ⟨b_2, 1, none⟩) (p_19.ownCell 0 rfl 1)) fun _ f => ?_))
 refine Y f 1 fun _ f => Z (v := .agg #[S [84, 97, 103, 115], .int .i8 4, .bool false]) f (Y27 (cs := [S [84, 97, 103, 115], .int .i8 4, .bool false]) rfl (ad := ⟨b_2, 1, none⟩) (own_cells (p_19.ownCell 0 rfl) 1 rfl)) fun _ f => ?_
 have p_20 := p_19.pl [1]
 refine W_mapputL (ek := S) (ev := specE) (m := [([83, 105, 122, 101], ⟨[83, 105, 122, 101], 2, false⟩)]) (k := [84, 97, 103, 115]) (v := ⟨[84, 97, 103, 115], 4, false⟩) (m2 := [([83, 105, 122, 101], ⟨[83, 105, 122, 101], 2, false⟩), ([84, 97, 103, 115], ⟨[84, 97, 103, 115], 4, false⟩)]) (kt := 9) (et := 102) (by kernel_rfl) f p_20 (by kernel_rfl) (by kernel_rfl) rfl (.inl rfl) (by kernel_rfl) (by kernel_rfl) (by kernel_rfl) (by kernel_rfl) (strKey (by kernel_rfl)) fun w_15 p_21 _ f => W_end rfl (B_n (T_n (R_reg (Y f 2 fun _ f => eT (rounds_go (RR ?_))))))
 refine Y f 1 fun _ f => eT (R_seq (Y7 f (wp_skip (T_n (R_seq (wp_block (RR ?_)))))))
 refine Y f 1 fun _ f => Y11 f p_21 (.cells #[S [], S [], .int .i8 0, .bool false] 124 (0, 0)) fun b_3 w_16 p_22 _ f => Y22 (vs := [S [68, 105, 115, 107], S [75, 105, 110, 100], .int .i8 3, .bool true]) (j := 0) f p_22 rfl rfl (by simp [Value.oneCell', S]) (by simp) (by decide) (cs' := #[S [68, 105, 115, 107], S [75, 105, 110, 100], .int .i8 3, .bool true]) rfl fun w_17 p_23 _ f => eT (R_reg (Y f 2 fun _ f => Z f (Y26 (v := S [68, 105, 115, 107]) rfl (ad := ⟨b_3, 0, none⟩) (p_23.ownCell 0 rfl 0)) fun _ f => Z (v := .map (some bm_2)) f (X_lookupL (ek := S) (ev := mapE) (m := [([68, 105, 115, 107], some bm_2), ([78, 101, 116], some bm_3), ([78, 111, 100, 101], some bm_4), ([82, 117, 108, 101], some bm_5)]) (k := [68, 105, 115, 107]) (z := none) (v := some bm_2) (kt := 9) (et := 96) rfl (by kernel_rfl) (by kernel_rfl) (by kernel_rfl) (strKey (by kernel_rfl)) (by kernel_rfl) (by kernel_rfl) (p_23.ownObj 4 rfl)) fun _ f => Y f 2 fun _ f => Z f (Y26 (v := S [75, 105, 110, 100]) rfl (ad := ⟨b_3, 1, none⟩) (p_23.ownCell 0 rfl 1)) fun _ f => ?_))
 refine Y f 1 fun _ f => Z (v := .agg #[S [75, 105, 110, 100], .int .i8 3, .bool true]) f (Y27 (cs := [S [75, 105, 110, 100], .int .i8 3, .bool true]) rfl (ad := ⟨b_3, 1, none⟩) (own_cells (p_23.ownCell 0 rfl) 1 rfl)) fun _ f => ?_
 have p_24 := p_23.pl [1]
 refine W_mapputL (ek := S) (ev := specE) (m := [([83, 105, 122, 101], ⟨[83, 105, 122, 101], 2, false⟩), ([84, 97, 103, 115], ⟨[84, 97, 103, 115], 4, false⟩)]) (k := [75, 105, 110, 100]) (v := ⟨[75, 105, 110, 100], 3, true⟩) (m2 := [([83, 105, 122, 101], ⟨[83, 105, 122, 101], 2, false⟩), ([84, 97, 103, 115], ⟨[84, 97, 103, 115], 4, false⟩), ([75, 105, 110, 100], ⟨[75, 105, 110, 100], 3, true⟩)]) (kt := 9) (et := 102) (by kernel_rfl) f p_24 (by kernel_rfl) (by kernel_rfl) rfl (.inl rfl) (by kernel_rfl) (by kernel_rfl) (by kernel_rfl) (by kernel_rfl) (strKey (by kernel_rfl)) fun w_18 p_25 _ f => W_end rfl (B_n (T_n (R_reg (Y f 2 fun _ f => eT (rounds_go (RR ?_))))))
 refine Y f 1 fun _ f => eT (R_seq (Y7 f (wp_skip (T_n (R_seq (wp_block (RR ?_)))))))
 refine Y f 1 fun _ f => Y11 f p_25 (.cells #[S [], S [], .int .i8 0, .bool false] 124 (0, 0)) fun b_4 w_19 p_26 _ f => Y22 (vs := [S [78, 101, 116], S [76, 97, 98, 101, 108], .int .i8 3, .bool false]) (j := 0) f p_26 rfl rfl (by simp [Value.oneCell', S]) (by simp) (by decide) (cs' := #[S [78, 101, 116], S [76, 97, 98, 101, 108], .int .i8 3, .bool false]) rfl fun w_20 p_27 _ f => eT (R_reg (Y f 2 fun _ f => Z f (Y26 (v := S [78, 101, 116]) rfl (ad := ⟨b_4, 0, none⟩) (p_27.ownCell 0 rfl 0)) fun _ f => Z (v := .map (some bm_3)) f (X_lookupL (ek := S) (ev := mapE) (m := [([68, 105, 115, 107], some bm_2), ([78, 101, 116], some bm_3), ([78, 111, 100, 101], some bm_4), ([82, 117, 108, 101], some bm_5)]) (k := [78, 101, 116]) (z := none) (v := some bm_3) (kt := 9) (et := 96) rfl (by kernel_rfl) (by kernel_rfl) (by kernel_rfl) (strKey (by kernel_rfl)) (by kernel_rfl) (by kernel_rfl) (p_27.ownObj 5 rfl)) fun _ f => Y f 2 fun _ f => Z f (Y26 (v := S [76, 97, 98, 101, 108]) rfl (ad := ⟨b_4, 1, none⟩) (p_27.ownCell 0 rfl 1)) fun _ f => ?_))
 refine Y f 1 fun _ f => Z (v := .agg #[S [76, 97, 98, 101, 108], .int .i8 3, .bool false]) f (Y27 (cs := [S [76, 97, 98, 101, 108], .int .i8 3, .bool false]) rfl (ad := ⟨b_4, 1, none⟩) (own_cells (p_27.ownCell 0 rfl) 1 rfl)) fun _ f => ?_
 have p_28 := p_27.pl [8]
 refine W_mapputL (ek := S) (ev := specE) (m := ([] : List (List UInt8 × TG0))) (k := [76, 97, 98, 101, 108]) (v := ⟨[76, 97, 98, 101, 108], 3, false⟩) (m2 := [([76, 97, 98, 101, 108], ⟨[76, 97, 98, 101, 108], 3, false⟩)]) (kt := 9) (et := 102) (by kernel_rfl) f p_28 (by kernel_rfl) (by kernel_rfl) rfl (.inl rfl) (by kernel_rfl) (by kernel_rfl) (by kernel_rfl) (by kernel_rfl) (strKey (by kernel_rfl)) fun w_21 p_29 _ f => W_end rfl (B_n (T_n (R_reg (Y f 2 fun _ f => eT (rounds_go (RR ?_))))))
 refine Y f 1 fun _ f => eT (R_seq (Y7 f (wp_skip (T_n (R_seq (wp_block (RR ?_)))))))
 refine Y f 1 fun _ f => Y11 f p_29 (.cells #[S [], S [], .int .i8 0, .bool false] 124 (0, 0)) fun b_5 w_22 p_30 _ f => Y22 (vs := [S [78, 101, 116], S [82, 97, 110, 103, 101], .int .i8 3, .bool true]) (j := 0) f p_30 rfl rfl (by simp [Value.oneCell', S]) (by simp) (by decide) (cs' := #[S [78, 101, 116], S [82, 97, 110, 103, 101], .int .i8 3, .bool true]) rfl fun w_23 p_31 _ f => eT (R_reg (Y f 2 fun _ f => Z f (Y26 (v := S [78, 101, 116]) rfl (ad := ⟨b_5, 0, none⟩) (p_31.ownCell 0 rfl 0)) fun _ f => Z (v := .map (some bm_3)) f (X_lookupL (ek := S) (ev := mapE) (m := [([68, 105, 115, 107], some bm_2), ([78, 101, 116], some bm_3), ([78, 111, 100, 101], some bm_4), ([82, 117, 108, 101], some bm_5)]) (k := [78, 101, 116]) (z := none) (v := some bm_3) (kt := 9) (et := 96) rfl (by kernel_rfl) (by kernel_rfl) (by kernel_rfl) (strKey (by kernel_rfl)) (by kernel_rfl) (by kernel_rfl) (p_31.ownObj 7 rfl)) fun _ f => Y f 2 fun _ f => Z f (Y26 (v := S [82, 97, 110, 103, 101]) rfl (ad := ⟨b_5, 1, none⟩) (p_31.ownCell 0 rfl 1)) fun _ f => ?_))
 refine Y f 1 fun _ f => Z (v := .agg #[S [82, 97, 110, 103, 101], .int .i8 3, .bool true]) f (Y27 (cs := [S [82, 97, 110, 103, 101], .int .i8 3, .bool true]) rfl (ad := ⟨b_5, 1, none⟩) (own_cells (p_31.ownCell 0 rfl) 1 rfl)) fun _ f => ?_
 have p_32 := p_31.pl [1]
 refine W_mapputL (ek := S) (ev := specE) (m := [([76, 97, 98, 101, 108], ⟨[76, 97, 98, 101, 108], 3, false⟩)]) (k := [82, 97, 110, 103, 101]) (v := ⟨[82, 97, 110, 103, 101], 3, true⟩) (m2 := [([76, 97, 98, 101, 108], ⟨[76, 97, 98, 101, 108], 3, false⟩), ([82, 97, 110, 103, 101], ⟨[82, 97, 110, 103, 101], 3, true⟩)]) (kt := 9) (et := 102) (by kernel_rfl) f p_32 (by kernel_rfl) (by kernel_rfl) rfl (.inl rfl) (by kernel_rfl) (by kernel_rfl) (by kernel_rfl) (by kernel_rfl) (strKey (by kernel_rfl)) fun w_24 p_33 _ f => W_end rfl (B_n (T_n (R_reg (Y f 2 fun _ f => eT (rounds_go (RR ?_))))))
 refine Y f 1 fun _ f => eT (R_seq (Y7 f (wp_skip (T_n (R_seq (wp_block (RR ?_)))))))
 refine Y f 1 fun _ f => Y11 f p_33 (.cells #[S [], S [], .int .i8 0, .bool false] 124 (0, 0)) fun b_6 w_25 p_34 _ f => Y22 (vs := [S [78, 111, 100, 101], S [67, 111, 117, 110, 116], .int .i8 2, .bool false]) (j := 0) f p_34 rfl rfl (by simp [Value.oneCell', S]) (by simp) (by decide) (cs' := #[S [78, 111, 100, 101], S [67, 111, 117, 110, 116], .int .i8 2, .bool false]) rfl fun w_26 p_35 _ f => eT (R_reg (Y f 2 fun _ f => Z f (Y26 (v := S [78, 111, 100, 101]) rfl (ad := ⟨b_6, 0, none⟩) (p_35.ownCell 0 rfl 0)) fun _ f => Z (v := .map (some bm_4)) f (X_lookupL (ek := S) (ev := mapE) (m := [([68, 105, 115, 107], some bm_2), ([78, 101, 116], some bm_3), ([78, 111, 100, 101], some bm_4), ([82, 117, 108, 101], some bm_5)]) (k := [78, 111, 100, 101]) (z := none) (v := some bm_4) (kt := 9) (et := 96) rfl (by kernel_rfl) (by kernel_rfl) (by kernel_rfl) (strKey (by kernel_rfl)) (by kernel_rfl) (by kernel_rfl) (p_35.ownObj 8 rfl)) fun _ f => Y f 2 fun _ f => Z f (Y26 (v := S [67, 111, 117, 110, 116]) rfl (ad := ⟨b_6, 1, none⟩) (p_35.ownCell 0 rfl 1)) fun _ f => ?_))
 refine Y f 1 fun _ f => Z (v := .agg #[S [67, 111, 117, 110, 116], .int .i8 2, .bool false]) f (Y27 (cs := [S [67, 111, 117, 110, 116], .int .i8 2, .bool false]) rfl (ad := ⟨b_6, 1, none⟩) (own_cells (p_35.ownCell 0 rfl) 1 rfl)) fun _ f => ?_
 have p_36 := p_35.pl [10]
 refine W_mapputL (ek := S) (ev := specE) (m := ([] : List (List UInt8 × TG0))) (k := [67, 111, 117, 110, 116]) (v := ⟨[67, 111, 117, 110, 116], 2, false⟩) (m2 := [([67, 111, 117, 110, 116], ⟨[67, 111, 117, 110, 116], 2, false⟩)]) (kt := 9) (et := 102) (by kernel_rfl) f p_36 (by kernel_rfl) (by kernel_rfl) rfl (.inl rfl) (by kernel_rfl) (by kernel_rfl) (by kernel_rfl) (by kernel_rfl) (strKey (by kernel_rfl)) fun w_27 p_37 _ f => W_end rfl (B_n (T_n (R_reg (Y f 2 fun _ f => eT (rounds_go (RR ?_))))))
 refine Y f 1 fun _ f => eT (R_seq (Y7 f (wp_skip (T_n (R_seq (wp_block (RR ?_)))))))
 refine Y f 1 fun _ f => Y11 f p_37 (.cells #[S [], S [], .int .i8 0, .bool false] 124 (0, 0)) fun b_7 w_28 p_38 _ f => Y22 (vs := [S [78, 111, 100, 101], S [68, 105, 115, 107], .int .i8 3, .bool false]) (j := 0) f p_38 rfl rfl (by simp [Value.oneCell', S]) (by simp) (by decide) (cs' := #[S [78, 111, 100, 101], S [68, 105, 115, 107], .int .i8 3, .bool false]) rfl fun w_29 p_39 _ f => eT (R_reg (Y f 2 fun _ f => Z f (Y26 (v := S [78, 111, 100, 101]) rfl (ad := ⟨b_7, 0, none⟩) (p_39.ownCell 0 rfl 0)) fun _ f => Z (v := .map (some bm_4)) f (X_lookupL (ek := S) (ev := mapE) (m := [([68, 105, 115, 107], some bm_2), ([78, 101, 116], some bm_3), ([78, 111, 100, 101], some bm_4), ([82, 117, 108, 101], some bm_5)]) (k := [78, 111, 100, 101]) (z := none) (v := some bm_4) (kt := 9) (et := 96) rfl (by kernel_rfl) (by kernel_rfl) (by kernel_rfl) (strKey (by kernel_rfl)) (by kernel_rfl) (by kernel_rfl) (p_39.ownObj 10 rfl)) fun _ f => Y f 2 fun _ f => Z f (Y26 (v := S [68, 105, 115, 107]) rfl (ad := ⟨b_7, 1, none⟩) (p_39.ownCell 0 rfl 1)) fun _ f => ?_))
 refine Y f 1 fun _ f => Z (v := .agg #[S [68, 105, 115, 107], .int .i8 3, .bool false]) f (Y27 (cs := [S [68, 105, 115, 107], .int .i8 3, .bool false]) rfl (ad := ⟨b_7, 1, none⟩) (own_cells (p_39.ownCell 0 rfl) 1 rfl)) fun _ f => ?_
 have p_40 := p_39.pl [1]
 refine W_mapputL (ek := S) (ev := specE) (m := [([67, 111, 117, 110, 116], ⟨[67, 111, 117, 110, 116], 2, false⟩)]) (k := [68, 105, 115, 107]) (v := ⟨[68, 105, 115, 107], 3, false⟩) (m2 := [([67, 111, 117, 110, 116], ⟨[67, 111, 117, 110, 116], 2, false⟩), ([68, 105, 115, 107], ⟨[68, 105, 115, 107], 3, false⟩)]) (kt := 9) (et := 102) (by kernel_rfl) f p_40 (by kernel_rfl) (by kernel_rfl) rfl (.inl rfl) (by kernel_rfl) (by kernel_rfl) (by kernel_rfl) (by kernel_rfl) (strKey (by kernel_rfl)) fun w_30 p_41 _ f => W_end rfl (B_n (T_n (R_reg (Y f 2 fun _ f => eT (rounds_go (RR ?_))))))
 refine Y f 1 fun _ f => eT (R_seq (Y7 f (wp_skip (T_n (R_seq (wp_block (RR ?_)))))))
 refine Y f 1 fun _ f => Y11 f p_41 (.cells #[S [], S [], .int .i8 0, .bool false] 124 (0, 0)) fun b_8 w_31 p_42 _ f => Y22 (vs := [S [78, 111, 100, 101], S [73, 109, 97, 103, 101], .int .i8 3, .bool true]) (j := 0) f p_42 rfl rfl (by simp [Value.oneCell', S]) (by simp) (by decide) (cs' := #[S [78, 111, 100, 101], S [73, 109, 97, 103, 101], .int .i8 3, .bool true]) rfl fun w_32 p_43 _ f => eT (R_reg (Y f 2 fun _ f => Z f (Y26 (v := S [78, 111, 100, 101]) rfl (ad := ⟨b_8, 0, none⟩) (p_43.ownCell 0 rfl 0)) fun _ f => Z (v := .map (some bm_4)) f (X_lookupL (ek := S) (ev := mapE) (m := [([68, 105, 115, 107], some bm_2), ([78, 101, 116], some bm_3), ([78, 111, 100, 101], some bm_4), ([82, 117, 108, 101], some bm_5)]) (k := [78, 111, 100, 101]) (z := none) (v := some bm_4) (kt := 9) (et := 96) rfl (by kernel_rfl) (by kernel_rfl) (by kernel_rfl) (strKey (by kernel_rfl)) (by kernel_rfl) (by kernel_rfl) (p_43.ownObj 11 rfl)) fun _ f => Y f 2 fun _ f => Z f (Y26 (v := S [73, 109, 97, 103, 101]) rfl (ad := ⟨b_8, 1, none⟩) (p_43.ownCell 0 rfl 1)) fun _ f => ?_))
 refine Y f 1 fun _ f => Z (v := .agg #[S [73, 109, 97, 103, 101], .int .i8 3, .bool true]) f (Y27 (cs := [S [73, 109, 97, 103, 101], .int .i8 3, .bool true]) rfl (ad := ⟨b_8, 1, none⟩) (own_cells (p_43.ownCell 0 rfl) 1 rfl)) fun _ f => ?_
 have p_44 := p_43.pl [1]
 refine W_mapputL (ek := S) (ev := specE) (m := [([67, 111, 117, 110, 116], ⟨[67, 111, 117, 110, 116], 2, false⟩), ([68, 105, 115, 107], ⟨[68, 105, 115, 107], 3, false⟩)]) (k := [73, 109, 97, 103, 101]) (v := ⟨[73, 109, 97, 103, 101], 3, true⟩) (m2 := [([67, 111, 117, 110, 116], ⟨[67, 111, 117, 110, 116], 2, false⟩), ([68, 105, 115, 107], ⟨[68, 105, 115, 107], 3, false⟩), ([73, 109, 97, 103, 101], ⟨[73, 109, 97, 103, 101], 3, true⟩)]) (kt := 9) (et := 102) (by kernel_rfl) f p_44 (by kernel_rfl) (by kernel_rfl) rfl (.inl rfl) (by kernel_rfl) (by kernel_rfl) (by kernel_rfl) (by kernel_rfl) (strKey (by kernel_rfl)) fun w_33 p_45 _ f => W_end rfl (B_n (T_n (R_reg (Y f 2 fun _ f => eT (rounds_go (RR ?_))))))
 refine Y f 1 fun _ f => eT (R_seq (Y7 f (wp_skip (T_n (R_seq (wp_block (RR ?_)))))))
 refine Y f 1 fun _ f => Y11 f p_45 (.cells #[S [], S [], .int .i8 0, .bool false] 124 (0, 0)) fun b_9 w_34 p_46 _ f => Y22 (vs := [S [78, 111, 100, 101], S [78, 101, 116], .int .i8 3, .bool true]) (j := 0) f p_46 rfl rfl (by simp [Value.oneCell', S]) (by simp) (by decide) (cs' := #[S [78, 111, 100, 101], S [78, 101, 116], .int .i8 3, .bool true]) rfl fun w_35 p_47 _ f => eT (R_reg (Y f 2 fun _ f => Z f (Y26 (v := S [78, 111, 100, 101]) rfl (ad := ⟨b_9, 0, none⟩) (p_47.ownCell 0 rfl 0)) fun _ f => Z (v := .map (some bm_4)) f (X_lookupL (ek := S) (ev := mapE) (m := [([68, 105, 115, 107], some bm_2), ([78, 101, 116], some bm_3), ([78, 111, 100, 101], some bm_4), ([82, 117, 108, 101], some bm_5)]) (k := [78, 111, 100, 101]) (z := none) (v := some bm_4) (kt := 9) (et := 96) rfl (by kernel_rfl) (by kernel_rfl) (by kernel_rfl) (strKey (by kernel_rfl)) (by kernel_rfl) (by kernel_rfl) (p_47.ownObj 12 rfl)) fun _ f => Y f 2 fun _ f => Z f (Y26 (v := S [78, 101, 116]) rfl (ad := ⟨b_9, 1, none⟩) (p_47.ownCell 0 rfl 1)) fun _ f => ?_))
 refine Y f 1 fun _ f => Z (v := .agg #[S [78, 101, 116], .int .i8 3, .bool true]) f (Y27 (cs := [S [78, 101, 116], .int .i8 3, .bool true]) rfl (ad := ⟨b_9, 1, none⟩) (own_cells (p_47.ownCell 0 rfl) 1 rfl)) fun _ f => ?_
 have p_48 := p_47.pl [1]
 refine W_mapputL (ek := S) (ev := specE) (m := [([67, 111, 117, 110, 116], ⟨[67, 111, 117, 110, 116], 2, false⟩), ([68, 105, 115, 107], ⟨[68, 105, 115, 107], 3, false⟩), ([73, 109, 97, 103, 101], ⟨[73, 109, 97, 103, 101], 3, true⟩)]) (k := [78, 101, 116]) (v := ⟨[78, 101, 116], 3, true⟩) (m2 := [([67, 111, 117, 110, 116], ⟨[67, 111, 117, 110, 116], 2, false⟩), ([68, 105, 115, 107], ⟨[68, 105, 115, 107], 3, false⟩), ([73, 109, 97, 103, 101], ⟨[73, 109, 97, 103, 101], 3, true⟩), ([78, 101, 116], ⟨[78, 101, 116], 3, true⟩)]) (kt := 9) (et := 102) (by kernel_rfl) f p_48 (by kernel_rfl) (by kernel_rfl) rfl (.inl rfl) (by kernel_rfl) (by kernel_rfl) (by kernel_rfl) (by kernel_rfl) (strKey (by kernel_rfl)) fun w_36 p_49 _ f => W_end rfl (B_n (T_n (R_reg (Y f 2 fun _ f => eT (rounds_go (RR ?_))))))
 refine Y f 1 fun _ f => eT (R_seq (Y7 f (wp_skip (T_n (R_seq (wp_block (RR ?_)))))))
 refine Y f 1 fun _ f => Y11 f p_49 (.cells #[S [], S [], .int .i8 0, .bool false] 124 (0, 0)) fun b_10 w_37 p_50 _ f => Y22 (vs := [S [82, 117, 108, 101], S [78, 111, 100, 101], .int .i8 3, .bool false]) (j := 0) f p_50 rfl rfl (by simp [Value.oneCell', S]) (by simp) (by decide) (cs' := #[S [82, 117, 108, 101], S [78, 111, 100, 101], .int .i8 3, .bool false]) rfl fun w_38 p_51 _ f => eT (R_reg (Y f 2 fun _ f => Z f (Y26 (v := S [82, 117, 108, 101]) rfl (ad := ⟨b_10, 0, none⟩) (p_51.ownCell 0 rfl 0)) fun _ f => Z (v := .map (some bm_5)) f (X_lookupL (ek := S) (ev := mapE) (m := [([68, 105, 115, 107], some bm_2), ([78, 101, 116], some bm_3), ([78, 111, 100, 101], some bm_4), ([82, 117, 108, 101], some bm_5)]) (k := [82, 117, 108, 101]) (z := none) (v := some bm_5) (kt := 9) (et := 96) rfl (by kernel_rfl) (by kernel_rfl) (by kernel_rfl) (strKey (by kernel_rfl)) (by kernel_rfl) (by kernel_rfl) (p_51.ownObj 13 rfl)) fun _ f => Y f 2 fun _ f => Z f (Y26 (v := S [78, 111, 100, 101]) rfl (ad := ⟨b_10, 1, none⟩) (p_51.ownCell 0 rfl 1)) fun _ f => ?_))
 refine Y f 1 fun _ f => Z (v := .agg #[S [78, 111, 100, 101], .int .i8 3, .bool false]) f (Y27 (cs := [S [78, 111, 100, 101], .int .i8 3, .bool false]) rfl (ad := ⟨b_10, 1, none⟩) (own_cells (p_51.ownCell 0 rfl) 1 rfl)) fun _ f => ?_
 have p_52 := p_51.pl [14]
 refine W_mapputL (ek := S) (ev := specE) (m := ([] : List (List UInt8 × TG0))) (k := [78, 111, 100, 101]) (v := ⟨[78, 111, 100, 101], 3, false⟩) (m2 := [([78, 111, 100, 101], ⟨[78, 111, 100, 101], 3, false⟩)]) (kt := 9) (et := 102) (by kernel_rfl) f p_52 (by kernel_rfl) (by kernel_rfl) rfl (.inl rfl) (by kernel_rfl) (by kernel_rfl) (by kernel_rfl) (by kernel_rfl) (strKey (by kernel_rfl)) fun w_39 p_53 _ f => W_end rfl (B_n (T_n (R_reg (Y f 2 fun _ f => eT (rounds_go (RR ?_))))))
 refine Y f 1 fun _ f => eT (R_seq (Y7 f (wp_skip (T_n (R_seq (wp_block (RR ?_)))))))
 refine Y f 1 fun _ f => Y11 f p_53 (.cells #[S [], S [], .int .i8 0, .bool false] 124 (0, 0)) fun b_11 w_40 p_54 _ f => Y22 (vs := [S [82, 117, 108, 101], S [80, 111, 114, 116], .int .i8 2, .bool true]) (j := 0) f p_54 rfl rfl (by simp [Value.oneCell', S]) (by simp) (by decide) (cs' := #[S [82, 117, 108, 101], S [80, 111, 114, 116], .int .i8 2, .bool true]) rfl fun w_41 p_55 _ f => eT (R_reg (Y f 2 fun _ f => Z f (Y26 (v := S [82, 117, 108, 101]) rfl (ad := ⟨b_11, 0, none⟩) (p_55.ownCell 0 rfl 0)) fun _ f => Z (v := .map (some bm_5)) f (X_lookupL (ek := S) (ev := mapE) (m := [([68, 105, 115, 107], some bm_2), ([78, 101, 116], some bm_3), ([78, 111, 100, 101], some bm_4), ([82, 117, 108, 101], some bm_5)]) (k := [82, 117, 108, 101]) (z := none) (v := some bm_5) (kt := 9) (et := 96) rfl (by kernel_rfl) (by kernel_rfl) (by kernel_rfl) (strKey (by kernel_rfl)) (by kernel_rfl) (by kernel_rfl) (p_55.ownObj 15 rfl)) fun _ f => Y f 2 fun _ f => Z f (Y26 (v := S [80, 111, 114, 116]) rfl (ad := ⟨b_11, 1, none⟩) (p_55.ownCell 0 rfl 1)) fun _ f => ?_))
 refine Y f 1 fun _ f => Z (v := .agg #[S [80, 111, 114, 116], .int .i8 2, .bool true]) f (Y27 (cs := [S [80, 111, 114, 116], .int .i8 2, .bool true]) rfl (ad := ⟨b_11, 1, none⟩) (own_cells (p_55.ownCell 0 rfl) 1 rfl)) fun _ f => ?_
 have p_56 := p_55.pl [1]
 refine W_mapputL (ek := S) (ev := specE) (m := [([78, 111, 100, 101], ⟨[78, 111, 100, 101], 3, false⟩)]) (k := [80, 111, 114, 116]) (v := ⟨[80, 111, 114, 116], 2, true⟩) (m2 := [([78, 111, 100, 101], ⟨[78, 111, 100, 101], 3, false⟩), ([80, 111, 114, 116], ⟨[80, 111, 114, 116], 2, true⟩)]) (kt := 9) (et := 102) (by kernel_rfl) f p_56 (by kernel_rfl) (by kernel_rfl) rfl (.inl rfl) (by kernel_rfl) (by kernel_rfl) (by kernel_rfl) (by kernel_rfl) (strKey (by kernel_rfl)) fun w_42 p_57 _ f => W_end rfl (B_n (T_n (R_reg (Y f 2 fun _ f => eT (rounds_go (RR ?_))))))
 refine Y f 1 fun _ f => eT (R_seq (Y6 f (wp_exit (T_x (T_x (B_x (T_n (R_seq ?_))))))))
 refine R_reg (Y f 2 fun _ f => eT (wp_ret ?_))
 have p_58 := p_57.pl [15]
 obtain ⟨M_1, hM_1, p_59, h_1⟩ := fzObj p_58
 have p_60 := p_59.pl [11]
 obtain ⟨M_2, hM_2, p_61, h_2⟩ := fzObj p_60
 have p_62 := p_61.pl [8]
 obtain ⟨M_3, hM_3, p_63, h_3⟩ := fzObj p_62
 have p_64 := p_63.pl [3]
 obtain ⟨M_4, hM_4, p_65, h_4⟩ := fzObj p_64
 obtain ⟨M_5, hM_5, p_66, h_5⟩ := fzObj p_65
 refine E_ret1 f rfl (by kernel_rfl : Vc.look _ 0 = some (.map (some bm_1))) ?_
 exact ⟨_, rfl, M_5, ((((hM_1.trans hM_2).trans hM_3).trans hM_4).trans hM_5), (p_66.dropN 11), bm_1, bm_2, bm_3, bm_4, bm_5, rfl, ⟨((((hM_2.trans hM_3).trans hM_4).trans hM_5) _ _ h_1), (((hM_3.trans hM_4).trans hM_5) _ _ h_2), ((hM_4.trans hM_5) _ _ h_3), (hM_5 _ _ h_4), h_5⟩⟩
end Go.Proofs.Ytpjgpnfdadpkkaa
end

section
namespace Go.Proofs
open Go.Shelf
def Try.keys67_ren : Go.Shelf.Ren := ⟨fun | 7 => 67 | 10 => 85 | n => n, fun | 23 => 96 | 26 => 9 | 3 => 102 | 28 => 128 | 0 => 0 | 27 => 127 | 33 => 83 | 4 => 4 | n => n, fun | n => n⟩
theorem Try.keys67 : Go.Proofs.SlLaysZ.n7 Try.prog Try.keys67_ren := {
 mixed := by kernel_rfl
 f7 := ⟨Try.f67.name, by decide, Try.func67.trans (congrArg some (by kernel_rfl))⟩
 f10 := ⟨Try.f85.name, by decide, Try.func85.trans (congrArg some (by kernel_rfl))⟩
 t0 := Try.underlying0
 a0 := Try.isAgg0
 z0 := Try.sizeOf0
 v0 := Try.zeroValue0
 t4 := Try.underlying4
 a4 := Try.isAgg4
 z4 := Try.sizeOf4
 v4 := Try.zeroValue4
 t23 := Try.underlying96
 a23 := Try.isAgg96
 z23 := Try.sizeOf96
 v23 := Try.zeroValue96
 t26 := Try.underlying9
 a26 := Try.isAgg9
 z26 := Try.sizeOf9
 v26 := Try.zeroValue9
 t27 := Try.underlying127
 a27 := Try.isAgg127
 z27 := Try.sizeOf127
 v27 := Try.zeroValue127
 t28 := Try.underlying128
 a28 := Try.isAgg128
 z28 := Try.sizeOf128
 v28 := Try.zeroValue128
 t33 := Try.underlying83
 a33 := Try.isAgg83
 z33 := Try.sizeOf83
 v33 := Try.zeroValue83 }
def Try.sorted66_ren : Go.Shelf.Ren := ⟨fun | 6 => 66 | 8 => 84 | 9 => 49 | 11 => 95 | 13 => 65 | 12 => 64 | 23 => 82 | 24 => 83 | 14 => 73 | 15 => 74 | 16 => 75 | 17 => 76 | 18 => 77 | 19 => 78 | 20 => 79 | 21 => 80 | 22 => 81 | 25 => 89 | 26 => 90 | 27 => 91 | 28 => 92 | 29 => 93 | 30 => 94 | 31 => 96 | n => n, fun | 26 => 9 | 28 => 128 | 24 => 39 | 0 => 0 | 3 => 3 | 37 => 123 | 48 => 143 | 50 => 145 | 4 => 4 | 40 => 135 | 39 => 134 | 45 => 140 | 5 => 5 | 9 => 9 | 51 => 149 | 55 => 153 | 57 => 156 | 58 => 157 | 33 => 83 | n => n, fun | n => n⟩
theorem Try.sorted66 : Go.Proofs.SlLaysZ.n6 Try.prog Try.sorted66_ren := {
 mixed := by kernel_rfl
 f6 := ⟨Try.f66.name, by decide, Try.func66.trans (congrArg some (by kernel_rfl))⟩
 f8 := ⟨Try.f84.name, by decide, Try.func84.trans (congrArg some (by kernel_rfl))⟩
 f11 := ⟨Try.f95.name, by decide, Try.func95.trans (congrArg some (by kernel_rfl))⟩
 t0 := Try.underlying0
 a0 := Try.isAgg0
 z0 := Try.sizeOf0
 v0 := Try.zeroValue0
 t24 := Try.underlying39
 a24 := Try.isAgg39
 z24 := Try.sizeOf39
 v24 := Try.zeroValue39
 t26 := Try.underlying9
 a26 := Try.isAgg9
 z26 := Try.sizeOf9
 v26 := Try.zeroValue9
 t28 := Try.underlying128
 a28 := Try.isAgg128
 z28 := Try.sizeOf128
 v28 := Try.zeroValue128
 i26 := by kernel_rfl }
def Try.sort49_ren : Go.Shelf.Ren := ⟨fun | 6 => 49 | 8 => 65 | 9 => 64 | 19 => 82 | 20 => 83 | 21 => 73 | 22 => 74 | 23 => 75 | 24 => 76 | 25 => 77 | 26 => 78 | 27 => 79 | 28 => 80 | 29 => 81 | 36 => 89 | 31 => 90 | 32 => 91 | 37 => 92 | 38 => 93 | 39 => 94 | 41 => 96 | n => n, fun | 27 => 39 | 29 => 9 | 3 => 3 | 32 => 123 | 26 => 39 | 0 => 0 | 44 => 143 | 46 => 145 | 4 => 4 | 36 => 135 | 35 => 134 | 41 => 140 | 5 => 5 | 9 => 9 | 53 => 149 | 57 => 153 | 63 => 156 | 64 => 157 | n => n, fun | n => n⟩
theorem Try.sort49 : Go.Proofs.SlLaysM.n6 Try.prog Try.sort49_ren := {
 mixed := by kernel_rfl
 f6 := ⟨Try.f49.name, by decide, Try.func49.trans (congrArg some (by kernel_rfl))⟩
 f8 := Try.func65.trans (congrArg some (by kernel_rfl))
 f9 := ⟨Try.f64.name, by decide, Try.func64.trans (congrArg some (by kernel_rfl))⟩
 f19 := Try.func82.trans (congrArg some (by kernel_rfl))
 f20 := Try.func83.trans (congrArg some (by kernel_rfl))
 f21 := ⟨Try.f73.name, by decide, Try.func73.trans (congrArg some (by kernel_rfl))⟩
 f22 := ⟨Try.f74.name, by decide, Try.func74.trans (congrArg some (by kernel_rfl))⟩
 f23 := ⟨Try.f75.name, by decide, Try.func75.trans (congrArg some (by kernel_rfl))⟩
 f24 := ⟨Try.f76.name, by decide, Try.func76.trans (congrArg some (by kernel_rfl))⟩
 f25 := ⟨Try.f77.name, by decide, Try.func77.trans (congrArg some (by kernel_rfl))⟩
 f26 := ⟨Try.f78.name, by decide, Try.func78.trans (congrArg some (by kernel_rfl))⟩
 f27 := ⟨Try.f79.name, by decide, Try.func79.trans (congrArg some (by kernel_rfl))⟩
 f28 := ⟨Try.f80.name, by decide, Try.func80.trans (congrArg some (by kernel_rfl))⟩
 f29 := ⟨Try.f81.name, by decide, Try.func81.trans (congrArg some (by kernel_rfl))⟩
 f31 := Try.func90.trans (congrArg some (by kernel_rfl))
 f32 := Try.func91.trans (congrArg some (by kernel_rfl))
 f36 := ⟨Try.f89.name, by decide, Try.func89.trans (congrArg some (by kernel_rfl))⟩
 f37 := ⟨Try.f92.name, by decide, Try.func92.trans (congrArg some (by kernel_rfl))⟩
 f38 := ⟨Try.f93.name, by decide, Try.func93.trans (congrArg some (by kernel_rfl))⟩
 f39 := ⟨Try.f94.name, by decide, Try.func94.trans (congrArg some (by kernel_rfl))⟩
 f41 := ⟨Try.f96.name, by decide, Try.func96.trans (congrArg some (by kernel_rfl))⟩
 t0 := Try.underlying0
 a0 := Try.isAgg0
 z0 := Try.sizeOf0
 v0 := Try.zeroValue0
 t3 := Try.underlying3
 a3 := Try.isAgg3
 z3 := Try.sizeOf3
 v3 := Try.zeroValue3
 t4 := Try.underlying4
 a4 := Try.isAgg4
 z4 := Try.sizeOf4
 v4 := Try.zeroValue4
 t5 := Try.underlying5
 a5 := Try.isAgg5
 z5 := Try.sizeOf5
 v5 := Try.zeroValue5
 t9 := Try.underlying9
 a9 := Try.isAgg9
 z9 := Try.sizeOf9
 v9 := Try.zeroValue9
 t26 := Try.underlying39
 a26 := Try.isAgg39
 z26 := Try.sizeOf39
 v26 := Try.zeroValue39
 t27 := Try.underlying39
 a27 := Try.isAgg39
 z27 := Try.sizeOf39
 v27 := Try.zeroValue39
 t29 := Try.underlying9
 a29 := Try.isAgg9
 z29 := Try.sizeOf9
 v29 := Try.zeroValue9
 t32 := Try.underlying123
 a32 := Try.isAgg123
 z32 := Try.sizeOf123
 v32 := Try.zeroValue123
 t35 := Try.underlying134
 a35 := Try.isAgg134
 z35 := Try.sizeOf134
 v35 := Try.zeroValue134
 t36 := Try.underlying135
 a36 := Try.isAgg135
 z36 := Try.sizeOf135
 v36 := Try.zeroValue135
 t41 := Try.underlying140
 a41 := Try.isAgg140
 z41 := Try.sizeOf140
 v41 := Try.zeroValue140
 t44 := Try.underlying143
 a44 := Try.isAgg143
 z44 := Try.sizeOf143
 v44 := Try.zeroValue143
 t46 := Try.underlying145
 a46 := Try.isAgg145
 z46 := Try.sizeOf145
 v46 := Try.zeroValue145
 t53 := Try.underlying149
 a53 := Try.isAgg149
 z53 := Try.sizeOf149
 v53 := Try.zeroValue149
 t57 := Try.underlying153
 a57 := Try.isAgg153
 z57 := Try.sizeOf153
 v57 := Try.zeroValue153
 t63 := Try.underlying156
 a63 := Try.isAgg156
 z63 := Try.sizeOf156
 v63 := Try.zeroValue156
 t64 := Try.underlying157
 a64 := Try.isAgg157
 z64 := Try.sizeOf157
 v64 := Try.zeroValue157 }
end Go.Proofs
end

section
namespace Go.Proofs
open Go.RowKit Go.Maps Go.Sort Go.Shelf
theorem Try.sorts66 (m : Nat) : AnyZ.SortsIn Try.prog Try.sorted66_ren Fence.wide m :=
  ⟨fun blk off cap ss W hH hblk hsz => callsIn_wide.2 (AnyM.slices_Sort_string Try.sort49 blk off cap ss W hH hblk hsz),
   fun p cap W => callsIn_wide.2 (AnyM.slices_Sort_string_none Try.sort49 p cap W)⟩
theorem Try.maps_Keys_67 (mb : Option Nat) (W : World) : CallsIn Fence.wide 5 Try.prog 67 #[.map mb] W fun e w' => e = .returned (.func (.func 85) #[] #[.pointer (some ⟨W.heap.size, 0, none⟩)]) ∧ w' = W.alloc (.cells #[.map mb] 96) :=
 AnyZ.keys_in Try.keys67 Fence.wide 5 trivial rfl mb W
set_option maxHeartbeats 1000000 in
theorem Try.slices_Sorted_keys_66_67 {H : Type} (b nn : Nat) (D0 : DataW H) (R : Value → Option (DataW H × List MemPlace)) (w : World) (hown : w.ownsMap Try.prog 9 R b nn D0) (hmax : Maps.size D0 ≤ maxLen) (hbytes : Maps.size D0 * 16 ≤ 140737488355328) :
  CallsIn Fence.wide 5 Try.prog 66 #[.func (.func 85) #[] #[.pointer (some ⟨w.heap.size, 0, none⟩)]] (w.alloc (.cells #[.map (some b)] 96)) fun e w' => ∃ (v : Value) (ss : List (List UInt8)), e = .returned v ∧ ss.Perm (strKeys D0) ∧
   w'.ownsRow (w.alloc (.cells #[.map (some b)] 96)).heap.size 9 1 v ss.length ((ss.mergeSort (fun x y => decide (x ≤ y))).map encStr) ∧ (v = .slice none 0 0 ↔ ss = []) ∧ Below (w.alloc (.cells #[.map (some b)] 96)).heap.size (w.alloc (.cells #[.map (some b)] 96)) w' := by
 have hbl := hown.lt
 have hseq : SeqGives Fence.wide 2 Try.prog 85 #[.pointer (some ⟨w.heap.size, 0, none⟩)] encStr (fun ss => ss.Perm (strKeys D0)) (Maps.size D0) (w.alloc (.cells #[.map (some b)] 96)) :=
  AnyZ.keys_gives (ρ := Try.keys67_ren) { Try.keys67 with } Fence.wide _ trivial rfl (by omega) w.heap.size b nn D0 _ (by simp) (by simp) (by
   obtain ⟨es, clock, hb, Ft, hs, hD⟩ := hown
   exact ⟨es, clock, (Below.heap_alloc _ _ b hbl).trans hb, Ft, hs, hD⟩)
 exact AnyZ.sorted_in Try.sorted66 Fence.wide 5 trivial trivial trivial trivial rfl (by omega) (Try.sorts66 _) (enters_of Try.func49 (by kernel_rfl) rfl) 85 #[.pointer (some ⟨w.heap.size, 0, none⟩)] trivial (enters_of Try.func85 (by kernel_rfl) rfl) _ _ hmax hbytes _ hseq
set_option maxHeartbeats 1000000 in
theorem Try.slices_Sorted_keys_nil_66_67 (w : World) :
  CallsIn Fence.wide 5 Try.prog 66 #[.func (.func 85) #[] #[.pointer (some ⟨w.heap.size, 0, none⟩)]] (w.alloc (.cells #[.map none] 96)) fun e w' => ∃ (v : Value) (ss : List (List UInt8)), e = .returned v ∧ ss = [] ∧
   w'.ownsRow (w.alloc (.cells #[.map none] 96)).heap.size 9 1 v ss.length ((ss.mergeSort (fun x y => decide (x ≤ y))).map encStr) ∧ (v = .slice none 0 0 ↔ ss = []) ∧ Below (w.alloc (.cells #[.map none] 96)).heap.size (w.alloc (.cells #[.map none] 96)) w' := by
 have hseq : SeqGives Fence.wide 2 Try.prog 85 #[.pointer (some ⟨w.heap.size, 0, none⟩)] encStr (fun ss : List (List UInt8) => ss = []) 0 (w.alloc (.cells #[.map none] 96)) :=
  AnyZ.keys_gives_nil (ρ := Try.keys67_ren) { Try.keys67 with } Fence.wide _ trivial rfl w.heap.size _ (by simp) (by simp)
 exact AnyZ.sorted_in Try.sorted66 Fence.wide 5 trivial trivial trivial trivial rfl (by omega) (Try.sorts66 _) (enters_of Try.func49 (by kernel_rfl) rfl) 85 #[.pointer (some ⟨w.heap.size, 0, none⟩)] trivial (enters_of Try.func85 (by kernel_rfl) rfl) _ 0 (Nat.zero_le _) (by omega) _ hseq
end Go.Proofs
end

section
namespace Go.Proofs.Ytpjgpnfdadpkkaa
open Go Go.Vc Go.RowKit Go.Maps Go.Sort
def namesS (kind : List UInt8) : List (List UInt8) := bif decide (kDisk = kind) then [[75, 105, 110, 100], [83, 105, 122, 101], [84, 97, 103, 115]] else bif decide (kNet = kind) then [[76, 97, 98, 101, 108], [82, 97, 110, 103, 101]] else bif decide (kNode = kind) then [[67, 111, 117, 110, 116], [68, 105, 115, 107], [73, 109, 97, 103, 101], [78, 101, 116]] else bif decide (kRule = kind) then [[78, 111, 100, 101], [80, 111, 114, 116]] else []
def RU : Value → Option (DataW Empty × List MemPlace) := fun _ => some (.nil, [])
def entsO {V : Type} (ev : V → Value) (d : List (List UInt8 × V)) : List MapEntry := (d.map fun p => (p.1, ev p.2)).zipIdx.map (mEnt S)
theorem S_inj {a b : List UInt8} (h : S a = S b) : a = b := by
 have := congrArg (fun v => match v with | .string s => s.data.toList | _ => []) h
 simpa [S, mkS] using this
theorem fit_mapO {P : Program} {k : TypeId} (hk : P.underlying k = some .string) {V : Type} (ev : V → Value) (d : List (List UInt8 × V)) (hn : (d.map (·.1)).Nodup) (hl : d.length ≤ maxLen) (hkl : ∀ p ∈ d, p.1.length ≤ maxLen) :
  WideElems.Fit P k RU (entsO ev d).toArray d.length := by
 refine ⟨by simp [entsO]; exact hl, ⟨fun x hx => ?_, ?_, ?_⟩, fun x hx => ?_⟩
 ·simp only [entsO, List.toList_toArray, List.mem_map] at hx
  obtain ⟨⟨p, i⟩, hp, rfl⟩ := hx
  have := List.mem_zipIdx hp
  simp [mEnt] at this ⊢
  omega
 ·have : ((entsO ev d).toArray.toList.map (·.born)) = List.range' 0 d.length := by
   simp only [entsO, List.map_map]
   have h := List.zipIdx_map_snd 0 (d.map fun p => (p.1, ev p.2))
   rw [List.length_map] at h
   exact h
  rw [this]
  exact List.nodup_range'
 ·have : ((entsO ev d).toArray.toList.map (·.key)) = d.map fun p => S p.1 := by
   simp only [entsO, List.map_map]
   have h := congrArg (List.map fun p : List UInt8 × Value => S p.1) (List.zipIdx_map_fst 0 (d.map fun p => (p.1, ev p.2)))
   rw [List.map_map, List.map_map] at h
   exact h
  rw [this]
  have h := List.Pairwise.map (f := S) (S := fun a b => a ≠ b) (fun a b (hab : a ≠ b) e => hab (S_inj e)) hn
  rwa [List.map_map] at h
 ·simp only [entsO, List.toList_toArray, List.mem_map] at hx
  obtain ⟨⟨p, i⟩, hp, rfl⟩ := hx
  have h1 := List.fst_mem_of_mem_zipIdx hp
  obtain ⟨q, hq, rfl⟩ := List.mem_map.1 h1
  have hle := hkl q hq
  refine ⟨(.string q.1, .nil), ?_⟩
  have hs : (mkS q.1).size ≤ maxLen := hle
  simp [WideElems.rd, mEnt, keyOf, hk, mapKey, S, RU]
  have hs2 : ({ data := q.fst.toArray } : ByteArray).size ≤ maxLen := hs
  rw [if_pos hs2]; rfl
def datO {P : Program} {k : TypeId} {V : Type} (ev : V → Value) (d : List (List UInt8 × V)) : DataW Empty := .map (((entsO ev d).map (WideElems.rg P k RU)).foldr DataW.insert [])
theorem owns_mapO {P : Program} {k : TypeId} (hk : P.underlying k = some .string) {V : Type} {ev : V → Value} {d : List (List UInt8 × V)} {w : World} {b : Nat} (hb : w.heap[b]? = some (mapO S ev d)) (hn : (d.map (·.1)).Nodup) (hl : d.length ≤ maxLen) (hkl : ∀ p ∈ d, p.1.length ≤ maxLen) :
  w.ownsMap P k RU b d.length (datO (P := P) (k := k) ev d) := by
 refine ⟨(entsO ev d).toArray, d.length, ?_, fit_mapO hk ev d hn hl hkl, by simp [entsO], rfl⟩
 rw [hb]
 unfold mapO mObj entsO
 rw [List.length_map]
theorem repStrs {M : Mem} : ∀ T : List (List UInt8), RepSeq M (T.map Dat.str) (T.map encStr)
 | [] => rfl
 | t :: r => ⟨[S t], r.map encStr, rfl, rfl, repStrs r⟩
theorem leB_sorted {T : List (List UInt8)} (h : T.Pairwise fun a b => leB a b = true) {ss : List (List UInt8)} (hp : ss.Perm T) : ss.mergeSort leB = T := by
 rw [mergeSort_of_perm hp]
 exact List.mergeSort_of_pairwise h
theorem rising_of {M : Mem} {b fid : Nat} {o : Obj} {T : List (List UInt8)} (hb : M b = some o) (hT : T.Pairwise fun a b => leB a b = true)
  (h : ∀ w : World, w.heap[b]? = some o → Calls Try.prog fid [.map (some b)].toArray w fun e w' => ∃ (v : Value) (ss : List (List UInt8)), e = .returned v ∧ ss.Perm T ∧ w'.ownsRow w.heap.size 9 1 v ss.length ((ss.mergeSort leB).map encStr) ∧ Below w.heap.size w w') :
  Ok Try.prog M fid [.map (some b)] (fun M' v => ∃ A cap, v = .slice A T.length cap ∧ Sli M' 1 Dat.str A cap T) := by
 intro M2 hM w0 H w hp
 refine (h w (hp.mem _ _ (hM _ _ hb))).mono ?_
 rintro e w' ⟨v, ss, rfl, hperm, hrow, hbel⟩
 rw [leB_sorted hT hperm, hperm.length_eq] at hrow
 have p2 := hp.newRow hrow ⟨hbel.os, hbel.tape, hbel.output, hbel.size, fun k hk _ => hbel.block k hk⟩
 obtain ⟨A, cap, M', hv, hM', p3, hs⟩ := p2.rowSli (f := Dat.str) (xs := T) szd_str (repStrs T)
 exact ⟨v, rfl, M', hM', p3, A, cap, hv, hs⟩
theorem perm_P {V : Type} {ev : V → Value} {d : List (List UInt8 × V)} {T K : List (List UInt8)} {ss : List (List UInt8)} (h : ss.Perm (strKeys (datO (P := Try.prog) (k := 9) ev d))) (e : strKeys (datO (P := Try.prog) (k := 9) ev d) = K) (hK : K.Perm T) : ss.Perm T := by rw [e] at h; exact h.trans hK
set_option maxHeartbeats 1000000 in
theorem walkP {d : List (List UInt8 × TG0)} {T K : List (List UInt8)} (hn : (d.map (·.1)).Nodup) (hl : d.length ≤ maxLen) (hkl : ∀ p ∈ d, p.1.length ≤ maxLen) (e : strKeys (datO (P := Try.prog) (k := 9) specE d) = K) (hK : K.Perm T) (hs1 : Maps.size (datO (P := Try.prog) (k := 9) specE d) ≤ maxLen) (hs2 : Maps.size (datO (P := Try.prog) (k := 9) specE d) * 16 ≤ 140737488355328) (b : Nat) (w : World) (hb : w.heap[b]? = some (mapO S specE d)) :
  Calls Try.prog 51 [.map (some b)].toArray w fun e w' => ∃ (v : Value) (ss : List (List UInt8)), e = .returned v ∧ ss.Perm T ∧ w'.ownsRow w.heap.size 9 1 v ss.length ((ss.mergeSort leB).map encStr) ∧ Below w.heap.size w w' := by
 have hown := owns_mapO (P := Try.prog) (k := 9) Try.underlying9 (ev := specE) hb hn hl hkl
 refine (callsIn_wide (n := 6)).1 ?_
 have hfK : Fence.wide.fn 67 := trivial
 have hfS : Fence.wide.fn 66 := trivial
 refine callsIn_of_wp Try.func51 rfl trivial ?_ rfl
 simp only [Try.ntmps51, List.size_toArray, List.length_cons, List.length_nil, Nat.reduceAdd, Nat.reduceSub, Array.replicate_succ, Array.replicate_zero, List.push_toArray, List.append_toArray, List.nil_append, List.cons_append]
 gi_wp2_with (first
  | (gi_at_call 67; refine (Try.maps_Keys_67 _ _).mono ?_; rintro e w' ⟨rfl, rfl⟩)
  | (gi_at_call 66; refine (Try.slices_Sorted_keys_66_67 b _ _ RU w hown hs1 hs2).mono ?_; rintro e w' ⟨v, ss, rfl, hS, hrow, hnil, hb⟩))
 go_ret
 exact ⟨v, ss, rfl, perm_P hS e hK, ownsRow_base_a hrow (by simp), ((Below.refl _ w).alloc (Nat.le_refl _) _).trans (hb.mono (by simp))⟩
set_option maxHeartbeats 1000000 in
theorem walkN (w : World) : Calls Try.prog 51 [.map none].toArray w fun e w' => e = .returned (.slice none 0 0) ∧ Below w.heap.size w w' := by
 refine (callsIn_wide (n := 6)).1 ?_
 have hfK : Fence.wide.fn 67 := trivial
 have hfS : Fence.wide.fn 66 := trivial
 refine callsIn_of_wp Try.func51 rfl trivial ?_ rfl
 simp only [Try.ntmps51, List.size_toArray, List.length_cons, List.length_nil, Nat.reduceAdd, Nat.reduceSub, Array.replicate_succ, Array.replicate_zero, List.push_toArray, List.append_toArray, List.nil_append, List.cons_append]
 gi_wp2_with (first
  | (gi_at_call 67; refine (Try.maps_Keys_67 _ _).mono ?_; rintro e w' ⟨rfl, rfl⟩)
  | (gi_at_call 66; refine (Try.slices_Sorted_keys_nil_66_67 w).mono ?_; rintro e w' ⟨v, ss, rfl, hS, hrow, hnil, hb⟩))
 go_ret
 exact ⟨by rw [hnil.2 hS]; rfl, ((Below.refl _ w).alloc (Nat.le_refl _) _).trans (hb.mono (by simp))⟩
theorem risingP_ok {M : Mem} {b0 b1 b2 b3 b4 : Nat} (kind : List UInt8) (hA : AllAt M b0 b1 b2 b3 b4) : Ok Try.prog M 51 [.map (blkOf b1 b2 b3 b4 kind)] (fun M' v => ∃ A cap, v = .slice A (namesS kind).length cap ∧ Sli M' 1 Dat.str A cap (namesS kind)) := by
 unfold blkOf namesS
 by_cases h1 : kDisk = kind
 ·rw [decide_eq_true h1, cond_true, cond_true]
  exact rising_of hA.h1 (by decide) fun w hb => walkP (K := [[75, 105, 110, 100], [83, 105, 122, 101], [84, 97, 103, 115]]) (by simp [dDisk]) (by simp [dDisk, maxLen]) (by simp [dDisk, maxLen]) (by kernel_rfl) (List.Perm.refl _) (of_decide_eq_true (by kernel_rfl)) (of_decide_eq_true (by kernel_rfl)) b1 w hb
 rw [decide_eq_false h1, cond_false, cond_false]
 by_cases h2 : kNet = kind
 ·rw [decide_eq_true h2, cond_true, cond_true]
  exact rising_of hA.h2 (by decide) fun w hb => walkP (K := [[76, 97, 98, 101, 108], [82, 97, 110, 103, 101]]) (by simp [dNet]) (by simp [dNet, maxLen]) (by simp [dNet, maxLen]) (by kernel_rfl) (List.Perm.refl _) (of_decide_eq_true (by kernel_rfl)) (of_decide_eq_true (by kernel_rfl)) b2 w hb
 rw [decide_eq_false h2, cond_false, cond_false]
 by_cases h3 : kNode = kind
 ·rw [decide_eq_true h3, cond_true, cond_true]
  exact rising_of hA.h3 (by decide) fun w hb => walkP (K := [[67, 111, 117, 110, 116], [68, 105, 115, 107], [73, 109, 97, 103, 101], [78, 101, 116]]) (by simp [dNode]) (by simp [dNode, maxLen]) (by simp [dNode, maxLen]) (by kernel_rfl) (List.Perm.refl _) (of_decide_eq_true (by kernel_rfl)) (of_decide_eq_true (by kernel_rfl)) b3 w hb
 rw [decide_eq_false h3, cond_false, cond_false]
 by_cases h4 : kRule = kind
 ·rw [decide_eq_true h4, cond_true, cond_true]
  exact rising_of hA.h4 (by decide) fun w hb => walkP (K := [[78, 111, 100, 101], [80, 111, 114, 116]]) (by simp [dRule]) (by simp [dRule, maxLen]) (by simp [dRule, maxLen]) (by kernel_rfl) (List.Perm.refl _) (of_decide_eq_true (by kernel_rfl)) (of_decide_eq_true (by kernel_rfl)) b4 w hb
 rw [decide_eq_false h4, cond_false, cond_false]
 intro M2 hM w0 H w hp
 refine (walkN w).mono ?_
 rintro e w' ⟨rfl, hb⟩
 exact ⟨_, rfl, M2, Mem.le_refl _, hp.newer hb, none, 0, rfl, Sli.nil⟩
end Go.Proofs.Ytpjgpnfdadpkkaa
end

section
namespace Go.Proofs.Ytpjgpnfdadpkkaa
open Go Go.Vc Go.RowKit
def schema_Find (n : Nat) (d0 : List UInt8) (d1 : List UInt8) : Option (TG0 × Bool) :=
  some ((((specAt d0 d1).getD z_TG0), ((specAt d0 d1).isSome)))
theorem schema_Find_ok (n : Nat) (M : Mem) (d0 : List UInt8) (d1 : List UInt8) (r : TG0 × Bool) (hF : schema_Find n d0 d1 = some r) : Ok Try.prog M 53 [S d0, S d1] (fun M' v => ∃ (c0 : List Value), v = .tuple #[.agg c0.toArray, .bool r.2] ∧ Rep M' (emb_TG0 r.1) c0) := by
 unfold schema_Find at hF
 intro M1 hM0 w0 H w p0
 refine R_enter 18 Try.func53 rfl rfl (by simp) fun a0 f0 => RR (Y11 f0 p0 (.cells #[S [], .int .i8 0, .bool false] 102 (0, 0)) fun b_1 w_1 p_1 _ f => Y f 1 fun _ f => eT (RR (Y15 f p_1 (all_ok _) fun _ M_1 w_2 hM_1 p_2 q_1 _ f => ?_)))
 obtain ⟨b_2, b_3, b_4, b_5, b_6, rfl, hA_1⟩ := q_1
 refine Y f 1 fun _ f => Z (v := .map (blkOf b_3 b_4 b_5 b_6 d0)) f (X_all1 (k := d0) (kt := 9) (et := 96) hA_1 p_2 rfl (by kernel_rfl) (by kernel_rfl) (by kernel_rfl) (strKey (by kernel_rfl)) (by kernel_rfl)) fun _ f => Y f 1 fun _ f => Z (v := .tuple #[.agg #[S ((specAt d0 d1).getD z_TG0).fName, .int .i8 ((specAt d0 d1).getD z_TG0).fKind, .bool ((specAt d0 d1).getD z_TG0).fReplace], .bool (specAt d0 d1).isSome]) f (X_prop2 (k := d1) (kind := d0) (z := z_TG0) (kt := 9) (et := 102) hA_1 p_2 rfl (by kernel_rfl) (by kernel_rfl) (by kernel_rfl) (strKey (by kernel_rfl)) (by kernel_rfl)) fun _ f => Y f 3 fun _ f => Y11 f p_2 (.cells #[S [], .int .i8 0, .bool false] 102 (0, 0)) fun b_7 w_3 p_3 _ f => Y22 (vs := [S ((specAt d0 d1).getD z_TG0).fName, .int .i8 ((specAt d0 d1).getD z_TG0).fKind, .bool ((specAt d0 d1).getD z_TG0).fReplace]) (j := 0) f p_3 rfl rfl (by simp [Value.oneCell', S]) (by simp) (by decide) (cs' := #[S ((specAt d0 d1).getD z_TG0).fName, .int .i8 ((specAt d0 d1).getD z_TG0).fKind, .bool ((specAt d0 d1).getD z_TG0).fReplace]) (by kernel_rfl) fun w_4 p_4 _ f => Y f 1 fun _ f => eT (RR (Z (v := .agg #[S ((specAt d0 d1).getD z_TG0).fName, .int .i8 ((specAt d0 d1).getD z_TG0).fKind, .bool ((specAt d0 d1).getD z_TG0).fReplace]) f (Y27 (cs := [S ((specAt d0 d1).getD z_TG0).fName, .int .i8 ((specAt d0 d1).getD z_TG0).fKind, .bool ((specAt d0 d1).getD z_TG0).fReplace]) rfl (ad := ⟨b_7, 0, none⟩) (own_cells (p_4.ownCell 0 rfl) 0 rfl)) fun _ f => Y f 1 fun _ f => ?_))
 have p_5 := p_4.pl [1]
 refine Y22 (vs := [S ((specAt d0 d1).getD z_TG0).fName, .int .i8 ((specAt d0 d1).getD z_TG0).fKind, .bool ((specAt d0 d1).getD z_TG0).fReplace]) (j := 0) f p_5 rfl rfl (by simp [Value.oneCell', S]) (by simp) (by decide) (cs' := #[S ((specAt d0 d1).getD z_TG0).fName, .int .i8 ((specAt d0 d1).getD z_TG0).fKind, .bool ((specAt d0 d1).getD z_TG0).fReplace]) (by kernel_rfl) fun w_5 p_6 _ f => Y f 1 fun _ f => eT (wp_ret (E_rv2 f rfl (Y9 (cs := [S ((specAt d0 d1).getD z_TG0).fName, .int .i8 ((specAt d0 d1).getD z_TG0).fKind, .bool ((specAt d0 d1).getD z_TG0).fReplace]) (ad := ⟨b_1, 0, none⟩) f (own_cells (p_6.ownCell 0 rfl) 0 rfl)) (Y10 (v := .bool (specAt d0 d1).isSome) f) ?_))
 obtain rfl := sI hF
 exact ⟨_, rfl, M_1, hM_1, (p_6.dropN 2), ⟨[S ((specAt d0 d1).getD z_TG0).fName, .int .i8 ((specAt d0 d1).getD z_TG0).fKind, .bool ((specAt d0 d1).getD z_TG0).fReplace], rfl, (TG0.shutx (x := ((specAt d0 d1).getD z_TG0)) )⟩⟩
def schema_Specs_s1 (n : Nat) (d0 : List UInt8) (s_1 : List TG0 × Int) : Option (Lp (List TG0 × Int) (List TG0)) :=
    bif (decide (s_1.2 < (((namesS d0).length : Nat) : Int))) then
      ((getI (namesS d0) s_1.2).bind fun x_1 =>
      need ((s_1.1.length + 1) * 24 ≤ 140737488355328) <|
      need (inR .i64 (s_1.2 + 1)) <|
      some (.nx (s_1.1 ++ [(⟨((specAt d0 x_1).getD z_TG0).fName, ((specAt d0 x_1).getD z_TG0).fKind, (((specAt d0 x_1).getD z_TG0).fReplace)⟩ : TG0)], s_1.2 + 1)))
    else
      some (.br s_1.1)
def schema_Specs (n : Nat) (d0 : List UInt8) : Option (List TG0 × Int) :=
  bif (!(kindIn d0)) then
    (some ((([] : List TG0), (90 : Int))))
  else
    (loopF (schema_Specs_s1 n d0) n (([] : List TG0), (0 : Int))).bind fun y_1 =>
    some ((y_1, (0 : Int)))
set_option maxRecDepth 20000 in
theorem schema_Specs_ok (n : Nat) (M : Mem) (d0 : List UInt8) (r : List TG0 × Int) (hF : schema_Specs n d0 = some r) : OkH Try.prog M [] 29 [S d0] (fun M' E' v => ∃ (A0 : Option Addr) (k0 : Nat) (s0 : List Value), v = .tuple #[.slice A0 r.1.length k0, .int .i64 r.2] ∧ E' = [.row 102 3 (.slice A0 r.1.length k0) r.1.length s0] ∧ RepSeq M' (r.1.map emb_TG0) s0) := by
 unfold schema_Specs at hF
 intro M1 hM0 w0 H w p0
 refine R_enter 31 Try.func29 rfl rfl (by simp) fun a0 f0 => RR (Y f0 2 fun _ f => eT (RR (Y15 f p0 (all_ok _) fun _ M_1 w_1 hM_1 p_1 q_1 _ f => ?_)))
 obtain ⟨b_1, b_2, b_3, b_4, b_5, rfl, hA_1⟩ := q_1
 refine Y f 1 fun _ f => Z (v := .tuple #[.map (blkOf b_2 b_3 b_4 b_5 d0), .bool (kindIn d0)]) f (X_all2 (k := d0) (kt := 9) (et := 96) hA_1 p_1 rfl (by kernel_rfl) (by kernel_rfl) (by kernel_rfl) (strKey (by kernel_rfl)) (by kernel_rfl)) fun _ f => Y f 5 fun _ f => eT (R_seq (RR (Y f 2 fun _ f => eT (RcF f hF (fun h_1 hF_1 => ?_) fun h_1 hF_2 => ?_))))
 ·have k_1 : (kindIn d0) = false := by simpa using h_1
  refine RR (Y f 2 fun _ f => eT (wp_ret (T_r ?_)))
  obtain ⟨A_1, cap_1, hv_1⟩ : ∃ A cap, Value.slice none 0 0 = .slice A ([] : List TG0).length cap := ⟨none, 0, rfl⟩
  have p_2 : Hp w0 M_1 ((Ent.row 102 3 (.slice A_1 ([] : List TG0).length cap_1) ([] : List TG0).length []) :: H) w_1 := by rw [← hv_1]; exact p_1.nilRow 102 3
  have f := f.st 2 (hv_1)
  have hr_1 : RepSeq M_1 (([] : List TG0).map emb_TG0) [] := rfl
  refine E_ret2 f rfl (by kernel_rfl : Vc.look _ 2 = some (.slice A_1 ([] : List TG0).length cap_1)) (by kernel_rfl : Vc.look _ 3 = some (.int .i64 90)) ?_
  obtain rfl := sI hF_1
  exact ⟨_, rfl, M_1, _, hM_1, p_2, ⟨A_1, cap_1, [], rfl, rfl, hr_1⟩⟩
 ·have k_2 : (kindIn d0) = true := by simpa using h_1
  refine wp_skip (T_n (R_seq (RR (Y f 1 fun _ f => Y15 f p_1 (risingP_ok d0 hA_1) fun _ M_2 w_2 hM_2 p_3 q_2 _ f => ?_))))
  obtain ⟨A_2, cap_2, rfl, h_2⟩ := q_2
  refine Y f 2 fun _ f => eT (wp_block ?_)
  obtain ⟨A_3, cap_3, hv_2⟩ : ∃ A cap, Value.slice none 0 0 = .slice A ([] : List TG0).length cap := ⟨none, 0, rfl⟩
  have p_4 : Hp w0 M_2 ((Ent.row 102 3 (.slice A_3 ([] : List TG0).length cap_3) ([] : List TG0).length []) :: H) w_2 := by rw [← hv_2]; exact p_3.nilRow 102 3
  have f := f.st 2 (hv_2)
  have hr_2 : RepSeq M_2 (([] : List TG0).map emb_TG0) [] := rfl
  obtain ⟨b_6, hL_1, hF_3⟩ := bS hF_2
  refine wp_mono (Q := fun e a w => (e = .exit 0 ∧ (∃ y_1 : List TG0, b_6 = y_1 ∧ ∃ M_4 : Mem, M_2.le M_4 ∧ ∃ (A_6 : Option Addr), ∃ (cap_6 : Nat), ∃ (cs_3 : List Value), RepSeq M_4 (y_1.map emb_TG0) cs_3 ∧ Frm 31 [(2, .slice A_6 y_1.length cap_6)] a ∧ Hp w0 M_4 ((Ent.row 102 3 (.slice A_6 y_1.length cap_6) y_1.length cs_3) :: H) w))) (R_loop (n := 31) (w0 := w0) (M := M_2) (fun (x : Nat × (List TG0 × Int) × (Option Addr) × Nat × (List Value)) => match x with | (m_1, s_1, A_4, cap_4, cs_1) => [(2, .slice A_4 s_1.1.length cap_4), (4, .map (blkOf b_2 b_3 b_4 b_5 d0)), (17, .slice A_2 (namesS d0).length cap_2), (18, .int .i64 (((namesS d0).length : Nat) : Int)), (19, .int .i64 s_1.2)]) (fun (x : Nat × (List TG0 × Int) × (Option Addr) × Nat × (List Value)) => match x with | (m_1, s_1, A_4, cap_4, cs_1) => ((Ent.row 102 3 (.slice A_4 s_1.1.length cap_4) s_1.1.length cs_1) :: H)) (fun (x : Nat × (List TG0 × Int) × (Option Addr) × Nat × (List Value)) (MM : Mem) => match x with | (m_1, s_1, A_4, cap_4, cs_1) => loopF (schema_Specs_s1 n d0) m_1 s_1 = some b_6 ∧ RepSeq MM (s_1.1.map emb_TG0) cs_1) (fun (x : Nat × (List TG0 × Int) × (Option Addr) × Nat × (List Value)) => match x with | (m_1, s_1, A_4, cap_4, cs_1) => m_1) (n, (([] : List TG0), (0 : Int)), A_3, cap_3, []) (f.kp) p_4 ⟨hL_1, hr_2⟩ ?_) ?_
  ·rintro ⟨m_1, s_1, A_4, cap_4, cs_1⟩ M_3 _ w_3 hM_3 I_1 f p_5
   obtain ⟨I_1L, hr_3⟩ := I_1
   obtain ⟨m_2, r_1, rfl, hs_1, hn_1⟩ := loop_step I_1L
   unfold schema_Specs_s1 at hs_1
   refine RR (Y f 1 fun _ f => eT (R_seq (RcF f hs_1 (fun h_3 hF_4 => ?_) fun h_3 hF_8 => ?_)))
   ·have k_3 := dI.1 h_3
    refine wp_skip (T_n (R_seq (wp_block (RR ?_))))
    obtain ⟨x_1, hx_1, hF_5⟩ := bS hF_4
    obtain ⟨ad_1, c_1, e_1, -, hr_4, hc_1⟩ := Sli.at_ (h_2.mono hM_3) hx_1
    obtain rfl : c_1 = [S x_1] := hr_4
    refine Z f (Y25 e_1 rfl (len := (namesS d0).length) (cap := cap_2) (k := .i64) (i := s_1.2) (e := 9) (sz := 1) (getI_nn hx_1) (getI_lt hx_1)) fun _ f => Y14 f p_5 hc_1 0 rfl fun _ f => Y f 1 fun _ f => eT (R_reg (Y f 3 fun _ f => Z (v := .agg #[S ((specAt d0 x_1).getD z_TG0).fName, .int .i8 ((specAt d0 x_1).getD z_TG0).fKind, .bool ((specAt d0 x_1).getD z_TG0).fReplace]) f (X_prop1 (k := x_1) (kind := d0) (z := z_TG0) (kt := 9) (et := 102) (hA_1.mono (hM_2.trans hM_3)) p_5 rfl (by kernel_rfl) (by kernel_rfl) (by kernel_rfl) (strKey (by kernel_rfl)) (by kernel_rfl)) fun _ f => V_allocS (k := 1) (c := 1) f p_5 (.cells #[S ((specAt d0 x_1).getD z_TG0).fName, .int .i8 ((specAt d0 x_1).getD z_TG0).fKind, .bool ((specAt d0 x_1).getD z_TG0).fReplace] 102 (0, 0)) (by kernel_rfl) (fun _ => by kernel_rfl) fun b_7 w_4 p_6 _ f => ?_))
    have p_7 := p_6.pl [1]
    obtain ⟨g_1, hF_6⟩ := nS hF_5
    refine Y19 (z := .agg #[S [], .int .i8 0, .bool false]) (f := emb_TG0) (xs := s_1.1) (ys := [(⟨((specAt d0 x_1).getD z_TG0).fName, ((specAt d0 x_1).getD z_TG0).fKind, (((specAt d0 x_1).getD z_TG0).fReplace)⟩ : TG0)]) (news := [S ((specAt d0 x_1).getD z_TG0).fName, .int .i8 ((specAt d0 x_1).getD z_TG0).fKind, .bool ((specAt d0 x_1).getD z_TG0).fReplace]) (ad := ⟨b_7, 0, none⟩) (m := 1) (c := 1) f p_7 hr_3 (by exact ⟨_, _, rfl, TG0.shut, rfl⟩) rfl rfl rfl rfl (own_cells (p_7.ownCell 1 rfl) 0 rfl) (by exact g_1) (by have hg_ := g_1; first | omega | (simp only [List.length_cons, List.length_nil] at *; omega)) fun A_5 cap_5 cs_2 w_5 p_8 hr_5 _ f => ?_
    have p_9 := p_8.pl [1]
    have p_10 := p_9.drop
    refine Y f 1 fun _ f => W_end rfl (B_n (T_n (R_reg ?_)))
    obtain ⟨g_2, hF_7⟩ := nS hF_6
    refine Y f 1 fun _ f => ?_
    have f := f.st 29 (congrArg (Value.int .i64) (inR_wrap g_2))
    refine Y f 1 fun _ f => eT ?_
    obtain rfl := sI hF_7
    exact ⟨⟨m_2, (s_1.1 ++ [(⟨((specAt d0 x_1).getD z_TG0).fName, ((specAt d0 x_1).getD z_TG0).fKind, (((specAt d0 x_1).getD z_TG0).fReplace)⟩ : TG0)], s_1.2 + 1), A_5, cap_5, cs_2⟩, Nat.lt_succ_self _, M_3, hM_3, ⟨hn_1, hr_5⟩, f.kp, p_10⟩
   ·have k_4 := iff_f dI h_3
    refine wp_exit (T_x (T_x ?_))
    obtain rfl := sI hF_8
    exact ⟨rfl, s_1.1, (sI hn_1).symm, M_3, hM_3, A_4, cap_4, cs_1, hr_3, f.kp, p_5⟩
  ·rintro _ _ w_7 ⟨rfl, y_1, hq_, M_4, hM_4, A_6, cap_6, cs_3, hr_6, f, p_11⟩
   subst b_6
   refine B_x (T_n (RR (Y f 3 fun _ f => eT (wp_ret (E_ret2 f rfl (by kernel_rfl : Vc.look _ 2 = some (.slice A_6 y_1.length cap_6)) (by kernel_rfl : Vc.look _ 3 = some (.int .i64 0)) ?_)))))
   obtain rfl := sI hF_3
   exact ⟨_, rfl, M_4, _, ((hM_1.trans hM_2).trans hM_4), p_11, ⟨A_6, cap_6, cs_3, rfl, rfl, hr_6⟩⟩
end Go.Proofs.Ytpjgpnfdadpkkaa
end
