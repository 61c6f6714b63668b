/-
  Texts of this claim, packed (what nothing names is left out): Q2g, Q2i, LA, TreeR, ParamsLA, Vo2, Op. Own work, partly printed by own programs. No condition.
-/
import Derived.Test.YtalifkcchfkgmaaDoorPkA1
import Derived.Test.YtalifkcchfkgmaaDoorPkA4
import Derived.Test.YtalifkcchfkgmaaDoorPkA3
import Derived.Test.YtalifkcchfkgmaaDoorRows
set_option linter.unusedVariables false
set_option linter.unusedSimpArgs false
set_option maxHeartbeats 2000000
section
namespace Go.Proofs.YtalifkcchfkgmaaDoor
open Go Go.Vc Go.RowKit
def ref03_compare_s1 (n : Nat) (rec_ref03_compare : TB0 → TB0 → Option Int) (d0 : TB0) (d1 : TB0) (s_1 : Int) : Option (Lp Int (Sum Int Unit)) :=
    ((bif (decide (s_1 < ((d0.fList.length : Nat) : Int))) then
        (some ((decide (s_1 < ((d1.fList.length : Nat) : Int)))))
      else
        some ((false)) : Option Bool)).bind fun y_1 =>
    bif y_1 then
      (((bif (decide (d0.fKind = 5)) then
          ((getI d0.fKeys s_1).bind fun x_1 =>
          (getI d1.fKeys s_1).bind fun x_2 =>
          some ((!(decide (x_1 = x_2)))))
        else
          some ((false)) : Option Bool)).bind fun y_2 =>
      bif y_2 then
        ((getI d0.fKeys s_1).bind fun x_3 =>
        (getI d1.fKeys s_1).bind fun x_4 =>
        bif (Op.bytesLess x_3 x_4) then
          (some (.br (.inl (-1 : Int))))
        else
          some (.br (.inl (1 : Int))))
      else
        (getI d0.fList s_1).bind fun x_5 =>
        (getI d1.fList s_1).bind fun x_6 =>
        (rec_ref03_compare x_5 x_6).bind fun x_7 =>
        bif (!(decide (x_7 = 0))) then
          (some (.br (.inl x_7)))
        else
          need (inR .i64 (s_1 + 1)) <|
          some (.nx (s_1 + 1)))
    else
      some (.br (.inr ()))
def ref03_compare_b (n : Nat) (rec_ref03_compare : TB0 → TB0 → Option Int) (d0 : TB0) (d1 : TB0) : Option Int :=
  bif (!(decide (d0.fKind = d1.fKind))) then
    (bif (decide (d0.fKind < d1.fKind)) then
      (some ((-1 : Int)))
    else
      some ((1 : Int)))
  else
    bif (!(d0.fBool == d1.fBool)) then
      (bif d1.fBool then
        (some ((-1 : Int)))
      else
        some ((1 : Int)))
    else
      bif (!(decide (d0.fNum = d1.fNum))) then
        (bif (decide (d0.fNum < d1.fNum)) then
          (some ((-1 : Int)))
        else
          some ((1 : Int)))
      else
        bif (!(decide (d0.fText = d1.fText))) then
          (bif (Op.bytesLess d0.fText d1.fText) then
            (some ((-1 : Int)))
          else
            some ((1 : Int)))
        else
          (loopF (ref03_compare_s1 n rec_ref03_compare d0 d1) n (0 : Int)).bind fun b_3 =>
          (match b_3 with 
          | .inl y_3 => some (y_3) 
          | .inr y_4 => bif (!(decide (((d0.fList.length : Nat) : Int) = ((d1.fList.length : Nat) : Int)))) then
              (bif (decide (((d0.fList.length : Nat) : Int) < ((d1.fList.length : Nat) : Int))) then
                (some ((-1 : Int)))
              else
                some ((1 : Int)))
            else
              some ((0 : Int)))
theorem ref03_compare_b_ok (n : Nat) (rec_ref03_compare : TB0 → TB0 → Option Int) (hrec_ref03_compare : ∀ (M : Mem) (c0 : List Value) (d0 : TB0) (h0 : Rep M (emb_TB0 d0) c0) (c1 : List Value) (d1 : TB0) (h1 : Rep M (emb_TB0 d1) c1) (r : Int) (hF : rec_ref03_compare d0 d1 = some r), Ok Tryd.prog M 39 [.agg c0.toArray, .agg c1.toArray] (fun _ v => v = .int .i64 r)) (M : Mem) (c0 : List Value) (d0 : TB0) (h0 : Rep M (emb_TB0 d0) c0) (c1 : List Value) (d1 : TB0) (h1 : Rep M (emb_TB0 d1) c1) (r : Int) (hF : ref03_compare_b n rec_ref03_compare d0 d1 = some r) : Ok Tryd.prog M 39 [.agg c0.toArray, .agg c1.toArray] (fun _ v => v = .int .i64 r) := by
 unfold ref03_compare_b at hF
 intro M1 hM0 w0 H w p0
 replace h0 := Rep.mono hM0 _ _ h0
 replace h1 := Rep.mono hM0 _ _ h1
 obtain ⟨A_1, cap_1, A_2, cap_2, rfl, h_1, h_2⟩ := TB0.opn h0
 obtain ⟨A_3, cap_3, A_4, cap_4, rfl, h_3, h_4⟩ := TB0.opn h1
 refine R_enter 113 Tryd.func39 rfl rfl (by simp) fun a0 f0 => RR (Y13 (cs := #[.int .i8 d0.fKind, .bool d0.fBool, .int .i64 d0.fNum, S d0.fText, .slice A_1 d0.fList.length cap_1, .slice A_2 d0.fKeys.length cap_2]) (T := 33) f0 p0 fun b_1 M_1 w_1 hM_1 hc_1 p_1 _ f => ?_)
 have hc_2 := fz_box hc_1
 refine Y13 (cs := #[.int .i8 d1.fKind, .bool d1.fBool, .int .i64 d1.fNum, S d1.fText, .slice A_3 d1.fList.length cap_3, .slice A_4 d1.fKeys.length cap_4]) (T := 33) f p_1 fun b_2 M_2 w_2 hM_2 hc_3 p_2 _ f => ?_
 have hc_4 := fz_box hc_3
 refine Y f 1 fun _ f => eT (R_seq (RR (Y f 1 fun _ f => Y15 f p_2 (fzu hM_2 hc_2) 0 rfl fun _ f => Y f 1 fun _ f => Y15 f p_2 hc_4 0 rfl fun _ f => Y f 1 fun _ f => eT (RcF f hF (fun h_5 hF_1 => ?_) fun h_5 hF_4 => ?_))))
 ·have k_1 : ¬ (d0.fKind = d1.fKind) := (not_iff dI).1 h_5
  refine R_seq (RR (Y f 1 fun _ f => Y15 f p_2 (fzu hM_2 hc_2) 0 rfl fun _ f => Y f 1 fun _ f => Y15 f p_2 hc_4 0 rfl fun _ f => Y f 1 fun _ f => eT (RcF f hF_1 (fun h_6 hF_2 => ?_) fun h_6 hF_3 => ?_)))
  ·have k_2 := dI.1 h_6
   refine RR (Y f 1 fun _ f => eT (wp_ret (T_r (T_r (E_ret1 f rfl (by kernel_rfl : Vc.look _ 4 = some (.int .i64 (-1))) ?_)))))
   obtain rfl := sI hF_2
   exact ⟨_, rfl, M_2, (hM_1.trans hM_2), p_2, rfl⟩
  ·have k_3 := iff_f dI h_6
   refine wp_skip (T_n (RR (Y f 1 fun _ f => eT (wp_ret (T_r (E_ret1 f rfl (by kernel_rfl : Vc.look _ 4 = some (.int .i64 1)) ?_))))))
   obtain rfl := sI hF_3
   exact ⟨_, rfl, M_2, (hM_1.trans hM_2), p_2, rfl⟩
 ·have k_4 : ¬ (¬ (d0.fKind = d1.fKind)) := iff_f (not_iff dI) h_5
  refine wp_skip (T_n (R_seq (RR (Y f 1 fun _ f => Y15 f p_2 (fzu hM_2 hc_2) 1 rfl fun _ f => Y f 1 fun _ f => Y15 f p_2 hc_4 1 rfl fun _ f => Y f 1 fun _ f => eT (RcF f hF_4 (fun h_7 hF_5 => ?_) fun h_7 hF_8 => ?_)))))
  ·have k_5 : (d0.fBool == d1.fBool) = false := by simpa using h_7
   refine R_seq (RR (Y f 1 fun _ f => Y15 f p_2 hc_4 1 rfl fun _ f => eT (RcF f hF_5 (fun h_8 hF_6 => ?_) fun h_8 hF_7 => ?_)))
   ·refine RR (Y f 1 fun _ f => eT (wp_ret (T_r (T_r (E_ret1 f rfl (by kernel_rfl : Vc.look _ 4 = some (.int .i64 (-1))) ?_)))))
    obtain rfl := sI hF_6
    exact ⟨_, rfl, M_2, (hM_1.trans hM_2), p_2, rfl⟩
   ·refine wp_skip (T_n (RR (Y f 1 fun _ f => eT (wp_ret (T_r (E_ret1 f rfl (by kernel_rfl : Vc.look _ 4 = some (.int .i64 1)) ?_))))))
    obtain rfl := sI hF_7
    exact ⟨_, rfl, M_2, (hM_1.trans hM_2), p_2, rfl⟩
  ·have k_8 : (d0.fBool == d1.fBool) = true := by simpa using h_7
   refine wp_skip (T_n (R_seq (RR (Y f 1 fun _ f => Y15 f p_2 (fzu hM_2 hc_2) 2 rfl fun _ f => Y f 1 fun _ f => Y15 f p_2 hc_4 2 rfl fun _ f => Y f 1 fun _ f => eT (RcF f hF_8 (fun h_9 hF_9 => ?_) fun h_9 hF_12 => ?_)))))
   ·have k_9 : ¬ (d0.fNum = d1.fNum) := (not_iff dI).1 h_9
    refine R_seq (RR (Y f 1 fun _ f => Y15 f p_2 (fzu hM_2 hc_2) 2 rfl fun _ f => Y f 1 fun _ f => Y15 f p_2 hc_4 2 rfl fun _ f => Y f 1 fun _ f => eT (RcF f hF_9 (fun h_10 hF_10 => ?_) fun h_10 hF_11 => ?_)))
    ·have k_10 := dI.1 h_10
     refine RR (Y f 1 fun _ f => eT (wp_ret (T_r (T_r (E_ret1 f rfl (by kernel_rfl : Vc.look _ 4 = some (.int .i64 (-1))) ?_)))))
     obtain rfl := sI hF_10
     exact ⟨_, rfl, M_2, (hM_1.trans hM_2), p_2, rfl⟩
    ·have k_11 := iff_f dI h_10
     refine wp_skip (T_n (RR (Y f 1 fun _ f => eT (wp_ret (T_r (E_ret1 f rfl (by kernel_rfl : Vc.look _ 4 = some (.int .i64 1)) ?_))))))
     obtain rfl := sI hF_11
     exact ⟨_, rfl, M_2, (hM_1.trans hM_2), p_2, rfl⟩
   ·have k_12 : ¬ (¬ (d0.fNum = d1.fNum)) := iff_f (not_iff dI) h_9
    refine wp_skip (T_n (R_seq (RR (Y f 1 fun _ f => Y15 f p_2 (fzu hM_2 hc_2) 3 rfl fun _ f => Y f 1 fun _ f => Y15 f p_2 hc_4 3 rfl fun _ f => Z f (Y38 rfl (l := d0.fText) (m := d1.fText)) fun _ f => eT (RcF f hF_12 (fun h_11 hF_13 => ?_) fun h_11 hF_16 => ?_)))))
    ·have k_13 : ¬ (d0.fText = d1.fText) := (not_iff dI).1 h_11
     refine R_seq (RR (Y f 1 fun _ f => Y15 f p_2 (fzu hM_2 hc_2) 3 rfl fun _ f => Y f 1 fun _ f => Y15 f p_2 hc_4 3 rfl fun _ f => Z (v := .bool (Op.bytesLess d0.fText d1.fText)) f (X_strlt rfl (l := d0.fText) (m := d1.fText) (by kernel_rfl) (by kernel_rfl)) fun _ f => eT (RcF f hF_13 (fun h_12 hF_14 => ?_) fun h_12 hF_15 => ?_)))
     ·refine RR (Y f 1 fun _ f => eT (wp_ret (T_r (T_r (E_ret1 f rfl (by kernel_rfl : Vc.look _ 4 = some (.int .i64 (-1))) ?_)))))
      obtain rfl := sI hF_14
      exact ⟨_, rfl, M_2, (hM_1.trans hM_2), p_2, rfl⟩
     ·refine wp_skip (T_n (RR (Y f 1 fun _ f => eT (wp_ret (T_r (E_ret1 f rfl (by kernel_rfl : Vc.look _ 4 = some (.int .i64 1)) ?_))))))
      obtain rfl := sI hF_15
      exact ⟨_, rfl, M_2, (hM_1.trans hM_2), p_2, rfl⟩
    ·have k_16 : ¬ (¬ (d0.fText = d1.fText)) := iff_f (not_iff dI) h_11
     refine wp_skip (T_n (R_seq (RR (Y f 1 fun _ f => eT (wp_block ?_)))))
     obtain ⟨b_3, hL_1, hF_17⟩ := bS hF_16
     refine wp_mono (Q := fun e a w => (e = .ret ∧ (∃ y_3 : Int, b_3 = .inl y_3 ∧ ∃ M_6 : Mem, M_2.le M_6 ∧ Frm 113 [(4, .int .i64 y_3)] a ∧ Hp w0 M_6 (H) w)) ∨ (e = .exit 0 ∧ (∃ y_4 : Unit, b_3 = .inr y_4 ∧ ∃ M_7 : Mem, M_2.le M_7 ∧ Frm 113 [(2, .pointer (some (⟨b_1, 0, none⟩))), (3, .pointer (some (⟨b_2, 0, none⟩)))] a ∧ Hp w0 M_7 (H) w))) (R_loop (n := 113) (w0 := w0) (M := M_2) (fun (x : Nat × Int) => match x with | (m_1, s_1) => [(2, .pointer (some (⟨b_1, 0, none⟩))), (3, .pointer (some (⟨b_2, 0, none⟩))), (5, .int .i64 s_1)]) (fun (x : Nat × Int) => match x with | (m_1, s_1) => (H)) (fun (x : Nat × Int) (MM : Mem) => match x with | (m_1, s_1) => loopF (ref03_compare_s1 n rec_ref03_compare d0 d1) m_1 s_1 = some b_3) (fun (x : Nat × Int) => match x with | (m_1, s_1) => m_1) (n, (0 : Int)) (f.kp) p_2 hL_1 ?_) ?_
     ·rintro ⟨m_1, s_1⟩ M_3 _ w_3 hM_3 I_1 f p_3
      have I_1L := I_1
      obtain ⟨m_2, r_1, rfl, hs_1, hn_1⟩ := loop_step I_1L
      unfold ref03_compare_s1 at hs_1
      refine R_seq (R_seq ?_)
      obtain ⟨j_1, hj_1, hF_18⟩ := bS hs_1
      refine R_mid (fun a_58 w_4 => ∃ y_1 : Bool, j_1 = y_1 ∧ ∃ M_4 : Mem, M_3.le M_4 ∧ Frm 113 [(2, .pointer (some (⟨b_1, 0, none⟩))), (3, .pointer (some (⟨b_2, 0, none⟩))), (5, .int .i64 s_1), (55, .bool y_1)] a_58 ∧ Hp w0 M_4 (H) w_4) ?_ ?_
      ·refine R_reg (Y f 2 fun _ f => Y15 f p_3 (fzu (hM_2.trans hM_3) hc_2) 4 rfl fun _ f => Y f 3 fun _ f => ?_)
       rcases cE hj_1 with ⟨h_13, hF_19⟩ | ⟨h_13, hF_20⟩
       ·have k_17 := dI.1 h_13
        have f := f.st 49 (cB h_13)
        refine Y f 2 fun _ f => Y15 f p_3 (fzu hM_3 hc_4) 4 rfl fun _ f => Y f 3 fun _ f => eT ?_
        exact ⟨(decide (s_1 < ((d1.fList.length : Nat) : Int))), (sI hF_19).symm, M_3, (mR _), f.kp, p_3⟩
       ·have k_18 := iff_f dI h_13
        have f := f.st 49 (cB h_13)
        refine Y f 6 fun _ f => eT ?_
        exact ⟨(false), (sI hF_20).symm, M_3, (mR _), f.kp, p_3⟩
      ·rintro a_58 w_4 ⟨y_1, hq_1, M_4, hM_4, f, p_4⟩
       subst j_1
       refine T_n (RcF f hF_18 (fun h_14 hF_21 => ?_) fun h_14 hF_39 => ?_)
       ·refine wp_skip (T_n (R_seq (wp_block (R_seq (R_seq ?_)))))
        obtain ⟨j_2, hj_2, hF_22⟩ := bS hF_21
        refine R_mid (fun a_75 w_7 => ∃ y_2 : Bool, j_2 = y_2 ∧ ∃ M_5 : Mem, M_4.le M_5 ∧ Frm 113 [(2, .pointer (some (⟨b_1, 0, none⟩))), (3, .pointer (some (⟨b_2, 0, none⟩))), (5, .int .i64 s_1), (73, .bool y_2)] a_75 ∧ Hp w0 M_5 (H) w_7) ?_ ?_
        ·refine R_draw p_4 (by kernel_rfl) (by kernel_rfl) (Y5 default f 1 fun _ f => Y4 f (fzu ((hM_2.trans hM_3).trans hM_4) hc_2) 0 rfl fun _ f => Y5 default f 2 fun _ f => ?_)
         rcases cE hj_2 with ⟨h_15, hF_23⟩ | ⟨h_15, hF_26⟩
         ·have k_20 := dI.1 h_15
          have f := f.st 61 (cB h_15)
          refine Y5 default f 1 fun _ f => Y4 f (fzu ((hM_2.trans hM_3).trans hM_4) hc_2) 5 rfl fun _ f => Y5 default f 1 fun _ f => ?_
          obtain ⟨x_1, hx_1, hF_24⟩ := bS hF_23
          obtain ⟨ad_1, c_1, e_1, -, hr_1, hc_5⟩ := Sli.at_ (h_2.mono (((hM_1.trans hM_2).trans hM_3).trans hM_4)) hx_1
          obtain rfl : c_1 = [S x_1] := hr_1
          refine Y2 (v := .pointer (some (ad_1.add (s_1.toNat * 1)))) f (fun _ pq => Y30 e_1 rfl (len := d0.fKeys.length) (cap := cap_2) (k := .i64) (i := s_1) (e := 9) (sz := 1) (getI_nn hx_1) (getI_lt hx_1)) fun _ f => Y4 f hc_5 0 rfl fun _ f => Y5 default f 1 fun _ f => Y4 f (fzu (hM_3.trans hM_4) hc_4) 5 rfl fun _ f => Y5 default f 1 fun _ f => ?_
          obtain ⟨x_2, hx_2, hF_25⟩ := bS hF_24
          obtain ⟨ad_2, c_2, e_2, -, hr_2, hc_6⟩ := Sli.at_ (h_4.mono (((hM_1.trans hM_2).trans hM_3).trans hM_4)) hx_2
          obtain rfl : c_2 = [S x_2] := hr_2
          refine Y2 (v := .pointer (some (ad_2.add (s_1.toNat * 1)))) f (fun _ pq => Y30 e_2 rfl (len := d1.fKeys.length) (cap := cap_4) (k := .i64) (i := s_1) (e := 9) (sz := 1) (getI_nn hx_2) (getI_lt hx_2)) fun _ f => Y4 f hc_6 0 rfl fun _ f => Y2 (v := .bool (!(decide (x_1 = x_2)))) f (fun _ pq => Y38 rfl (l := x_1) (m := x_2)) fun _ f => Y5 default f 1 fun _ f => Q_end rfl ?_
          intro w_5 p_5
          refine T_n ?_
          exact ⟨(!(decide (x_1 = x_2))), (sI hF_25).symm, M_4, (mR _), f.kp, p_5⟩
         ·have k_21 := iff_f dI h_15
          have f := f.st 61 (cB h_15)
          refine Y5 default f 12 fun _ f => Q_end rfl ?_
          intro w_6 p_6
          refine T_n ?_
          exact ⟨(false), (sI hF_26).symm, M_4, (mR _), f.kp, p_6⟩
        ·rintro a_75 w_7 ⟨y_2, hq_2, M_5, hM_5, f, p_7⟩
         subst j_2
         refine T_n (RcF f hF_22 (fun h_16 hF_27 => ?_) fun h_16 hF_32 => ?_)
         ·refine R_seq (R_seq (R_draw p_7 (by kernel_rfl) (by kernel_rfl) (Y5 default f 1 fun _ f => Y4 f (fzu (((hM_2.trans hM_3).trans hM_4).trans hM_5) hc_2) 5 rfl fun _ f => Y5 default f 1 fun _ f => ?_)))
          obtain ⟨x_3, hx_3, hF_28⟩ := bS hF_27
          obtain ⟨ad_3, c_3, e_3, -, hr_3, hc_7⟩ := Sli.at_ (h_2.mono ((((hM_1.trans hM_2).trans hM_3).trans hM_4).trans hM_5)) hx_3
          obtain rfl : c_3 = [S x_3] := hr_3
          refine Y2 (v := .pointer (some (ad_3.add (s_1.toNat * 1)))) f (fun _ pq => Y30 e_3 rfl (len := d0.fKeys.length) (cap := cap_2) (k := .i64) (i := s_1) (e := 9) (sz := 1) (getI_nn hx_3) (getI_lt hx_3)) fun _ f => Y4 f hc_7 0 rfl fun _ f => Y5 default f 1 fun _ f => Y4 f (fzu ((hM_3.trans hM_4).trans hM_5) hc_4) 5 rfl fun _ f => Y5 default f 1 fun _ f => ?_
          obtain ⟨x_4, hx_4, hF_29⟩ := bS hF_28
          obtain ⟨ad_4, c_4, e_4, -, hr_4, hc_8⟩ := Sli.at_ (h_4.mono ((((hM_1.trans hM_2).trans hM_3).trans hM_4).trans hM_5)) hx_4
          obtain rfl : c_4 = [S x_4] := hr_4
          refine Y2 (v := .pointer (some (ad_4.add (s_1.toNat * 1)))) f (fun _ pq => Y30 e_4 rfl (len := d1.fKeys.length) (cap := cap_4) (k := .i64) (i := s_1) (e := 9) (sz := 1) (getI_nn hx_4) (getI_lt hx_4)) fun _ f => Y4 f hc_8 0 rfl fun _ f => Y2 (v := .bool (Op.bytesLess x_3 x_4)) f (fun _ pq => X_strlt rfl (l := x_3) (m := x_4) (by kernel_rfl) (by kernel_rfl)) fun _ f => Q_end rfl ?_
          intro w_8 p_8
          refine T_n (RcF f hF_29 (fun h_17 hF_30 => ?_) fun h_17 hF_31 => ?_)
          ·refine RR (Y f 1 fun _ f => eT (wp_ret (T_r (T_r (B_r (T_r (T_r ?_)))))))
           obtain rfl := sI hF_30
           exact .inl ⟨rfl, (-1 : Int), (sI hn_1).symm, M_5, ((hM_3.trans hM_4).trans hM_5), f.kp, p_8⟩
          ·refine wp_skip (T_n (RR (Y f 1 fun _ f => eT (wp_ret (T_r (B_r (T_r (T_r ?_))))))))
           obtain rfl := sI hF_31
           exact .inl ⟨rfl, (1 : Int), (sI hn_1).symm, M_5, ((hM_3.trans hM_4).trans hM_5), f.kp, p_8⟩
         ·refine wp_skip (T_n (R_seq (R_draw p_7 (by kernel_rfl) (by kernel_rfl) (Y5 default f 1 fun _ f => Y4 f (fzu (((hM_2.trans hM_3).trans hM_4).trans hM_5) hc_2) 4 rfl fun _ f => Y5 default f 1 fun _ f => ?_))))
          obtain ⟨x_5, hx_5, hF_33⟩ := bS hF_32
          obtain ⟨ad_5, c_5, e_5, -, hr_5, hc_9⟩ := Sli.at_ (h_1.mono ((((hM_1.trans hM_2).trans hM_3).trans hM_4).trans hM_5)) hx_5
          obtain ⟨A_5, cap_5, A_6, cap_6, rfl, h_18, h_19⟩ := TB0.opn hr_5
          refine Y2 (v := .pointer (some (ad_5.add (s_1.toNat * 6)))) f (fun _ pq => Y30 e_5 rfl (len := d0.fList.length) (cap := cap_1) (k := .i64) (i := s_1) (e := 33) (sz := 6) (getI_nn hx_5) (getI_lt hx_5)) fun _ f => Y2 (v := .agg #[.int .i8 x_5.fKind, .bool x_5.fBool, .int .i64 x_5.fNum, S x_5.fText, .slice A_5 x_5.fList.length cap_5, .slice A_6 x_5.fKeys.length cap_6]) f (fun _ pq => Y32 (cs := [.int .i8 x_5.fKind, .bool x_5.fBool, .int .i64 x_5.fNum, S x_5.fText, .slice A_5 x_5.fList.length cap_5, .slice A_6 x_5.fKeys.length cap_6]) rfl (ad := ad_5.add (s_1.toNat * 6)) (fun j v h => pq.cell (hc_9 j v h))) fun _ f => Y5 default f 1 fun _ f => Y4 f (fzu ((hM_3.trans hM_4).trans hM_5) hc_4) 4 rfl fun _ f => Y5 default f 1 fun _ f => ?_
          obtain ⟨x_6, hx_6, hF_34⟩ := bS hF_33
          obtain ⟨ad_6, c_6, e_6, -, hr_6, hc_10⟩ := Sli.at_ (h_3.mono ((((hM_1.trans hM_2).trans hM_3).trans hM_4).trans hM_5)) hx_6
          obtain ⟨A_7, cap_7, A_8, cap_8, rfl, h_20, h_21⟩ := TB0.opn hr_6
          refine Y2 (v := .pointer (some (ad_6.add (s_1.toNat * 6)))) f (fun _ pq => Y30 e_6 rfl (len := d1.fList.length) (cap := cap_3) (k := .i64) (i := s_1) (e := 33) (sz := 6) (getI_nn hx_6) (getI_lt hx_6)) fun _ f => Y2 (v := .agg #[.int .i8 x_6.fKind, .bool x_6.fBool, .int .i64 x_6.fNum, S x_6.fText, .slice A_7 x_6.fList.length cap_7, .slice A_8 x_6.fKeys.length cap_8]) f (fun _ pq => Y32 (cs := [.int .i8 x_6.fKind, .bool x_6.fBool, .int .i64 x_6.fNum, S x_6.fText, .slice A_7 x_6.fList.length cap_7, .slice A_8 x_6.fKeys.length cap_8]) rfl (ad := ad_6.add (s_1.toNat * 6)) (fun j v h => pq.cell (hc_10 j v h))) fun _ f => ?_
          obtain ⟨x_7, hx_7, hF_35⟩ := bS hF_34
          refine Y3 f (hrec_ref03_compare _ _ x_5 (TB0.shutx (x := x_5) h_18 h_19) _ x_6 (TB0.shutx (x := x_6) h_20 h_21) x_7 hx_7) fun _ f => Y5 default f 1 fun _ f => Q_end rfl ?_
          intro w_10 p_10
          refine T_n (RR (Y f 2 fun _ f => eT (RcF f hF_35 (fun h_22 hF_36 => ?_) fun h_22 hF_37 => ?_)))
          ·have k_26 : ¬ (x_7 = 0) := (not_iff dI).1 h_22
           refine RR (Y f 2 fun _ f => eT (wp_ret (B_r (T_r (T_r ?_)))))
           obtain rfl := sI hF_36
           exact .inl ⟨rfl, x_7, (sI hn_1).symm, M_5, ((hM_3.trans hM_4).trans hM_5), f.kp, p_10⟩
          ·have k_27 : ¬ (¬ (x_7 = 0)) := iff_f (not_iff dI) h_22
           refine wp_skip (B_n (T_n (R_reg (Y f 1 fun _ f => ?_))))
           obtain ⟨g_1, hF_38⟩ := nS hF_37
           refine Y f 1 fun _ f => ?_
           have f := f.st 57 (congrArg (Value.int .i64) (inR_wrap g_1))
           refine Y f 1 fun _ f => eT ?_
           obtain rfl := sI hF_38
           exact ⟨⟨m_2, s_1 + 1⟩, Nat.lt_succ_self _, M_5, ((hM_3.trans hM_4).trans hM_5), hn_1, f.kp, p_10⟩
       ·refine wp_exit (T_x (T_x ?_))
        obtain rfl := sI hF_39
        exact .inr ⟨rfl, (), (sI hn_1).symm, M_4, (hM_3.trans hM_4), f.kp, p_4⟩
     ·rintro _ _ w_13 (⟨rfl, y_3, rfl, M_6, hM_6, f, p_11⟩ | ⟨rfl, y_4, rfl, M_7, hM_7, f, p_12⟩)
      ·refine B_r (T_r (E_ret1 f rfl (by kernel_rfl : Vc.look _ 4 = some (.int .i64 y_3)) ?_))
       obtain rfl := sI hF_17
       exact ⟨_, rfl, M_6, ((hM_1.trans hM_2).trans hM_6), p_11, rfl⟩
      ·refine B_x (T_n (R_seq (RR (Y f 1 fun _ f => Y15 f p_12 (fzu (hM_2.trans hM_7) hc_2) 4 rfl fun _ f => Y f 2 fun _ f => Y15 f p_12 (fzu hM_7 hc_4) 4 rfl fun _ f => Y f 2 fun _ f => eT (RcF f hF_17 (fun h_23 hF_40 => ?_) fun h_23 hF_43 => ?_)))))
       ·have k_29 : ¬ (((d0.fList.length : Nat) : Int) = ((d1.fList.length : Nat) : Int)) := (not_iff dI).1 h_23
        refine R_seq (RR (Y f 1 fun _ f => Y15 f p_12 (fzu (hM_2.trans hM_7) hc_2) 4 rfl fun _ f => Y f 2 fun _ f => Y15 f p_12 (fzu hM_7 hc_4) 4 rfl fun _ f => Y f 2 fun _ f => eT (RcF f hF_40 (fun h_24 hF_41 => ?_) fun h_24 hF_42 => ?_)))
        ·have k_30 := dI.1 h_24
         refine RR (Y f 1 fun _ f => eT (wp_ret (T_r (T_r (E_ret1 f rfl (by kernel_rfl : Vc.look _ 4 = some (.int .i64 (-1))) ?_)))))
         obtain rfl := sI hF_41
         exact ⟨_, rfl, M_7, ((hM_1.trans hM_2).trans hM_7), p_12, rfl⟩
        ·have k_31 := iff_f dI h_24
         refine wp_skip (T_n (RR (Y f 1 fun _ f => eT (wp_ret (T_r (E_ret1 f rfl (by kernel_rfl : Vc.look _ 4 = some (.int .i64 1)) ?_))))))
         obtain rfl := sI hF_42
         exact ⟨_, rfl, M_7, ((hM_1.trans hM_2).trans hM_7), p_12, rfl⟩
       ·have k_32 : ¬ (¬ (((d0.fList.length : Nat) : Int) = ((d1.fList.length : Nat) : Int))) := iff_f (not_iff dI) h_23
        refine wp_skip (T_n (RR (Y f 1 fun _ f => eT (wp_ret (E_ret1 f rfl (by kernel_rfl : Vc.look _ 4 = some (.int .i64 0)) ?_)))))
        obtain rfl := sI hF_43
        exact ⟨_, rfl, M_7, ((hM_1.trans hM_2).trans hM_7), p_12, rfl⟩
def ref03_compare_k (n : Nat) : Nat → TB0 → TB0 → Option Int
  | 0 => fun _ _ => none
  | k + 1 => ref03_compare_b n (ref03_compare_k n k)
def ref03_compare (n : Nat) (d0 : TB0) (d1 : TB0) : Option Int := ref03_compare_k n n d0 d1
theorem ref03_compare_ok (n : Nat) (M : Mem) (c0 : List Value) (d0 : TB0) (h0 : Rep M (emb_TB0 d0) c0) (c1 : List Value) (d1 : TB0) (h1 : Rep M (emb_TB0 d1) c1) (r : Int) (hF : ref03_compare n d0 d1 = some r) : Ok Tryd.prog M 39 [.agg c0.toArray, .agg c1.toArray] (fun _ v => v = .int .i64 r) := by
 have key : ∀ (k : Nat) (M : Mem) (c0 : List Value) (d0 : TB0) (h0 : Rep M (emb_TB0 d0) c0) (c1 : List Value) (d1 : TB0) (h1 : Rep M (emb_TB0 d1) c1) (r : Int) (hF : ref03_compare_k n k d0 d1 = some r), Ok Tryd.prog M 39 [.agg c0.toArray, .agg c1.toArray] (fun _ v => v = .int .i64 r) := by
  intro k
  induction k with
  | zero => intro M c0 d0 h0 c1 d1 h1 r hF; simp [ref03_compare_k] at hF
  | succ k ih => intro M c0 d0 h0 c1 d1 h1 r hF; exact ref03_compare_b_ok n (ref03_compare_k n k) ih M c0 d0 h0 c1 d1 h1 r hF
 exact key n M c0 d0 h0 c1 d1 h1 r hF
def ref03_Equal (n : Nat) (d0 : TB0) (d1 : TB0) : Option Bool :=
  (ref03_Check n d0).bind fun x_1 =>
  bif (decide (x_1 = 0)) then
    ((ref03_Check n d1).bind fun x_2 =>
    bif (decide (x_2 = 0)) then
      ((ref03_sorted n d0).bind fun x_3 =>
      (ref03_sorted n d1).bind fun x_4 =>
      (ref03_compare n x_3 x_4).bind fun x_5 =>
      some ((decide (x_5 = 0))))
    else
      some ((false)))
  else
    some ((false))
theorem ref03_Equal_ok (n : Nat) (M : Mem) (c0 : List Value) (d0 : TB0) (h0 : Rep M (emb_TB0 d0) c0) (c1 : List Value) (d1 : TB0) (h1 : Rep M (emb_TB0 d1) c1) (r : Bool) (hF : ref03_Equal n d0 d1 = some r) : Ok Tryd.prog M 14 [.agg c0.toArray, .agg c1.toArray] (fun _ v => v = .bool r) := by
 unfold ref03_Equal at hF
 intro M1 hM0 w0 H w p0
 replace h0 := Rep.mono hM0 _ _ h0
 replace h1 := Rep.mono hM0 _ _ h1
 obtain ⟨A_1, cap_1, A_2, cap_2, rfl, h_1, h_2⟩ := TB0.opn h0
 obtain ⟨A_3, cap_3, A_4, cap_4, rfl, h_3, h_4⟩ := TB0.opn h1
 refine R_enter 21 Tryd.func14 rfl rfl (by simp) fun a0 f0 => RR (Y13 (cs := #[.int .i8 d0.fKind, .bool d0.fBool, .int .i64 d0.fNum, S d0.fText, .slice A_1 d0.fList.length cap_1, .slice A_2 d0.fKeys.length cap_2]) (T := 33) f0 p0 fun b_1 M_1 w_1 hM_1 hc_1 p_1 _ f => ?_)
 have hc_2 := fz_box hc_1
 refine Y13 (cs := #[.int .i8 d1.fKind, .bool d1.fBool, .int .i64 d1.fNum, S d1.fText, .slice A_3 d1.fList.length cap_3, .slice A_4 d1.fKeys.length cap_4]) (T := 33) f p_1 fun b_2 M_2 w_2 hM_2 hc_3 p_2 _ f => ?_
 have hc_4 := fz_box hc_3
 refine Y f 1 fun _ f => eT (R_seq (R_mix (E := []) (Hr := (H)) [(0, true), (1, true), (2, true), (3, true), (4, true), (5, true), (6, true), (7, true), (8, true), (9, true), (11, true), (10, false), (12, false), (13, false), (14, true), (15, true), (16, true)] p_2 (by kernel_rfl) (by kernel_rfl) rfl (by kernel_rfl) (M_eq (v := .agg #[.int .i8 d0.fKind, .bool d0.fBool, .int .i64 d0.fNum, S d0.fText, .slice A_1 d0.fList.length cap_1, .slice A_2 d0.fKeys.length cap_2]) f (by kernel_rfl) (by kernel_rfl) rfl rfl (fun _ pq => Y32 (cs := [.int .i8 d0.fKind, .bool d0.fBool, .int .i64 d0.fNum, S d0.fText, .slice A_1 d0.fList.length cap_1, .slice A_2 d0.fKeys.length cap_2]) rfl (ad := ⟨b_1, 0, none⟩) (fun j v h => pq.cell ((fzu hM_2 hc_2) j v h))) fun _ f => ?_)))
 obtain ⟨x_1, hx_1, hF_1⟩ := bS hF
 refine M_okv (v := .int .i64 x_1) f (by kernel_rfl) (by kernel_rfl) rfl rfl (fun _ => by kernel_rfl) (ref03_Check_ok n _ _ d0 (TB0.shutx (x := d0) (h_1.mono (hM_1.trans hM_2)) (h_2.mono (hM_1.trans hM_2))) x_1 hx_1) fun _ f => Y0 default f 2 fun _ f => ?_
 rcases cE hF_1 with ⟨h_5, hF_2⟩ | ⟨h_5, hF_9⟩
 ·have k_1 := dI.1 h_5
  have f := f.st 8 (cB h_5)
  refine M_eq (v := .agg #[.int .i8 d1.fKind, .bool d1.fBool, .int .i64 d1.fNum, S d1.fText, .slice A_3 d1.fList.length cap_3, .slice A_4 d1.fKeys.length cap_4]) f (by kernel_rfl) (by kernel_rfl) rfl rfl (fun _ pq => Y32 (cs := [.int .i8 d1.fKind, .bool d1.fBool, .int .i64 d1.fNum, S d1.fText, .slice A_3 d1.fList.length cap_3, .slice A_4 d1.fKeys.length cap_4]) rfl (ad := ⟨b_2, 0, none⟩) (fun j v h => pq.cell (hc_4 j v h))) fun _ f => ?_
  obtain ⟨x_2, hx_2, hF_3⟩ := bS hF_2
  refine M_okv (v := .int .i64 x_2) f (by kernel_rfl) (by kernel_rfl) rfl rfl (fun _ => by kernel_rfl) (ref03_Check_ok n _ _ d1 (TB0.shutx (x := d1) (h_3.mono (hM_1.trans hM_2)) (h_4.mono (hM_1.trans hM_2))) x_2 hx_2) fun _ f => Y0 default f 3 fun _ f => ?_
  rcases cE hF_3 with ⟨h_6, hF_4⟩ | ⟨h_6, hF_8⟩
  ·have k_2 := dI.1 h_6
   have f := f.st 13 (cB h_6)
   refine M_eq (v := .agg #[.int .i8 d0.fKind, .bool d0.fBool, .int .i64 d0.fNum, S d0.fText, .slice A_1 d0.fList.length cap_1, .slice A_2 d0.fKeys.length cap_2]) f (by kernel_rfl) (by kernel_rfl) rfl rfl (fun _ pq => Y32 (cs := [.int .i8 d0.fKind, .bool d0.fBool, .int .i64 d0.fNum, S d0.fText, .slice A_1 d0.fList.length cap_1, .slice A_2 d0.fKeys.length cap_2]) rfl (ad := ⟨b_1, 0, none⟩) (fun j v h => pq.cell ((fzu hM_2 hc_2) j v h))) fun _ f => M_eq (v := .agg #[.int .i8 d1.fKind, .bool d1.fBool, .int .i64 d1.fNum, S d1.fText, .slice A_3 d1.fList.length cap_3, .slice A_4 d1.fKeys.length cap_4]) f (by kernel_rfl) (by kernel_rfl) rfl rfl (fun _ pq => Y32 (cs := [.int .i8 d1.fKind, .bool d1.fBool, .int .i64 d1.fNum, S d1.fText, .slice A_3 d1.fList.length cap_3, .slice A_4 d1.fKeys.length cap_4]) rfl (ad := ⟨b_2, 0, none⟩) (fun j v h => pq.cell (hc_4 j v h))) fun _ f => M_fix (E := []) fun w_5 p_5 => ?_
   obtain ⟨x_3, hx_3, hF_5⟩ := bS hF_4
   refine Y16 f p_5 (ref03_sorted_ok n _ _ d0 (TB0.shutx (x := d0) (h_1.mono (hM_1.trans hM_2)) (h_2.mono (hM_1.trans hM_2))) x_3 hx_3) fun _ M_3 w_6 hM_3 p_6 q_1 _ f => ?_
   obtain ⟨c_1, rfl, hr_1⟩ := q_1
   obtain ⟨A_5, cap_5, A_6, cap_6, rfl, h_7, h_8⟩ := TB0.opn hr_1
   refine W_end rfl (M_go (M1 := M_3) (E := []) hM_3 p_6 (M_fix (E := []) fun w_7 p_7 => ?_))
   obtain ⟨x_4, hx_4, hF_6⟩ := bS hF_5
   refine Y16 f p_7 (ref03_sorted_ok n _ _ d1 (TB0.shutx (x := d1) (h_3.mono ((hM_1.trans hM_2).trans hM_3)) (h_4.mono ((hM_1.trans hM_2).trans hM_3))) x_4 hx_4) fun _ M_4 w_8 hM_4 p_8 q_2 _ f => ?_
   obtain ⟨c_2, rfl, hr_2⟩ := q_2
   obtain ⟨A_7, cap_7, A_8, cap_8, rfl, h_9, h_10⟩ := TB0.opn hr_2
   refine W_end rfl (M_go (M1 := M_4) (E := []) (hM_3.trans hM_4) p_8 (M_fix (E := []) fun w_9 p_9 => ?_))
   obtain ⟨x_5, hx_5, hF_7⟩ := bS hF_6
   refine Y18 f p_9 (ref03_compare_ok n _ _ x_3 (TB0.shutx (x := x_3) (h_7.mono hM_4) (h_8.mono hM_4)) _ x_4 (TB0.shutx (x := x_4) h_9 h_10) x_5 hx_5) fun w_10 p_10 _ f => W_end rfl (M_go (M1 := M_4) (E := []) (hM_3.trans hM_4) p_10 (Y0 default f 3 fun _ f => M_end rfl fun w_11 p_11 => T_n (wp_ret (E_ret1 f rfl (by kernel_rfl : Vc.look _ 4 = some (.bool (decide (x_5 = 0)))) ?_))))
   obtain rfl := sI hF_7
   exact ⟨_, rfl, M_4, (((hM_1.trans hM_2).trans hM_3).trans hM_4), p_11, rfl⟩
  ·have k_3 := iff_f dI h_6
   have f := f.st 13 (cB h_6)
   refine Y0 default f 2 fun _ f => M_fix (E := []) fun w_12 p_12 => Y f 1 fun _ f => W_end rfl (M_go (M1 := M_2) (E := []) (mR _) p_12 (M_fix (E := []) fun w_13 p_13 => Y f 1 fun _ f => W_end rfl (M_go (M1 := M_2) (E := []) (mR _) p_13 (M_fix (E := []) fun w_14 p_14 => Y f 1 fun _ f => ?_))))
   refine W_end rfl (M_go (M1 := M_2) (E := []) (mR _) p_14 (Y0 default f 3 fun _ f => M_end rfl fun w_15 p_15 => T_n (wp_ret (E_ret1 f rfl (by kernel_rfl : Vc.look _ 4 = some (.bool false)) ?_))))
   obtain rfl := sI hF_8
   exact ⟨_, rfl, M_2, (hM_1.trans hM_2), p_15, rfl⟩
 ·have k_4 := iff_f dI h_5
  have f := f.st 8 (cB h_5)
  refine Y0 default f 7 fun _ f => M_fix (E := []) fun w_16 p_16 => Y f 1 fun _ f => W_end rfl (M_go (M1 := M_2) (E := []) (mR _) p_16 (M_fix (E := []) fun w_17 p_17 => Y f 1 fun _ f => W_end rfl (M_go (M1 := M_2) (E := []) (mR _) p_17 (M_fix (E := []) fun w_18 p_18 => Y f 1 fun _ f => ?_))))
  refine W_end rfl (M_go (M1 := M_2) (E := []) (mR _) p_18 (Y0 default f 3 fun _ f => M_end rfl fun w_19 p_19 => T_n (wp_ret (E_ret1 f rfl (by kernel_rfl : Vc.look _ 4 = some (.bool false)) ?_))))
  obtain rfl := sI hF_9
  exact ⟨_, rfl, M_2, (hM_1.trans hM_2), p_19, rfl⟩
def law14_ParamsAgain_s1 (n : Nat) (d0 : List TC0) (x_3 : List TA0 × List UInt8 × Int) (s_1 : Int) : Option (Lp Int (Sum Unit Unit)) :=
    bif (decide (s_1 < ((d0.length : Nat) : Int))) then
      ((getI x_3.1 s_1).bind fun x_5 =>
      (getI d0 s_1).bind fun x_6 =>
      bif (!(decide (x_5.fName = x_6.fName))) then
        (some (.br (.inl ())))
      else
        (getI d0 s_1).bind fun x_7 =>
        (getI x_3.1 s_1).bind fun x_8 =>
        (params_May n x_7 x_8).bind fun x_9 =>
        bif !x_9 then
          (some (.br (.inl ())))
        else
          need (inR .i64 (s_1 + 1)) <|
          some (.nx (s_1 + 1)))
    else
      some (.br (.inr ()))
def law14_ParamsAgain (n : Nat) (d0 : List TC0) (d1 : List TA0) (d2 : Int) : Option Bool :=
  (law14_great n d0 d1).bind fun x_1 =>
  bif x_1 then
    ((law14_wakes n).bind fun x_2 =>
    some ((x_2)))
  else
    (params_Bind n d0 d1).bind fun x_3 =>
    bif (!(decide (x_3.2.2 = 0))) then
      (((bif (decide (((x_3.1.length : Nat) : Int) = 0)) then
          ((law14_wakes n).bind fun x_4 =>
          some ((x_4)))
        else
          some ((false)) : Option Bool)).bind fun y_1 =>
      some ((y_1)))
    else
      bif (!(decide (((x_3.1.length : Nat) : Int) = ((d0.length : Nat) : Int)))) then
        (some ((false)))
      else
        (loopF (law14_ParamsAgain_s1 n d0 x_3) n (0 : Int)).bind fun b_1 =>
        (match b_1 with 
        | .inl y_2 => some ((false)) 
        | .inr y_3 => (params_Bind n d0 x_3.1).bind fun x_10 =>
          ((bif (!(decide (x_10.2.2 = 0))) then
              (some ((true)))
            else
              (params_Same n x_3.1 x_10.1).bind fun x_11 =>
              bif !x_11 then
                (some ((true)))
              else
                some ((decide (((d0.length : Nat) : Int) = 0))) : Option Bool)).bind fun y_4 =>
          bif y_4 then
            (((bif (decide (x_10.2.2 = 0)) then
                (bif (decide (((d0.length : Nat) : Int) = 0)) then
                  ((law14_wakes n).bind fun x_12 =>
                  some ((x_12)))
                else
                  some ((false)))
              else
                some ((false)) : Option Bool)).bind fun y_5 =>
            some ((y_5)))
          else
            need (((d0.length : Nat) : Int) ≠ 0) <|
            need (inR .i64 ((d2.tmod ((d0.length : Nat) : Int)) + ((d0.length : Nat) : Int))) <|
            need (((d0.length : Nat) : Int) ≠ 0) <|
            need (0 ≤ 0 ∧ 0 ≤ (((d2.tmod ((d0.length : Nat) : Int)) + ((d0.length : Nat) : Int)).tmod ((d0.length : Nat) : Int)) ∧ (((d2.tmod ((d0.length : Nat) : Int)) + ((d0.length : Nat) : Int)).tmod ((d0.length : Nat) : Int)) ≤ (x_3.1.length : Int)) <|
            need ((([] : List TA0).length + ((x_3.1.take (((d2.tmod ((d0.length : Nat) : Int)) + ((d0.length : Nat) : Int)).tmod ((d0.length : Nat) : Int)).toNat).drop 0).length) * 104 ≤ 140737488355328) <|
            need (inR .i64 ((((d2.tmod ((d0.length : Nat) : Int)) + ((d0.length : Nat) : Int)).tmod ((d0.length : Nat) : Int)) + 1)) <|
            need (0 ≤ ((((d2.tmod ((d0.length : Nat) : Int)) + ((d0.length : Nat) : Int)).tmod ((d0.length : Nat) : Int)) + 1) ∧ ((((d2.tmod ((d0.length : Nat) : Int)) + ((d0.length : Nat) : Int)).tmod ((d0.length : Nat) : Int)) + 1) ≤ (x_3.1.length : Int)) <|
            need (((([] : List TA0) ++ ((x_3.1.take (((d2.tmod ((d0.length : Nat) : Int)) + ((d0.length : Nat) : Int)).tmod ((d0.length : Nat) : Int)).toNat).drop 0)).length + (x_3.1.drop ((((d2.tmod ((d0.length : Nat) : Int)) + ((d0.length : Nat) : Int)).tmod ((d0.length : Nat) : Int)) + 1).toNat).length) * 104 ≤ 140737488355328) <|
            (params_Bind n d0 ((([] : List TA0) ++ ((x_3.1.take (((d2.tmod ((d0.length : Nat) : Int)) + ((d0.length : Nat) : Int)).tmod ((d0.length : Nat) : Int)).toNat).drop 0)) ++ (x_3.1.drop ((((d2.tmod ((d0.length : Nat) : Int)) + ((d0.length : Nat) : Int)).tmod ((d0.length : Nat) : Int)) + 1).toNat))).bind fun x_13 =>
            (getI d0 (((d2.tmod ((d0.length : Nat) : Int)) + ((d0.length : Nat) : Int)).tmod ((d0.length : Nat) : Int))).bind fun x_14 =>
            bif !x_14.fHas then
              (((bif (decide (x_13.2.2 = 140)) then
                  ((getI d0 (((d2.tmod ((d0.length : Nat) : Int)) + ((d0.length : Nat) : Int)).tmod ((d0.length : Nat) : Int))).bind fun x_15 =>
                  bif (decide (x_13.2.1 = x_15.fName)) then
                    ((law14_wakes n).bind fun x_16 =>
                    some ((x_16)))
                  else
                    some ((false)))
                else
                  some ((false)) : Option Bool)).bind fun y_6 =>
              some ((y_6)))
            else
              ((bif (!(decide (x_13.2.2 = 0))) then
                  (some ((true)))
                else
                  bif (!(decide (((x_13.1.length : Nat) : Int) = ((d0.length : Nat) : Int)))) then
                    (some ((true)))
                  else
                    (getI x_13.1 (((d2.tmod ((d0.length : Nat) : Int)) + ((d0.length : Nat) : Int)).tmod ((d0.length : Nat) : Int))).bind fun x_17 =>
                    (getI d0 (((d2.tmod ((d0.length : Nat) : Int)) + ((d0.length : Nat) : Int)).tmod ((d0.length : Nat) : Int))).bind fun x_18 =>
                    (ref03_Equal n (⟨x_17.fV.fKind, (x_17.fV.fBool), x_17.fV.fNum, x_17.fV.fText, x_17.fV.fList, x_17.fV.fKeys⟩ : TB0) (⟨x_18.fDefault.fKind, (x_18.fDefault.fBool), x_18.fDefault.fNum, x_18.fDefault.fText, x_18.fDefault.fList, x_18.fDefault.fKeys⟩ : TB0)).bind fun x_19 =>
                    some ((!x_19)) : Option Bool)).bind fun y_7 =>
              bif y_7 then
                (some ((false)))
              else
                (getI x_3.1 (((d2.tmod ((d0.length : Nat) : Int)) + ((d0.length : Nat) : Int)).tmod ((d0.length : Nat) : Int))).bind fun x_20 =>
                (getI x_13.1 (((d2.tmod ((d0.length : Nat) : Int)) + ((d0.length : Nat) : Int)).tmod ((d0.length : Nat) : Int))).bind fun x_21 =>
                (params_Same n x_3.1 (x_13.1.set (((d2.tmod ((d0.length : Nat) : Int)) + ((d0.length : Nat) : Int)).tmod ((d0.length : Nat) : Int)).toNat x_20)).bind fun x_22 =>
                bif x_22 then
                  ((law14_wakes n).bind fun x_23 =>
                  some ((x_23)))
                else
                  some ((false)))
theorem law14_ParamsAgain_ok (n : Nat) (M : Mem) (hG : GL M) (A0 : Option Addr) (cap0 : Nat) (d0 : List TC0) (h0 : Sli M 10 emb_TC0 A0 cap0 d0) (A1 : Option Addr) (cap1 : Nat) (d1 : List TA0) (h1 : Sli M 8 emb_TA0 A1 cap1 d1) (d2 : Int) (r : Bool) (hF : law14_ParamsAgain n d0 d1 d2 = some r) : Ok Tryd.prog M 3 [.slice A0 d0.length cap0, .slice A1 d1.length cap1, .int .i64 d2] (fun _ v => v = .bool r) := by
 unfold law14_ParamsAgain at hF
 intro M1 hM0 w0 H w p0
 replace hG := GL.mono hM0 hG
 replace h0 := h0.mono hM0
 replace h1 := h1.mono hM0
 refine R_enter 185 Tryd.func3 rfl rfl (by simp) fun a0 f0 => RR (Y f0 1 fun _ f => eT (R_seq (RR (Y f 2 fun _ f => ?_))))
 obtain ⟨x_1, hx_1, hF_1⟩ := bS hF
 refine Y18 f p0 (law14_great_ok n _ hG A0 cap0 d0 h0 A1 cap1 d1 h1 x_1 hx_1) fun w_1 p_1 _ f => eT (RcF f hF_1 (fun h_1 hF_2 => ?_) fun h_1 hF_4 => ?_)
 ·refine RR ?_
  obtain ⟨x_2, hx_2, hF_3⟩ := bS hF_2
  refine Y18 f p_1 (law14_wakes_ok n _ hG x_2 hx_2) fun w_2 p_2 _ f => Y f 1 fun _ f => eT (wp_ret (T_r (E_ret1 f rfl (by kernel_rfl : Vc.look _ 6 = some (.bool x_2)) ?_)))
  obtain rfl := sI hF_3
  exact ⟨_, rfl, M1, (mR _), p_2, rfl⟩
 ·refine wp_skip (T_n (RR (Y f 2 fun _ f => ?_)))
  obtain ⟨x_3, hx_3, hF_5⟩ := bS hF_4
  refine Y17 (E := []) (H := (H)) f p_1 (params_Bind_ok n _ hG A0 cap0 d0 h0 A1 cap1 d1 h1 x_3 hx_3) fun _ M_1 E_1 w_3 hM_1 p_3 q_1 _ f => ?_
  obtain ⟨A_1, cap_1, cs_1, rfl, rfl, hr_1⟩ := q_1
  refine Y f 7 fun _ f => eT (R_seq (RR (Y f 2 fun _ f => eT (RcF f hF_5 (fun h_2 hF_6 => ?_) fun h_2 hF_11 => ?_))))
  ·have k_3 : ¬ (x_3.2.2 = 0) := (not_iff dI).1 h_2
   refine R_seq ?_
   obtain ⟨j_1, hj_1, hF_7⟩ := bS hF_6
   refine R_mid (fun a_14 w_5 => ∃ y_1 : Bool, j_1 = y_1 ∧ ∃ M_2 : Mem, M_1.le M_2 ∧ Frm 185 [(6, .bool y_1)] a_14 ∧ Hp w0 M_2 ((Ent.row 35 8 (.slice A_1 x_3.1.length cap_1) x_3.1.length cs_1) :: H) w_5) ?_ ?_
   ·refine R_reg (Y f 4 fun _ f => ?_)
    rcases cE hj_1 with ⟨h_3, hF_8⟩ | ⟨h_3, hF_10⟩
    ·have k_4 := dI.1 h_3
     have f := f.st 34 (cB h_3)
     obtain ⟨x_4, hx_4, hF_9⟩ := bS hF_8
     refine Y18 f p_3 (law14_wakes_ok n _ (GL.mono hM_1 hG) x_4 hx_4) fun w_4 p_4 _ f => Y f 2 fun _ f => eT ?_
     exact ⟨(x_4), (sI hF_9).symm, M_1, (mR _), f.kp, p_4⟩
    ·have k_5 := iff_f dI h_3
     have f := f.st 34 (cB h_3)
     refine Y f 3 fun _ f => eT ?_
     exact ⟨(false), (sI hF_10).symm, M_1, (mR _), f.kp, p_3⟩
   ·rintro a_14 w_5 ⟨y_1, hq_1, M_2, hM_2, f, p_5⟩
    subst j_1
    refine T_n (wp_ret (T_r (E_ret1 f rfl (by kernel_rfl : Vc.look _ 6 = some (.bool y_1)) ?_)))
    obtain rfl := sI hF_7
    exact ⟨_, rfl, M_2, (hM_1.trans hM_2), (p_5.dropN 1), rfl⟩
  ·have k_6 : ¬ (¬ (x_3.2.2 = 0)) := iff_f (not_iff dI) h_2
   refine wp_skip (T_n (R_seq (RR (Y f 5 fun _ f => eT (RcF f hF_11 (fun h_4 hF_12 => ?_) fun h_4 hF_13 => ?_)))))
   ·have k_7 : ¬ (((x_3.1.length : Nat) : Int) = ((d0.length : Nat) : Int)) := (not_iff dI).1 h_4
    refine RR (Y f 1 fun _ f => eT (wp_ret (T_r (E_ret1 f rfl (by kernel_rfl : Vc.look _ 6 = some (.bool false)) ?_))))
    obtain rfl := sI hF_12
    exact ⟨_, rfl, M_1, hM_1, (p_3.dropN 1), rfl⟩
   ·have k_8 : ¬ (¬ (((x_3.1.length : Nat) : Int) = ((d0.length : Nat) : Int))) := iff_f (not_iff dI) h_4
    refine wp_skip (T_n (R_seq (RR (Y f 1 fun _ f => eT (wp_block ?_)))))
    obtain ⟨b_1, hL_1, hF_14⟩ := bS hF_13
    refine wp_mono (Q := fun e a w => (e = .ret ∧ (∃ y_2 : Unit, b_1 = .inl y_2 ∧ ∃ M_7 : Mem, M_1.le M_7 ∧ Frm 185 [(6, .bool false)] a ∧ Hp w0 M_7 ((Ent.row 35 8 (.slice A_1 x_3.1.length cap_1) x_3.1.length cs_1) :: H) w)) ∨ (e = .exit 0 ∧ (∃ y_3 : Unit, b_1 = .inr y_3 ∧ ∃ M_8 : Mem, M_1.le M_8 ∧ Frm 185 [(0, .slice A0 d0.length cap0), (2, .int .i64 d2), (7, .slice A_1 x_3.1.length cap_1)] a ∧ Hp w0 M_8 ((Ent.row 35 8 (.slice A_1 x_3.1.length cap_1) x_3.1.length cs_1) :: H) w))) (R_loop (n := 185) (w0 := w0) (M := M_1) (fun (x : Nat × Int) => match x with | (m_1, s_1) => [(0, .slice A0 d0.length cap0), (2, .int .i64 d2), (7, .slice A_1 x_3.1.length cap_1), (10, .int .i64 s_1)]) (fun (x : Nat × Int) => match x with | (m_1, s_1) => ((Ent.row 35 8 (.slice A_1 x_3.1.length cap_1) x_3.1.length cs_1) :: H)) (fun (x : Nat × Int) (MM : Mem) => match x with | (m_1, s_1) => loopF (law14_ParamsAgain_s1 n d0 x_3) m_1 s_1 = some b_1) (fun (x : Nat × Int) => match x with | (m_1, s_1) => m_1) (n, (0 : Int)) (f.kp) p_3 hL_1 ?_) ?_
    ·rintro ⟨m_1, s_1⟩ M_3 _ w_6 hM_3 I_1 f p_6
     have I_1L := I_1
     obtain ⟨m_2, r_1, rfl, hs_1, hn_1⟩ := loop_step I_1L
     unfold law14_ParamsAgain_s1 at hs_1
     refine R_seq (RR (Y f 4 fun _ f => eT (RcF f hs_1 (fun h_5 hF_15 => ?_) fun h_5 hF_26 => ?_)))
     ·have k_9 := dI.1 h_5
      refine wp_skip (T_n (R_seq (wp_block (R_seq ?_))))
      obtain ⟨M_4, A_2, cap_2, hM_4, hv_1, p_7, h_6, hb_1⟩ := p_6.lend (f := emb_TA0) (xs := x_3.1) szd_TA0 (RepSeq.mono hM_3 _ _ hr_1)
      have f := f.st 7 (hv_1)
      refine R_draw p_7 (by kernel_rfl) (by kernel_rfl) (Y5 default f 2 fun _ f => ?_)
      obtain ⟨x_5, hx_5, hF_16⟩ := bS hF_15
      obtain ⟨ad_1, c_1, e_1, -, hr_2, hc_1⟩ := Sli.at_ h_6 hx_5
      obtain ⟨A_3, cap_3, A_4, cap_4, rfl, h_7, h_8⟩ := TA0.opn hr_2
      refine Y2 (v := .pointer (some (ad_1.add (s_1.toNat * 8)))) f (fun _ pq => Y30 e_1 rfl (len := x_3.1.length) (cap := cap_2) (k := .i64) (i := s_1) (e := 35) (sz := 8) (getI_nn hx_5) (getI_lt hx_5)) fun _ f => Y5 default f 1 fun _ f => Y4 f hc_1 0 rfl fun _ f => Y5 default f 2 fun _ f => ?_
      obtain ⟨x_6, hx_6, hF_17⟩ := bS hF_16
      obtain ⟨ad_2, c_2, e_2, -, hr_3, hc_2⟩ := Sli.at_ (h0.mono ((hM_1.trans hM_3).trans hM_4)) hx_6
      obtain ⟨A_5, cap_5, A_6, cap_6, A_7, cap_7, rfl, h_9, h_10, h_11⟩ := TC0.opn hr_3
      refine Y2 (v := .pointer (some (ad_2.add (s_1.toNat * 10)))) f (fun _ pq => Y30 e_2 rfl (len := d0.length) (cap := cap0) (k := .i64) (i := s_1) (e := 37) (sz := 10) (getI_nn hx_6) (getI_lt hx_6)) fun _ f => Y5 default f 1 fun _ f => Y4 f hc_2 0 rfl fun _ f => Y2 (v := .bool (!(decide (x_5.fName = x_6.fName)))) f (fun _ pq => Y38 rfl (l := x_5.fName) (m := x_6.fName)) fun _ f => Y5 default f 1 fun _ f => ?_
      rcases cE hF_17 with ⟨h_12, hF_18⟩ | ⟨h_12, hF_19⟩
      ·have k_10 : ¬ (x_5.fName = x_6.fName) := (not_iff dI).1 h_12
       have f := f.st 59 (cB h_12)
       refine Y5 default f 11 fun _ f => Q_end rfl ?_
       intro w_7 p_8
       obtain ⟨M_5, hM_5, p_9⟩ := hb_1 _ _ _ (mR _) p_8
       have f := f.st 7 (hv_1.symm)
       refine T_n (Y8 f (RR (Y f 1 fun _ f => eT (wp_ret (B_r (T_r (T_r ?_)))))))
       obtain rfl := sI hF_18
       exact .inl ⟨rfl, (), (sI hn_1).symm, M_5, (hM_3.trans hM_5), f.kp, p_9⟩
      ·have k_11 : ¬ (¬ (x_5.fName = x_6.fName)) := iff_f (not_iff dI) h_12
       have f := f.st 59 (cB h_12)
       refine Y5 default f 2 fun _ f => ?_
       obtain ⟨x_7, hx_7, hF_20⟩ := bS hF_19
       obtain ⟨ad_3, c_3, e_3, -, hr_4, hc_3⟩ := Sli.at_ (h0.mono ((hM_1.trans hM_3).trans hM_4)) hx_7
       obtain ⟨A_8, cap_8, A_9, cap_9, A_10, cap_10, rfl, h_13, h_14, h_15⟩ := TC0.opn hr_4
       refine Y2 (v := .pointer (some (ad_3.add (s_1.toNat * 10)))) f (fun _ pq => Y30 e_3 rfl (len := d0.length) (cap := cap0) (k := .i64) (i := s_1) (e := 37) (sz := 10) (getI_nn hx_7) (getI_lt hx_7)) fun _ f => Y2 (v := .agg #[S x_7.fName, .bool x_7.fNumber, .bool x_7.fHas, .int .i8 x_7.fDefault.fKind, .bool x_7.fDefault.fBool, .int .i64 x_7.fDefault.fNum, S x_7.fDefault.fText, .slice A_8 x_7.fDefault.fList.length cap_8, .slice A_9 x_7.fDefault.fKeys.length cap_9, .slice A_10 x_7.fAllowed.length cap_10]) f (fun _ pq => Y32 (cs := [S x_7.fName, .bool x_7.fNumber, .bool x_7.fHas, .int .i8 x_7.fDefault.fKind, .bool x_7.fDefault.fBool, .int .i64 x_7.fDefault.fNum, S x_7.fDefault.fText, .slice A_8 x_7.fDefault.fList.length cap_8, .slice A_9 x_7.fDefault.fKeys.length cap_9, .slice A_10 x_7.fAllowed.length cap_10]) rfl (ad := ad_3.add (s_1.toNat * 10)) (fun j v h => pq.cell (hc_3 j v h))) fun _ f => Y5 default f 2 fun _ f => ?_
       obtain ⟨x_8, hx_8, hF_21⟩ := bS hF_20
       obtain ⟨ad_4, c_4, e_4, -, hr_5, hc_4⟩ := Sli.at_ h_6 hx_8
       obtain ⟨A_11, cap_11, A_12, cap_12, rfl, h_16, h_17⟩ := TA0.opn hr_5
       refine Y2 (v := .pointer (some (ad_4.add (s_1.toNat * 8)))) f (fun _ pq => Y30 e_4 rfl (len := x_3.1.length) (cap := cap_2) (k := .i64) (i := s_1) (e := 35) (sz := 8) (getI_nn hx_8) (getI_lt hx_8)) fun _ f => Y2 (v := .agg #[S x_8.fName, .bool x_8.fUnknown, .int .i8 x_8.fV.fKind, .bool x_8.fV.fBool, .int .i64 x_8.fV.fNum, S x_8.fV.fText, .slice A_11 x_8.fV.fList.length cap_11, .slice A_12 x_8.fV.fKeys.length cap_12]) f (fun _ pq => Y32 (cs := [S x_8.fName, .bool x_8.fUnknown, .int .i8 x_8.fV.fKind, .bool x_8.fV.fBool, .int .i64 x_8.fV.fNum, S x_8.fV.fText, .slice A_11 x_8.fV.fList.length cap_11, .slice A_12 x_8.fV.fKeys.length cap_12]) rfl (ad := ad_4.add (s_1.toNat * 8)) (fun j v h => pq.cell (hc_4 j v h))) fun _ f => ?_
       obtain ⟨x_9, hx_9, hF_22⟩ := bS hF_21
       refine Y3 f (params_May_ok n _ (GL.mono ((hM_1.trans hM_3).trans hM_4) hG) _ x_7 (TC0.shutx (x := x_7) h_13 h_14 h_15) _ x_8 (TA0.shutx (x := x_8) h_16 h_17) x_9 hx_9) fun _ f => Y5 default f 2 fun _ f => Q_end rfl ?_
       intro w_9 p_11
       obtain ⟨M_6, hM_6, p_12⟩ := hb_1 _ _ _ (mR _) p_11
       have f := f.st 7 (hv_1.symm)
       refine T_n (RcF f hF_22 (fun h_18 hF_23 => ?_) fun h_18 hF_24 => ?_)
       ·have k_12 : (x_9) = false := by simpa using h_18
        refine RR (Y f 1 fun _ f => eT (wp_ret (B_r (T_r (T_r ?_)))))
        obtain rfl := sI hF_23
        exact .inl ⟨rfl, (), (sI hn_1).symm, M_6, (hM_3.trans hM_6), f.kp, p_12⟩
       ·have k_13 : (x_9) = true := by simpa using h_18
        refine wp_skip (B_n (T_n (R_reg (Y f 1 fun _ f => ?_))))
        obtain ⟨g_1, hF_25⟩ := nS hF_24
        refine Y f 1 fun _ f => ?_
        have f := f.st 47 (congrArg (Value.int .i64) (inR_wrap g_1))
        refine Y f 1 fun _ f => eT ?_
        obtain rfl := sI hF_25
        exact ⟨⟨m_2, s_1 + 1⟩, Nat.lt_succ_self _, M_6, (hM_3.trans hM_6), hn_1, f.kp, p_12⟩
     ·have k_14 := iff_f dI h_5
      refine wp_exit (T_x (T_x ?_))
      obtain rfl := sI hF_26
      exact .inr ⟨rfl, (), (sI hn_1).symm, M_3, hM_3, f.kp, p_6⟩
    ·rintro _ _ w_12 (⟨rfl, y_2, rfl, M_7, hM_7, f, p_13⟩ | ⟨rfl, y_3, rfl, M_8, hM_8, f, p_14⟩)
     ·refine B_r (T_r (E_ret1 f rfl (by kernel_rfl : Vc.look _ 6 = some (.bool false)) ?_))
      obtain rfl := sI hF_14
      exact ⟨_, rfl, M_7, (hM_1.trans hM_7), (p_13.dropN 1), rfl⟩
     ·refine B_x (T_n (RR (Y f 2 fun _ f => ?_)))
      obtain ⟨A_13, cap_13, M_9, hv_2, hM_9, p_15, h_19⟩ := p_14.rowSli (f := emb_TA0) (xs := x_3.1) szd_TA0 (RepSeq.mono hM_8 _ _ hr_1)
      have f := f.st 7 (hv_2)
      have f := f.st 73 (hv_2)
      obtain ⟨x_10, hx_10, hF_27⟩ := bS hF_14
      refine Y17 (E := []) (H := (H)) f p_15 (params_Bind_ok n _ (GL.mono ((hM_1.trans hM_8).trans hM_9) hG) A0 cap0 d0 (h0.mono ((hM_1.trans hM_8).trans hM_9)) A_13 cap_13 x_3.1 h_19 x_10 hx_10) fun _ M_10 E_2 w_13 hM_10 p_16 q_2 _ f => ?_
      obtain ⟨A_14, cap_14, cs_2, rfl, rfl, hr_6⟩ := q_2
      refine Y f 7 fun _ f => eT (R_seq (R_seq ?_))
      obtain ⟨j_2, hj_2, hF_28⟩ := bS hF_27
      refine R_mid (fun a_57 w_15 => ∃ y_4 : Bool, j_2 = y_4 ∧ ∃ M_13 : Mem, M_10.le M_13 ∧ Frm 185 [(0, .slice A0 d0.length cap0), (2, .int .i64 d2), (7, .slice A_13 x_3.1.length cap_13), (13, .int .i64 x_10.2.2), (90, .bool y_4)] a_57 ∧ Hp w0 M_13 ((Ent.row 35 8 (.slice A_14 x_10.1.length cap_14) x_10.1.length cs_2) :: H) w_15) ?_ ?_
      ·refine R_reg (Y f 3 fun _ f => ?_)
       rcases cE hj_2 with ⟨h_20, hF_29⟩ | ⟨h_20, hF_30⟩
       ·have k_15 : ¬ (x_10.2.2 = 0) := (not_iff dI).1 h_20
        have f := f.st 80 (cB h_20)
        refine Y f 10 fun _ f => eT ?_
        exact ⟨(true), (sI hF_29).symm, M_10, (mR _), f.kp, p_16⟩
       ·have k_16 : ¬ (¬ (x_10.2.2 = 0)) := iff_f (not_iff dI) h_20
        have f := f.st 80 (cB h_20)
        refine Y f 2 fun _ f => ?_
        obtain ⟨M_11, A_15, cap_15, hM_11, hv_3, p_17, h_21, hb_2⟩ := p_16.lend (f := emb_TA0) (xs := x_10.1) szd_TA0 hr_6
        have f := f.st 82 (hv_3)
        obtain ⟨x_11, hx_11, hF_31⟩ := bS hF_30
        refine Y18 f p_17 (params_Same_ok n _ (GL.mono ((((hM_1.trans hM_8).trans hM_9).trans hM_10).trans hM_11) hG) A_13 cap_13 x_3.1 (h_19.mono (hM_10.trans hM_11)) A_15 cap_15 x_10.1 h_21 x_11 hx_11) fun w_14 p_18 _ f => ?_
        obtain ⟨M_12, hM_12, p_19⟩ := hb_2 _ _ _ (mR _) p_18
        have f := f.st 82 (hv_3.symm)
        refine Y f 3 fun _ f => ?_
        rcases cE hF_31 with ⟨h_22, hF_32⟩ | ⟨h_22, hF_33⟩
        ·have k_17 : (x_11) = false := by simpa using h_22
         have f := f.st 86 (cB h_22)
         refine Y f 4 fun _ f => eT ?_
         exact ⟨(true), (sI hF_32).symm, M_12, hM_12, f.kp, p_19⟩
        ·have k_18 : (x_11) = true := by simpa using h_22
         have f := f.st 86 (cB h_22)
         refine Y f 4 fun _ f => eT ?_
         exact ⟨(decide (((d0.length : Nat) : Int) = 0)), (sI hF_33).symm, M_12, hM_12, f.kp, p_19⟩
      ·rintro a_57 w_15 ⟨y_4, hq_2, M_13, hM_13, f, p_20⟩
       subst j_2
       refine T_n (RcF f hF_28 (fun h_23 hF_34 => ?_) fun h_23 hF_41 => ?_)
       ·refine R_seq ?_
        obtain ⟨j_3, hj_3, hF_35⟩ := bS hF_34
        refine R_mid (fun a_64 w_17 => ∃ y_5 : Bool, j_3 = y_5 ∧ ∃ M_14 : Mem, M_13.le M_14 ∧ Frm 185 [(6, .bool y_5)] a_64 ∧ Hp w0 M_14 ((Ent.row 35 8 (.slice A_14 x_10.1.length cap_14) x_10.1.length cs_2) :: H) w_17) ?_ ?_
        ·refine R_reg (Y f 3 fun _ f => ?_)
         rcases cE hj_3 with ⟨h_24, hF_36⟩ | ⟨h_24, hF_40⟩
         ·have k_20 := dI.1 h_24
          have f := f.st 93 (cB h_24)
          refine Y f 5 fun _ f => ?_
          rcases cE hF_36 with ⟨h_25, hF_37⟩ | ⟨h_25, hF_39⟩
          ·have k_21 := dI.1 h_25
           have f := f.st 98 (cB h_25)
           obtain ⟨x_12, hx_12, hF_38⟩ := bS hF_37
           refine Y18 f p_20 (law14_wakes_ok n _ (GL.mono ((((hM_1.trans hM_8).trans hM_9).trans hM_10).trans hM_13) hG) x_12 hx_12) fun w_16 p_21 _ f => Y f 2 fun _ f => eT ?_
           exact ⟨(x_12), (sI hF_38).symm, M_13, (mR _), f.kp, p_21⟩
          ·have k_22 := iff_f dI h_25
           have f := f.st 98 (cB h_25)
           refine Y f 3 fun _ f => eT ?_
           exact ⟨(false), (sI hF_39).symm, M_13, (mR _), f.kp, p_20⟩
         ·have k_23 := iff_f dI h_24
          have f := f.st 93 (cB h_24)
          refine Y f 8 fun _ f => eT ?_
          exact ⟨(false), (sI hF_40).symm, M_13, (mR _), f.kp, p_20⟩
        ·rintro a_64 w_17 ⟨y_5, hq_3, M_14, hM_14, f, p_22⟩
         subst j_3
         refine T_n (wp_ret (T_r (E_ret1 f rfl (by kernel_rfl : Vc.look _ 6 = some (.bool y_5)) ?_)))
         obtain rfl := sI hF_35
         exact ⟨_, rfl, M_14, (((((hM_1.trans hM_8).trans hM_9).trans hM_10).trans hM_13).trans hM_14), (p_22.dropN 1), rfl⟩
       ·refine wp_skip (T_n (RR (Y f 3 fun _ f => ?_)))
        obtain ⟨g_2, hF_42⟩ := nS hF_41
        refine Z (v := .int .i64 (d2.tmod ((d0.length : Nat) : Int))) f (X_rem rfl (a := d2) (b := ((d0.length : Nat) : Int)) (by kernel_rfl) (by kernel_rfl) g_2) fun _ f => Y f 2 fun _ f => ?_
        obtain ⟨g_3, hF_43⟩ := nS hF_42
        refine Y f 1 fun _ f => ?_
        have f := f.st 107 (congrArg (Value.int .i64) (inR_wrap g_3))
        refine Y f 2 fun _ f => ?_
        obtain ⟨g_4, hF_44⟩ := nS hF_43
        refine Z (v := .int .i64 (((d2.tmod ((d0.length : Nat) : Int)) + ((d0.length : Nat) : Int)).tmod ((d0.length : Nat) : Int))) f (X_rem rfl (a := (d2.tmod ((d0.length : Nat) : Int)) + ((d0.length : Nat) : Int)) (b := ((d0.length : Nat) : Int)) (by kernel_rfl) (by kernel_rfl) g_4) fun _ f => Y f 1 fun _ f => eT (RR (Y f 1 fun _ f => eT (RR (Y f 3 fun _ f => ?_))))
        obtain ⟨g_5, hF_45⟩ := nS hF_44
        have h_26 : Sli M_13 8 emb_TA0 (cutA A_13 8 0 cap_13) (cap_13 - 0) ((x_3.1.take (((d2.tmod ((d0.length : Nat) : Int)) + ((d0.length : Nat) : Int)).tmod ((d0.length : Nat) : Int)).toNat).drop 0) := Sli.cut (h_19.mono (hM_10.trans hM_13)) (by omega) (by omega)
        have hl_5 := Sli.len (h_19.mono (hM_10.trans hM_13))
        refine Z f (Y35 rfl (A := A_13) (len := x_3.1.length) (cap := cap_13) (k' := .i64) (b := ((d2.tmod ((d0.length : Nat) : Int)) + ((d0.length : Nat) : Int)).tmod ((d0.length : Nat) : Int)) (e := 35) (sz := 8) (by omega) (by omega)) fun _ f => ?_
        have f := Frm.set f 114 (v := .slice (cutA A_13 8 0 cap_13) (((d2.tmod ((d0.length : Nat) : Int)) + ((d0.length : Nat) : Int)).tmod ((d0.length : Nat) : Int)).toNat cap_13) (v' := .slice (cutA A_13 8 0 cap_13) ((x_3.1.take (((d2.tmod ((d0.length : Nat) : Int)) + ((d0.length : Nat) : Int)).tmod ((d0.length : Nat) : Int)).toNat).drop 0).length (cap_13 - 0)) (by kernel_rfl) (by congr 1; simp; omega)
        obtain ⟨A_16, cap_16, hv_4⟩ : ∃ A cap, Value.slice none 0 0 = .slice A ([] : List TA0).length cap := ⟨none, 0, rfl⟩
        have p_23 : Hp w0 M_13 ((Ent.row 35 8 (.slice A_16 ([] : List TA0).length cap_16) ([] : List TA0).length []) :: (Ent.row 35 8 (.slice A_14 x_10.1.length cap_14) x_10.1.length cs_2) :: H) w_15 := by rw [← hv_4]; exact p_20.nilRow 35 8
        have f := f.st 111 (hv_4)
        have hr_7 : RepSeq M_13 (([] : List TA0).map emb_TA0) [] := rfl
        obtain ⟨g_6, hF_46⟩ := nS hF_45
        refine Y22 (z := .agg #[S [], .bool false, .int .i8 0, .bool false, .int .i64 0, S [], .slice none 0 0, .slice none 0 0]) (f := emb_TA0) (xs := ([] : List TA0)) (ys := (x_3.1.take (((d2.tmod ((d0.length : Nat) : Int)) + ((d0.length : Nat) : Int)).tmod ((d0.length : Nat) : Int)).toNat).drop 0) (c := (cap_13 - 0)) f p_23 hr_7 h_26 rfl rfl rfl g_6 (by omega) fun A_17 cap_17 cs_3 w_18 p_24 hr_8 _ f => Y f 1 fun _ f => eT (RR (Y f 3 fun _ f => ?_))
        obtain ⟨g_7, hF_47⟩ := nS hF_46
        refine Y f 1 fun _ f => ?_
        have f := f.st 119 (congrArg (Value.int .i64) (inR_wrap g_7))
        obtain ⟨g_8, hF_48⟩ := nS hF_47
        have h_27 : Sli M_13 8 emb_TA0 (cutA A_13 8 ((((d2.tmod ((d0.length : Nat) : Int)) + ((d0.length : Nat) : Int)).tmod ((d0.length : Nat) : Int)) + 1).toNat cap_13) (cap_13 - ((((d2.tmod ((d0.length : Nat) : Int)) + ((d0.length : Nat) : Int)).tmod ((d0.length : Nat) : Int)) + 1).toNat) (x_3.1.drop ((((d2.tmod ((d0.length : Nat) : Int)) + ((d0.length : Nat) : Int)).tmod ((d0.length : Nat) : Int)) + 1).toNat) := Sli.cutFrom (h_19.mono (hM_10.trans hM_13)) (by omega)
        refine Z f (Y34 rfl (A := A_13) (len := x_3.1.length) (cap := cap_13) (k := .i64) (a := (((d2.tmod ((d0.length : Nat) : Int)) + ((d0.length : Nat) : Int)).tmod ((d0.length : Nat) : Int)) + 1) (e := 35) (sz := 8) g_8.1 g_8.2) fun _ f => ?_
        have f := Frm.set f 120 (v := .slice (cutA A_13 8 ((((d2.tmod ((d0.length : Nat) : Int)) + ((d0.length : Nat) : Int)).tmod ((d0.length : Nat) : Int)) + 1).toNat cap_13) (x_3.1.length - ((((d2.tmod ((d0.length : Nat) : Int)) + ((d0.length : Nat) : Int)).tmod ((d0.length : Nat) : Int)) + 1).toNat) (cap_13 - ((((d2.tmod ((d0.length : Nat) : Int)) + ((d0.length : Nat) : Int)).tmod ((d0.length : Nat) : Int)) + 1).toNat)) (v' := .slice (cutA A_13 8 ((((d2.tmod ((d0.length : Nat) : Int)) + ((d0.length : Nat) : Int)).tmod ((d0.length : Nat) : Int)) + 1).toNat cap_13) (x_3.1.drop ((((d2.tmod ((d0.length : Nat) : Int)) + ((d0.length : Nat) : Int)).tmod ((d0.length : Nat) : Int)) + 1).toNat).length (cap_13 - ((((d2.tmod ((d0.length : Nat) : Int)) + ((d0.length : Nat) : Int)).tmod ((d0.length : Nat) : Int)) + 1).toNat)) (by kernel_rfl) (by rw [List.length_drop])
        obtain ⟨g_9, hF_49⟩ := nS hF_48
        refine Y22 (z := .agg #[S [], .bool false, .int .i8 0, .bool false, .int .i64 0, S [], .slice none 0 0, .slice none 0 0]) (f := emb_TA0) (xs := ([] : List TA0) ++ ((x_3.1.take (((d2.tmod ((d0.length : Nat) : Int)) + ((d0.length : Nat) : Int)).tmod ((d0.length : Nat) : Int)).toNat).drop 0)) (ys := x_3.1.drop ((((d2.tmod ((d0.length : Nat) : Int)) + ((d0.length : Nat) : Int)).tmod ((d0.length : Nat) : Int)) + 1).toNat) (c := (cap_13 - ((((d2.tmod ((d0.length : Nat) : Int)) + ((d0.length : Nat) : Int)).tmod ((d0.length : Nat) : Int)) + 1).toNat)) f p_24 hr_8 h_27 rfl rfl rfl g_9 (by omega) fun A_18 cap_18 cs_4 w_19 p_25 hr_9 _ f => Y f 1 fun _ f => eT (RR (Y f 2 fun _ f => ?_))
        obtain ⟨A_19, cap_19, M_15, hv_5, hM_15, p_26, h_28⟩ := p_25.rowSli (f := emb_TA0) (xs := (([] : List TA0) ++ ((x_3.1.take (((d2.tmod ((d0.length : Nat) : Int)) + ((d0.length : Nat) : Int)).tmod ((d0.length : Nat) : Int)).toNat).drop 0)) ++ (x_3.1.drop ((((d2.tmod ((d0.length : Nat) : Int)) + ((d0.length : Nat) : Int)).tmod ((d0.length : Nat) : Int)) + 1).toNat)) szd_TA0 hr_9
        have f := f.st 124 (hv_5)
        obtain ⟨x_13, hx_13, hF_50⟩ := bS hF_49
        refine Y17 (E := []) (H := ((Ent.row 35 8 (.slice A_14 x_10.1.length cap_14) x_10.1.length cs_2) :: H)) f p_26 (params_Bind_ok n _ (GL.mono (((((hM_1.trans hM_8).trans hM_9).trans hM_10).trans hM_13).trans hM_15) hG) A0 cap0 d0 (h0.mono (((((hM_1.trans hM_8).trans hM_9).trans hM_10).trans hM_13).trans hM_15)) A_19 cap_19 ((([] : List TA0) ++ ((x_3.1.take (((d2.tmod ((d0.length : Nat) : Int)) + ((d0.length : Nat) : Int)).tmod ((d0.length : Nat) : Int)).toNat).drop 0)) ++ (x_3.1.drop ((((d2.tmod ((d0.length : Nat) : Int)) + ((d0.length : Nat) : Int)).tmod ((d0.length : Nat) : Int)) + 1).toNat)) h_28 x_13 hx_13) fun _ M_16 E_3 w_20 hM_16 p_27 q_3 _ f => ?_
        obtain ⟨A_20, cap_20, cs_5, rfl, rfl, hr_10⟩ := q_3
        refine Y f 7 fun _ f => eT (R_seq (RR (Y f 2 fun _ f => ?_)))
        obtain ⟨x_14, hx_14, hF_51⟩ := bS hF_50
        obtain ⟨ad_5, c_5, e_5, -, hr_11, hc_5⟩ := Sli.at_ (h0.mono ((((((hM_1.trans hM_8).trans hM_9).trans hM_10).trans hM_13).trans hM_15).trans hM_16)) hx_14
        obtain ⟨A_21, cap_21, A_22, cap_22, A_23, cap_23, rfl, h_29, h_30, h_31⟩ := TC0.opn hr_11
        refine Z f (Y30 e_5 rfl (len := d0.length) (cap := cap0) (k := .i64) (i := ((d2.tmod ((d0.length : Nat) : Int)) + ((d0.length : Nat) : Int)).tmod ((d0.length : Nat) : Int)) (e := 37) (sz := 10) (getI_nn hx_14) (getI_lt hx_14)) fun _ f => Y f 1 fun _ f => Y15 f p_27 hc_5 2 rfl fun _ f => Y f 1 fun _ f => eT (RcF f hF_51 (fun h_32 hF_52 => ?_) fun h_32 hF_60 => ?_)
        ·have k_25 : (x_14.fHas) = false := by simpa using h_32
         refine R_seq ?_
         obtain ⟨j_4, hj_4, hF_53⟩ := bS hF_52
         refine R_mid (fun a_101 w_22 => ∃ y_6 : Bool, j_4 = y_6 ∧ ∃ M_17 : Mem, M_16.le M_17 ∧ Frm 185 [(6, .bool y_6)] a_101 ∧ Hp w0 M_17 ((Ent.row 35 8 (.slice A_20 x_13.1.length cap_20) x_13.1.length cs_5) :: (Ent.row 35 8 (.slice A_14 x_10.1.length cap_14) x_10.1.length cs_2) :: H) w_22) ?_ ?_
         ·refine R_reg (Y f 3 fun _ f => ?_)
          rcases cE hj_4 with ⟨h_33, hF_54⟩ | ⟨h_33, hF_59⟩
          ·have k_26 := dI.1 h_33
           have f := f.st 137 (cB h_33)
           refine Y f 3 fun _ f => ?_
           obtain ⟨x_15, hx_15, hF_55⟩ := bS hF_54
           obtain ⟨ad_6, c_6, e_6, -, hr_12, hc_6⟩ := Sli.at_ (h0.mono ((((((hM_1.trans hM_8).trans hM_9).trans hM_10).trans hM_13).trans hM_15).trans hM_16)) hx_15
           obtain ⟨A_24, cap_24, A_25, cap_25, A_26, cap_26, rfl, h_34, h_35, h_36⟩ := TC0.opn hr_12
           refine Z f (Y30 e_6 rfl (len := d0.length) (cap := cap0) (k := .i64) (i := ((d2.tmod ((d0.length : Nat) : Int)) + ((d0.length : Nat) : Int)).tmod ((d0.length : Nat) : Int)) (e := 37) (sz := 10) (getI_nn hx_15) (getI_lt hx_15)) fun _ f => Y f 1 fun _ f => Y15 f p_27 hc_6 0 rfl fun _ f => Z f (Y37 rfl (l := x_13.2.1) (m := x_15.fName)) fun _ f => Y f 2 fun _ f => ?_
           rcases cE hF_55 with ⟨h_37, hF_56⟩ | ⟨h_37, hF_58⟩
           ·have k_27 := dI.1 h_37
            have f := f.st 146 (cB h_37)
            obtain ⟨x_16, hx_16, hF_57⟩ := bS hF_56
            refine Y18 f p_27 (law14_wakes_ok n _ (GL.mono ((((((hM_1.trans hM_8).trans hM_9).trans hM_10).trans hM_13).trans hM_15).trans hM_16) hG) x_16 hx_16) fun w_21 p_28 _ f => Y f 2 fun _ f => eT ?_
            exact ⟨(x_16), (sI hF_57).symm, M_16, (mR _), f.kp, p_28⟩
           ·have k_28 := iff_f dI h_37
            have f := f.st 146 (cB h_37)
            refine Y f 3 fun _ f => eT ?_
            exact ⟨(false), (sI hF_58).symm, M_16, (mR _), f.kp, p_27⟩
          ·have k_29 := iff_f dI h_33
           have f := f.st 137 (cB h_33)
           refine Y f 12 fun _ f => eT ?_
           exact ⟨(false), (sI hF_59).symm, M_16, (mR _), f.kp, p_27⟩
         ·rintro a_101 w_22 ⟨y_6, hq_4, M_17, hM_17, f, p_29⟩
          subst j_4
          refine T_n (wp_ret (T_r (E_ret1 f rfl (by kernel_rfl : Vc.look _ 6 = some (.bool y_6)) ?_)))
          obtain rfl := sI hF_53
          exact ⟨_, rfl, M_17, (((((((hM_1.trans hM_8).trans hM_9).trans hM_10).trans hM_13).trans hM_15).trans hM_16).trans hM_17), (p_29.dropN 2), rfl⟩
        ·have k_30 : (x_14.fHas) = true := by simpa using h_32
         refine wp_skip (T_n (R_seq (R_seq ?_)))
         obtain ⟨j_5, hj_5, hF_61⟩ := bS hF_60
         refine R_mid (fun a_116 w_27 => ∃ y_7 : Bool, j_5 = y_7 ∧ ∃ M_22 : Mem, M_16.le M_22 ∧ Frm 185 [(2, .int .i64 (((d2.tmod ((d0.length : Nat) : Int)) + ((d0.length : Nat) : Int)).tmod ((d0.length : Nat) : Int))), (7, .slice A_13 x_3.1.length cap_13), (15, .slice A_20 x_13.1.length cap_20), (171, .bool y_7)] a_116 ∧ Hp w0 M_22 ((Ent.row 35 8 (.slice A_20 x_13.1.length cap_20) x_13.1.length cs_5) :: (Ent.row 35 8 (.slice A_14 x_10.1.length cap_14) x_10.1.length cs_2) :: H) w_27) ?_ ?_
         ·obtain ⟨M_18, A_27, cap_27, hM_18, hv_6, p_30, h_38, hb_3⟩ := p_27.lend (f := emb_TA0) (xs := x_13.1) szd_TA0 hr_10
          have f := f.st 15 (hv_6)
          refine R_draw p_30 (by kernel_rfl) (by kernel_rfl) (Y5 default f 3 fun _ f => ?_)
          rcases cE hj_5 with ⟨h_39, hF_62⟩ | ⟨h_39, hF_63⟩
          ·have k_31 : ¬ (x_13.2.2 = 0) := (not_iff dI).1 h_39
           have f := f.st 151 (cB h_39)
           refine Y5 default f 20 fun _ f => Q_end rfl ?_
           intro w_23 p_31
           obtain ⟨M_19, hM_19, p_32⟩ := hb_3 _ _ _ (mR _) p_31
           have f := f.st 15 (hv_6.symm)
           refine T_n ?_
           exact ⟨(true), (sI hF_62).symm, M_19, hM_19, f.kp, p_32⟩
          ·have k_32 : ¬ (¬ (x_13.2.2 = 0)) := iff_f (not_iff dI) h_39
           have f := f.st 151 (cB h_39)
           refine Y5 default f 7 fun _ f => ?_
           rcases cE hF_63 with ⟨h_40, hF_64⟩ | ⟨h_40, hF_65⟩
           ·have k_33 : ¬ (((x_13.1.length : Nat) : Int) = ((d0.length : Nat) : Int)) := (not_iff dI).1 h_40
            have f := f.st 158 (cB h_40)
            refine Y5 default f 13 fun _ f => Q_end rfl ?_
            intro w_24 p_33
            obtain ⟨M_20, hM_20, p_34⟩ := hb_3 _ _ _ (mR _) p_33
            have f := f.st 15 (hv_6.symm)
            refine T_n ?_
            exact ⟨(true), (sI hF_64).symm, M_20, hM_20, f.kp, p_34⟩
           ·have k_34 : ¬ (¬ (((x_13.1.length : Nat) : Int) = ((d0.length : Nat) : Int))) := iff_f (not_iff dI) h_40
            have f := f.st 158 (cB h_40)
            refine Y5 default f 2 fun _ f => ?_
            obtain ⟨x_17, hx_17, hF_66⟩ := bS hF_65
            obtain ⟨ad_7, c_7, e_7, -, hr_13, hc_7⟩ := Sli.at_ h_38 hx_17
            obtain ⟨A_28, cap_28, A_29, cap_29, rfl, h_41, h_42⟩ := TA0.opn hr_13
            refine Y2 (v := .pointer (some (ad_7.add ((((d2.tmod ((d0.length : Nat) : Int)) + ((d0.length : Nat) : Int)).tmod ((d0.length : Nat) : Int)).toNat * 8)))) f (fun _ pq => Y30 e_7 rfl (len := x_13.1.length) (cap := cap_27) (k := .i64) (i := ((d2.tmod ((d0.length : Nat) : Int)) + ((d0.length : Nat) : Int)).tmod ((d0.length : Nat) : Int)) (e := 35) (sz := 8) (getI_nn hx_17) (getI_lt hx_17)) fun _ f => Y5 default f 1 fun _ f => Y2 (v := .agg #[.int .i8 x_17.fV.fKind, .bool x_17.fV.fBool, .int .i64 x_17.fV.fNum, S x_17.fV.fText, .slice A_28 x_17.fV.fList.length cap_28, .slice A_29 x_17.fV.fKeys.length cap_29]) f (fun _ pq => Y32 (cs := [.int .i8 x_17.fV.fKind, .bool x_17.fV.fBool, .int .i64 x_17.fV.fNum, S x_17.fV.fText, .slice A_28 x_17.fV.fList.length cap_28, .slice A_29 x_17.fV.fKeys.length cap_29]) rfl (ad := (ad_7.add ((((d2.tmod ((d0.length : Nat) : Int)) + ((d0.length : Nat) : Int)).tmod ((d0.length : Nat) : Int)).toNat * 8)).add 2) (fz_part (base := ad_7.add ((((d2.tmod ((d0.length : Nat) : Int)) + ((d0.length : Nat) : Int)).tmod ((d0.length : Nat) : Int)).toNat * 8)) (fun j v h => pq.cell (hc_7 j v h)) 2 rfl)) fun _ f => Y5 default f 2 fun _ f => ?_
            obtain ⟨x_18, hx_18, hF_67⟩ := bS hF_66
            obtain ⟨ad_8, c_8, e_8, -, hr_14, hc_8⟩ := Sli.at_ (h0.mono (((((((hM_1.trans hM_8).trans hM_9).trans hM_10).trans hM_13).trans hM_15).trans hM_16).trans hM_18)) hx_18
            obtain ⟨A_30, cap_30, A_31, cap_31, A_32, cap_32, rfl, h_43, h_44, h_45⟩ := TC0.opn hr_14
            refine Y2 (v := .pointer (some (ad_8.add ((((d2.tmod ((d0.length : Nat) : Int)) + ((d0.length : Nat) : Int)).tmod ((d0.length : Nat) : Int)).toNat * 10)))) f (fun _ pq => Y30 e_8 rfl (len := d0.length) (cap := cap0) (k := .i64) (i := ((d2.tmod ((d0.length : Nat) : Int)) + ((d0.length : Nat) : Int)).tmod ((d0.length : Nat) : Int)) (e := 37) (sz := 10) (getI_nn hx_18) (getI_lt hx_18)) fun _ f => Y5 default f 1 fun _ f => Y2 (v := .agg #[.int .i8 x_18.fDefault.fKind, .bool x_18.fDefault.fBool, .int .i64 x_18.fDefault.fNum, S x_18.fDefault.fText, .slice A_30 x_18.fDefault.fList.length cap_30, .slice A_31 x_18.fDefault.fKeys.length cap_31]) f (fun _ pq => Y32 (cs := [.int .i8 x_18.fDefault.fKind, .bool x_18.fDefault.fBool, .int .i64 x_18.fDefault.fNum, S x_18.fDefault.fText, .slice A_30 x_18.fDefault.fList.length cap_30, .slice A_31 x_18.fDefault.fKeys.length cap_31]) rfl (ad := (ad_8.add ((((d2.tmod ((d0.length : Nat) : Int)) + ((d0.length : Nat) : Int)).tmod ((d0.length : Nat) : Int)).toNat * 10)).add 3) (fz_part (base := ad_8.add ((((d2.tmod ((d0.length : Nat) : Int)) + ((d0.length : Nat) : Int)).tmod ((d0.length : Nat) : Int)).toNat * 10)) (fun j v h => pq.cell (hc_8 j v h)) 3 rfl)) fun _ f => ?_
            obtain ⟨x_19, hx_19, hF_68⟩ := bS hF_67
            refine Y3 f (ref03_Equal_ok n _ _ (⟨x_17.fV.fKind, (x_17.fV.fBool), x_17.fV.fNum, x_17.fV.fText, x_17.fV.fList, x_17.fV.fKeys⟩ : TB0) (TB0.shut h_41 h_42) _ (⟨x_18.fDefault.fKind, (x_18.fDefault.fBool), x_18.fDefault.fNum, x_18.fDefault.fText, x_18.fDefault.fList, x_18.fDefault.fKeys⟩ : TB0) (TB0.shut h_43 h_44) x_19 hx_19) fun _ f => Y5 default f 2 fun _ f => Q_end rfl ?_
            intro w_26 p_36
            obtain ⟨M_21, hM_21, p_37⟩ := hb_3 _ _ _ (mR _) p_36
            have f := f.st 15 (hv_6.symm)
            refine T_n ?_
            exact ⟨(!x_19), (sI hF_68).symm, M_21, hM_21, f.kp, p_37⟩
         ·rintro a_116 w_27 ⟨y_7, hq_5, M_22, hM_22, f, p_38⟩
          subst j_5
          refine T_n (RcF f hF_61 (fun h_46 hF_69 => ?_) fun h_46 hF_70 => ?_)
          ·refine RR (Y f 1 fun _ f => eT (wp_ret (T_r (E_ret1 f rfl (by kernel_rfl : Vc.look _ 6 = some (.bool false)) ?_))))
           obtain rfl := sI hF_69
           exact ⟨_, rfl, M_22, (((((((hM_1.trans hM_8).trans hM_9).trans hM_10).trans hM_13).trans hM_15).trans hM_16).trans hM_22), (p_38.dropN 2), rfl⟩
          ·refine wp_skip (T_n (RR (Y f 4 fun _ f => ?_)))
           obtain ⟨x_20, hx_20, hF_71⟩ := bS hF_70
           obtain ⟨ad_9, c_9, e_9, -, hr_15, hc_9⟩ := Sli.at_ (h_19.mono ((((hM_10.trans hM_13).trans hM_15).trans hM_16).trans hM_22)) hx_20
           obtain ⟨A_33, cap_33, A_34, cap_34, rfl, h_47, h_48⟩ := TA0.opn hr_15
           refine Z f (Y30 e_9 rfl (len := x_3.1.length) (cap := cap_13) (k := .i64) (i := ((d2.tmod ((d0.length : Nat) : Int)) + ((d0.length : Nat) : Int)).tmod ((d0.length : Nat) : Int)) (e := 35) (sz := 8) (getI_nn hx_20) (getI_lt hx_20)) fun _ f => Z (v := .agg #[S x_20.fName, .bool x_20.fUnknown, .int .i8 x_20.fV.fKind, .bool x_20.fV.fBool, .int .i64 x_20.fV.fNum, S x_20.fV.fText, .slice A_33 x_20.fV.fList.length cap_33, .slice A_34 x_20.fV.fKeys.length cap_34]) f (Y32 (cs := [S x_20.fName, .bool x_20.fUnknown, .int .i8 x_20.fV.fKind, .bool x_20.fV.fBool, .int .i64 x_20.fV.fNum, S x_20.fV.fText, .slice A_33 x_20.fV.fList.length cap_33, .slice A_34 x_20.fV.fKeys.length cap_34]) rfl (ad := ad_9.add ((((d2.tmod ((d0.length : Nat) : Int)) + ((d0.length : Nat) : Int)).tmod ((d0.length : Nat) : Int)).toNat * 8)) (fun j v h => p_38.cell (hc_9 j v h))) fun _ f => ?_
           obtain ⟨x_21, hx_21, hF_72⟩ := bS hF_71
           obtain ⟨b_2, cap_35, hv_7, hcap_1⟩ := p_38.rowAddr 0 rfl (getI_pos hx_21)
           have f := f.st 172 (hv_7)
           refine Z f (Y29 rfl (ad := ⟨b_2, 0, none⟩) (len := x_13.1.length) (cap := cap_35) (k := .i64) (i := ((d2.tmod ((d0.length : Nat) : Int)) + ((d0.length : Nat) : Int)).tmod ((d0.length : Nat) : Int)) (e := 35) (sz := 8) (getI_nn hx_21) (getI_lt hx_21)) fun _ f => ?_
           have f := f.st 172 (hv_7.symm)
           refine Y26 (it := ((d2.tmod ((d0.length : Nat) : Int)) + ((d0.length : Nat) : Int)).tmod ((d0.length : Nat) : Int)) (d := x_13.1) (f := emb_TA0) (xv := x_20) (vs := [S x_20.fName, .bool x_20.fUnknown, .int .i8 x_20.fV.fKind, .bool x_20.fV.fBool, .int .i64 x_20.fV.fNum, S x_20.fV.fText, .slice A_33 x_20.fV.fList.length cap_33, .slice A_34 x_20.fV.fKeys.length cap_34]) f p_38 hv_7 rfl rfl (by exact TA0.shutx (x := x_20) h_47 h_48) szd_TA0 hx_21 (RepSeq.mono hM_22 _ _ hr_10) fun cs_6 w_28 p_39 hr_16 _ f => ?_
           have p_40 : Hp w0 M_22 ((Ent.row 35 8 (.slice A_20 (x_13.1.set (((d2.tmod ((d0.length : Nat) : Int)) + ((d0.length : Nat) : Int)).tmod ((d0.length : Nat) : Int)).toNat x_20).length cap_20) (x_13.1.set (((d2.tmod ((d0.length : Nat) : Int)) + ((d0.length : Nat) : Int)).tmod ((d0.length : Nat) : Int)).toNat x_20).length cs_6) :: (Ent.row 35 8 (.slice A_14 x_10.1.length cap_14) x_10.1.length cs_2) :: H) w_28 := p_39.rowVal (by rw [List.length_set])
           have f := Frm.set f 15 (v := .slice A_20 x_13.1.length cap_20) (v' := .slice A_20 (x_13.1.set (((d2.tmod ((d0.length : Nat) : Int)) + ((d0.length : Nat) : Int)).tmod ((d0.length : Nat) : Int)).toNat x_20).length cap_20) (by kernel_rfl) (by rw [List.length_set])
           have f := Frm.set f 172 (v := .slice A_20 x_13.1.length cap_20) (v' := .slice A_20 (x_13.1.set (((d2.tmod ((d0.length : Nat) : Int)) + ((d0.length : Nat) : Int)).tmod ((d0.length : Nat) : Int)).toNat x_20).length cap_20) (by kernel_rfl) (by rw [List.length_set])
           refine eT (RR (Y f 2 fun _ f => ?_))
           obtain ⟨M_23, A_35, cap_36, hM_23, hv_8, p_41, h_49, hb_4⟩ := p_40.lend (f := emb_TA0) (xs := x_13.1.set (((d2.tmod ((d0.length : Nat) : Int)) + ((d0.length : Nat) : Int)).tmod ((d0.length : Nat) : Int)).toNat x_20) szd_TA0 hr_16
           have f := f.st 180 (hv_8)
           obtain ⟨x_22, hx_22, hF_73⟩ := bS hF_72
           refine Y18 f p_41 (params_Same_ok n _ (GL.mono ((((((((hM_1.trans hM_8).trans hM_9).trans hM_10).trans hM_13).trans hM_15).trans hM_16).trans hM_22).trans hM_23) hG) A_13 cap_13 x_3.1 (h_19.mono (((((hM_10.trans hM_13).trans hM_15).trans hM_16).trans hM_22).trans hM_23)) A_35 cap_36 (x_13.1.set (((d2.tmod ((d0.length : Nat) : Int)) + ((d0.length : Nat) : Int)).tmod ((d0.length : Nat) : Int)).toNat x_20) h_49 x_22 hx_22) fun w_29 p_42 _ f => ?_
           obtain ⟨M_24, hM_24, p_43⟩ := hb_4 _ _ _ (mR _) p_42
           have f := f.st 180 (hv_8.symm)
           refine Y f 1 fun _ f => ?_
           rcases cE hF_73 with ⟨h_50, hF_74⟩ | ⟨h_50, hF_76⟩
           ·have f := f.st 182 (cB h_50)
            obtain ⟨x_23, hx_23, hF_75⟩ := bS hF_74
            refine Y18 f p_43 (law14_wakes_ok n _ (GL.mono ((((((((hM_1.trans hM_8).trans hM_9).trans hM_10).trans hM_13).trans hM_15).trans hM_16).trans hM_22).trans hM_24) hG) x_23 hx_23) fun w_30 p_44 _ f => Y f 2 fun _ f => eT (wp_ret (E_ret1 f rfl (by kernel_rfl : Vc.look _ 6 = some (.bool x_23)) ?_))
            obtain rfl := sI hF_75
            exact ⟨_, rfl, M_24, ((((((((hM_1.trans hM_8).trans hM_9).trans hM_10).trans hM_13).trans hM_15).trans hM_16).trans hM_22).trans hM_24), (p_44.dropN 2), rfl⟩
           ·have f := f.st 182 (cB h_50)
            refine Y f 3 fun _ f => eT (wp_ret (E_ret1 f rfl (by kernel_rfl : Vc.look _ 6 = some (.bool false)) ?_))
            obtain rfl := sI hF_76
            exact ⟨_, rfl, M_24, ((((((((hM_1.trans hM_8).trans hM_9).trans hM_10).trans hM_13).trans hM_15).trans hM_16).trans hM_22).trans hM_24), (p_43.dropN 2), rfl⟩
def posP (p : KV) : List KV → Nat
  | [] => 0
  | q :: r => bif leK p q then 0 else posP p r + 1
theorem posP_le (p : KV) : ∀ l, posP p l ≤ l.length
 | [] => Nat.le_refl _
 | q :: r => by
  have := posP_le p r
  rw [posP, List.length_cons]
  cases leK p q with
  | true => rw [cT]; omega
  | false => rw [cF]; omega
theorem posP_lt (p : KV) : ∀ (l : List KV) (i : Nat) (h : i < l.length), i < posP p l → leK p l[i] = false
 | q :: r, i, h, hi => by
  rw [posP] at hi
  cases hq : leK p q with
  | true => rw [hq, cT] at hi; omega
  | false =>
   rw [hq, cF] at hi
   cases i with
   | zero => exact hq
   | succ i => exact posP_lt p r i (by rw [List.length_cons] at h; omega) (by omega)
theorem posP_at (p : KV) : ∀ (l : List KV) (h : posP p l < l.length), leK p l[posP p l] = true
 | q :: r, h => by
  cases hq : leK p q with
  | true =>
   have e : posP p (q :: r) = 0 := by rw [posP, hq, cT]
   simp only [e]
   exact hq
  | false =>
   have e : posP p (q :: r) = posP p r + 1 := by rw [posP, hq, cF]
   simp only [e] at h ⊢
   rw [List.length_cons] at h
   exact posP_at p r (by omega)
theorem insP_pos (p : KV) : ∀ l, insP p l = l.take (posP p l) ++ p :: l.drop (posP p l)
 | [] => rfl
 | q :: r => by
  rw [insP, posP]
  cases leK p q with
  | true => rw [cT, cT]; rfl
  | false => rw [cF, cF, insP_pos p r]; rfl
def foldP (l : List KV) : List KV := l.foldl (fun acc p => insP p acc) []
theorem foldP_snoc (l : List KV) (p : KV) : foldP (l ++ [p]) = insP p (foldP l) := by unfold foldP; rw [List.foldl_append]; rfl
theorem foldP_perm_gen : ∀ (l acc : List KV), (l.foldl (fun acc p => insP p acc) acc).Perm (l ++ acc)
 | [], acc => List.Perm.refl _
 | p :: r, acc => by
  rw [List.foldl_cons]
  refine (foldP_perm_gen r _).trans ?_
  refine ((insP_perm p acc).append_left r).trans ?_
  exact List.perm_middle
theorem foldP_sorted_gen : ∀ (l acc : List KV), acc.Pairwise (fun a b => leK a b = true) → (l.foldl (fun acc p => insP p acc) acc).Pairwise (fun a b => leK a b = true)
 | [], acc, h => h
 | p :: r, acc, h => foldP_sorted_gen r _ (insP_sorted p acc h)
theorem foldP_eq {l : List KV} (hn : (l.map (·.1)).Nodup) : foldP l = isortP l := by
 refine sorted_one hn ?_ (foldP_sorted_gen l [] List.Pairwise.nil)
 have := foldP_perm_gen l []
 rwa [List.append_nil] at this
theorem foldP_len (l : List KV) : (foldP l).length = l.length := by
 have := (foldP_perm_gen l []).length_eq
 rwa [List.append_nil] at this
theorem sorted_ref {n : Nat} (hn : 6000 < n) : ∀ (k d : Nat) (v : TB0), d ≤ k → Small d v → OkV v → ref03_sorted_k n k v = some (sortV v)
 | _, 0, v, _, h, _ => h.elim
 | 0, d + 1, v, h, _, _ => absurd h (by omega)
 | k + 1, d + 1, v, hk, hs, hok => by
  obtain ⟨h1, h2, h3, h4, h5⟩ := hs
  obtain ⟨ha, hl⟩ := OkV_iff.1 hok
  obtain ⟨hp, _, _, hnd⟩ := alone_ok ha
  show ref03_sorted_b n (ref03_sorted_k n k) v = _
  unfold ref03_sorted_b
  have ih : ∀ x ∈ v.fList, ref03_sorted_k n k x = some (sortV x) := fun x hx => sorted_ref hn k d x (by omega) (h5 x hx) (hl x hx)
  have ev : ∀ x : TB0, (⟨x.fKind, (x.fBool), x.fNum, x.fText, x.fList, x.fKeys⟩ : TB0) = x := fun x => by cases x; rfl
  by_cases hkind : v.fKind = 5
  ·have hkl : v.fKeys.length = v.fList.length := hp.2.2.2.2.2.2.1 hkind
   obtain ⟨ps, hps⟩ : ∃ ps : List KV, ps = v.fKeys.zip (v.fList.map sortV) := ⟨_, rfl⟩
   have hpl : ps.length = v.fList.length := by rw [hps]; simp [hkl]
   have := loop_all (step := ref03_sorted_s1 n (ref03_sorted_k n k) v) (n := n) (fun q => ((q : Int), (foldP (ps.take q)).map (·.2), (foldP (ps.take q)).map (·.1))) v.fList.length ((foldP ps).map (·.2), (foldP ps).map (·.1)) (fun q hq => by
    have hx : v.fList[q]? = some v.fList[q] := List.getElem?_eq_getElem hq
    have hg : getI v.fList (q : Int) = some v.fList[q] := by simp [getI]
    have hgk : getI v.fKeys (q : Int) = some (v.fKeys.getD q []) := getI_at [] (by omega)
    have hpq : ps[q]? = some (v.fKeys.getD q [], sortV v.fList[q]) := by
     rw [hps]
     simp [List.getElem?_zip_eq_some, hx, List.getD, (by omega : q < v.fKeys.length)]
    obtain ⟨p, hpe⟩ : ∃ p : KV, p = (v.fKeys.getD q [], sortV v.fList[q]) := ⟨_, rfl⟩
    rw [← hpe] at hpq
    have hp1 : v.fKeys.getD q [] = p.1 := by rw [hpe]
    have hp2 : sortV v.fList[q] = p.2 := by rw [hpe]
    have hfold : foldP (ps.take (q + 1)) = insP p (foldP (ps.take q)) := by rw [List.take_add_one, hpq]; exact foldP_snoc _ _
    have hfl : (foldP (ps.take q)).length = q := by rw [foldP_len]; simp; omega
    rw [hp1] at hgk
    unfold ref03_sorted_s1
    dsimp only
    rw [decide_eq_true (by omega), cT, hg, bnd, ih _ (List.getElem_mem hq), bnd, decide_eq_false (by omega), cF, hfold]
    generalize foldP (ps.take q) = L at hfl ⊢
    have hpos := posP_le p L
    have hin := loop_all (step := ref03_sorted_s2 n v ((q : Int), L.map (·.2), L.map (·.1))) (n := n) (fun i => (i : Int)) (posP p L) ((posP p L : Nat) : Int) (fun i hi => by
     unfold ref03_sorted_s2
     dsimp only
     have hgi : getI (L.map (·.1)) (i : Int) = some (L[i]'(by omega)).1 := by simp [getI, (by omega : i < L.length)]
     have := posP_lt p L i (by omega) hi
     have hless : Op.bytesLess (L[i]'(by omega)).1 p.1 = true := by
      rw [less_cb]
      unfold leK at this
      simpa using this
     rw [decide_eq_true (by rw [List.length_map]; omega), cT, hgi, bnd, hgk, bnd, hless, cT, need_i (by omega) (by omega)]
     rfl) (by
     unfold ref03_sorted_s2
     dsimp only
     by_cases he : posP p L = L.length
     ·rw [decide_eq_false (by rw [List.length_map]; omega), cF]
     ·have hlt : posP p L < L.length := by omega
      have hgi : getI (L.map (·.1)) ((posP p L : Nat) : Int) = some (L[posP p L]).1 := by simp [getI, hlt]
      have := posP_at p L hlt
      have hless : Op.bytesLess (L[posP p L]).1 p.1 = false := by
       rw [less_cb]
       unfold leK at this
       simpa using this
      rw [decide_eq_true (by rw [List.length_map]; omega), cT, hgi, bnd, hgk, bnd, hless, cF]) (by omega)
    have e0 : ((0 : Nat) : Int) = 0 := rfl
    rw [e0] at hin
    have hL1 : (L.map (·.1)).length = q := by rw [List.length_map, hfl]
    have hL2 : (L.map (·.2)).length = q := by rw [List.length_map, hfl]
    rw [hin, bnd, hL1, hL2, Int.toNat_natCast]
    rw [need_t ⟨by omega, by omega⟩, need_t (by simp; omega), need_t ⟨by omega, by omega⟩, need_t (by simp; omega), hgk, bnd, need_t ⟨by omega, by omega⟩, need_t (by simp; omega), need_t (by simp; omega), bnd, need_t ⟨by omega, by omega⟩, need_t (by simp; omega), need_t (by simp; omega), bnd, need_i (by omega) (by omega), ev, hp2, insP_pos]
    congr 3
    ·simp [List.map_take, List.map_drop, List.take_of_length_le, hfl]
    ) (by
    unfold ref03_sorted_s1
    dsimp only
    rw [decide_eq_false (by omega), cF, List.take_of_length_le (by omega)]) (by omega)
   have e0 : ((0 : Nat) : Int) = 0 := rfl
   have e1 : foldP [] = [] := rfl
   simp only [List.take_zero, e1, List.map_nil, e0] at this
   rw [this, bnd, sortV_5 hkind]
   have hkeys : ps.map (·.1) = v.fKeys := by rw [hps]; exact List.map_fst_zip (by simp [hkl])
   have e : foldP ps = pairsV v := by
    rw [foldP_eq (by rw [hkeys]; exact hnd), hps]; rfl
   rw [e]
  ·have hkeys : v.fKeys = [] := by
    have := hp.2.2.2.2.2.2.2 hkind
    simpa using this
   by_cases h4k : v.fKind = 4
   ·have := loop_all (step := ref03_sorted_s1 n (ref03_sorted_k n k) v) (n := n) (fun q => ((q : Int), (v.fList.take q).map sortV, ([] : List (List UInt8)))) v.fList.length (v.fList.map sortV, []) (fun q hq => by
     have hx : v.fList[q]? = some v.fList[q] := List.getElem?_eq_getElem hq
     have hg : getI v.fList (q : Int) = some v.fList[q] := by simp [getI]
     unfold ref03_sorted_s1
     dsimp only
     rw [decide_eq_true (by omega), cT, hg, bnd, ih _ (List.getElem_mem hq), bnd, decide_eq_true h4k, cT, need_t (by simp; omega), need_i (by omega) (by omega), ev, map_take_succ sortV hx]
     rfl) (by
     unfold ref03_sorted_s1
     dsimp only
     rw [decide_eq_false (by omega), cF, List.take_length]) (by omega)
    have e0 : ((0 : Nat) : Int) = 0 := rfl
    simp only [List.take_zero, List.map_nil, e0] at this
    rw [this, bnd, sortV_n hkind]
   ·have hl0 : v.fList = [] := by
     by_cases h0 : v.fList.length = 0
     ·simpa using h0
     ·have := hp.2.2.2.2.2.1 h0
      omega
    obtain ⟨m, rfl⟩ : ∃ m, n = m + 1 := ⟨n - 1, by omega⟩
    have : loopF (ref03_sorted_s1 (m + 1) (ref03_sorted_k (m + 1) k) v) (m + 1) ((0 : Int), ([] : List TB0), ([] : List (List UInt8))) = some ([], []) := by
     unfold loopF ref03_sorted_s1
     dsimp only
     rw [hl0, decide_eq_false (by simp), cF, bnd]
    rw [this, bnd, sortV_n hkind, hl0]
    rfl
theorem compare_ref {n : Nat} (hn : 6000 < n) : ∀ (k d : Nat) (v w : TB0), d ≤ k → Small d v → OkV v → OkV w → ref03_compare_k n k v w = some (cmpV v w)
 | _, 0, v, _, _, h, _, _ => h.elim
 | 0, d + 1, v, _, h, _, _, _ => absurd h (by omega)
 | k + 1, d + 1, v, w, hk, hs, hok, how => by
  have ih : ∀ x ∈ v.fList, ∀ y ∈ w.fList, ref03_compare_k n k x y = some (cmpV x y) := fun x hx y hy => compare_ref hn k d x y (by omega) (hs.2.2.2.2 x hx) (hok.part hx) (how.part hy)
  have hv := hs.1
  show ref03_compare_b n (ref03_compare_k n k) v w = _
  unfold ref03_compare_b
  rw [cmpV_eq]
  by_cases hA : v.fKind = w.fKind
  ·rw [decide_eq_true hA, Bool.not_true, cF, ← hA, cmpI_self, thenC0]
   by_cases hB : v.fBool = w.fBool
   ·rw [hB, beq_self_eq_true, Bool.not_true, cF, cmpI_self, thenC0]
    by_cases hC : v.fNum = w.fNum
    ·rw [decide_eq_true hC, Bool.not_true, cF, ← hC, cmpI_self, thenC0]
     by_cases hD : v.fText = w.fText
     ·rw [decide_eq_true hD, Bool.not_true, cF, ← hD, cb_self, thenC0]
      have hkl : v.fKind = 5 → v.fKeys.length = v.fList.length ∧ w.fKeys.length = w.fList.length := fun h => ⟨plain_len hok.plain h, plain_len how.plain (by rw [← hA]; exact h)⟩
      obtain ⟨b, hb, hp⟩ := loop_inv (step := ref03_compare_s1 n (ref03_compare_k n k) v w) (n := n) (s0 := (0 : Int)) (fun q s => s = (q : Int) ∧ cmpVs (decide (v.fKind = 5)) v.fList v.fKeys w.fList w.fKeys = cmpVs (decide (v.fKind = 5)) (v.fList.drop q) (v.fKeys.drop q) (w.fList.drop q) (w.fKeys.drop q))
       (fun b => match b with | .inl c => cmpVs (decide (v.fKind = 5)) v.fList v.fKeys w.fList w.fKeys = c | .inr _ => cmpVs (decide (v.fKind = 5)) v.fList v.fKeys w.fList w.fKeys = cmpI (v.fList.length : Int) (w.fList.length : Int)) (min v.fList.length w.fList.length) ⟨rfl, by simp only [List.drop_zero]⟩ (fun q s hq hI => by
        obtain ⟨rfl, hI⟩ := hI
        have h1 : q < v.fList.length := by omega
        have h2 : q < w.fList.length := by omega
        rw [cmpVs_drop _ h1 h2] at hI
        have hg1 : getI v.fList (q : Int) = some v.fList[q] := by simp [getI]
        have hg2 : getI w.fList (q : Int) = some w.fList[q] := by simp [getI]
        unfold ref03_compare_s1
        rw [decide_eq_true (by omega), cT, decide_eq_true (by omega), bnd, cT]
        by_cases hkind : v.fKind = 5
        ·obtain ⟨k1, k2⟩ := hkl hkind
         rw [decide_eq_true hkind, cT] at hI
         rw [decide_eq_true hkind, cT, getI_at [] (by omega), bnd, getI_at [] (by omega), bnd, bnd]
         by_cases hc : v.fKeys.getD q [] = w.fKeys.getD q []
         ·rw [decide_eq_true hc, Bool.not_true, cF, hg1, bnd, hg2, bnd, ih _ (List.getElem_mem h1) _ (List.getElem_mem h2), bnd]
          rw [hc, cb_self, thenC0] at hI
          by_cases he : cmpV v.fList[q] w.fList[q] = 0
          ·rw [decide_eq_true he, Bool.not_true, cF, need_i (by omega) (by omega)]
           rw [he, thenC0] at hI
           exact .inl ⟨_, rfl, by omega, hI⟩
          ·rw [decide_eq_false he, Bool.not_false, cT]
           rw [thenCn _ he] at hI
           exact .inr ⟨_, rfl, hI⟩
         ·rw [decide_eq_false hc, Bool.not_false, cT, bnd, bnd, less_cb]
          have hne : Lib.compareBytes (v.fKeys.getD q []) (w.fKeys.getD q []) ≠ 0 := fun e => hc (cb_eq _ _ e)
          have hrange := cb_range (v.fKeys.getD q []) (w.fKeys.getD q [])
          rw [thenCn _ hne] at hI
          by_cases hl : Lib.compareBytes (v.fKeys.getD q []) (w.fKeys.getD q []) < 0
          ·rw [decide_eq_true hl, cT]
           refine .inr ⟨_, rfl, ?_⟩
           dsimp only
           omega
          ·rw [decide_eq_false hl, cF]
           refine .inr ⟨_, rfl, ?_⟩
           dsimp only
           omega
        ·rw [decide_eq_false hkind, cF] at hI
         rw [decide_eq_false hkind, cF, bnd, cF, hg1, bnd, hg2, bnd, ih _ (List.getElem_mem h1) _ (List.getElem_mem h2), bnd]
         rw [thenC0] at hI
         by_cases he : cmpV v.fList[q] w.fList[q] = 0
         ·rw [decide_eq_true he, Bool.not_true, cF, need_i (by omega) (by omega)]
          rw [he, thenC0] at hI
          exact .inl ⟨_, rfl, by omega, hI⟩
         ·rw [decide_eq_false he, Bool.not_false, cT]
          rw [thenCn _ he] at hI
          exact .inr ⟨_, rfl, hI⟩) (fun s hI => by
        obtain ⟨rfl, hI⟩ := hI
        refine ⟨.inr (), ?_, ?_⟩
        ·unfold ref03_compare_s1
         by_cases hvl : v.fList.length ≤ w.fList.length
         ·rw [decide_eq_false (by omega), cF, bnd, cF]
         ·rw [decide_eq_true (by omega), cT, decide_eq_false (by omega), bnd, cF]
        ·dsimp only
         rw [hI, cmpVs_end _ rfl]) (by omega)
      rw [hb, bnd]
      cases b with
      | inl c => dsimp only at hp ⊢; rw [hp]
      | inr u =>
       dsimp only at hp ⊢
       rw [hp]
       have hcc := cmpI_cases (v.fList.length : Int) (w.fList.length : Int)
       by_cases h1 : (v.fList.length : Int) = (w.fList.length : Int)
       ·rw [decide_eq_true h1, Bool.not_true, cF]
        congr 1
        omega
       ·rw [decide_eq_false h1, Bool.not_false, cT]
        by_cases h2 : (v.fList.length : Int) < (w.fList.length : Int)
        ·rw [decide_eq_true h2, cT]
         congr 1
         omega
        ·rw [decide_eq_false h2, cF]
         congr 1
         omega
     ·rw [decide_eq_false hD, Bool.not_false, cT, less_cb]
      have hne : Lib.compareBytes v.fText w.fText ≠ 0 := fun e => hD (cb_eq _ _ e)
      have hrange := cb_range v.fText w.fText
      rw [thenCn _ hne]
      by_cases hl : Lib.compareBytes v.fText w.fText < 0
      ·rw [decide_eq_true hl, cT]
       congr 1
       omega
      ·rw [decide_eq_false hl, cF]
       congr 1
       omega
    ·have hcc := cmpI_cases v.fNum w.fNum
     rw [decide_eq_false hC, Bool.not_false, cT, thenCn _ (by omega)]
     by_cases hl : v.fNum < w.fNum
     ·rw [decide_eq_true hl, cT]
      congr 1
      omega
     ·rw [decide_eq_false hl, cF]
      congr 1
      omega
   ·have hbe : (v.fBool == w.fBool) = false := by simpa using hB
    rw [hbe, Bool.not_false, cT]
    cases hv1 : v.fBool <;> cases hw1 : w.fBool
    ·rw [hv1, hw1] at hB; exact absurd rfl hB
    ·rfl
    ·rfl
    ·rw [hv1, hw1] at hB; exact absurd rfl hB
  ·have hcc := cmpI_cases v.fKind w.fKind
   rw [decide_eq_false hA, Bool.not_false, cT, thenCn _ (by omega)]
   by_cases hl : v.fKind < w.fKind
   ·rw [decide_eq_true hl, cT]
    congr 1
    omega
   ·rw [decide_eq_false hl, cF]
    congr 1
    omega
theorem sortedT_ref {n : Nat} (hn : 6000 < n) {v : TB0} (h : Fine v) (hok : OkV v) : ref03_sorted n v = some (sortV v) := sorted_ref hn n 60 v (by omega) h.small hok
theorem compareT_ref {n : Nat} (hn : 6000 < n) {v w : TB0} (h : Fine v) (hok : OkV v) (how : OkV w) : ref03_compare n v w = some (cmpV v w) := compare_ref hn n 60 v w (by omega) h.small hok how
theorem Equal_ref {n : Nat} (hn : 6000 < n) {v w : TB0} (h : Fine v) (h' : Fine w) : ref03_Equal n v w = some (eqV v w) := by
 unfold ref03_Equal eqV
 rw [check_ref hn h, bnd]
 by_cases a : checkV v = 0
 ·rw [decide_eq_true a, cT, check_ref hn h', bnd]
  by_cases b : checkV w = 0
  ·have oa := (checkV_ok a).1
   have ob := (checkV_ok b).1
   rw [decide_eq_true b, cT, sortedT_ref hn h oa, bnd, sortedT_ref hn h' ob, bnd, compareT_ref hn (h.sort oa) oa.sort ob.sort, bnd]; rfl
  ·rw [decide_eq_false b, cF]; rfl
 ·rw [decide_eq_false a, cF]; rfl
theorem again14 {l : List TC0} {g : List TA0} (h : (bindV l g).2.2 = 0) : bindV l g = (l.map (foundV g), [], 0) ∧ bindV l (l.map (foundV g)) = (l.map (foundV g), [], 0) := by
 obtain ⟨c1, c2, c3, c4⟩ := bindV_ok h
 have hb := bindV_mk c1 c2 c3 c4
 obtain ⟨d1, d2, d3⟩ := check14_zero.1 c1
 have hup : Up (l.map (·.fName)) := (List.pairwise_cons.1 d3).2
 have hnd : ((l.map (foundV g)).map (·.fName)).Nodup := by rw [found_names]; exact hup.nodup
 have hfd : ∀ p ∈ l, (l.map (foundV g)).find? (fun x => decide (x.fName = p.fName)) = some (foundV g p) := by
  intro p hp
  have := find_mem hnd (List.mem_map_of_mem (f := foundV g) hp)
  rw [found_name] at this
  exact this
 have hfv : ∀ p ∈ l, foundV (l.map (foundV g)) p = foundV g p := by
  intro p hp
  show ((l.map (foundV g)).find? (fun x => decide (x.fName = p.fName))).getD _ = _
  rw [hfd p hp]; rfl
 refine ⟨hb, ?_⟩
 have := bindV_mk (l := l) (g := l.map (foundV g)) c1 (rises14_up.2 (by rw [found_names]; exact hup)) (fun x hx => by
  obtain ⟨p, hp, rfl⟩ := List.mem_map.1 hx
  unfold known14
  exact List.any_eq_true.2 ⟨p, hp, decide_eq_true (found_name g p).symm⟩) (fun p hp => by
  unfold fitsV
  rw [hfv p hp, hfd p hp]
  have := c4 p hp
  unfold fitsV at this
  rw [Bool.and_eq_true] at this
  rw [this.2]; rfl)
 rw [this, List.map_congr_left hfv]
theorem fewer14 {l1 l2 : List TC0} {p : TC0} {g : List TA0} (h : (bindV (l1 ++ p :: l2) g).2.2 = 0) :
  bindV (l1 ++ p :: l2) (l1.map (foundV g) ++ l2.map (foundV g)) = if p.fHas = true then (l1.map (foundV g) ++ (⟨p.fName, false, p.fDefault⟩ : TA0) :: l2.map (foundV g), [], 0) else ([], p.fName, 140) := by
 obtain ⟨c1, c2, c3, c4⟩ := bindV_ok h
 obtain ⟨d1, d2, d3⟩ := check14_zero.1 c1
 have hup : Up ((l1 ++ p :: l2).map (·.fName)) := (List.pairwise_cons.1 d3).2
 have hsub : (l1.map (foundV g) ++ l2.map (foundV g)).Sublist ((l1 ++ p :: l2).map (foundV g)) := by
  rw [List.map_append, List.map_cons]
  exact List.Sublist.append (List.Sublist.refl _) (List.sublist_cons_self _ _)
 have hwup : Up ((l1.map (foundV g) ++ l2.map (foundV g)).map (·.fName)) := by
  have := hsub.map (·.fName)
  rw [found_names] at this
  exact List.Pairwise.sublist this hup
 have hmem : ∀ q, q ∈ l1 ∨ q ∈ l2 → foundV g q ∈ l1.map (foundV g) ++ l2.map (foundV g) := by
  rintro q (hq | hq)
  ·exact List.mem_append_left _ (List.mem_map_of_mem hq)
  ·exact List.mem_append_right _ (List.mem_map_of_mem hq)
 have hfd : ∀ q, q ∈ l1 ∨ q ∈ l2 → (l1.map (foundV g) ++ l2.map (foundV g)).find? (fun x => decide (x.fName = q.fName)) = some (foundV g q) := by
  intro q hq
  have := find_mem hwup.nodup (hmem q hq)
  rw [found_name] at this
  exact this
 have hfv : ∀ q, q ∈ l1 ∨ q ∈ l2 → foundV (l1.map (foundV g) ++ l2.map (foundV g)) q = foundV g q := by
  intro q hq
  show ((l1.map (foundV g) ++ l2.map (foundV g)).find? (fun x => decide (x.fName = q.fName))).getD _ = _
  rw [hfd q hq]; rfl
 have hnp : (l1.map (foundV g) ++ l2.map (foundV g)).find? (fun x => decide (x.fName = p.fName)) = none := by
  rw [List.find?_eq_none]
  intro x hx
  have hu := hup
  unfold Up at hu
  rw [List.map_append, List.map_cons, List.pairwise_append, List.pairwise_cons] at hu
  intro e
  have e := of_decide_eq_true e
  rcases List.mem_append.1 hx with hx | hx
  ·obtain ⟨q, hq, rfl⟩ := List.mem_map.1 hx
   rw [found_name] at e
   have := hu.2.2 _ (List.mem_map_of_mem (f := fun (q : TC0) => q.fName) hq) p.fName List.mem_cons_self
   rw [e, cb_self] at this
   omega
  ·obtain ⟨q, hq, rfl⟩ := List.mem_map.1 hx
   rw [found_name] at e
   have := hu.2.1.1 _ (List.mem_map_of_mem (f := fun (q : TC0) => q.fName) hq)
   rw [e, cb_self] at this
   omega
 have hpv : foundV (l1.map (foundV g) ++ l2.map (foundV g)) p = ⟨p.fName, false, p.fDefault⟩ := by
  show ((l1.map (foundV g) ++ l2.map (foundV g)).find? (fun x => decide (x.fName = p.fName))).getD _ = _
  rw [hnp]; rfl
 have hfit : ∀ q, q ∈ l1 ∨ q ∈ l2 → fitsV (l1.map (foundV g) ++ l2.map (foundV g)) q = true := by
  intro q hq
  unfold fitsV
  rw [hfv q hq, hfd q hq]
  have := c4 q (by rcases hq with h | h <;> simp [h])
  unfold fitsV at this
  rw [Bool.and_eq_true] at this
  rw [this.2]; rfl
 have hkn : ∀ x ∈ l1.map (foundV g) ++ l2.map (foundV g), known14 (l1 ++ p :: l2) x = true := by
  intro x hx
  obtain ⟨q, hq, rfl⟩ := List.mem_map.1 (hsub.subset hx)
  unfold known14
  exact List.any_eq_true.2 ⟨q, hq, decide_eq_true (found_name g q).symm⟩
 by_cases hh : p.fHas = true
 ·rw [if_pos hh]
  have hpf : fitsV (l1.map (foundV g) ++ l2.map (foundV g)) p = true := by
   unfold fitsV
   rw [hpv, hnp, hh]
   have hm := d2 p (by simp)
   unfold MayV restV
   rw [hm]
   unfold mayV w5 at hm
   rw [hh] at hm
   show (true && (kindV p p.fDefault && allowV p p.fDefault)) = true
   cases hk : (kindV p p.fDefault && allowV p p.fDefault) with
   | true => rfl
   | false => rw [hk] at hm; revert hm; cases w1 p <;> cases w2 p <;> cases twiceV p.fAllowed <;> cases w4 p <;> decide
  rw [bindV_mk c1 (rises14_up.2 hwup) hkn (fun q hq => by
   rcases List.mem_append.1 hq with hq | hq
   ·exact hfit q (.inl hq)
   ·rcases List.mem_cons.1 hq with rfl | hq
    ·exact hpf
    ·exact hfit q (.inr hq))]
  rw [List.map_append, List.map_cons, hpv, List.map_congr_left (fun q hq => hfv q (.inl hq)), List.map_congr_left (l := l2) (fun q hq => hfv q (.inr hq))]
 ·rw [if_neg hh]
  have hpf : fitsV (l1.map (foundV g) ++ l2.map (foundV g)) p = false := by
   unfold fitsV
   rw [hnp, Bool.eq_false_iff.2 hh]; rfl
  unfold bindV
  have e1 : (l1.map (foundV g) ++ l2.map (foundV g)).find? (fun x => !known14 (l1 ++ p :: l2) x) = none := by rw [List.find?_eq_none]; intro x hx; rw [hkn x hx]; decide
  have e2 : (l1 ++ p :: l2).find? (fun q => !fitsV (l1.map (foundV g) ++ l2.map (foundV g)) q) = some p := by
   rw [List.find?_eq_some_iff_append]
   exact ⟨by rw [hpf]; rfl, l1, l2, rfl, fun a ha => by rw [hfit a (.inl ha)]; rfl⟩
  rw [if_pos c1, if_pos (rises14_up.2 hwup), e1, e2]
theorem kind_check {p : TC0} {v : TB0} (h : kindV p v = true) : checkV v = 0 := by
 by_cases hc : checkV v = 0
 ·exact hc
 ·unfold kindV at h
  rw [decide_eq_false hc] at h
  cases h
theorem found_fine {l : List TC0} {g : List TA0} (hp : ∀ p ∈ l, FineP p) (hf : ∀ x ∈ g, Fine x.fV) : ∀ p ∈ l, Fine (foundV g p).fV := by
 intro p hpl
 unfold foundV
 cases h : g.find? (fun x => decide (x.fName = p.fName)) with
 | none => exact (hp p hpl).2.2.1
 | some x => exact hf x (List.mem_of_find?_eq_some h)
theorem fits_may {g : List TA0} {p : TC0} (h : fitsV g p = true) : MayV p (foundV g p) = true := by
 unfold fitsV at h
 rw [Bool.and_eq_true] at h
 exact h.2
theorem again_loop {l : List TC0} {g : List TA0} (hl : l.length ≤ 40) (hp : ∀ p ∈ l, FineP p) (hf : ∀ x ∈ g, Fine x.fV) (c4 : ∀ p ∈ l, fitsV g p = true) :
  loopF (law14_ParamsAgain_s1 10000 l (l.map (foundV g), [], 0)) 10000 (0 : Int) = some (.inr ()) := by
 have := loop_all (step := law14_ParamsAgain_s1 10000 l (l.map (foundV g), [], 0)) (n := 10000) (fun k => (k : Int)) l.length (.inr ()) (fun k hk => by
  have e : (l.map (foundV g)).getD k z_TA0 = foundV g (l.getD k z_TC0) := by simp [List.getD, hk]
  have hm := memD (d := z_TC0) hk
  unfold law14_ParamsAgain_s1
  dsimp only
  rw [decide_eq_true (by omega), cT, getI_at z_TA0 (by simpa using hk), bnd, getI_at z_TC0 hk, bnd, e, found_name, decide_eq_true rfl, Bool.not_true, cF, bnd, bnd, May_run (by omega) (hp _ hm) (found_fine hp hf _ hm), bnd, fits_may (c4 _ hm), Bool.not_true, cF, need_i (by omega) (by omega)]
  rfl) (by
  unfold law14_ParamsAgain_s1
  rw [decide_eq_false (by omega), cF]) (by omega)
 exact this
theorem place14 (d : Int) {m : Nat} (hm : 0 < m) : ∃ k : Nat, k < m ∧ (d.tmod (m : Int) + (m : Int)).tmod (m : Int) = (k : Int) ∧ inR .i64 (d.tmod (m : Int) + (m : Int)) ∨ ¬ m ≤ 40 := by
 by_cases h40 : m ≤ 40
 ·have h1 := Int.tmod_lt_of_pos d (by omega : (0 : Int) < (m : Int))
  have h2 := Int.lt_tmod_of_pos d (by omega : (0 : Int) < (m : Int))
  have h3 := Int.tmod_nonneg (m : Int) (by omega : (0 : Int) ≤ d.tmod (m : Int) + (m : Int))
  have h4 := Int.tmod_lt_of_pos (d.tmod (m : Int) + (m : Int)) (by omega : (0 : Int) < (m : Int))
  exact ⟨((d.tmod (m : Int) + (m : Int)).tmod (m : Int)).toNat, .inl ⟨by omega, by omega, inR_small (by omega) (by omega)⟩⟩
 ·exact ⟨0, .inr h40⟩
set_option maxRecDepth 4000 in
theorem paramsAgain_true (l : List TC0) (g : List TA0) (d : Int) : law14_ParamsAgain 10000 l g d = some true := by
 unfold law14_ParamsAgain
 obtain ⟨gr, hgr, hfin⟩ := great14 (n := 10000) (by omega) l g
 rw [hgr, bnd]
 cases gr with
 | true => rw [cT, wakes14, bnd]
 | false =>
  obtain ⟨hl, hp, hg, hf⟩ := hfin rfl
  rw [cF, Bind_run (by omega) hp (by omega) (by omega) hf, bnd]
  by_cases h0 : (bindV l g).2.2 = 0
  ·obtain ⟨hb, hb2⟩ := again14 h0
   obtain ⟨c1, c2, c3, c4⟩ := bindV_ok h0
   have hfa : ∀ x ∈ l.map (foundV g), Fine x.fV := fun x hx => by
    obtain ⟨p, hpl, rfl⟩ := List.mem_map.1 hx
    exact found_fine hp hf p hpl
   have hla : (l.map (foundV g)).length = l.length := List.length_map ..
   rw [decide_eq_true h0, Bool.not_true, cF, hb]
   dsimp only
   rw [hla, decide_eq_true rfl, Bool.not_true, cF, again_loop hl hp hf c4, bnd]
   dsimp only
   rw [Bind_run (by omega) hp (by omega) (by omega) hfa, bnd, hb2]
   dsimp only
   rw [decide_eq_true rfl, Bool.not_true, cF, Same14 (by omega) (by omega) hfa, bnd, Bool.not_true, cF, bnd]
   by_cases hz : l.length = 0
   ·rw [decide_eq_true (by omega : ((l.length : Nat) : Int) = 0), cT, cT, cT, wakes14, bnd, bnd]
   rw [decide_eq_false (by omega : ¬ ((l.length : Nat) : Int) = 0), cF]
   obtain ⟨k, h | h⟩ := place14 d (by omega : 0 < l.length)
   ·obtain ⟨hk, he, hr⟩ := h
    have hm := memD (d := z_TC0) hk
    have hsp : l = l.take k ++ l.getD k z_TC0 :: l.drop (k + 1) := by
     have : l.getD k z_TC0 = l[k] := by simp [List.getD, hk]
     rw [this, ← List.drop_eq_getElem_cons hk, List.take_append_drop]
    have hfew : ((([] : List TA0) ++ (((l.map (foundV g)).take (k : Int).toNat).drop 0)) ++ ((l.map (foundV g)).drop ((k : Int) + 1).toNat)) = (l.take k).map (foundV g) ++ (l.drop (k + 1)).map (foundV g) := by
     have e1 : ((k : Int) + 1).toNat = k + 1 := by omega
     rw [e1, List.map_take, List.map_drop]; simp
    rw [he, need_t (by omega), need_t hr, need_t (by omega), need_t (by omega), need_t (by simp; omega), need_i (by omega) (by omega), need_t (by omega), need_t (by simp; omega), hfew]
    have hff : ∀ x ∈ (l.take k).map (foundV g) ++ (l.drop (k + 1)).map (foundV g), Fine x.fV := fun x hx => by
     rcases List.mem_append.1 hx with hx | hx
     ·obtain ⟨q, hq, rfl⟩ := List.mem_map.1 hx
      exact found_fine hp hf q (List.mem_of_mem_take hq)
     ·obtain ⟨q, hq, rfl⟩ := List.mem_map.1 hx
      exact found_fine hp hf q (List.mem_of_mem_drop hq)
    rw [Bind_run (by omega) hp (by omega) (by simp; omega) hff, bnd]
    have hfw := fewer14 (l1 := l.take k) (l2 := l.drop (k + 1)) (p := l.getD k z_TC0) (g := g) (by rw [← hsp]; exact h0)
    rw [← hsp] at hfw
    rw [hfw, getI_at z_TC0 hk, bnd]
    cases hh : (l.getD k z_TC0).fHas with
    | false =>
     rw [if_neg (by decide), Bool.not_false, cT]
     dsimp only
     rw [decide_eq_true rfl, cT, bnd, decide_eq_true rfl, cT, wakes14, bnd, bnd]
    | true =>
     rw [if_pos rfl, Bool.not_true, cF]
     dsimp only
     have hlen : (((l.take k).map (foundV g) ++ (⟨(l.getD k z_TC0).fName, false, (l.getD k z_TC0).fDefault⟩ : TA0) :: (l.drop (k + 1)).map (foundV g))).length = l.length := by simp; omega
     have hget : (((l.take k).map (foundV g) ++ (⟨(l.getD k z_TC0).fName, false, (l.getD k z_TC0).fDefault⟩ : TA0) :: (l.drop (k + 1)).map (foundV g))).getD k z_TA0 = ⟨(l.getD k z_TC0).fName, false, (l.getD k z_TC0).fDefault⟩ := by
      have : ((l.take k).map (foundV g)).length = k := by simp; omega
      rw [List.getD, List.getElem?_append_right (by omega), this, Nat.sub_self]; rfl
     have hdf := (hp _ hm).2.2.1
     have hok : eqV (l.getD k z_TC0).fDefault (l.getD k z_TC0).fDefault = true := by
      have hmay := (check14_zero.1 c1).2.1 _ hm
      have hc : checkV (l.getD k z_TC0).fDefault = 0 := by
       apply kind_check (p := l.getD k z_TC0)
       unfold mayV w5 at hmay
       rw [hh] at hmay
       cases hkk : kindV (l.getD k z_TC0) (l.getD k z_TC0).fDefault with
       | true => rfl
       | false =>
        rw [hkk] at hmay
        revert hmay
        cases w1 (l.getD k z_TC0) <;> cases w2 (l.getD k z_TC0) <;> cases twiceV (l.getD k z_TC0).fAllowed <;> cases w4 (l.getD k z_TC0) <;> cases allowV (l.getD k z_TC0) (l.getD k z_TC0).fDefault <;> decide
      unfold eqV
      rw [decide_eq_true hc, cmpV_self]; rfl
     have hset : ((l.take k).map (foundV g) ++ (⟨(l.getD k z_TC0).fName, false, (l.getD k z_TC0).fDefault⟩ : TA0) :: (l.drop (k + 1)).map (foundV g)).set k ((l.map (foundV g)).getD k z_TA0) = l.map (foundV g) := by
      have h1 : ((l.take k).map (foundV g)).length = k := by simp; omega
      have h2 : (l.map (foundV g)).getD k z_TA0 = foundV g (l.getD k z_TC0) := by simp [List.getD, hk]
      rw [h2, List.set_append_right _ _ (by omega), h1, Nat.sub_self, List.set_cons_zero]
      conv => rhs; rw [hsp]
      rw [List.map_append, List.map_cons]
     have ek : (k : Int).toNat = k := by omega
     rw [hlen, decide_eq_true rfl, Bool.not_true, cF, decide_eq_true rfl, Bool.not_true, cF, getI_at z_TA0 (by omega), bnd, bnd, hget]
     dsimp only
     rw [evV, Equal_ref (by omega) hdf hdf, bnd, hok, Bool.not_true, bnd, cF, getI_at z_TA0 (by omega : k < (l.map (foundV g)).length), bnd, bnd, ek, hset, Same14 (by omega) (by omega) hfa, bnd, cT, wakes14, bnd]
   ·exact absurd hl h
  ·rw [decide_eq_false h0, Bool.not_false, cT, bindV_not h0, decide_eq_true (show (((([] : List TA0).length : Nat) : Int) = 0) from rfl), cT, wakes14, bnd, bnd]
end Go.Proofs.YtalifkcchfkgmaaDoor
end

section
namespace Go.Vc
open Go
mutual
def dsz : Dat → Nat
  | .int _ _ => 1
  | .bool _ => 1
  | .str l => l.length + 1
  | .list _ ds => dszs ds + 1
  | .struct ds => dszs ds + 1
def dszs : List Dat → Nat
  | [] => 0
  | d :: ds => dsz d + dszs ds
end
theorem dszs_app : ∀ (a b : List Dat), dszs (a ++ b) = dszs a + dszs b
 | [], b => by simp [dszs]
 | d :: a, b => by simp only [List.cons_append, dszs, dszs_app a b]; omega
theorem le_sum : ∀ {l : List Nat} {x : Nat}, x ∈ l → x ≤ l.sum
 | y :: l, x, h => by
  rcases List.mem_cons.1 h with rfl | h
  ·simp
  ·have := le_sum h; simp only [List.sum_cons]; omega
section
variable {H : Type}
structure BulkOk (B : DataW H → Nat) : Prop where
  one : ∀ d, 1 ≤ B d
  str : ∀ l, B (.lit (.string l)) = l.length + 1
  slice : ∀ e s, (e.map B).sum + 1 ≤ B (.slice e s)
  agg : ∀ e, (e.map B).sum + 1 ≤ B (.agg e)
variable {enc : TypeId × Value → H} {P : Program} {w : World} {t : TypeId} {α : Type} {f : α → Dat} {m : Nat} {B : DataW H → Nat}
def OpnAt (enc : TypeId × Value → H) (P : Program) (w : World) (t : TypeId) {α : Type} (f : α → Dat) (B : DataW H → Nat) (m : Nat) : Prop :=
  ∀ cs x, DataW.trod enc P w 0 (fun _ => true) true m t cs = some x → ∃ a, Rep (Mem.of w) (f a) cs ∧ Vld (f a) ∧ dsz (f a) ≤ B x.1
theorem OpnAt.zero : OpnAt enc P w t f B 0 := fun cs x h => by simp [DataW.trod] at h
theorem opa_int {k : IntKind} (hB : BulkOk B) (ht : P.underlying t = some (.int k)) : OpnAt enc P w t (Dat.int k) B m := fun cs x h => by
 obtain ⟨a, rfl, _, hw⟩ := DataW.trod_int ht h
 exact ⟨a, rfl, hw, hB.one _⟩
theorem opa_bool (hB : BulkOk B) (ht : P.underlying t = some .bool) : OpnAt enc P w t Dat.bool B m := fun cs x h => by
 obtain ⟨a, rfl, _⟩ := DataW.trod_bool ht h
 exact ⟨a, rfl, trivial, hB.one _⟩
theorem opa_str (hB : BulkOk B) (ht : P.underlying t = some .string) : OpnAt enc P w t Dat.str B m := fun cs x h => by
 obtain ⟨s, rfl, hx, hw⟩ := DataW.trod_string ht h
 refine ⟨s.data.toList, (by show [Value.string s] = _; rw [S_eta]), by show s.data.toList.length ≤ maxLen; simpa using hw, ?_⟩
 rw [hx]
 show s.data.toList.length + 1 ≤ B (.lit (.string s.data.toList))
 rw [hB.str]
 exact Nat.le_refl _
theorem opa_slice {e : TypeId} {sz : Nat} (hB : BulkOk B) (ht : P.underlying t = some (.slice e)) (hsz : P.cellsOf e = sz) (h : OpnAt enc P w e f B m) : OpnAt enc P w t (eL sz f) B (m + 1) := fun cs x hx => by
 rcases DataW.trod_slice ht hx with ⟨rfl, hx⟩ | ⟨ad, len, cap, elems, rest, n', hn', rfl, hxe, _, hlc, hcm, hel, hat, _⟩
 ·refine ⟨[], Sli.rep (Sli.nil (sz := sz) (f := f)), by simp [Vld, eL, VldAll], ?_⟩
  have := hB.one x.1
  simpa [eL, dsz, dszs] using this
 ·obtain rfl : n' = m := by omega
  have key : ∀ k, k ≤ len → ∃ xs : List α, xs.length = k ∧ RepArr (Mem.of w) sz (xs.map f) ad ∧ (∀ x ∈ xs, Vld (f x)) ∧ dszs (xs.map f) ≤ ((elems.take k).map fun x => B x.1).sum := by
   intro k
   induction k with
   | zero => intro _; exact ⟨[], rfl, trivial, fun x hx => (by cases hx), by simp [dszs]⟩
   | succ k ih =>
    intro hk
    obtain ⟨xs, h1, h2, h3, h3b⟩ := ih (by omega)
    have hk' : k < elems.length := by omega
    have := hat k (by omega)
    rw [List.getElem?_eq_getElem hk'] at this
    obtain ⟨cs', g1, g2⟩ := Option.bind_eq_some_iff.1 this
    obtain ⟨a, g3, g4, g4b⟩ := h cs' _ g2
    obtain ⟨g5, g6⟩ := cells_of g1
    rw [hsz] at g5 g6
    refine ⟨xs ++ [a], by simp [h1], ?_, fun x hx => ?_, ?_⟩
    ·rw [List.map_append]
     have app : ∀ (ds : List Dat) (ad : Addr), RepArr (Mem.of w) sz ds ad → RepArr (Mem.of w) sz [f a] (ad.add (ds.length * sz)) → RepArr (Mem.of w) sz (ds ++ [f a]) ad := by
      intro ds
      induction ds with
      | nil => intro ad _ hh; simpa [Addr.add] using hh
      | cons d ds ih =>
       intro ad h1 h2
       refine ⟨h1.1, ih _ h1.2 ?_⟩
       rw [add_of_add]
       rw [List.length_cons, show (ds.length + 1) * sz = sz + ds.length * sz by rw [Nat.add_mul]; omega] at h2
       exact h2
     refine app _ _ h2 ⟨⟨cs', g5, g3, ?_⟩, trivial⟩
     rw [List.length_map, h1]
     exact g6
    ·rcases List.mem_append.1 hx with hx | hx
     ·exact h3 x hx
     ·simp at hx; subst hx; exact g4
    ·rw [List.map_append, dszs_app, List.take_add_one, List.getElem?_eq_getElem hk', List.map_append, List.sum_append]
     simp only [List.map_cons, List.map_nil, dszs, Option.toList_some, List.sum_cons, List.sum_nil]
     omega
  obtain ⟨xs, h1, h2, h3, h3b⟩ := key len (Nat.le_refl _)
  subst h1
  refine ⟨xs, Sli.rep ⟨hlc, fun e => (by cases e), .inr ⟨ad, rfl, h2⟩⟩, ?_, ?_⟩
  ·refine ⟨by rw [List.length_map]; omega, VldAll.mk fun d hd => ?_⟩
   obtain ⟨x, hx, rfl⟩ := List.mem_map.1 hd
   exact h3 x hx
  ·rw [hxe]
   show dszs (xs.map f) + 1 ≤ _
   have := hB.slice (elems.map (·.1)) (rest.map (·.1))
   rw [← hel, List.take_length] at h3b
   rw [List.map_map] at this
   have e : (elems.map (B ∘ fun x => x.1)) = elems.map fun x => B x.1 := rfl
   rw [e] at this
   show _ ≤ B (.slice (elems.map (·.1)) (rest.map (·.1)))
   omega
theorem opa_slice0 {e : TypeId} {sz : Nat} (hB : BulkOk B) (ht : P.underlying t = some (.slice e)) (hsz : P.cellsOf e = sz) (h : ∀ k, k < m → OpnAt enc P w e f B k) : OpnAt enc P w t (eL sz f) B m := by
 cases m with
 | zero => exact OpnAt.zero
 | succ m => exact opa_slice hB ht hsz (h m (Nat.lt_succ_self m))
theorem OpnAt.arg (h : ∀ n, OpnAt enc P w t f B n) {v : Value} {d : DataW H} {ps : List MemPlace} (ht : DataW.Trod enc P w 0 (fun _ => true) true t v d ps) : ∃ a, Rep (Mem.of w) (f a) v.cells.toList ∧ Vld (f a) ∧ dsz (f a) ≤ B d := by
 obtain ⟨fuel, hf⟩ := ht
 exact h fuel _ _ hf
theorem OpnAt.slice_arg {e : TypeId} {sz : Nat} (hB : BulkOk B) (hu : P.underlying t = some (.slice e)) (hsz : P.cellsOf e = sz) (h : ∀ n, OpnAt enc P w e f B n) {v : Value} {d : DataW H} {ps : List MemPlace} (hv : ∃ A len cap, v = .slice A len cap) (ht : DataW.Trod enc P w 0 (fun _ => true) true t v d ps) :
  ∃ A cap xs, v = .slice A xs.length cap ∧ Sli (Mem.of w) sz f A cap xs ∧ Vld (eL sz f xs) ∧ dsz (eL sz f xs) ≤ B d := by
 obtain ⟨A, len, cap, rfl⟩ := hv
 obtain ⟨xs, h1, h2⟩ := OpnAt.arg (f := eL sz f) (fun n => opa_slice0 hB hu hsz fun k _ => h k) ht
 obtain ⟨A', cap', e, hs⟩ := Rep.sli h1
 simp only [Value.cells] at e
 have e' : Value.slice A len cap = Value.slice A' xs.length cap' := by simpa using e
 cases e'
 exact ⟨A, cap, xs, rfl, hs, h2⟩
end
end Go.Vc
end

section
namespace Go.Proofs.YtalifkcchfkgmaaDoor
open Go Go.Vc Go.RowKit
theorem opa_TB0 {H : Type} {enc : TypeId × Value → H} {w : World} {B : DataW H → Nat} (hB : BulkOk B) : ∀ m, OpnAt enc Tryd.prog w 33 emb_TB0 B m := by
 intro m
 induction m using Nat.strongRecOn with
 | ind m ih =>
 intro cs x h
 obtain ⟨xs, n, rfl, rfl, hlen, hxl, hf⟩ := DataW.trod_struct Tryd.underlying33 h
 have hct : Tryd.prog.cellsOf 33 = 6 := by kernel_rfl
 rw [hct] at hlen
 obtain ⟨x0, x1, x2, x3, x4, x5, rfl⟩ : ∃ x0 x1 x2 x3 x4 x5, xs = [x0, x1, x2, x3, x4, x5] := by
  match xs, hxl with
  | [x0, x1, x2, x3, x4, x5], _ => exact ⟨x0, x1, x2, x3, x4, x5, rfl⟩
 have f0 : DataW.trod enc Tryd.prog w 0 (fun _ => true) true n 29 ((cs.drop 0).take (Tryd.prog.cellsOf 29)) = some x0 := hf 0 _ rfl
 rw [show Tryd.prog.cellsOf 29 = 1 by kernel_rfl] at f0
 obtain ⟨a0, r0, v0, b0⟩ := (fun _ => opa_int hB Tryd.underlying29) n _ _ f0
 have f1 : DataW.trod enc Tryd.prog w 0 (fun _ => true) true n 4 ((cs.drop 1).take (Tryd.prog.cellsOf 4)) = some x1 := hf 1 _ rfl
 rw [show Tryd.prog.cellsOf 4 = 1 by kernel_rfl] at f1
 obtain ⟨a1, r1, v1, b1⟩ := (fun _ => opa_bool hB Tryd.underlying4) n _ _ f1
 have f2 : DataW.trod enc Tryd.prog w 0 (fun _ => true) true n 3 ((cs.drop 2).take (Tryd.prog.cellsOf 3)) = some x2 := hf 2 _ rfl
 rw [show Tryd.prog.cellsOf 3 = 1 by kernel_rfl] at f2
 obtain ⟨a2, r2, v2, b2⟩ := (fun _ => opa_int hB Tryd.underlying3) n _ _ f2
 have f3 : DataW.trod enc Tryd.prog w 0 (fun _ => true) true n 9 ((cs.drop 3).take (Tryd.prog.cellsOf 9)) = some x3 := hf 3 _ rfl
 rw [show Tryd.prog.cellsOf 9 = 1 by kernel_rfl] at f3
 obtain ⟨a3, r3, v3, b3⟩ := (fun _ => opa_str hB Tryd.underlying9) n _ _ f3
 have f4 : DataW.trod enc Tryd.prog w 0 (fun _ => true) true n 30 ((cs.drop 4).take (Tryd.prog.cellsOf 30)) = some x4 := hf 4 _ rfl
 rw [show Tryd.prog.cellsOf 30 = 1 by kernel_rfl] at f4
 obtain ⟨a4, r4, v4, b4⟩ := (opa_slice0 (m := n) (e := 33) (sz := 6) hB Tryd.underlying30 (by kernel_rfl) (fun k hk => ih k (by omega))) _ _ f4
 have f5 : DataW.trod enc Tryd.prog w 0 (fun _ => true) true n 31 ((cs.drop 5).take (Tryd.prog.cellsOf 31)) = some x5 := hf 5 _ rfl
 rw [show Tryd.prog.cellsOf 31 = 1 by kernel_rfl] at f5
 obtain ⟨a5, r5, v5, b5⟩ := (opa_slice0 (m := n) (e := 9) (sz := 1) hB Tryd.underlying31 (by kernel_rfl) (fun k _ => (fun _ => opa_str hB Tryd.underlying9) k)) _ _ f5
 refine ⟨⟨a0, a1, a2, a3, a4, a5⟩, ?_, ?_, ?_⟩
 ·rw [emb_TB0_eq]
  have hcs : RepSeq (Mem.of w) _ (cs.drop 0) := (RepSeq.cut (k := 1) r0 (by rw [List.drop_drop]; exact (RepSeq.cut (k := 1) r1 (by rw [List.drop_drop]; exact (RepSeq.cut (k := 1) r2 (by rw [List.drop_drop]; exact (RepSeq.cut (k := 1) r3 (by rw [List.drop_drop]; exact (RepSeq.cut (k := 1) r4 (by rw [List.drop_drop]; exact (RepSeq.cut (k := 1) r5 (by rw [List.drop_drop]; exact (show RepSeq (Mem.of w) [] (cs.drop 6) from List.drop_eq_nil_of_le (by omega))))))))))))))
  exact hcs
 ·rw [emb_TB0_eq]; exact ⟨v0, ⟨v1, ⟨v2, ⟨v3, ⟨v4, ⟨v5, trivial⟩⟩⟩⟩⟩⟩
 ·rw [emb_TB0_eq]
  have := hB.agg ([x0, x1, x2, x3, x4, x5].map (·.1))
  simp only [List.map_cons, List.map_nil, List.sum_cons, List.sum_nil] at this ⊢
  simp only [dsz, dszs] at *
  omega
theorem opa_TA0 {H : Type} {enc : TypeId × Value → H} {w : World} {B : DataW H → Nat} (hB : BulkOk B) : ∀ m, OpnAt enc Tryd.prog w 35 emb_TA0 B m := by
 intro m
 induction m using Nat.strongRecOn with
 | ind m ih =>
 intro cs x h
 obtain ⟨xs, n, rfl, rfl, hlen, hxl, hf⟩ := DataW.trod_struct Tryd.underlying35 h
 have hct : Tryd.prog.cellsOf 35 = 8 := by kernel_rfl
 rw [hct] at hlen
 obtain ⟨x0, x1, x2, rfl⟩ : ∃ x0 x1 x2, xs = [x0, x1, x2] := by
  match xs, hxl with
  | [x0, x1, x2], _ => exact ⟨x0, x1, x2, rfl⟩
 have f0 : DataW.trod enc Tryd.prog w 0 (fun _ => true) true n 9 ((cs.drop 0).take (Tryd.prog.cellsOf 9)) = some x0 := hf 0 _ rfl
 rw [show Tryd.prog.cellsOf 9 = 1 by kernel_rfl] at f0
 obtain ⟨a0, r0, v0, b0⟩ := (fun _ => opa_str hB Tryd.underlying9) n _ _ f0
 have f1 : DataW.trod enc Tryd.prog w 0 (fun _ => true) true n 4 ((cs.drop 1).take (Tryd.prog.cellsOf 4)) = some x1 := hf 1 _ rfl
 rw [show Tryd.prog.cellsOf 4 = 1 by kernel_rfl] at f1
 obtain ⟨a1, r1, v1, b1⟩ := (fun _ => opa_bool hB Tryd.underlying4) n _ _ f1
 have f2 : DataW.trod enc Tryd.prog w 0 (fun _ => true) true n 33 ((cs.drop 2).take (Tryd.prog.cellsOf 33)) = some x2 := hf 2 _ rfl
 rw [show Tryd.prog.cellsOf 33 = 6 by kernel_rfl] at f2
 obtain ⟨a2, r2, v2, b2⟩ := (opa_TB0 hB) n _ _ f2
 refine ⟨⟨a0, a1, a2⟩, ?_, ?_, ?_⟩
 ·rw [emb_TA0_eq]
  have hcs : RepSeq (Mem.of w) _ (cs.drop 0) := (RepSeq.cut (k := 1) r0 (by rw [List.drop_drop]; exact (RepSeq.cut (k := 1) r1 (by rw [List.drop_drop]; exact (RepSeq.cut (k := 6) r2 (by rw [List.drop_drop]; exact (show RepSeq (Mem.of w) [] (cs.drop 8) from List.drop_eq_nil_of_le (by omega))))))))
  exact hcs
 ·rw [emb_TA0_eq]; exact ⟨v0, ⟨v1, ⟨v2, trivial⟩⟩⟩
 ·rw [emb_TA0_eq]
  have := hB.agg ([x0, x1, x2].map (·.1))
  simp only [List.map_cons, List.map_nil, List.sum_cons, List.sum_nil] at this ⊢
  simp only [dsz, dszs] at *
  omega
theorem opa_TC0 {H : Type} {enc : TypeId × Value → H} {w : World} {B : DataW H → Nat} (hB : BulkOk B) : ∀ m, OpnAt enc Tryd.prog w 37 emb_TC0 B m := by
 intro m
 induction m using Nat.strongRecOn with
 | ind m ih =>
 intro cs x h
 obtain ⟨xs, n, rfl, rfl, hlen, hxl, hf⟩ := DataW.trod_struct Tryd.underlying37 h
 have hct : Tryd.prog.cellsOf 37 = 10 := by kernel_rfl
 rw [hct] at hlen
 obtain ⟨x0, x1, x2, x3, x4, rfl⟩ : ∃ x0 x1 x2 x3 x4, xs = [x0, x1, x2, x3, x4] := by
  match xs, hxl with
  | [x0, x1, x2, x3, x4], _ => exact ⟨x0, x1, x2, x3, x4, rfl⟩
 have f0 : DataW.trod enc Tryd.prog w 0 (fun _ => true) true n 9 ((cs.drop 0).take (Tryd.prog.cellsOf 9)) = some x0 := hf 0 _ rfl
 rw [show Tryd.prog.cellsOf 9 = 1 by kernel_rfl] at f0
 obtain ⟨a0, r0, v0, b0⟩ := (fun _ => opa_str hB Tryd.underlying9) n _ _ f0
 have f1 : DataW.trod enc Tryd.prog w 0 (fun _ => true) true n 4 ((cs.drop 1).take (Tryd.prog.cellsOf 4)) = some x1 := hf 1 _ rfl
 rw [show Tryd.prog.cellsOf 4 = 1 by kernel_rfl] at f1
 obtain ⟨a1, r1, v1, b1⟩ := (fun _ => opa_bool hB Tryd.underlying4) n _ _ f1
 have f2 : DataW.trod enc Tryd.prog w 0 (fun _ => true) true n 4 ((cs.drop 2).take (Tryd.prog.cellsOf 4)) = some x2 := hf 2 _ rfl
 rw [show Tryd.prog.cellsOf 4 = 1 by kernel_rfl] at f2
 obtain ⟨a2, r2, v2, b2⟩ := (fun _ => opa_bool hB Tryd.underlying4) n _ _ f2
 have f3 : DataW.trod enc Tryd.prog w 0 (fun _ => true) true n 33 ((cs.drop 3).take (Tryd.prog.cellsOf 33)) = some x3 := hf 3 _ rfl
 rw [show Tryd.prog.cellsOf 33 = 6 by kernel_rfl] at f3
 obtain ⟨a3, r3, v3, b3⟩ := (opa_TB0 hB) n _ _ f3
 have f4 : DataW.trod enc Tryd.prog w 0 (fun _ => true) true n 30 ((cs.drop 9).take (Tryd.prog.cellsOf 30)) = some x4 := hf 4 _ rfl
 rw [show Tryd.prog.cellsOf 30 = 1 by kernel_rfl] at f4
 obtain ⟨a4, r4, v4, b4⟩ := (fun m => opa_slice0 (e := 33) (sz := 6) hB Tryd.underlying30 (by kernel_rfl) (fun k _ => (opa_TB0 hB) k)) n _ _ f4
 refine ⟨⟨a0, a1, a2, a3, a4⟩, ?_, ?_, ?_⟩
 ·rw [emb_TC0_eq]
  have hcs : RepSeq (Mem.of w) _ (cs.drop 0) := (RepSeq.cut (k := 1) r0 (by rw [List.drop_drop]; exact (RepSeq.cut (k := 1) r1 (by rw [List.drop_drop]; exact (RepSeq.cut (k := 1) r2 (by rw [List.drop_drop]; exact (RepSeq.cut (k := 6) r3 (by rw [List.drop_drop]; exact (RepSeq.cut (k := 1) r4 (by rw [List.drop_drop]; exact (show RepSeq (Mem.of w) [] (cs.drop 10) from List.drop_eq_nil_of_le (by omega))))))))))))
  exact hcs
 ·rw [emb_TC0_eq]; exact ⟨v0, ⟨v1, ⟨v2, ⟨v3, ⟨v4, trivial⟩⟩⟩⟩⟩
 ·rw [emb_TC0_eq]
  have := hB.agg ([x0, x1, x2, x3, x4].map (·.1))
  simp only [List.map_cons, List.map_nil, List.sum_cons, List.sum_nil] at this ⊢
  simp only [dsz, dszs] at *
  omega
theorem bulk_all {H : Type} (l : List (DataW H)) : Rows.uptoBulkAll l = (l.map Rows.uptoBulk).sum := by
 induction l with
 | nil => simp [Rows.uptoBulkAll]
 | cons x l ih => simp only [Rows.uptoBulkAll, List.map_cons, List.sum_cons, ih]
theorem bulk_ok {H : Type} : BulkOk (H := H) Rows.uptoBulk where
 one d := by
  cases d with
  | lit l => cases l <;> simp [Rows.uptoBulk]
  | nil => simp [Rows.uptoBulk]
  | ptr d => simp [Rows.uptoBulk]
  | slice elems spare => simp [Rows.uptoBulk]
  | agg parts => simp [Rows.uptoBulk]
  | iface t d => simp [Rows.uptoBulk]
  | map entries => simp [Rows.uptoBulk]
  | held h => simp [Rows.uptoBulk]
 str l := by simp [Rows.uptoBulk]
 slice e s := by
  simp only [Rows.uptoBulk]
  rw [bulk_all e]
  omega
 agg e := by
  simp only [Rows.uptoBulk]
  rw [bulk_all e]
  exact Nat.le_refl _
theorem bulk_one {H : Type} {d : DataW H} {l : List (DataW H)} (h : Rows.uptoSmall H l = true) (hd : d ∈ l) : Rows.uptoBulk d ≤ 1048576 := by
 unfold Rows.uptoSmall at h
 have h := of_decide_eq_true h
 rw [bulk_all] at h
 have := le_sum (List.mem_map_of_mem (f := Rows.uptoBulk) hd)
 omega
end Go.Proofs.YtalifkcchfkgmaaDoor
end
