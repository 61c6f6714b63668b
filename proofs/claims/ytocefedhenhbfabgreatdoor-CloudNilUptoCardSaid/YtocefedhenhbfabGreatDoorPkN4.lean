/-
  Texts of this claim, packed (what nothing names is left out): T1, T2, T3, StoreP1, StoreP2, C1, C2, CloudP1, LNil, CloudLNil, Vo2. Own work, partly printed by own programs. No condition.
-/
import Derived.Test.YtocefedhenhbfabGreatDoorPkN3
import Derived.Test.YtocefedhenhbfabGreatDoorRows
import Derived.Test.YtocefedhenhbfabGreatDoorPkN1
set_option linter.unusedVariables false
set_option linter.unusedSimpArgs false
set_option maxHeartbeats 2000000
section
namespace Go.Proofs.YtocefedhenhbfabGreatDoor
open Go Go.Vc Go.RowKit
def store_Phys (n : Nat) (d0 : Int) : Option (List UInt8 × Int) :=
  ((bif (decide (d0 < 1)) then
      (some ((true)))
    else
      some ((decide ((1099511627776 : Int) < d0))) : Option Bool)).bind fun y_1 =>
  bif y_1 then
    (some ((([] : List UInt8), (2 : Int))))
  else
    (h_numText n d0).bind fun x_1 =>
    need ([112].length + x_1.1.length ≤ 9223372036854775807) <|
    some (([112] ++ x_1.1, x_1.2))
theorem store_Phys_ok (n : Nat) (M : Mem) (hG : GL M) (d0 : Int) (r : List UInt8 × Int) (hF : store_Phys n d0 = some r) : Ok Tryz.prog M 66 [.int .i64 d0] (fun _ v => v = .tuple #[S r.1, .int .i64 r.2]) := by
 unfold store_Phys at hF
 intro M1 hM0 w0 H w p0
 replace hG := GL.mono hM0 hG
 refine R_enter 20 Tryz.func66 rfl rfl (by simp) fun a0 f0 => RR (Y f0 2 fun _ f => eT (R_seq (R_seq ?_)))
 obtain ⟨j_1, hj_1, hF_1⟩ := bS hF
 refine R_mid (fun a_5 w_1 => ∃ y_1 : Bool, j_1 = y_1 ∧ ∃ M_1 : Mem, M1.le M_1 ∧ Frm 20 [(0, .int .i64 d0), (11, .bool y_1)] a_5 ∧ Hp w0 M_1 (H) w_1) ?_ ?_
 ·refine R_reg (Y f 3 fun _ f => ?_)
  rcases cE hj_1 with ⟨h_1, hF_2⟩ | ⟨h_1, hF_3⟩
  ·have k_1 := dI.1 h_1
   have f := f.st 8 (cB h_1)
   refine Y f 3 fun _ f => eT ?_
   exact ⟨(true), (sI hF_2).symm, M1, (mR _), f.kp, p0⟩
  ·have k_2 := iff_f dI h_1
   have f := f.st 8 (cB h_1)
   refine Y f 3 fun _ f => eT ?_
   exact ⟨(decide ((1099511627776 : Int) < d0)), (sI hF_3).symm, M1, (mR _), f.kp, p0⟩
 ·rintro a_5 w_1 ⟨y_1, hq_1, M_1, hM_1, f, p_1⟩
  subst j_1
  refine T_n (RcF f hF_1 (fun h_2 hF_4 => ?_) fun h_2 hF_5 => ?_)
  ·refine RR (Y f 2 fun _ f => eT (wp_ret (T_r (E_ret2 f rfl (by kernel_rfl : Vc.look _ 2 = some (S [])) (by kernel_rfl : Vc.look _ 3 = some (.int .i64 2)) ?_))))
   obtain rfl := sI hF_4
   exact ⟨_, rfl, M_1, hM_1, p_1, rfl⟩
  ·refine wp_skip (T_n (RR (Y f 1 fun _ f => ?_)))
   obtain ⟨x_1, hx_1, hF_6⟩ := bS hF_5
   refine Y18 f p_1 (h_numText_ok n _ d0 x_1 hx_1) fun w_2 p_2 _ f => Y f 5 fun _ f => eT (RR (Y f 1 fun _ f => ?_))
   obtain ⟨g_1, hF_7⟩ := nS hF_6
   refine Z f (Y29 rfl (l := [112]) (m := x_1.1) g_1) fun _ f => Y f 3 fun _ f => eT (wp_ret (E_ret2 f rfl (by kernel_rfl : Vc.look _ 2 = some (S ([112] ++ x_1.1))) (by kernel_rfl : Vc.look _ 3 = some (.int .i64 x_1.2)) ?_))
   obtain rfl := sI hF_7
   exact ⟨_, rfl, M_1, hM_1, p_2, rfl⟩
def store_Number (n : Nat) (d0 : List UInt8) : Option (Int × Bool) :=
  ((bif (decide (d0 = [])) then
      (some ((true)))
    else
      (getI d0 (0 : Int)).bind fun c_1 =>
      some ((!(decide (((c_1).toNat : Int) = 112)))) : Option Bool)).bind fun y_1 =>
  bif y_1 then
    (some (((0 : Int), (false))))
  else
    need (0 ≤ (1 : Int) ∧ (1 : Int) ≤ d0.length) <|
    (h_numRead n (d0.drop (1 : Int).toNat)).bind fun x_1 =>
    bif (!(decide (x_1.2 = 0))) then
      (some (((0 : Int), (false))))
    else
      bif (decide (x_1.1 < 1)) then
        (some (((0 : Int), (false))))
      else
        bif (decide ((1099511627776 : Int) < x_1.1)) then
          (some (((0 : Int), (false))))
        else
          some ((x_1.1, (true)))
set_option maxRecDepth 20000 in
theorem store_Number_ok (n : Nat) (M : Mem) (hG : GL M) (d0 : List UInt8) (r : Int × Bool) (hF : store_Number n d0 = some r) : Ok Tryz.prog M 84 [S d0] (fun _ v => v = .tuple #[.int .i64 r.1, .bool r.2]) := by
 unfold store_Number at hF
 intro M1 hM0 w0 H w p0
 replace hG := GL.mono hM0 hG
 refine R_enter 30 Tryz.func84 rfl rfl (by simp) fun a0 f0 => RR (Y f0 2 fun _ f => eT (R_seq (R_seq ?_)))
 obtain ⟨j_1, hj_1, hF_1⟩ := bS hF
 refine R_mid (fun a_9 w_1 => ∃ y_1 : Bool, j_1 = y_1 ∧ ∃ M_1 : Mem, M1.le M_1 ∧ Frm 30 [(0, S d0), (12, .bool y_1)] a_9 ∧ Hp w0 M_1 (H) w_1) ?_ ?_
 ·refine R_reg (Y f 1 fun _ f => Z f (Y38 rfl (l := d0) (m := [])) fun _ f => Y f 1 fun _ f => ?_)
  rcases cE hj_1 with ⟨h_1, hF_2⟩ | ⟨h_1, hF_3⟩
  ·have k_1 := dI.1 h_1
   have f := f.st 8 (cB h_1)
   refine Y f 4 fun _ f => eT ?_
   exact ⟨(true), (sI hF_2).symm, M1, (mR _), f.kp, p0⟩
  ·have k_2 := iff_f dI h_1
   have f := f.st 8 (cB h_1)
   refine Y f 1 fun _ f => ?_
   obtain ⟨c_1, hx_1, hF_4⟩ := bS hF_3
   refine Z f (Y37 rfl (l := d0) (k := .i64) (i := (0 : Int)) (getI_nn hx_1) (getI_lt hx_1)) fun _ f => ?_
   have f := Frm.set f 10 (v := .int .u8 ((d0.getD (0 : Int).toNat 0).toNat : Int)) (v' := .int .u8 ((c_1).toNat : Int)) (by kernel_rfl) (congrArg (fun c : UInt8 => Value.int .u8 ((c.toNat : Nat) : Int)) (getI_getD hx_1))
   refine Y f 2 fun _ f => eT ?_
   exact ⟨(!(decide (((c_1).toNat : Int) = 112))), (sI hF_4).symm, M1, (mR _), f.kp, p0⟩
 ·rintro a_9 w_1 ⟨y_1, hq_1, M_1, hM_1, f, p_1⟩
  subst j_1
  refine T_n (RcF f hF_1 (fun h_2 hF_5 => ?_) fun h_2 hF_6 => ?_)
  ·refine RR (Y f 2 fun _ f => eT (wp_ret (T_r (E_ret2 f rfl (by kernel_rfl : Vc.look _ 2 = some (.int .i64 0)) (by kernel_rfl : Vc.look _ 3 = some (.bool false)) ?_))))
   obtain rfl := sI hF_5
   exact ⟨_, rfl, M_1, hM_1, p_1, rfl⟩
  ·refine wp_skip (T_n (RR (Y f 1 fun _ f => ?_)))
   obtain ⟨g_1, hF_7⟩ := nS hF_6
   refine Z (v := S (d0.drop (1 : Int).toNat)) f (X_strFrom rfl (l := d0) (k := .i64) (a := (1 : Int)) (by kernel_rfl) (by kernel_rfl) (by kernel_rfl) g_1.1 g_1.2) fun _ f => ?_
   obtain ⟨x_1, hx_2, hF_8⟩ := bS hF_7
   refine Y18 f p_1 (h_numRead_ok n _ (d0.drop (1 : Int).toNat) x_1 hx_2) fun w_2 p_2 _ f => Y f 5 fun _ f => eT (R_seq (RR (Y f 3 fun _ f => ?_)))
   rcases cE hF_8 with ⟨h_3, hF_9⟩ | ⟨h_3, hF_10⟩
   ·have k_5 : ¬ (x_1.2 = 0) := (not_iff dI).1 h_3
    have f := f.st 21 (cB h_3)
    refine Y f 7 fun _ f => eT (Y8 f (RR (Y f 2 fun _ f => eT (wp_ret (T_r (E_ret2 f rfl (by kernel_rfl : Vc.look _ 2 = some (.int .i64 0)) (by kernel_rfl : Vc.look _ 3 = some (.bool false)) ?_))))))
    obtain rfl := sI hF_9
    exact ⟨_, rfl, M_1, hM_1, p_2, rfl⟩
   ·have k_6 : ¬ (¬ (x_1.2 = 0)) := iff_f (not_iff dI) h_3
    have f := f.st 21 (cB h_3)
    refine Y f 4 fun _ f => ?_
    rcases cE hF_10 with ⟨h_4, hF_11⟩ | ⟨h_4, hF_12⟩
    ·have k_7 := dI.1 h_4
     have f := f.st 25 (cB h_4)
     refine Y f 3 fun _ f => eT (Y8 f (RR (Y f 2 fun _ f => eT (wp_ret (T_r (E_ret2 f rfl (by kernel_rfl : Vc.look _ 2 = some (.int .i64 0)) (by kernel_rfl : Vc.look _ 3 = some (.bool false)) ?_))))))
     obtain rfl := sI hF_11
     exact ⟨_, rfl, M_1, hM_1, p_2, rfl⟩
    ·have k_8 := iff_f dI h_4
     have f := f.st 25 (cB h_4)
     refine Y f 3 fun _ f => eT (RcF f hF_12 (fun h_5 hF_13 => ?_) fun h_5 hF_14 => ?_)
     ·have k_9 := dI.1 h_5
      refine RR (Y f 2 fun _ f => eT (wp_ret (T_r (E_ret2 f rfl (by kernel_rfl : Vc.look _ 2 = some (.int .i64 0)) (by kernel_rfl : Vc.look _ 3 = some (.bool false)) ?_))))
      obtain rfl := sI hF_13
      exact ⟨_, rfl, M_1, hM_1, p_2, rfl⟩
     ·have k_10 := iff_f dI h_5
      refine wp_skip (T_n (RR (Y f 3 fun _ f => eT (wp_ret (E_ret2 f rfl (by kernel_rfl : Vc.look _ 2 = some (.int .i64 x_1.1)) (by kernel_rfl : Vc.look _ 3 = some (.bool true)) ?_)))))
      obtain rfl := sI hF_14
      exact ⟨_, rfl, M_1, hM_1, p_2, rfl⟩
def store_known_1 (n : Nat) (d0 : TC0) : Option Bool :=
  some ((d0.fUnknown))
theorem store_known_1_ok (n : Nat) (M : Mem) (hG : GL M) (c0 : List Value) (d0 : TC0) (h0 : Rep M (emb_TC0 d0) c0) (r : Bool) (hF : store_known_1 n d0 = some r) : Ok Tryz.prog M 86 [.agg c0.toArray] (fun _ v => v = .bool r) := by
 unfold store_known_1 at hF
 intro M1 hM0 w0 H w p0
 replace hG := GL.mono hM0 hG
 replace h0 := Rep.mono hM0 _ _ h0
 obtain ⟨A_1, cap_1, A_2, cap_2, rfl, h_1, h_2⟩ := TC0.opn h0
 refine R_enter 5 Tryz.func86 rfl rfl (by simp) fun a0 f0 => RR (Y13 (cs := #[S d0.fName, .bool d0.fUnknown, .int .i8 d0.fV.fKind, .bool d0.fV.fBool, .int .i64 d0.fV.fNum, S d0.fV.fText, .slice A_1 d0.fV.fList.length cap_1, .slice A_2 d0.fV.fKeys.length cap_2]) (T := 73) f0 p0 fun b_1 M_1 w_1 hM_1 hc_1 p_1 _ f => ?_)
 have hc_2 := fz_box hc_1
 refine Y f 1 fun _ f => eT (RR (Y f 1 fun _ f => Y15 f p_1 hc_2 1 rfl fun _ f => Y f 1 fun _ f => eT (wp_ret (E_ret1 f rfl (by kernel_rfl : Vc.look _ 2 = some (.bool d0.fUnknown)) ?_))))
 obtain rfl := sI hF
 exact ⟨_, rfl, M_1, hM_1, p_1, rfl⟩
def store_find_s1 (n : Nat) (d0 : List TC0) (s_1 : Int) : Option (Lp Int (Sum Int Unit)) :=
    bif (decide (s_1 < ((d0.length : Nat) : Int))) then
      ((getI d0 s_1).bind fun x_1 =>
      (store_known_1 n x_1).bind fun x_2 =>
      bif x_2 then
        (some (.br (.inl s_1)))
      else
        need (inR .i64 (s_1 + 1)) <|
        some (.nx (s_1 + 1)))
    else
      some (.br (.inr ()))
def store_find (n : Nat) (d0 : List TC0) : Option Int :=
  (loopF (store_find_s1 n d0) n (0 : Int)).bind fun b_1 =>
  (match b_1 with 
  | .inl y_1 => some (y_1) 
  | .inr y_2 => some ((-1 : Int)))
theorem store_find_ok (n : Nat) (M : Mem) (hG : GL M) (A0 : Option Addr) (cap0 : Nat) (d0 : List TC0) (h0 : Sli M 8 emb_TC0 A0 cap0 d0) (r : Int) (hF : store_find n d0 = some r) : Ok Tryz.prog M 85 [.slice A0 d0.length cap0, .func (.func 86) #[] #[]] (fun _ v => v = .int .i64 r) := by
 unfold store_find at hF
 intro M1 hM0 w0 H w p0
 replace hG := GL.mono hM0 hG
 replace h0 := h0.mono hM0
 refine R_enter 19 Tryz.func85 rfl rfl (by simp) fun a0 f0 => RR (Y f0 1 fun _ f => eT (R_seq (RR (Y f 3 fun _ f => eT (wp_block ?_)))))
 obtain ⟨b_1, hL_1, hF_1⟩ := bS hF
 refine wp_mono (Q := fun e a w => (e = .ret ∧ (∃ y_1 : Int, b_1 = .inl y_1 ∧ ∃ M_2 : Mem, M1.le M_2 ∧ Frm 19 [(4, .int .i64 y_1)] a ∧ Hp w0 M_2 (H) w)) ∨ (e = .exit 0 ∧ (∃ y_2 : Unit, b_1 = .inr y_2 ∧ ∃ M_3 : Mem, M1.le M_3 ∧ Frm 19 [] a ∧ Hp w0 M_3 (H) w))) (R_loop (n := 19) (w0 := w0) (M := M1) (fun (x : Nat × Int) => match x with | (m_1, s_1) => [(1, .func (.func 86) #[] #[]), (7, .slice A0 d0.length cap0), (8, .int .i64 ((d0.length : Nat) : Int)), (9, .int .i64 s_1)]) (fun (x : Nat × Int) => match x with | (m_1, s_1) => (H)) (fun (x : Nat × Int) (MM : Mem) => match x with | (m_1, s_1) => loopF (store_find_s1 n d0) m_1 s_1 = some b_1) (fun (x : Nat × Int) => match x with | (m_1, s_1) => m_1) (n, (0 : Int)) (f.kp) p0 hL_1 ?_) ?_
 ·rintro ⟨m_1, s_1⟩ M_1 _ w_1 hM_1 I_1 f p_1
  have I_1L := I_1
  obtain ⟨m_2, r_1, rfl, hs_1, hn_1⟩ := loop_step I_1L
  unfold store_find_s1 at hs_1
  refine RR (Y f 1 fun _ f => eT (R_seq (RcF f hs_1 (fun h_1 hF_2 => ?_) fun h_1 hF_8 => ?_)))
  ·have k_1 := dI.1 h_1
   refine wp_skip (T_n (R_seq (wp_block (RR (Y f 1 fun _ f => ?_)))))
   obtain ⟨x_1, hx_1, hF_3⟩ := bS hF_2
   obtain ⟨ad_1, c_1, e_1, -, hr_1, hc_1⟩ := Sli.at_ (h0.mono hM_1) hx_1
   obtain ⟨A_1, cap_1, A_2, cap_2, rfl, h_2, h_3⟩ := TC0.opn hr_1
   refine Z f (Y31 e_1 rfl (len := d0.length) (cap := cap0) (k := .i64) (i := s_1) (e := 73) (sz := 8) (getI_nn hx_1) (getI_lt hx_1)) fun _ f => Z (v := .agg #[S x_1.fName, .bool x_1.fUnknown, .int .i8 x_1.fV.fKind, .bool x_1.fV.fBool, .int .i64 x_1.fV.fNum, S x_1.fV.fText, .slice A_1 x_1.fV.fList.length cap_1, .slice A_2 x_1.fV.fKeys.length cap_2]) f (Y33 (cs := [S x_1.fName, .bool x_1.fUnknown, .int .i8 x_1.fV.fKind, .bool x_1.fV.fBool, .int .i64 x_1.fV.fNum, S x_1.fV.fText, .slice A_1 x_1.fV.fList.length cap_1, .slice A_2 x_1.fV.fKeys.length cap_2]) rfl (ad := ad_1.add (s_1.toNat * 8)) (fun j v h => p_1.cell (hc_1 j v h))) fun _ f => Y12 f p_1 (.cells #[S [], .bool false, .int .i8 0, .bool false, .int .i64 0, S [], .slice none 0 0, .slice none 0 0] 73 (0, 0)) fun b_2 w_2 p_2 _ f => Y f 1 fun _ f => Y27 (vs := [S x_1.fName, .bool x_1.fUnknown, .int .i8 x_1.fV.fKind, .bool x_1.fV.fBool, .int .i64 x_1.fV.fNum, S x_1.fV.fText, .slice A_1 x_1.fV.fList.length cap_1, .slice A_2 x_1.fV.fKeys.length cap_2]) (j := 0) f p_2 rfl rfl (by simp [Value.oneCell', S]) (by simp) (by decide) (cs' := #[S x_1.fName, .bool x_1.fUnknown, .int .i8 x_1.fV.fKind, .bool x_1.fV.fBool, .int .i64 x_1.fV.fNum, S x_1.fV.fText, .slice A_1 x_1.fV.fList.length cap_1, .slice A_2 x_1.fV.fKeys.length cap_2]) (by kernel_rfl) fun w_3 p_3 _ f => eT (RR (Y f 1 fun _ f => Z (v := .agg #[S x_1.fName, .bool x_1.fUnknown, .int .i8 x_1.fV.fKind, .bool x_1.fV.fBool, .int .i64 x_1.fV.fNum, S x_1.fV.fText, .slice A_1 x_1.fV.fList.length cap_1, .slice A_2 x_1.fV.fKeys.length cap_2]) f (Y33 (cs := [S x_1.fName, .bool x_1.fUnknown, .int .i8 x_1.fV.fKind, .bool x_1.fV.fBool, .int .i64 x_1.fV.fNum, S x_1.fV.fText, .slice A_1 x_1.fV.fList.length cap_1, .slice A_2 x_1.fV.fKeys.length cap_2]) rfl (ad := ⟨b_2, 0, none⟩) (own_cells (p_3.ownCell 0 rfl) 0 rfl)) fun _ f => ?_))
   obtain ⟨x_2, hx_2, hF_4⟩ := bS hF_3
   refine Y18 f p_3 (store_known_1_ok n _ (GL.mono hM_1 hG) _ x_1 (TC0.shutx (x := x_1) h_2 h_3) x_2 hx_2) fun w_4 p_4 _ f => eT (RcF f hF_4 (fun h_4 hF_5 => ?_) fun h_4 hF_6 => ?_)
   ·refine RR (Y f 2 fun _ f => eT (wp_ret (B_r (T_r (T_r ?_)))))
    obtain rfl := sI hF_5
    exact .inl ⟨rfl, s_1, (sI hn_1).symm, M_1, hM_1, f.kp, (p_4.dropN 1)⟩
   ·refine wp_skip (B_n (T_n (R_reg ?_)))
    obtain ⟨g_1, hF_7⟩ := nS hF_6
    refine Y f 1 fun _ f => ?_
    have f := f.st 18 (congrArg (Value.int .i64) (inR_wrap g_1))
    refine Y f 1 fun _ f => eT ?_
    obtain rfl := sI hF_7
    exact ⟨⟨m_2, s_1 + 1⟩, Nat.lt_succ_self _, M_1, hM_1, hn_1, f.kp, (p_4.dropN 1)⟩
  ·have k_4 := iff_f dI h_1
   refine wp_exit (T_x (T_x ?_))
   obtain rfl := sI hF_8
   exact .inr ⟨rfl, (), (sI hn_1).symm, M_1, hM_1, f.kp, p_1⟩
 ·rintro _ _ w_7 (⟨rfl, y_1, rfl, M_2, hM_2, f, p_5⟩ | ⟨rfl, y_2, rfl, M_3, hM_3, f, p_6⟩)
  ·refine B_r (T_r (E_ret1 f rfl (by kernel_rfl : Vc.look _ 4 = some (.int .i64 y_1)) ?_))
   obtain rfl := sI hF_1
   exact ⟨_, rfl, M_2, hM_2, p_5, rfl⟩
  ·refine B_x (T_n (RR (Y f 1 fun _ f => eT (wp_ret (E_ret1 f rfl (by kernel_rfl : Vc.look _ 4 = some (.int .i64 (-1))) ?_)))))
   obtain rfl := sI hF_1
   exact ⟨_, rfl, M_3, hM_3, p_6, rfl⟩
def store_known (n : Nat) (d0 : List TC0) : Option Bool :=
  (store_find n d0).bind fun x_1 =>
  some ((decide (x_1 < 0)))
theorem store_known_ok (n : Nat) (M : Mem) (hG : GL M) (A0 : Option Addr) (cap0 : Nat) (d0 : List TC0) (h0 : Sli M 8 emb_TC0 A0 cap0 d0) (r : Bool) (hF : store_known n d0 = some r) : Ok Tryz.prog M 65 [.slice A0 d0.length cap0] (fun _ v => v = .bool r) := by
 unfold store_known at hF
 intro M1 hM0 w0 H w p0
 replace hG := GL.mono hM0 hG
 replace h0 := h0.mono hM0
 refine R_enter 6 Tryz.func65 rfl rfl (by simp) fun a0 f0 => RR (Y f0 1 fun _ f => eT (RR (Y f 1 fun _ f => ?_)))
 obtain ⟨x_1, hx_1, hF_1⟩ := bS hF
 refine Y18 f p0 (store_find_ok n _ hG A0 cap0 d0 h0 x_1 hx_1) fun w_1 p_1 _ f => Y f 2 fun _ f => eT (wp_ret (E_ret1 f rfl (by kernel_rfl : Vc.look _ 2 = some (.bool (decide (x_1 < 0)))) ?_))
 obtain rfl := sI hF_1
 exact ⟨_, rfl, M1, (mR _), p_1, rfl⟩
def store_Check_s1 (n : Nat) (d0 : TA0) (s_1 : Int × Int) : Option (Lp (Int × Int) (Sum Unit Int)) :=
    bif (decide (s_1.2 < ((d0.fL.length : Nat) : Int))) then
      ((getI d0.fL s_1.2).bind fun x_1 =>
      (store_Number n x_1.fPhys).bind fun x_2 =>
      bif !x_2.2 then
        (some (.br (.inl ())))
      else
        bif (decide (x_2.1 ≤ s_1.1)) then
          (some (.br (.inl ())))
        else
          (schema_Check n x_1.fType x_1.fProps).bind fun x_3 =>
          bif (!(decide (x_3 = 0))) then
            (some (.br (.inl ())))
          else
            (store_known n x_1.fProps).bind fun x_4 =>
            bif !x_4 then
              (some (.br (.inl ())))
            else
              need (inR .i64 (s_1.2 + 1)) <|
              some (.nx (x_2.1, s_1.2 + 1)))
    else
      some (.br (.inr s_1.1))
def store_Check (n : Nat) (d0 : TA0) : Option Int :=
  (loopF (store_Check_s1 n d0) n ((0 : Int), (0 : Int))).bind fun b_2 =>
  (match b_2 with 
  | .inl y_1 => some ((2 : Int)) 
  | .inr y_2 => bif (decide (d0.fMade < y_2)) then
      (some ((2 : Int)))
    else
      bif (decide ((1099511627776 : Int) < d0.fMade)) then
        (some ((2 : Int)))
      else
        some ((0 : Int)))
set_option maxRecDepth 20000 in
theorem store_Check_ok (n : Nat) (M : Mem) (hG : GL M) (c0 : List Value) (d0 : TA0) (h0 : Rep M (emb_TA0 d0) c0) (r : Int) (hF : store_Check n d0 = some r) : Ok Tryz.prog M 64 [.agg c0.toArray] (fun _ v => v = .int .i64 r) := by
 unfold store_Check at hF
 intro M1 hM0 w0 H w p0
 replace hG := GL.mono hM0 hG
 replace h0 := Rep.mono hM0 _ _ h0
 obtain ⟨A_1, cap_1, rfl, h_1⟩ := TA0.opn h0
 refine R_enter 53 Tryz.func64 rfl rfl (by simp) fun a0 f0 => RR (Y13 (cs := #[.slice A_1 d0.fL.length cap_1, .int .i64 d0.fMade]) (T := 62) f0 p0 fun b_1 M_1 w_1 hM_1 hc_1 p_1 _ f => ?_)
 have hc_2 := fz_box hc_1
 refine Y f 1 fun _ f => eT (RR (Y f 1 fun _ f => eT (R_seq (RR (Y f 1 fun _ f => Y15 f p_1 hc_2 0 rfl fun _ f => Y f 2 fun _ f => eT (wp_block ?_))))))
 obtain ⟨b_2, hL_1, hF_1⟩ := bS hF
 refine wp_mono (Q := fun e a w => (e = .ret ∧ (∃ y_1 : Unit, b_2 = .inl y_1 ∧ ∃ M_3 : Mem, M_1.le M_3 ∧ Frm 53 [(2, .int .i64 2)] a ∧ Hp w0 M_3 (H) w)) ∨ (e = .exit 0 ∧ (∃ y_2 : Int, b_2 = .inr y_2 ∧ ∃ M_4 : Mem, M_1.le M_4 ∧ Frm 53 [(1, .pointer (some (⟨b_1, 0, none⟩))), (3, .int .i64 y_2)] a ∧ Hp w0 M_4 (H) w))) (R_loop (n := 53) (w0 := w0) (M := M_1) (fun (x : Nat × (Int × Int)) => match x with | (m_1, s_1) => [(1, .pointer (some (⟨b_1, 0, none⟩))), (3, .int .i64 s_1.1), (9, .slice A_1 d0.fL.length cap_1), (10, .int .i64 ((d0.fL.length : Nat) : Int)), (11, .int .i64 s_1.2)]) (fun (x : Nat × (Int × Int)) => match x with | (m_1, s_1) => (H)) (fun (x : Nat × (Int × Int)) (MM : Mem) => match x with | (m_1, s_1) => loopF (store_Check_s1 n d0) m_1 s_1 = some b_2) (fun (x : Nat × (Int × Int)) => match x with | (m_1, s_1) => m_1) (n, ((0 : Int), (0 : Int))) (f.kp) p_1 hL_1 ?_) ?_
 ·rintro ⟨m_1, s_1⟩ M_2 _ w_2 hM_2 I_1 f p_2
  have I_1L := I_1
  obtain ⟨m_2, r_1, rfl, hs_1, hn_1⟩ := loop_step I_1L
  unfold store_Check_s1 at hs_1
  refine RR (Y f 1 fun _ f => eT (R_seq (RcF f hs_1 (fun h_2 hF_2 => ?_) fun h_2 hF_16 => ?_)))
  ·have k_1 := dI.1 h_2
   refine wp_skip (T_n (R_seq (wp_block (RR ?_))))
   obtain ⟨x_1, hx_1, hF_3⟩ := bS hF_2
   obtain ⟨ad_1, c_1, e_1, -, hr_1, hc_3⟩ := Sli.at_ (h_1.mono (hM_1.trans hM_2)) hx_1
   obtain ⟨A_2, cap_2, rfl, h_3⟩ := TE0.opn hr_1
   refine Z f (Y31 e_1 rfl (len := d0.fL.length) (cap := cap_1) (k := .i64) (i := s_1.2) (e := 50) (sz := 3) (getI_nn hx_1) (getI_lt hx_1)) fun _ f => Z (v := .agg #[S x_1.fPhys, S x_1.fType, .slice A_2 x_1.fProps.length cap_2]) f (Y33 (cs := [S x_1.fPhys, S x_1.fType, .slice A_2 x_1.fProps.length cap_2]) rfl (ad := ad_1.add (s_1.2.toNat * 3)) (fun j v h => p_2.cell (hc_3 j v h))) fun _ f => Y12 f p_2 (.cells #[S [], S [], .slice none 0 0] 50 (0, 0)) fun b_3 w_3 p_3 _ f => Y27 (vs := [S x_1.fPhys, S x_1.fType, .slice A_2 x_1.fProps.length cap_2]) (j := 0) f p_3 rfl rfl (by simp [Value.oneCell', S]) (by simp) (by decide) (cs' := #[S x_1.fPhys, S x_1.fType, .slice A_2 x_1.fProps.length cap_2]) (by kernel_rfl) fun w_4 p_4 _ f => eT (RR (Y f 1 fun _ f => Z f (Y32 (v := S x_1.fPhys) rfl (ad := ⟨b_3, 0, none⟩) (p_4.ownCell 0 rfl 0)) fun _ f => ?_))
   obtain ⟨x_2, hx_2, hF_4⟩ := bS hF_3
   refine Y18 f p_4 (store_Number_ok n _ (GL.mono (hM_1.trans hM_2) hG) x_1.fPhys x_2 hx_2) fun w_5 p_5 _ f => Y f 5 fun _ f => eT (R_seq (RR (Y f 3 fun _ f => ?_)))
   rcases cE hF_4 with ⟨h_4, hF_5⟩ | ⟨h_4, hF_6⟩
   ·have k_2 : (x_2.2) = false := by simpa using h_4
    have f := f.st 23 (cB h_4)
    refine Y f 18 fun _ f => eT (Y8 f (RR (Y f 1 fun _ f => eT (wp_ret (T_r (B_r (T_r (T_r ?_))))))))
    obtain rfl := sI hF_5
    exact .inl ⟨rfl, (), (sI hn_1).symm, M_2, hM_2, f.kp, (p_5.dropN 1)⟩
   ·have k_3 : (x_2.2) = true := by simpa using h_4
    have f := f.st 23 (cB h_4)
    refine Y f 5 fun _ f => ?_
    rcases cE hF_6 with ⟨h_5, hF_7⟩ | ⟨h_5, hF_8⟩
    ·have k_4 := dI.1 h_5
     have f := f.st 28 (cB h_5)
     refine Y f 13 fun _ f => eT (Y8 f (RR (Y f 1 fun _ f => eT (wp_ret (T_r (B_r (T_r (T_r ?_))))))))
     obtain rfl := sI hF_7
     exact .inl ⟨rfl, (), (sI hn_1).symm, M_2, hM_2, f.kp, (p_5.dropN 1)⟩
    ·have k_5 := iff_f dI h_5
     have f := f.st 28 (cB h_5)
     refine Y f 1 fun _ f => Z f (Y32 (v := S x_1.fType) rfl (ad := ⟨b_3, 1, none⟩) (p_5.ownCell 0 rfl 1)) fun _ f => Y f 1 fun _ f => Z f (Y32 (v := .slice A_2 x_1.fProps.length cap_2) rfl (ad := ⟨b_3, 2, none⟩) (p_5.ownCell 0 rfl 2)) fun _ f => ?_
     obtain ⟨x_3, hx_3, hF_9⟩ := bS hF_8
     refine Y18 f p_5 (schema_Check_ok n _ (GL.mono (hM_1.trans hM_2) hG) x_1.fType A_2 cap_2 x_1.fProps h_3 x_3 hx_3) fun w_6 p_6 _ f => Y f 3 fun _ f => ?_
     rcases cE hF_9 with ⟨h_6, hF_10⟩ | ⟨h_6, hF_11⟩
     ·have k_6 : ¬ (x_3 = 0) := (not_iff dI).1 h_6
      have f := f.st 36 (cB h_6)
      refine Y f 5 fun _ f => eT (Y8 f (RR (Y f 1 fun _ f => eT (wp_ret (T_r (B_r (T_r (T_r ?_))))))))
      obtain rfl := sI hF_10
      exact .inl ⟨rfl, (), (sI hn_1).symm, M_2, hM_2, f.kp, (p_6.dropN 1)⟩
     ·have k_7 : ¬ (¬ (x_3 = 0)) := iff_f (not_iff dI) h_6
      have f := f.st 36 (cB h_6)
      refine Y f 1 fun _ f => Z f (Y32 (v := .slice A_2 x_1.fProps.length cap_2) rfl (ad := ⟨b_3, 2, none⟩) (p_6.ownCell 0 rfl 2)) fun _ f => ?_
      obtain ⟨x_4, hx_4, hF_12⟩ := bS hF_11
      refine Y18 f p_6 (store_known_ok n _ (GL.mono (hM_1.trans hM_2) hG) A_2 cap_2 x_1.fProps h_3 x_4 hx_4) fun w_7 p_7 _ f => Y f 2 fun _ f => eT (RcF f hF_12 (fun h_7 hF_13 => ?_) fun h_7 hF_14 => ?_)
      ·have k_8 : (x_4) = false := by simpa using h_7
       refine RR (Y f 1 fun _ f => eT (wp_ret (T_r (B_r (T_r (T_r ?_))))))
       obtain rfl := sI hF_13
       exact .inl ⟨rfl, (), (sI hn_1).symm, M_2, hM_2, f.kp, (p_7.dropN 1)⟩
      ·have k_9 : (x_4) = true := by simpa using h_7
       refine wp_skip (T_n (R_reg (Y f 2 fun _ f => W_end rfl (B_n (T_n (R_reg ?_))))))
       obtain ⟨g_1, hF_15⟩ := nS hF_14
       refine Y f 1 fun _ f => ?_
       have f := f.st 43 (congrArg (Value.int .i64) (inR_wrap g_1))
       refine Y f 1 fun _ f => eT ?_
       obtain rfl := sI hF_15
       exact ⟨⟨m_2, (x_2.1, s_1.2 + 1)⟩, Nat.lt_succ_self _, M_2, hM_2, hn_1, f.kp, (p_7.dropN 1)⟩
  ·have k_10 := iff_f dI h_2
   refine wp_exit (T_x (T_x ?_))
   obtain rfl := sI hF_16
   exact .inr ⟨rfl, s_1.1, (sI hn_1).symm, M_2, hM_2, f.kp, p_2⟩
 ·rintro _ _ w_10 (⟨rfl, y_1, rfl, M_3, hM_3, f, p_8⟩ | ⟨rfl, y_2, rfl, M_4, hM_4, f, p_9⟩)
  ·refine B_r (T_r (E_ret1 f rfl (by kernel_rfl : Vc.look _ 2 = some (.int .i64 2)) ?_))
   obtain rfl := sI hF_1
   exact ⟨_, rfl, M_3, (hM_1.trans hM_3), p_8, rfl⟩
  ·refine B_x (T_n (R_seq (RR (Y f 1 fun _ f => Y15 f p_9 (fzu hM_4 hc_2) 1 rfl fun _ f => Y f 3 fun _ f => ?_))))
   rcases cE hF_1 with ⟨h_8, hF_17⟩ | ⟨h_8, hF_18⟩
   ·have k_11 := dI.1 h_8
    have f := f.st 48 (cB h_8)
    refine Y f 4 fun _ f => eT (Y8 f (RR (Y f 1 fun _ f => eT (wp_ret (T_r (E_ret1 f rfl (by kernel_rfl : Vc.look _ 2 = some (.int .i64 2)) ?_))))))
    obtain rfl := sI hF_17
    exact ⟨_, rfl, M_4, (hM_1.trans hM_4), p_9, rfl⟩
   ·have k_12 := iff_f dI h_8
    have f := f.st 48 (cB h_8)
    refine Y f 1 fun _ f => Y15 f p_9 (fzu hM_4 hc_2) 1 rfl fun _ f => Y f 2 fun _ f => eT (RcF f hF_18 (fun h_9 hF_19 => ?_) fun h_9 hF_20 => ?_)
    ·have k_13 := dI.1 h_9
     refine RR (Y f 1 fun _ f => eT (wp_ret (T_r (E_ret1 f rfl (by kernel_rfl : Vc.look _ 2 = some (.int .i64 2)) ?_))))
     obtain rfl := sI hF_19
     exact ⟨_, rfl, M_4, (hM_1.trans hM_4), p_9, rfl⟩
    ·have k_14 := iff_f dI h_9
     refine wp_skip (T_n (RR (Y f 1 fun _ f => eT (wp_ret (E_ret1 f rfl (by kernel_rfl : Vc.look _ 2 = some (.int .i64 0)) ?_)))))
     obtain rfl := sI hF_20
     exact ⟨_, rfl, M_4, (hM_1.trans hM_4), p_9, rfl⟩
def store_at_1 (n : Nat) (d0 : TE0) (d1 : List UInt8) : Option Bool :=
  some ((decide (d0.fPhys = d1)))
theorem store_at_1_ok (n : Nat) (M : Mem) (hG : GL M) (c0 : List Value) (d0 : TE0) (h0 : Rep M (emb_TE0 d0) c0) (ad1 : Addr) (c1 : List Value) (d1 : List UInt8) (h1 : Rep M (Dat.str d1) c1) (q1 : ∀ j v, c1[j]? = some v → M.cell? (ad1.add j) = some v) (r : Bool) (hF : store_at_1 n d0 d1 = some r) : Ok Tryz.prog M 75 [.agg c0.toArray, .pointer (some ad1)] (fun _ v => v = .bool r) := by
 unfold store_at_1 at hF
 intro M1 hM0 w0 H w p0
 replace hG := GL.mono hM0 hG
 replace h0 := Rep.mono hM0 _ _ h0
 replace h1 := Rep.mono hM0 _ _ h1
 replace q1 := fun j v h => hM0.cell (q1 j v h)
 obtain ⟨A_1, cap_1, rfl, h_1⟩ := TE0.opn h0
 obtain rfl : c1 = [S d1] := h1
 refine R_enter 8 Tryz.func75 rfl rfl (by simp) fun a0 f0 => RR (Y13 (cs := #[S d0.fPhys, S d0.fType, .slice A_1 d0.fProps.length cap_1]) (T := 50) f0 p0 fun b_1 M_1 w_1 hM_1 hc_1 p_1 _ f => ?_)
 have hc_2 := fz_box hc_1
 refine Y f 1 fun _ f => eT (RR (Y f 1 fun _ f => Y15 f p_1 hc_2 0 rfl fun _ f => Y15 f p_1 (fzu hM_1 q1) 0 rfl fun _ f => Z f (Y38 rfl (l := d0.fPhys) (m := d1)) fun _ f => Y f 1 fun _ f => eT (wp_ret (E_ret1 f rfl (by kernel_rfl : Vc.look _ 3 = some (.bool (decide (d0.fPhys = d1)))) ?_))))
 obtain rfl := sI hF
 exact ⟨_, rfl, M_1, hM_1, p_1, rfl⟩
def store_find_2_s1 (n : Nat) (d0 : List TE0) (d1_0 : List UInt8) (s_1 : Int) : Option (Lp Int (Sum Int Unit)) :=
    bif (decide (s_1 < ((d0.length : Nat) : Int))) then
      ((getI d0 s_1).bind fun x_1 =>
      (store_at_1 n x_1 d1_0).bind fun x_2 =>
      bif x_2 then
        (some (.br (.inl s_1)))
      else
        need (inR .i64 (s_1 + 1)) <|
        some (.nx (s_1 + 1)))
    else
      some (.br (.inr ()))
def store_find_2 (n : Nat) (d0 : List TE0) (d1_0 : List UInt8) : Option Int :=
  (loopF (store_find_2_s1 n d0 d1_0) n (0 : Int)).bind fun b_1 =>
  (match b_1 with 
  | .inl y_1 => some (y_1) 
  | .inr y_2 => some ((-1 : Int)))
theorem store_find_2_ok (n : Nat) (M : Mem) (hG : GL M) (A0 : Option Addr) (cap0 : Nat) (d0 : List TE0) (h0 : Sli M 3 emb_TE0 A0 cap0 d0) (ad1_0 : Addr) (c1_0 : List Value) (d1_0 : List UInt8) (h1_0 : Rep M (Dat.str d1_0) c1_0) (q1_0 : ∀ j v, c1_0[j]? = some v → M.cell? (ad1_0.add j) = some v) (r : Int) (hF : store_find_2 n d0 d1_0 = some r) : Ok Tryz.prog M 74 [.slice A0 d0.length cap0, .func (.func 75) #[] #[.pointer (some ad1_0)]] (fun _ v => v = .int .i64 r) := by
 unfold store_find_2 at hF
 intro M1 hM0 w0 H w p0
 replace hG := GL.mono hM0 hG
 replace h0 := h0.mono hM0
 replace h1_0 := Rep.mono hM0 _ _ h1_0
 replace q1_0 := fun j v h => hM0.cell (q1_0 j v h)
 obtain rfl : c1_0 = [S d1_0] := h1_0
 refine R_enter 19 Tryz.func74 rfl rfl (by simp) fun a0 f0 => RR (Y f0 1 fun _ f => eT (R_seq (RR (Y f 3 fun _ f => eT (wp_block ?_)))))
 obtain ⟨b_1, hL_1, hF_1⟩ := bS hF
 refine wp_mono (Q := fun e a w => (e = .ret ∧ (∃ y_1 : Int, b_1 = .inl y_1 ∧ ∃ M_2 : Mem, M1.le M_2 ∧ Frm 19 [(4, .int .i64 y_1)] a ∧ Hp w0 M_2 (H) w)) ∨ (e = .exit 0 ∧ (∃ y_2 : Unit, b_1 = .inr y_2 ∧ ∃ M_3 : Mem, M1.le M_3 ∧ Frm 19 [] a ∧ Hp w0 M_3 (H) w))) (R_loop (n := 19) (w0 := w0) (M := M1) (fun (x : Nat × Int) => match x with | (m_1, s_1) => [(1, .func (.func 75) #[] #[.pointer (some ad1_0)]), (7, .slice A0 d0.length cap0), (8, .int .i64 ((d0.length : Nat) : Int)), (9, .int .i64 s_1)]) (fun (x : Nat × Int) => match x with | (m_1, s_1) => (H)) (fun (x : Nat × Int) (MM : Mem) => match x with | (m_1, s_1) => loopF (store_find_2_s1 n d0 d1_0) m_1 s_1 = some b_1) (fun (x : Nat × Int) => match x with | (m_1, s_1) => m_1) (n, (0 : Int)) (f.kp) p0 hL_1 ?_) ?_
 ·rintro ⟨m_1, s_1⟩ M_1 _ w_1 hM_1 I_1 f p_1
  have I_1L := I_1
  obtain ⟨m_2, r_1, rfl, hs_1, hn_1⟩ := loop_step I_1L
  unfold store_find_2_s1 at hs_1
  refine RR (Y f 1 fun _ f => eT (R_seq (RcF f hs_1 (fun h_1 hF_2 => ?_) fun h_1 hF_8 => ?_)))
  ·have k_1 := dI.1 h_1
   refine wp_skip (T_n (R_seq (wp_block (RR (Y f 1 fun _ f => ?_)))))
   obtain ⟨x_1, hx_1, hF_3⟩ := bS hF_2
   obtain ⟨ad_1, c_1, e_1, -, hr_1, hc_1⟩ := Sli.at_ (h0.mono hM_1) hx_1
   obtain ⟨A_1, cap_1, rfl, h_2⟩ := TE0.opn hr_1
   refine Z f (Y31 e_1 rfl (len := d0.length) (cap := cap0) (k := .i64) (i := s_1) (e := 50) (sz := 3) (getI_nn hx_1) (getI_lt hx_1)) fun _ f => Z (v := .agg #[S x_1.fPhys, S x_1.fType, .slice A_1 x_1.fProps.length cap_1]) f (Y33 (cs := [S x_1.fPhys, S x_1.fType, .slice A_1 x_1.fProps.length cap_1]) rfl (ad := ad_1.add (s_1.toNat * 3)) (fun j v h => p_1.cell (hc_1 j v h))) fun _ f => Y12 f p_1 (.cells #[S [], S [], .slice none 0 0] 50 (0, 0)) fun b_2 w_2 p_2 _ f => Y f 1 fun _ f => Y27 (vs := [S x_1.fPhys, S x_1.fType, .slice A_1 x_1.fProps.length cap_1]) (j := 0) f p_2 rfl rfl (by simp [Value.oneCell', S]) (by simp) (by decide) (cs' := #[S x_1.fPhys, S x_1.fType, .slice A_1 x_1.fProps.length cap_1]) (by kernel_rfl) fun w_3 p_3 _ f => eT (RR (Y f 1 fun _ f => Z (v := .agg #[S x_1.fPhys, S x_1.fType, .slice A_1 x_1.fProps.length cap_1]) f (Y33 (cs := [S x_1.fPhys, S x_1.fType, .slice A_1 x_1.fProps.length cap_1]) rfl (ad := ⟨b_2, 0, none⟩) (own_cells (p_3.ownCell 0 rfl) 0 rfl)) fun _ f => ?_))
   obtain ⟨x_2, hx_2, hF_4⟩ := bS hF_3
   refine Y18 f p_3 (store_at_1_ok n _ (GL.mono hM_1 hG) _ x_1 (TE0.shutx (x := x_1) h_2) ad1_0 [S d1_0] d1_0 (rfl) (fz_at ((fzu hM_1 q1_0)) 0 rfl) x_2 hx_2) fun w_4 p_4 _ f => eT (RcF f hF_4 (fun h_3 hF_5 => ?_) fun h_3 hF_6 => ?_)
   ·refine RR (Y f 2 fun _ f => eT (wp_ret (B_r (T_r (T_r ?_)))))
    obtain rfl := sI hF_5
    exact .inl ⟨rfl, s_1, (sI hn_1).symm, M_1, hM_1, f.kp, (p_4.dropN 1)⟩
   ·refine wp_skip (B_n (T_n (R_reg ?_)))
    obtain ⟨g_1, hF_7⟩ := nS hF_6
    refine Y f 1 fun _ f => ?_
    have f := f.st 18 (congrArg (Value.int .i64) (inR_wrap g_1))
    refine Y f 1 fun _ f => eT ?_
    obtain rfl := sI hF_7
    exact ⟨⟨m_2, s_1 + 1⟩, Nat.lt_succ_self _, M_1, hM_1, hn_1, f.kp, (p_4.dropN 1)⟩
  ·have k_4 := iff_f dI h_1
   refine wp_exit (T_x (T_x ?_))
   obtain rfl := sI hF_8
   exact .inr ⟨rfl, (), (sI hn_1).symm, M_1, hM_1, f.kp, p_1⟩
 ·rintro _ _ w_7 (⟨rfl, y_1, rfl, M_2, hM_2, f, p_5⟩ | ⟨rfl, y_2, rfl, M_3, hM_3, f, p_6⟩)
  ·refine B_r (T_r (E_ret1 f rfl (by kernel_rfl : Vc.look _ 4 = some (.int .i64 y_1)) ?_))
   obtain rfl := sI hF_1
   exact ⟨_, rfl, M_2, hM_2, p_5, rfl⟩
  ·refine B_x (T_n (RR (Y f 1 fun _ f => eT (wp_ret (E_ret1 f rfl (by kernel_rfl : Vc.look _ 4 = some (.int .i64 (-1))) ?_)))))
   obtain rfl := sI hF_1
   exact ⟨_, rfl, M_3, hM_3, p_6, rfl⟩
def store_at (n : Nat) (d0 : TA0) (d1 : List UInt8) : Option Int :=
  (store_find_2 n d0.fL d1).bind fun x_1 =>
  some (x_1)
theorem store_at_ok (n : Nat) (M : Mem) (hG : GL M) (c0 : List Value) (d0 : TA0) (h0 : Rep M (emb_TA0 d0) c0) (d1 : List UInt8) (r : Int) (hF : store_at n d0 d1 = some r) : Ok Tryz.prog M 55 [.agg c0.toArray, S d1] (fun _ v => v = .int .i64 r) := by
 unfold store_at at hF
 intro M1 hM0 w0 H w p0
 replace hG := GL.mono hM0 hG
 replace h0 := Rep.mono hM0 _ _ h0
 obtain ⟨A_1, cap_1, rfl, h_1⟩ := TA0.opn h0
 refine R_enter 9 Tryz.func55 rfl rfl (by simp) fun a0 f0 => RR (Y13 (cs := #[.slice A_1 d0.fL.length cap_1, .int .i64 d0.fMade]) (T := 62) f0 p0 fun b_1 M_1 w_1 hM_1 hc_1 p_1 _ f => ?_)
 have hc_2 := fz_box hc_1
 refine Y13 (cs := #[S d1]) (T := 9) f p_1 fun b_2 M_2 w_2 hM_2 hc_3 p_2 _ f => ?_
 have hc_4 := fz_box hc_3
 refine Y f 1 fun _ f => eT (RR (Y f 1 fun _ f => Y15 f p_2 (fzu hM_2 hc_2) 0 rfl fun _ f => Y f 1 fun _ f => ?_))
 obtain ⟨x_1, hx_1, hF_1⟩ := bS hF
 refine Y18 f p_2 (store_find_2_ok n _ (GL.mono (hM_1.trans hM_2) hG) A_1 cap_1 d0.fL (h_1.mono (hM_1.trans hM_2)) (⟨b_2, 0, none⟩) [S d1] d1 (rfl) (fz_at (hc_4) 0 rfl) x_1 hx_1) fun w_3 p_3 _ f => Y f 1 fun _ f => eT (wp_ret (E_ret1 f rfl (by kernel_rfl : Vc.look _ 4 = some (.int .i64 x_1)) ?_))
 obtain rfl := sI hF_1
 exact ⟨_, rfl, M_2, (hM_1.trans hM_2), p_3, rfl⟩
def store_Create (n : Nat) (d0 : TA0) (d1 : List UInt8) (d2 : List TC0) : Option (TA0 × List UInt8 × Int) :=
  (store_Check n (⟨d0.fL, d0.fMade⟩ : TA0)).bind fun x_1 =>
  ((bif (decide (x_1 = 0)) then
      ((schema_Check n d1 d2).bind fun x_2 =>
      some (x_2))
    else
      some (x_1) : Option Int)).bind fun y_1 =>
  bif (!(decide (y_1 = 0))) then
    (some ((z_TA0, ([] : List UInt8), y_1)))
  else
    (store_known n d2).bind fun x_3 =>
    bif !x_3 then
      (some ((z_TA0, ([] : List UInt8), (91 : Int))))
    else
      bif (decide (d0.fMade = 1099511627776)) then
        (some ((z_TA0, ([] : List UInt8), (3 : Int))))
      else
        need (inR .i64 (d0.fMade + 1)) <|
        (store_Phys n (d0.fMade + 1)).bind fun x_4 =>
        need (0 ≤ ((d0.fL.length : Nat) : Int) ∧ ((d0.fL.length : Nat) : Int) ≤ (d0.fL.length : Int)) <|
        need (((d0.fL.take ((d0.fL.length : Nat) : Int).toNat).length + 1) * 56 ≤ 140737488355328) <|
        some (((⟨(d0.fL.take ((d0.fL.length : Nat) : Int).toNat) ++ [(⟨x_4.1, d1, d2⟩ : TE0)], d0.fMade + 1⟩ : TA0), x_4.1, (0 : Int)))
set_option maxRecDepth 20000 in
theorem store_Create_ok (n : Nat) (M : Mem) (hG : GL M) (c0 : List Value) (d0 : TA0) (h0 : Rep M (emb_TA0 d0) c0) (d1 : List UInt8) (A2 : Option Addr) (cap2 : Nat) (d2 : List TC0) (h2 : Sli M 8 emb_TC0 A2 cap2 d2) (r : TA0 × List UInt8 × Int) (hF : store_Create n d0 d1 d2 = some r) : Ok Tryz.prog M 47 [.agg c0.toArray, S d1, .slice A2 d2.length cap2] (fun M' v => ∃ (c0 : List Value), v = .tuple #[.agg c0.toArray, S r.2.1, .int .i64 r.2.2] ∧ Rep M' (emb_TA0 r.1) c0) := by
 unfold store_Create at hF
 intro M1 hM0 w0 H w p0
 replace hG := GL.mono hM0 hG
 replace h0 := Rep.mono hM0 _ _ h0
 replace h2 := h2.mono hM0
 obtain ⟨A_1, cap_1, rfl, h_1⟩ := TA0.opn h0
 refine R_enter 62 Tryz.func47 rfl rfl (by simp) fun a0 f0 => RR (Y12 f0 p0 (.cells #[.slice A_1 d0.fL.length cap_1, .int .i64 d0.fMade] 62 (0, 0)) fun b_1 w_1 p_1 _ f => Y12 f p_1 (.cells #[.slice none 0 0, .int .i64 0] 62 (0, 0)) fun b_2 w_2 p_2 _ f => Y f 2 fun _ f => eT (RR (Z (v := .agg #[.slice A_1 d0.fL.length cap_1, .int .i64 d0.fMade]) f (Y33 (cs := [.slice A_1 d0.fL.length cap_1, .int .i64 d0.fMade]) rfl (ad := ⟨b_1, 0, none⟩) (own_cells (p_2.ownCell 1 rfl) 0 rfl)) fun _ f => ?_)))
 obtain ⟨x_1, hx_1, hF_1⟩ := bS hF
 refine Y18 f p_2 (store_Check_ok n _ hG _ (⟨d0.fL, d0.fMade⟩ : TA0) (TA0.shut h_1) x_1 hx_1) fun w_3 p_3 _ f => Y f 1 fun _ f => eT (R_seq (RR (Y f 2 fun _ f => eT ?_)))
 obtain ⟨j_1, hj_1, hF_2⟩ := bS hF_1
 refine R_mid (fun a_11 w_5 => ∃ y_1 : Int, j_1 = y_1 ∧ ∃ M_1 : Mem, M1.le M_1 ∧ Frm 62 [(1, S d1), (2, .slice A2 d2.length cap2), (3, .pointer (some (⟨b_1, 0, none⟩))), (6, .pointer (some (⟨b_2, 0, none⟩))), (9, .int .i64 y_1)] a_11 ∧ Hp w0 M_1 ((Ent.obj b_2 (.cells #[.slice none 0 0, .int .i64 0] 62 (0, 0))) :: (Ent.obj b_1 (.cells #[.slice A_1 d0.fL.length cap_1, .int .i64 d0.fMade] 62 (0, 0))) :: H) w_5) ?_ ?_
 ·refine RcF f hj_1 (fun h_2 hF_3 => ?_) fun h_2 hF_5 => ?_
  ·have k_1 := dI.1 h_2
   refine R_reg (Y f 2 fun _ f => ?_)
   obtain ⟨x_2, hx_2, hF_4⟩ := bS hF_3
   refine Y18 f p_3 (schema_Check_ok n _ hG d1 A2 cap2 d2 h2 x_2 hx_2) fun w_4 p_4 _ f => Y f 1 fun _ f => eT ?_
   exact ⟨x_2, (sI hF_4).symm, M1, (mR _), f.kp, p_4⟩
  ·have k_2 := iff_f dI h_2
   refine wp_skip (T_n ?_)
   exact ⟨x_1, (sI hF_5).symm, M1, (mR _), f.kp, p_3⟩
 ·rintro a_11 w_5 ⟨y_1, hq_1, M_1, hM_1, f, p_5⟩
  subst j_1
  refine T_n (R_seq (wp_block (RR (Y f 3 fun _ f => eT (RcF f hF_2 (fun h_3 hF_6 => ?_) fun h_3 hF_7 => ?_)))))
  ·have k_3 : ¬ (y_1 = 0) := (not_iff dI).1 h_3
   refine RR (Y f 2 fun _ f => Y27 (vs := [.slice none 0 0, .int .i64 0]) (j := 0) f p_5 rfl rfl (by simp [Value.oneCell', S]) (by simp) (by decide) (cs' := #[.slice none 0 0, .int .i64 0]) (by kernel_rfl) fun w_6 p_6 _ f => Y f 2 fun _ f => eT (wp_ret (B_r (T_r (E_rv3 f rfl (Y10 (cs := [.slice none 0 0, .int .i64 0]) (ad := ⟨b_2, 0, none⟩) f (own_cells (p_6.ownCell 0 rfl) 0 rfl)) (Y11 (v := S []) f) (Y11 (v := .int .i64 y_1) f) ?_)))))
   obtain rfl := sI hF_6
   exact ⟨_, rfl, M_1, hM_1, (p_6.dropN 2), ⟨[.slice none 0 0, .int .i64 0], rfl, (TA0.shut Sli.nil)⟩⟩
  ·have k_4 : ¬ (¬ (y_1 = 0)) := iff_f (not_iff dI) h_3
   refine RR (Y f 1 fun _ f => ?_)
   obtain ⟨x_3, hx_3, hF_8⟩ := bS hF_7
   refine Y18 f p_5 (store_known_ok n _ (GL.mono hM_1 hG) A2 cap2 d2 (h2.mono hM_1) x_3 hx_3) fun w_7 p_7 _ f => Y f 2 fun _ f => eT (RcF f hF_8 (fun h_4 hF_9 => ?_) fun h_4 hF_10 => ?_)
   ·have k_5 : (x_3) = false := by simpa using h_4
    refine RR (Y f 1 fun _ f => Y27 (vs := [.slice none 0 0, .int .i64 0]) (j := 0) f p_7 rfl rfl (by simp [Value.oneCell', S]) (by simp) (by decide) (cs' := #[.slice none 0 0, .int .i64 0]) (by kernel_rfl) fun w_8 p_8 _ f => Y f 2 fun _ f => eT (wp_ret (B_r (T_r (E_rv3 f rfl (Y10 (cs := [.slice none 0 0, .int .i64 0]) (ad := ⟨b_2, 0, none⟩) f (own_cells (p_8.ownCell 0 rfl) 0 rfl)) (Y11 (v := S []) f) (Y11 (v := .int .i64 91) f) ?_)))))
    obtain rfl := sI hF_9
    exact ⟨_, rfl, M_1, hM_1, (p_8.dropN 2), ⟨[.slice none 0 0, .int .i64 0], rfl, (TA0.shut Sli.nil)⟩⟩
   ·have k_6 : (x_3) = true := by simpa using h_4
    refine RR (Y f 1 fun _ f => Z f (Y32 (v := .int .i64 d0.fMade) rfl (ad := ⟨b_1, 1, none⟩) (p_7.ownCell 1 rfl 1)) fun _ f => Y f 2 fun _ f => eT (RcF f hF_10 (fun h_5 hF_11 => ?_) fun h_5 hF_12 => ?_))
    ·have k_7 := dI.1 h_5
     refine RR (Y f 1 fun _ f => Y27 (vs := [.slice none 0 0, .int .i64 0]) (j := 0) f p_7 rfl rfl (by simp [Value.oneCell', S]) (by simp) (by decide) (cs' := #[.slice none 0 0, .int .i64 0]) (by kernel_rfl) fun w_9 p_9 _ f => Y f 2 fun _ f => eT (wp_ret (B_r (T_r (E_rv3 f rfl (Y10 (cs := [.slice none 0 0, .int .i64 0]) (ad := ⟨b_2, 0, none⟩) f (own_cells (p_9.ownCell 0 rfl) 0 rfl)) (Y11 (v := S []) f) (Y11 (v := .int .i64 3) f) ?_)))))
     obtain rfl := sI hF_11
     exact ⟨_, rfl, M_1, hM_1, (p_9.dropN 2), ⟨[.slice none 0 0, .int .i64 0], rfl, (TA0.shut Sli.nil)⟩⟩
    ·have k_8 := iff_f dI h_5
     refine wp_skip (B_n (T_n (RR (Y f 1 fun _ f => Z f (Y32 (v := .slice A_1 d0.fL.length cap_1) rfl (ad := ⟨b_1, 0, none⟩) (p_7.ownCell 1 rfl 0)) fun _ f => Y f 2 fun _ f => eT (RR (Y f 1 fun _ f => Z f (Y32 (v := .int .i64 d0.fMade) rfl (ad := ⟨b_1, 1, none⟩) (p_7.ownCell 1 rfl 1)) fun _ f => ?_))))))
     obtain ⟨g_1, hF_13⟩ := nS hF_12
     refine Y f 1 fun _ f => ?_
     have f := f.st 40 (congrArg (Value.int .i64) (inR_wrap g_1))
     refine Y f 1 fun _ f => Y26 f p_7 1 rfl rfl (b := b_1) (j := 1) (v := .int .i64 (d0.fMade + 1)) rfl (by exact rfl) (by simp) (by simp) ((Ent.obj b_2 (.cells #[.slice none 0 0, .int .i64 0] 62 (0, 0))) :: (Ent.obj b_1 (.cells #[.slice A_1 d0.fL.length cap_1, .int .i64 (d0.fMade + 1)] 62 (0, 0))) :: H) rfl fun w_10 p_10 _ f => eT (RR (Y f 1 fun _ f => Z f (Y32 (v := .int .i64 (d0.fMade + 1)) rfl (ad := ⟨b_1, 1, none⟩) (p_10.ownCell 1 rfl 1)) fun _ f => ?_))
     obtain ⟨x_4, hx_4, hF_14⟩ := bS hF_13
     refine Y18 f p_10 (store_Phys_ok n _ (GL.mono hM_1 hG) (d0.fMade + 1) x_4 hx_4) fun w_11 p_11 _ f => Y f 5 fun _ f => eT (RR (Y f 1 fun _ f => Z f (Y32 (v := .slice A_1 d0.fL.length cap_1) rfl (ad := ⟨b_1, 0, none⟩) (p_11.ownCell 1 rfl 0)) fun _ f => Y f 2 fun _ f => ?_))
     obtain ⟨g_2, hF_15⟩ := nS hF_14
     have h_6 : Sli M_1 3 emb_TE0 (cutA A_1 3 0 ((d0.fL.length : Nat) : Int).toNat) (d0.fL.take ((d0.fL.length : Nat) : Int).toNat).length (d0.fL.take ((d0.fL.length : Nat) : Int).toNat) := Sli.full (cap := cap_1) (h_1.mono hM_1) (by omega)
     have hl_1 := Sli.len (cap := cap_1) (h_1.mono hM_1)
     have he_1 : ((d0.fL.length : Nat) : Int).toNat = (d0.fL.take ((d0.fL.length : Nat) : Int).toNat).length := by rw [List.length_take]; omega
     refine Z (v := .slice (cutA A_1 3 0 ((d0.fL.length : Nat) : Int).toNat) ((d0.fL.length : Nat) : Int).toNat ((d0.fL.length : Nat) : Int).toNat) f (Y35 rfl (A := A_1) (len := d0.fL.length) (cap := cap_1) (k := .i64) (k' := .i64) (b := ((d0.fL.length : Nat) : Int)) (e := 50) (sz := 3) g_2.1 (by omega)) fun _ f => ?_
     have f := Frm.set f 52 (v := .slice (cutA A_1 3 0 ((d0.fL.length : Nat) : Int).toNat) ((d0.fL.length : Nat) : Int).toNat ((d0.fL.length : Nat) : Int).toNat) (v' := .slice (cutA A_1 3 0 ((d0.fL.length : Nat) : Int).toNat) (d0.fL.take ((d0.fL.length : Nat) : Int).toNat).length (d0.fL.take ((d0.fL.length : Nat) : Int).toNat).length) (by kernel_rfl) (by rw [← he_1])
     refine Y f 4 fun _ f => V_allocS (k := 1) (c := 1) f p_11 (.cells #[S x_4.1, S d1, .slice A2 d2.length cap2] 50 (0, 0)) (by kernel_rfl) (fun _ => by kernel_rfl) fun b_3 w_12 p_12 _ f => ?_
     obtain ⟨g_3, hF_16⟩ := nS hF_15
     refine Y20 (e := 50) (bytes := 56) (z := .agg #[S [], S [], .slice none 0 0]) (f := emb_TE0) (xs := d0.fL.take ((d0.fL.length : Nat) : Int).toNat) (ys := [(⟨x_4.1, d1, d2⟩ : TE0)]) (news := [S x_4.1, S d1, .slice A2 d2.length cap2]) (ad := ⟨b_3, 0, none⟩) (m := 1) (c := 1) f p_12 (by decide) (by decide) h_6 (by exact ⟨_, _, rfl, TE0.shut (h2.mono hM_1), rfl⟩) rfl rfl rfl rfl (own_cells (p_12.ownCell 0 rfl) 0 rfl) g_3 (by have hg_ := g_3; omega) fun A_2 cap_2 cs_1 w_13 p_13 hr_1 _ f => ?_
     have p_14 := p_13.pl [1]
     have p_15 := p_14.drop
     refine Y f 1 fun _ f => Y26 f p_15 2 rfl rfl (b := b_1) (j := 0) (v := .slice A_2 ((d0.fL.take ((d0.fL.length : Nat) : Int).toNat) ++ [(⟨x_4.1, d1, d2⟩ : TE0)]).length cap_2) rfl (by exact rfl) (by simp) (by simp) ((Ent.row 50 3 (.slice A_2 ((d0.fL.take ((d0.fL.length : Nat) : Int).toNat) ++ [(⟨x_4.1, d1, d2⟩ : TE0)]).length cap_2) ((d0.fL.take ((d0.fL.length : Nat) : Int).toNat) ++ [(⟨x_4.1, d1, d2⟩ : TE0)]).length cs_1) :: (Ent.obj b_2 (.cells #[.slice none 0 0, .int .i64 0] 62 (0, 0))) :: (Ent.obj b_1 (.cells #[.slice A_2 ((d0.fL.take ((d0.fL.length : Nat) : Int).toNat) ++ [(⟨x_4.1, d1, d2⟩ : TE0)]).length cap_2, .int .i64 (d0.fMade + 1)] 62 (0, 0))) :: H) rfl fun w_14 p_16 _ f => eT (RR (Z (v := .agg #[.slice A_2 ((d0.fL.take ((d0.fL.length : Nat) : Int).toNat) ++ [(⟨x_4.1, d1, d2⟩ : TE0)]).length cap_2, .int .i64 (d0.fMade + 1)]) f (Y33 (cs := [.slice A_2 ((d0.fL.take ((d0.fL.length : Nat) : Int).toNat) ++ [(⟨x_4.1, d1, d2⟩ : TE0)]).length cap_2, .int .i64 (d0.fMade + 1)]) rfl (ad := ⟨b_1, 0, none⟩) (own_cells (p_16.ownCell 2 rfl) 0 rfl)) fun _ f => Y f 1 fun _ f => ?_))
     obtain ⟨A_3, cap_3, M_2, hv_1, hM_2, p_17, h_7⟩ := p_16.rowSli (f := emb_TE0) (xs := (d0.fL.take ((d0.fL.length : Nat) : Int).toNat) ++ [(⟨x_4.1, d1, d2⟩ : TE0)]) szd_TE0 hr_1
     have f := Frm.set f 60 (v := .agg #[.slice A_2 ((d0.fL.take ((d0.fL.length : Nat) : Int).toNat) ++ [(⟨x_4.1, d1, d2⟩ : TE0)]).length cap_2, .int .i64 (d0.fMade + 1)]) (v' := .agg #[.slice A_3 ((d0.fL.take ((d0.fL.length : Nat) : Int).toNat) ++ [(⟨x_4.1, d1, d2⟩ : TE0)]).length cap_3, .int .i64 (d0.fMade + 1)]) (by kernel_rfl) (by rw [hv_1])
     have p_18 : Hp w0 M_2 ((Ent.obj b_2 (.cells #[.slice none 0 0, .int .i64 0] 62 (0, 0))) :: (Ent.obj b_1 (.cells #[.slice A_3 ((d0.fL.take ((d0.fL.length : Nat) : Int).toNat) ++ [(⟨x_4.1, d1, d2⟩ : TE0)]).length cap_3, .int .i64 (d0.fMade + 1)] 62 (0, 0))) :: H) w_14 := by rw [hv_1] at p_17; exact p_17
     refine Y27 (vs := [.slice A_3 ((d0.fL.take ((d0.fL.length : Nat) : Int).toNat) ++ [(⟨x_4.1, d1, d2⟩ : TE0)]).length cap_3, .int .i64 (d0.fMade + 1)]) (j := 0) f p_18 rfl rfl (by simp [Value.oneCell', S]) (by simp) (by decide) (cs' := #[.slice A_3 ((d0.fL.take ((d0.fL.length : Nat) : Int).toNat) ++ [(⟨x_4.1, d1, d2⟩ : TE0)]).length cap_3, .int .i64 (d0.fMade + 1)]) (by kernel_rfl) fun w_15 p_19 _ f => Y f 2 fun _ f => eT (wp_ret (E_rv3 f rfl (Y10 (cs := [.slice A_3 ((d0.fL.take ((d0.fL.length : Nat) : Int).toNat) ++ [(⟨x_4.1, d1, d2⟩ : TE0)]).length cap_3, .int .i64 (d0.fMade + 1)]) (ad := ⟨b_2, 0, none⟩) f (own_cells (p_19.ownCell 0 rfl) 0 rfl)) (Y11 (v := S x_4.1) f) (Y11 (v := .int .i64 0) f) ?_))
     obtain rfl := sI hF_16
     exact ⟨_, rfl, M_2, (hM_1.trans hM_2), (p_19.dropN 2), ⟨[.slice A_3 ((d0.fL.take ((d0.fL.length : Nat) : Int).toNat) ++ [(⟨x_4.1, d1, d2⟩ : TE0)]).length cap_3, .int .i64 (d0.fMade + 1)], rfl, (TA0.shut h_7)⟩⟩
def store_Update (n : Nat) (d0 : TA0) (d1 : List UInt8) (d2 : List TC0) : Option (TA0 × Int) :=
  (store_Check n (⟨d0.fL, d0.fMade⟩ : TA0)).bind fun x_1 =>
  bif (!(decide (x_1 = 0))) then
    (some ((z_TA0, (2 : Int))))
  else
    (store_at n (⟨d0.fL, d0.fMade⟩ : TA0) d1).bind fun x_2 =>
    bif (decide (x_2 < 0)) then
      (some ((z_TA0, (4 : Int))))
    else
      (getI d0.fL x_2).bind fun x_3 =>
      (schema_Check n x_3.fType d2).bind fun x_4 =>
      bif (!(decide (x_4 = 0))) then
        (some ((z_TA0, x_4)))
      else
        (schema_Differ n x_3.fType x_3.fProps d2).bind fun x_5 =>
        (((store_known n d2).bind fun x_6 =>
          bif !x_6 then
            (some ((true)))
          else
            bif (!(decide (x_5.2 = 0))) then
              (some ((true)))
            else
              some ((decide (x_5.1 = 3))) : Option Bool)).bind fun y_1 =>
        bif y_1 then
          (some ((z_TA0, (91 : Int))))
        else
          ((need (0 ≤ x_2 ∧ x_2 ≤ (d0.fL.length : Int)) <|
            need (inR .i64 (x_2 + 1)) <|
            need (0 ≤ (x_2 + 1) ∧ (x_2 + 1) ≤ (d0.fL.length : Int)) <|
            need (((d0.fL.take x_2.toNat).length + 1) * 56 ≤ 140737488355328) <|
            need ((((d0.fL.take x_2.toNat) ++ [(⟨x_3.fPhys, x_3.fType, d2⟩ : TE0)]).length + (d0.fL.drop (x_2 + 1).toNat).length) * 56 ≤ 140737488355328) <|
            some (((d0.fL.take x_2.toNat) ++ [(⟨x_3.fPhys, x_3.fType, d2⟩ : TE0)]) ++ (d0.fL.drop (x_2 + 1).toNat)) : Option (List TE0))).bind fun y_2 =>
          some (((⟨y_2, d0.fMade⟩ : TA0), (0 : Int)))
set_option maxRecDepth 20000 in
theorem store_Update_ok (n : Nat) (M : Mem) (hG : GL M) (c0 : List Value) (d0 : TA0) (h0 : Rep M (emb_TA0 d0) c0) (d1 : List UInt8) (A2 : Option Addr) (cap2 : Nat) (d2 : List TC0) (h2 : Sli M 8 emb_TC0 A2 cap2 d2) (r : TA0 × Int) (hF : store_Update n d0 d1 d2 = some r) : Ok Tryz.prog M 48 [.agg c0.toArray, S d1, .slice A2 d2.length cap2] (fun M' v => ∃ (c0 : List Value), v = .tuple #[.agg c0.toArray, .int .i64 r.2] ∧ Rep M' (emb_TA0 r.1) c0) := by
 unfold store_Update at hF
 intro M1 hM0 w0 H w p0
 replace hG := GL.mono hM0 hG
 replace h0 := Rep.mono hM0 _ _ h0
 replace h2 := h2.mono hM0
 obtain ⟨A_1, cap_1, rfl, h_1⟩ := TA0.opn h0
 refine R_enter 75 Tryz.func48 rfl rfl (by simp) fun a0 f0 => RR (Y12 f0 p0 (.cells #[.slice A_1 d0.fL.length cap_1, .int .i64 d0.fMade] 62 (0, 0)) fun b_1 w_1 p_1 _ f => Y12 f p_1 (.cells #[.slice none 0 0, .int .i64 0] 62 (0, 0)) fun b_2 w_2 p_2 _ f => Y f 1 fun _ f => eT (R_seq (RR (Z (v := .agg #[.slice A_1 d0.fL.length cap_1, .int .i64 d0.fMade]) f (Y33 (cs := [.slice A_1 d0.fL.length cap_1, .int .i64 d0.fMade]) rfl (ad := ⟨b_1, 0, none⟩) (own_cells (p_2.ownCell 1 rfl) 0 rfl)) fun _ f => ?_))))
 obtain ⟨x_1, hx_1, hF_1⟩ := bS hF
 refine Y18 f p_2 (store_Check_ok n _ hG _ (⟨d0.fL, d0.fMade⟩ : TA0) (TA0.shut h_1) x_1 hx_1) fun w_3 p_3 _ f => Y f 1 fun _ f => eT (RcF f hF_1 (fun h_2 hF_2 => ?_) fun h_2 hF_3 => ?_)
 ·have k_1 : ¬ (x_1 = 0) := (not_iff dI).1 h_2
  refine RR (Y f 1 fun _ f => Y27 (vs := [.slice none 0 0, .int .i64 0]) (j := 0) f p_3 rfl rfl (by simp [Value.oneCell', S]) (by simp) (by decide) (cs' := #[.slice none 0 0, .int .i64 0]) (by kernel_rfl) fun w_4 p_4 _ f => Y f 1 fun _ f => eT (wp_ret (T_r (E_rv2 f rfl (Y10 (cs := [.slice none 0 0, .int .i64 0]) (ad := ⟨b_2, 0, none⟩) f (own_cells (p_4.ownCell 0 rfl) 0 rfl)) (Y11 (v := .int .i64 2) f) ?_))))
  obtain rfl := sI hF_2
  exact ⟨_, rfl, M1, (mR _), (p_4.dropN 2), ⟨[.slice none 0 0, .int .i64 0], rfl, (TA0.shut Sli.nil)⟩⟩
 ·have k_2 : ¬ (¬ (x_1 = 0)) := iff_f (not_iff dI) h_2
  refine wp_skip (T_n (RR (Z (v := .agg #[.slice A_1 d0.fL.length cap_1, .int .i64 d0.fMade]) f (Y33 (cs := [.slice A_1 d0.fL.length cap_1, .int .i64 d0.fMade]) rfl (ad := ⟨b_1, 0, none⟩) (own_cells (p_3.ownCell 1 rfl) 0 rfl)) fun _ f => Y f 1 fun _ f => ?_)))
  obtain ⟨x_2, hx_2, hF_4⟩ := bS hF_3
  refine Y18 f p_3 (store_at_ok n _ hG _ (⟨d0.fL, d0.fMade⟩ : TA0) (TA0.shut h_1) d1 x_2 hx_2) fun w_5 p_5 _ f => Y f 1 fun _ f => eT (R_seq (RR (Y f 2 fun _ f => eT (RcF f hF_4 (fun h_3 hF_5 => ?_) fun h_3 hF_6 => ?_))))
  ·have k_3 := dI.1 h_3
   refine RR (Y f 1 fun _ f => Y27 (vs := [.slice none 0 0, .int .i64 0]) (j := 0) f p_5 rfl rfl (by simp [Value.oneCell', S]) (by simp) (by decide) (cs' := #[.slice none 0 0, .int .i64 0]) (by kernel_rfl) fun w_6 p_6 _ f => Y f 1 fun _ f => eT (wp_ret (T_r (E_rv2 f rfl (Y10 (cs := [.slice none 0 0, .int .i64 0]) (ad := ⟨b_2, 0, none⟩) f (own_cells (p_6.ownCell 0 rfl) 0 rfl)) (Y11 (v := .int .i64 4) f) ?_))))
   obtain rfl := sI hF_5
   exact ⟨_, rfl, M1, (mR _), (p_6.dropN 2), ⟨[.slice none 0 0, .int .i64 0], rfl, (TA0.shut Sli.nil)⟩⟩
  ·have k_4 := iff_f dI h_3
   refine wp_skip (T_n (RR (Y f 1 fun _ f => Z f (Y32 (v := .slice A_1 d0.fL.length cap_1) rfl (ad := ⟨b_1, 0, none⟩) (p_5.ownCell 1 rfl 0)) fun _ f => Y f 1 fun _ f => ?_)))
   obtain ⟨x_3, hx_3, hF_7⟩ := bS hF_6
   obtain ⟨ad_1, c_1, e_1, -, hr_1, hc_1⟩ := Sli.at_ h_1 hx_3
   obtain ⟨A_2, cap_2, rfl, h_4⟩ := TE0.opn hr_1
   refine Z f (Y31 e_1 rfl (len := d0.fL.length) (cap := cap_1) (k := .i64) (i := x_2) (e := 50) (sz := 3) (getI_nn hx_3) (getI_lt hx_3)) fun _ f => Z (v := .agg #[S x_3.fPhys, S x_3.fType, .slice A_2 x_3.fProps.length cap_2]) f (Y33 (cs := [S x_3.fPhys, S x_3.fType, .slice A_2 x_3.fProps.length cap_2]) rfl (ad := ad_1.add (x_2.toNat * 3)) (fun j v h => p_5.cell (hc_1 j v h))) fun _ f => Y12 f p_5 (.cells #[S [], S [], .slice none 0 0] 50 (0, 0)) fun b_3 w_7 p_7 _ f => Y27 (vs := [S x_3.fPhys, S x_3.fType, .slice A_2 x_3.fProps.length cap_2]) (j := 0) f p_7 rfl rfl (by simp [Value.oneCell', S]) (by simp) (by decide) (cs' := #[S x_3.fPhys, S x_3.fType, .slice A_2 x_3.fProps.length cap_2]) (by kernel_rfl) fun w_8 p_8 _ f => eT (R_seq (RR (Y f 1 fun _ f => Z f (Y32 (v := S x_3.fType) rfl (ad := ⟨b_3, 1, none⟩) (p_8.ownCell 0 rfl 1)) fun _ f => Y f 1 fun _ f => ?_)))
   obtain ⟨x_4, hx_4, hF_8⟩ := bS hF_7
   refine Y18 f p_8 (schema_Check_ok n _ hG x_3.fType A2 cap2 d2 h2 x_4 hx_4) fun w_9 p_9 _ f => Y f 1 fun _ f => eT (RR (Y f 2 fun _ f => eT (RcF f hF_8 (fun h_5 hF_9 => ?_) fun h_5 hF_10 => ?_)))
   ·have k_5 : ¬ (x_4 = 0) := (not_iff dI).1 h_5
    refine RR (Y f 2 fun _ f => ?_)
    have p_10 := p_9.pl [1]
    refine Y27 (vs := [.slice none 0 0, .int .i64 0]) (j := 0) f p_10 rfl rfl (by simp [Value.oneCell', S]) (by simp) (by decide) (cs' := #[.slice none 0 0, .int .i64 0]) (by kernel_rfl) fun w_10 p_11 _ f => Y f 1 fun _ f => eT (wp_ret (T_r (E_rv2 f rfl (Y10 (cs := [.slice none 0 0, .int .i64 0]) (ad := ⟨b_2, 0, none⟩) f (own_cells (p_11.ownCell 0 rfl) 0 rfl)) (Y11 (v := .int .i64 x_4) f) ?_)))
    obtain rfl := sI hF_9
    exact ⟨_, rfl, M1, (mR _), (p_11.dropN 3), ⟨[.slice none 0 0, .int .i64 0], rfl, (TA0.shut Sli.nil)⟩⟩
   ·have k_6 : ¬ (¬ (x_4 = 0)) := iff_f (not_iff dI) h_5
    refine wp_skip (T_n (RR (Y f 1 fun _ f => Z f (Y32 (v := S x_3.fType) rfl (ad := ⟨b_3, 1, none⟩) (p_9.ownCell 0 rfl 1)) fun _ f => Y f 1 fun _ f => Z f (Y32 (v := .slice A_2 x_3.fProps.length cap_2) rfl (ad := ⟨b_3, 2, none⟩) (p_9.ownCell 0 rfl 2)) fun _ f => Y f 1 fun _ f => ?_)))
    obtain ⟨x_5, hx_5, hF_11⟩ := bS hF_10
    refine Y18 f p_9 (schema_Differ_ok n _ hG x_3.fType A_2 cap_2 x_3.fProps h_4 A2 cap2 d2 h2 x_5 hx_5) fun w_11 p_12 _ f => Y f 5 fun _ f => eT (R_seq (R_seq ?_))
    obtain ⟨j_1, hj_1, hF_12⟩ := bS hF_11
    refine R_mid (fun a_48 w_13 => ∃ y_1 : Bool, j_1 = y_1 ∧ ∃ M_1 : Mem, M1.le M_1 ∧ Frm 75 [(2, .slice A2 d2.length cap2), (3, .pointer (some (⟨b_1, 0, none⟩))), (6, .pointer (some (⟨b_2, 0, none⟩))), (8, .int .i64 x_2), (9, .pointer (some (⟨b_3, 0, none⟩))), (55, .bool y_1)] a_48 ∧ Hp w0 M_1 ((Ent.obj b_3 (.cells #[S x_3.fPhys, S x_3.fType, .slice A_2 x_3.fProps.length cap_2] 50 (0, 0))) :: (Ent.obj b_2 (.cells #[.slice none 0 0, .int .i64 0] 62 (0, 0))) :: (Ent.obj b_1 (.cells #[.slice A_1 d0.fL.length cap_1, .int .i64 d0.fMade] 62 (0, 0))) :: H) w_13) ?_ ?_
    ·refine R_reg (Y f 1 fun _ f => ?_)
     obtain ⟨x_6, hx_6, hF_13⟩ := bS hj_1
     refine Y18 f p_12 (store_known_ok n _ hG A2 cap2 d2 h2 x_6 hx_6) fun w_12 p_13 _ f => Y f 2 fun _ f => ?_
     rcases cE hF_13 with ⟨h_6, hF_14⟩ | ⟨h_6, hF_15⟩
     ·have k_7 : (x_6) = false := by simpa using h_6
      have f := f.st 48 (cB h_6)
      refine Y f 7 fun _ f => eT ?_
      exact ⟨(true), (sI hF_14).symm, M1, (mR _), f.kp, p_13⟩
     ·have k_8 : (x_6) = true := by simpa using h_6
      have f := f.st 48 (cB h_6)
      refine Y f 4 fun _ f => ?_
      rcases cE hF_15 with ⟨h_7, hF_16⟩ | ⟨h_7, hF_17⟩
      ·have k_9 : ¬ (x_5.2 = 0) := (not_iff dI).1 h_7
       have f := f.st 52 (cB h_7)
       refine Y f 3 fun _ f => eT ?_
       exact ⟨(true), (sI hF_16).symm, M1, (mR _), f.kp, p_13⟩
      ·have k_10 : ¬ (¬ (x_5.2 = 0)) := iff_f (not_iff dI) h_7
       have f := f.st 52 (cB h_7)
       refine Y f 3 fun _ f => eT ?_
       exact ⟨(decide (x_5.1 = 3)), (sI hF_17).symm, M1, (mR _), f.kp, p_13⟩
    ·rintro a_48 w_13 ⟨y_1, hq_1, M_1, hM_1, f, p_14⟩
     subst j_1
     refine T_n (RcF f hF_12 (fun h_8 hF_18 => ?_) fun h_8 hF_19 => ?_)
     ·refine RR (Y f 1 fun _ f => ?_)
      have p_15 := p_14.pl [1]
      refine Y27 (vs := [.slice none 0 0, .int .i64 0]) (j := 0) f p_15 rfl rfl (by simp [Value.oneCell', S]) (by simp) (by decide) (cs' := #[.slice none 0 0, .int .i64 0]) (by kernel_rfl) fun w_14 p_16 _ f => Y f 1 fun _ f => eT (wp_ret (T_r (E_rv2 f rfl (Y10 (cs := [.slice none 0 0, .int .i64 0]) (ad := ⟨b_2, 0, none⟩) f (own_cells (p_16.ownCell 0 rfl) 0 rfl)) (Y11 (v := .int .i64 91) f) ?_)))
      obtain rfl := sI hF_18
      exact ⟨_, rfl, M_1, hM_1, (p_16.dropN 3), ⟨[.slice none 0 0, .int .i64 0], rfl, (TA0.shut Sli.nil)⟩⟩
     ·refine wp_skip (T_n (RR (Y f 2 fun _ f => Y26 f p_14 0 rfl rfl (b := b_3) (j := 2) (v := .slice A2 d2.length cap2) rfl (by exact rfl) (by simp) (by simp) ((Ent.obj b_3 (.cells #[S x_3.fPhys, S x_3.fType, .slice A2 d2.length cap2] 50 (0, 0))) :: (Ent.obj b_2 (.cells #[.slice none 0 0, .int .i64 0] 62 (0, 0))) :: (Ent.obj b_1 (.cells #[.slice A_1 d0.fL.length cap_1, .int .i64 d0.fMade] 62 (0, 0))) :: H) rfl fun w_15 p_17 _ f => eT (R_seq ?_))))
      obtain ⟨j_2, hj_2, hF_20⟩ := bS hF_19
      refine R_mid (fun a_83 w_27 => ∃ y_2 : List TE0, j_2 = y_2 ∧ ∃ M_2 : Mem, M_1.le M_2 ∧ ∃ (A_7 : Option Addr), ∃ (cap_7 : Nat), ∃ (cs_5 : List Value), RepSeq M_2 (y_2.map emb_TE0) cs_5 ∧ Frm 75 [(3, .pointer (some (⟨b_1, 0, none⟩))), (6, .pointer (some (⟨b_2, 0, none⟩)))] a_83 ∧ Hp w0 M_2 ((Ent.row 50 3 (.slice A_7 y_2.length cap_7) y_2.length cs_5) :: (Ent.obj b_3 (.cells #[S x_3.fPhys, S x_3.fType, .slice A2 d2.length cap2] 50 (0, 0))) :: (Ent.obj b_2 (.cells #[.slice none 0 0, .int .i64 0] 62 (0, 0))) :: (Ent.obj b_1 (.cells #[.slice A_7 y_2.length cap_7, .int .i64 d0.fMade] 62 (0, 0))) :: H) w_27) ?_ ?_
      ·obtain ⟨g_1, hF_21⟩ := nS hj_2
       obtain ⟨g_2, hF_22⟩ := nS hF_21
       obtain ⟨g_3, hF_23⟩ := nS hF_22
       obtain ⟨g_4, hF_24⟩ := nS hF_23
       obtain ⟨g_5, hF_25⟩ := nS hF_24
       refine R_plan (ks := [14, 15]) (E := []) (Hr := ((Ent.obj b_3 (.cells #[S x_3.fPhys, S x_3.fType, .slice A2 d2.length cap2] 50 (0, 0))) :: (Ent.obj b_2 (.cells #[.slice none 0 0, .int .i64 0] 62 (0, 0))) :: (Ent.obj b_1 (.cells #[.slice A_1 d0.fL.length cap_1, .int .i64 d0.fMade] 62 (0, 0))) :: H)) (.quiet 0 (.quiet 1 (.quiet 2 (.quiet 3 (.quiet 4 (.quiet 5 (.quiet 8 (.quiet 9 (.quiet 10 (.quiet 11 (.quiet 12 (.alt 6 (.alt 7 (.alt 13 .done .none) .none) .none)))))))))))) p_17 (by kernel_rfl) (by kernel_rfl) (by kernel_rfl) (Y1 (v := .pointer (some (⟨b_1, 0, none⟩))) rfl f rfl rfl (fun _ _ => by kernel_rfl) fun _ f => Y1 (v := .slice A_1 d0.fL.length cap_1) rfl f rfl rfl (fun _ pq => Y32 (v := .slice A_1 d0.fL.length cap_1) rfl (ad := ⟨b_1, 0, none⟩) (pq.ownCell 2 rfl 0)) fun _ f => Y1 (v := .int .i64 x_2) rfl f rfl rfl (fun _ _ => by kernel_rfl) fun _ f => Y1 (v := .int .i64 x_2) rfl f rfl rfl (fun _ _ => by kernel_rfl) fun _ f => ?_)
       have h_11 : Sli M_1 3 emb_TE0 (cutA A_1 3 0 x_2.toNat) (d0.fL.take x_2.toNat).length (d0.fL.take x_2.toNat) := Sli.full (cap := cap_1) (h_1.mono hM_1) (by omega)
       have hl_3 := Sli.len (cap := cap_1) (h_1.mono hM_1)
       have he_2 : x_2.toNat = (d0.fL.take x_2.toNat).length := by rw [List.length_take]; omega
       refine Y1 (v := .slice (cutA A_1 3 0 x_2.toNat) x_2.toNat x_2.toNat) rfl f rfl rfl (fun _ pq => Y35 rfl (A := A_1) (len := d0.fL.length) (cap := cap_1) (k := .i64) (k' := .i64) (b := x_2) (e := 50) (sz := 3) g_1.1 (by omega)) fun _ f => ?_
       have f := Frm.set f 63 (v := .slice (cutA A_1 3 0 x_2.toNat) x_2.toNat x_2.toNat) (v' := .slice (cutA A_1 3 0 x_2.toNat) (d0.fL.take x_2.toNat).length (d0.fL.take x_2.toNat).length) (by kernel_rfl) (by rw [← he_2])
       refine Y1 (v := .agg #[S x_3.fPhys, S x_3.fType, .slice A2 d2.length cap2]) rfl f rfl rfl (fun _ pq => Y33 (cs := [S x_3.fPhys, S x_3.fType, .slice A2 d2.length cap2]) rfl (ad := ⟨b_3, 0, none⟩) (own_cells (pq.ownCell 0 rfl) 0 rfl)) fun _ f => Y1 (v := .pointer (some (⟨b_1, 0, none⟩))) rfl f rfl rfl (fun _ _ => by kernel_rfl) fun _ f => Y1 (v := .slice A_1 d0.fL.length cap_1) rfl f rfl rfl (fun _ pq => Y32 (v := .slice A_1 d0.fL.length cap_1) rfl (ad := ⟨b_1, 0, none⟩) (pq.ownCell 2 rfl 0)) fun _ f => Y1 (v := .int .i64 x_2) rfl f rfl rfl (fun _ _ => by kernel_rfl) fun _ f => Y1 (v := .int .i64 (IntKind.wrap .i64 (x_2 + 1))) rfl f rfl rfl (fun _ pq => by kernel_rfl) fun _ f => ?_
       have f := f.st 70 (congrArg (Value.int .i64) (inR_wrap g_2))
       have h_12 : Sli M_1 3 emb_TE0 (cutA A_1 3 (x_2 + 1).toNat cap_1) (cap_1 - (x_2 + 1).toNat) (d0.fL.drop (x_2 + 1).toNat) := Sli.cutFrom (h_1.mono hM_1) (by omega)
       refine Y1 (v := .slice (cutA A_1 3 (x_2 + 1).toNat cap_1) (d0.fL.length - (x_2 + 1).toNat) (cap_1 - (x_2 + 1).toNat)) rfl f rfl rfl (fun _ pq => Y36 rfl (A := A_1) (len := d0.fL.length) (cap := cap_1) (k := .i64) (a := x_2 + 1) (e := 50) (sz := 3) g_3.1 g_3.2) fun _ f => ?_
       have f := Frm.set f 71 (v := .slice (cutA A_1 3 (x_2 + 1).toNat cap_1) (d0.fL.length - (x_2 + 1).toNat) (cap_1 - (x_2 + 1).toNat)) (v' := .slice (cutA A_1 3 (x_2 + 1).toNat cap_1) (d0.fL.drop (x_2 + 1).toNat).length (cap_1 - (x_2 + 1).toNat)) (by kernel_rfl) (by rw [List.length_drop])
       refine N_alt rfl (fun w_19 p_23 => ?_) ?_
       ·refine V_allocS (k := 1) (c := 1) f p_23 (.cells #[S x_3.fPhys, S x_3.fType, .slice A2 d2.length cap2] 50 (0, 0)) (by kernel_rfl) (fun _ => by kernel_rfl) fun b_5 w_20 p_24 _ f => W_end rfl (N_goN 1 (mR _) p_24 rfl (N_alt rfl (fun w_21 p_25 => ?_) ?_))
        ·refine Y20 (e := 50) (bytes := 56) (z := .agg #[S [], S [], .slice none 0 0]) (f := emb_TE0) (xs := d0.fL.take x_2.toNat) (ys := [(⟨x_3.fPhys, x_3.fType, d2⟩ : TE0)]) (news := [S x_3.fPhys, S x_3.fType, .slice A2 d2.length cap2]) (ad := ⟨b_5, 0, none⟩) (m := 1) (c := 1) f p_25 (by decide) (by decide) h_11 (by exact ⟨_, _, rfl, TE0.shut (h2.mono hM_1), rfl⟩) rfl rfl rfl rfl (own_cells (p_25.ownCell 0 rfl) 0 rfl) g_4 (by have hg_ := g_4; omega) fun A_5 cap_5 cs_3 w_22 p_26 hr_4 _ f => ?_
         have p_27 := p_26.pl [1]
         have p_28 := p_27.drop
         refine W_end rfl (N_goN 1 (mR _) p_28 rfl (N_alt rfl (fun w_23 p_29 => ?_) ?_))
         ·refine Y23 (z := .agg #[S [], S [], .slice none 0 0]) (f := emb_TE0) (xs := (d0.fL.take x_2.toNat) ++ [(⟨x_3.fPhys, x_3.fType, d2⟩ : TE0)]) (ys := d0.fL.drop (x_2 + 1).toNat) (c := (cap_1 - (x_2 + 1).toNat)) f p_29 hr_4 h_12 rfl rfl rfl g_5 (by omega) fun A_6 cap_6 cs_4 w_24 p_30 hr_5 _ f => W_end rfl (N_goN 1 (mR _) p_30 rfl (N_tail fun w_25 p_31 => Y f 1 fun _ f => Y26 f p_31 3 rfl rfl (b := b_1) (j := 0) (v := .slice A_6 (((d0.fL.take x_2.toNat) ++ [(⟨x_3.fPhys, x_3.fType, d2⟩ : TE0)]) ++ (d0.fL.drop (x_2 + 1).toNat)).length cap_6) rfl (by exact rfl) (by simp) (by simp) ((Ent.row 50 3 (.slice A_6 (((d0.fL.take x_2.toNat) ++ [(⟨x_3.fPhys, x_3.fType, d2⟩ : TE0)]) ++ (d0.fL.drop (x_2 + 1).toNat)).length cap_6) (((d0.fL.take x_2.toNat) ++ [(⟨x_3.fPhys, x_3.fType, d2⟩ : TE0)]) ++ (d0.fL.drop (x_2 + 1).toNat)).length cs_4) :: (Ent.obj b_3 (.cells #[S x_3.fPhys, S x_3.fType, .slice A2 d2.length cap2] 50 (0, 0))) :: (Ent.obj b_2 (.cells #[.slice none 0 0, .int .i64 0] 62 (0, 0))) :: (Ent.obj b_1 (.cells #[.slice A_6 (((d0.fL.take x_2.toNat) ++ [(⟨x_3.fPhys, x_3.fType, d2⟩ : TE0)]) ++ (d0.fL.drop (x_2 + 1).toNat)).length cap_6, .int .i64 d0.fMade] 62 (0, 0))) :: H) rfl fun w_26 p_32 _ f => W_end rfl (N_te (T_n ?_))))
          exact ⟨((d0.fL.take x_2.toNat) ++ [(⟨x_3.fPhys, x_3.fType, d2⟩ : TE0)]) ++ (d0.fL.drop (x_2 + 1).toNat), (sI hF_25).symm, M_1, (mR _), A_6, cap_6, cs_4, hr_5, f.kp, p_32⟩
         exact N_none
        exact N_none
       exact N_none
      ·rintro a_83 w_27 ⟨y_2, hq_2, M_2, hM_2, A_7, cap_7, cs_5, hr_6, f, p_33⟩
       subst j_2
       refine T_n (RR (Z (v := .agg #[.slice A_7 y_2.length cap_7, .int .i64 d0.fMade]) f (Y33 (cs := [.slice A_7 y_2.length cap_7, .int .i64 d0.fMade]) rfl (ad := ⟨b_1, 0, none⟩) (own_cells (p_33.ownCell 3 rfl) 0 rfl)) fun _ f => ?_))
       obtain ⟨A_8, cap_8, M_3, hv_1, hM_3, p_34, h_13⟩ := p_33.rowSli (f := emb_TE0) (xs := y_2) szd_TE0 hr_6
       have f := Frm.set f 74 (v := .agg #[.slice A_7 y_2.length cap_7, .int .i64 d0.fMade]) (v' := .agg #[.slice A_8 y_2.length cap_8, .int .i64 d0.fMade]) (by kernel_rfl) (by rw [hv_1])
       have p_35 : Hp w0 M_3 ((Ent.obj b_3 (.cells #[S x_3.fPhys, S x_3.fType, .slice A2 d2.length cap2] 50 (0, 0))) :: (Ent.obj b_2 (.cells #[.slice none 0 0, .int .i64 0] 62 (0, 0))) :: (Ent.obj b_1 (.cells #[.slice A_8 y_2.length cap_8, .int .i64 d0.fMade] 62 (0, 0))) :: H) w_27 := by rw [hv_1] at p_34; exact p_34
       have p_36 := p_35.pl [1]
       refine Y27 (vs := [.slice A_8 y_2.length cap_8, .int .i64 d0.fMade]) (j := 0) f p_36 rfl rfl (by simp [Value.oneCell', S]) (by simp) (by decide) (cs' := #[.slice A_8 y_2.length cap_8, .int .i64 d0.fMade]) (by kernel_rfl) fun w_28 p_37 _ f => Y f 1 fun _ f => eT (wp_ret (E_rv2 f rfl (Y10 (cs := [.slice A_8 y_2.length cap_8, .int .i64 d0.fMade]) (ad := ⟨b_2, 0, none⟩) f (own_cells (p_37.ownCell 0 rfl) 0 rfl)) (Y11 (v := .int .i64 0) f) ?_))
       obtain rfl := sI hF_20
       exact ⟨_, rfl, M_3, ((hM_1.trans hM_2).trans hM_3), (p_37.dropN 3), ⟨[.slice A_8 y_2.length cap_8, .int .i64 d0.fMade], rfl, (TA0.shut h_13)⟩⟩
def store_Delete (n : Nat) (d0 : TA0) (d1 : List UInt8) : Option (TA0 × Int) :=
  (store_Check n (⟨d0.fL, d0.fMade⟩ : TA0)).bind fun x_1 =>
  bif (!(decide (x_1 = 0))) then
    (some ((z_TA0, (2 : Int))))
  else
    (store_at n (⟨d0.fL, d0.fMade⟩ : TA0) d1).bind fun x_2 =>
    bif (decide (x_2 < 0)) then
      (some ((z_TA0, (4 : Int))))
    else
      need (0 ≤ x_2 ∧ x_2 ≤ (d0.fL.length : Int)) <|
      need (inR .i64 (x_2 + 1)) <|
      need (0 ≤ (x_2 + 1) ∧ (x_2 + 1) ≤ (d0.fL.length : Int)) <|
      need (((d0.fL.take x_2.toNat).length + (d0.fL.drop (x_2 + 1).toNat).length) * 56 ≤ 140737488355328) <|
      some (((⟨(d0.fL.take x_2.toNat) ++ (d0.fL.drop (x_2 + 1).toNat), d0.fMade⟩ : TA0), (0 : Int)))
set_option maxRecDepth 20000 in
theorem store_Delete_ok (n : Nat) (M : Mem) (hG : GL M) (c0 : List Value) (d0 : TA0) (h0 : Rep M (emb_TA0 d0) c0) (d1 : List UInt8) (r : TA0 × Int) (hF : store_Delete n d0 d1 = some r) : Ok Tryz.prog M 49 [.agg c0.toArray, S d1] (fun M' v => ∃ (c0 : List Value), v = .tuple #[.agg c0.toArray, .int .i64 r.2] ∧ Rep M' (emb_TA0 r.1) c0) := by
 unfold store_Delete at hF
 intro M1 hM0 w0 H w p0
 replace hG := GL.mono hM0 hG
 replace h0 := Rep.mono hM0 _ _ h0
 obtain ⟨A_1, cap_1, rfl, h_1⟩ := TA0.opn h0
 refine R_enter 30 Tryz.func49 rfl rfl (by simp) fun a0 f0 => RR (Y12 f0 p0 (.cells #[.slice A_1 d0.fL.length cap_1, .int .i64 d0.fMade] 62 (0, 0)) fun b_1 w_1 p_1 _ f => Y12 f p_1 (.cells #[.slice none 0 0, .int .i64 0] 62 (0, 0)) fun b_2 w_2 p_2 _ f => Y f 1 fun _ f => eT (R_seq (RR (Z (v := .agg #[.slice A_1 d0.fL.length cap_1, .int .i64 d0.fMade]) f (Y33 (cs := [.slice A_1 d0.fL.length cap_1, .int .i64 d0.fMade]) rfl (ad := ⟨b_1, 0, none⟩) (own_cells (p_2.ownCell 1 rfl) 0 rfl)) fun _ f => ?_))))
 obtain ⟨x_1, hx_1, hF_1⟩ := bS hF
 refine Y18 f p_2 (store_Check_ok n _ hG _ (⟨d0.fL, d0.fMade⟩ : TA0) (TA0.shut h_1) x_1 hx_1) fun w_3 p_3 _ f => Y f 1 fun _ f => eT (RcF f hF_1 (fun h_2 hF_2 => ?_) fun h_2 hF_3 => ?_)
 ·have k_1 : ¬ (x_1 = 0) := (not_iff dI).1 h_2
  refine RR (Y f 1 fun _ f => Y27 (vs := [.slice none 0 0, .int .i64 0]) (j := 0) f p_3 rfl rfl (by simp [Value.oneCell', S]) (by simp) (by decide) (cs' := #[.slice none 0 0, .int .i64 0]) (by kernel_rfl) fun w_4 p_4 _ f => Y f 1 fun _ f => eT (wp_ret (T_r (E_rv2 f rfl (Y10 (cs := [.slice none 0 0, .int .i64 0]) (ad := ⟨b_2, 0, none⟩) f (own_cells (p_4.ownCell 0 rfl) 0 rfl)) (Y11 (v := .int .i64 2) f) ?_))))
  obtain rfl := sI hF_2
  exact ⟨_, rfl, M1, (mR _), (p_4.dropN 2), ⟨[.slice none 0 0, .int .i64 0], rfl, (TA0.shut Sli.nil)⟩⟩
 ·have k_2 : ¬ (¬ (x_1 = 0)) := iff_f (not_iff dI) h_2
  refine wp_skip (T_n (RR (Z (v := .agg #[.slice A_1 d0.fL.length cap_1, .int .i64 d0.fMade]) f (Y33 (cs := [.slice A_1 d0.fL.length cap_1, .int .i64 d0.fMade]) rfl (ad := ⟨b_1, 0, none⟩) (own_cells (p_3.ownCell 1 rfl) 0 rfl)) fun _ f => Y f 1 fun _ f => ?_)))
  obtain ⟨x_2, hx_2, hF_4⟩ := bS hF_3
  refine Y18 f p_3 (store_at_ok n _ hG _ (⟨d0.fL, d0.fMade⟩ : TA0) (TA0.shut h_1) d1 x_2 hx_2) fun w_5 p_5 _ f => Y f 1 fun _ f => eT (R_seq (RR (Y f 2 fun _ f => eT (RcF f hF_4 (fun h_3 hF_5 => ?_) fun h_3 hF_6 => ?_))))
  ·have k_3 := dI.1 h_3
   refine RR (Y f 1 fun _ f => Y27 (vs := [.slice none 0 0, .int .i64 0]) (j := 0) f p_5 rfl rfl (by simp [Value.oneCell', S]) (by simp) (by decide) (cs' := #[.slice none 0 0, .int .i64 0]) (by kernel_rfl) fun w_6 p_6 _ f => Y f 1 fun _ f => eT (wp_ret (T_r (E_rv2 f rfl (Y10 (cs := [.slice none 0 0, .int .i64 0]) (ad := ⟨b_2, 0, none⟩) f (own_cells (p_6.ownCell 0 rfl) 0 rfl)) (Y11 (v := .int .i64 4) f) ?_))))
   obtain rfl := sI hF_5
   exact ⟨_, rfl, M1, (mR _), (p_6.dropN 2), ⟨[.slice none 0 0, .int .i64 0], rfl, (TA0.shut Sli.nil)⟩⟩
  ·have k_4 := iff_f dI h_3
   refine wp_skip (T_n (R_seq (R_drawT 10 p_5 (by kernel_rfl) (by kernel_rfl) fun w_7 p_7 => ST_eq (v := .pointer (some (⟨b_1, 0, none⟩))) f (by kernel_rfl) (by kernel_rfl) rfl rfl (by kernel_rfl) fun _ f => ST_eq (v := .slice A_1 d0.fL.length cap_1) f (by kernel_rfl) (by kernel_rfl) rfl rfl (Y32 (v := .slice A_1 d0.fL.length cap_1) rfl (ad := ⟨b_1, 0, none⟩) (p_7.ownCell 1 rfl 0)) fun _ f => ST_eq (v := .int .i64 x_2) f (by kernel_rfl) (by kernel_rfl) rfl rfl (by kernel_rfl) fun _ f => ST_eq (v := .int .i64 x_2) f (by kernel_rfl) (by kernel_rfl) rfl rfl (by kernel_rfl) fun _ f => ?_)))
   obtain ⟨g_1, hF_7⟩ := nS hF_6
   have h_4 : Sli M1 3 emb_TE0 (cutA A_1 3 0 x_2.toNat) (d0.fL.take x_2.toNat).length (d0.fL.take x_2.toNat) := Sli.full (cap := cap_1) h_1 (by omega)
   have hl_1 := Sli.len (cap := cap_1) h_1
   have he_1 : x_2.toNat = (d0.fL.take x_2.toNat).length := by rw [List.length_take]; omega
   refine ST_eq (v := .slice (cutA A_1 3 0 x_2.toNat) x_2.toNat x_2.toNat) f (by kernel_rfl) (by kernel_rfl) rfl rfl (Y35 rfl (A := A_1) (len := d0.fL.length) (cap := cap_1) (k := .i64) (k' := .i64) (b := x_2) (e := 50) (sz := 3) g_1.1 (by omega)) fun _ f => ?_
   have f := Frm.set f 21 (v := .slice (cutA A_1 3 0 x_2.toNat) x_2.toNat x_2.toNat) (v' := .slice (cutA A_1 3 0 x_2.toNat) (d0.fL.take x_2.toNat).length (d0.fL.take x_2.toNat).length) (by kernel_rfl) (by rw [← he_1])
   refine ST_eq (v := .pointer (some (⟨b_1, 0, none⟩))) f (by kernel_rfl) (by kernel_rfl) rfl rfl (by kernel_rfl) fun _ f => ST_eq (v := .slice A_1 d0.fL.length cap_1) f (by kernel_rfl) (by kernel_rfl) rfl rfl (Y32 (v := .slice A_1 d0.fL.length cap_1) rfl (ad := ⟨b_1, 0, none⟩) (p_7.ownCell 1 rfl 0)) fun _ f => ST_eq (v := .int .i64 x_2) f (by kernel_rfl) (by kernel_rfl) rfl rfl (by kernel_rfl) fun _ f => ?_
   obtain ⟨g_2, hF_8⟩ := nS hF_7
   refine ST_eq (v := .int .i64 (IntKind.wrap .i64 (x_2 + 1))) f (by kernel_rfl) (by kernel_rfl) rfl rfl (by kernel_rfl) fun _ f => ?_
   have f := f.st 25 (congrArg (Value.int .i64) (inR_wrap g_2))
   obtain ⟨g_3, hF_9⟩ := nS hF_8
   have h_5 : Sli M1 3 emb_TE0 (cutA A_1 3 (x_2 + 1).toNat cap_1) (cap_1 - (x_2 + 1).toNat) (d0.fL.drop (x_2 + 1).toNat) := Sli.cutFrom h_1 (by omega)
   refine ST_eq (v := .slice (cutA A_1 3 (x_2 + 1).toNat cap_1) (d0.fL.length - (x_2 + 1).toNat) (cap_1 - (x_2 + 1).toNat)) f (by kernel_rfl) (by kernel_rfl) rfl rfl (Y36 rfl (A := A_1) (len := d0.fL.length) (cap := cap_1) (k := .i64) (a := x_2 + 1) (e := 50) (sz := 3) g_3.1 g_3.2) fun _ f => ?_
   have f := Frm.set f 26 (v := .slice (cutA A_1 3 (x_2 + 1).toNat cap_1) (d0.fL.length - (x_2 + 1).toNat) (cap_1 - (x_2 + 1).toNat)) (v' := .slice (cutA A_1 3 (x_2 + 1).toNat cap_1) (d0.fL.drop (x_2 + 1).toNat).length (cap_1 - (x_2 + 1).toNat)) (by kernel_rfl) (by rw [List.length_drop])
   refine ST_end rfl ?_
   obtain ⟨g_4, hF_10⟩ := nS hF_9
   refine Y21 (e := 50) (bytes := 56) (z := .agg #[S [], S [], .slice none 0 0]) (f := emb_TE0) (xs := d0.fL.take x_2.toNat) (ys := d0.fL.drop (x_2 + 1).toNat) (c := (cap_1 - (x_2 + 1).toNat)) f p_7 (by decide) szd_TE0 h_4 h_5 rfl rfl rfl g_4 (by omega) fun A_2 cap_2 M_1 w_8 hM_1 p_8 h_6 _ f => Y f 1 fun _ f => Y26 f p_8 1 rfl rfl (b := b_1) (j := 0) (v := .slice A_2 ((d0.fL.take x_2.toNat) ++ (d0.fL.drop (x_2 + 1).toNat)).length cap_2) rfl (by exact rfl) (by simp) (by simp) ((Ent.obj b_2 (.cells #[.slice none 0 0, .int .i64 0] 62 (0, 0))) :: (Ent.obj b_1 (.cells #[.slice A_2 ((d0.fL.take x_2.toNat) ++ (d0.fL.drop (x_2 + 1).toNat)).length cap_2, .int .i64 d0.fMade] 62 (0, 0))) :: H) rfl fun w_9 p_9 _ f => eT (RR (Z (v := .agg #[.slice A_2 ((d0.fL.take x_2.toNat) ++ (d0.fL.drop (x_2 + 1).toNat)).length cap_2, .int .i64 d0.fMade]) f (Y33 (cs := [.slice A_2 ((d0.fL.take x_2.toNat) ++ (d0.fL.drop (x_2 + 1).toNat)).length cap_2, .int .i64 d0.fMade]) rfl (ad := ⟨b_1, 0, none⟩) (own_cells (p_9.ownCell 1 rfl) 0 rfl)) fun _ f => Y27 (vs := [.slice A_2 ((d0.fL.take x_2.toNat) ++ (d0.fL.drop (x_2 + 1).toNat)).length cap_2, .int .i64 d0.fMade]) (j := 0) f p_9 rfl rfl (by simp [Value.oneCell', S]) (by simp) (by decide) (cs' := #[.slice A_2 ((d0.fL.take x_2.toNat) ++ (d0.fL.drop (x_2 + 1).toNat)).length cap_2, .int .i64 d0.fMade]) (by kernel_rfl) fun w_10 p_10 _ f => Y f 1 fun _ f => eT (wp_ret (E_rv2 f rfl (Y10 (cs := [.slice A_2 ((d0.fL.take x_2.toNat) ++ (d0.fL.drop (x_2 + 1).toNat)).length cap_2, .int .i64 d0.fMade]) (ad := ⟨b_2, 0, none⟩) f (own_cells (p_10.ownCell 0 rfl) 0 rfl)) (Y11 (v := .int .i64 0) f) ?_))))
   obtain rfl := sI hF_10
   exact ⟨_, rfl, M_1, hM_1, (p_10.dropN 2), ⟨[.slice A_2 ((d0.fL.take x_2.toNat) ++ (d0.fL.drop (x_2 + 1).toNat)).length cap_2, .int .i64 d0.fMade], rfl, (TA0.shut h_6)⟩⟩
end Go.Proofs.YtocefedhenhbfabGreatDoor
end

section
namespace Go.Proofs.YtocefedhenhbfabGreatDoor
open Go Go.Vc Go.RowKit
end Go.Proofs.YtocefedhenhbfabGreatDoor
end

section
namespace Go.Proofs.YtocefedhenhbfabGreatDoor
open Go Go.Vc Go.RowKit
structure GoodT (x : TE0) : Prop where
  few : x.fProps.length ≤ 60
  fine : ∀ g ∈ x.fProps, Fine g.fV
  short : x.fPhys.length ≤ 1000
structure GoodL (L : List TE0) : Prop where
  few : L.length ≤ 200
  each : ∀ x ∈ L, GoodT x
structure GoodP (l : List TC0) : Prop where
  few : l.length ≤ 60
  fine : ∀ g ∈ l, Fine g.fV
theorem GoodT.props {x : TE0} (h : GoodT x) : GoodP x.fProps := ⟨h.few, h.fine⟩
def cloud_New (n : Nat) : Option Unit :=
  some (())
theorem cloud_New_ok (n : Nat) (M : Mem) (hG : GL M) (r : Unit) (hF : cloud_New n = some r) : OkH Tryz.prog M [] 8 [] (fun M' E' v => ∃ (b0 : Nat) (b0m0 : Nat), v = .pointer (some ⟨b0, 0, none⟩) ∧ E' = [Ent.obj b0 (.cells #[.slice none 0 0, .int .i64 0, .slice none 0 0, .map (some b0m0), .slice none 0 0, .int .i64 0] 64 (0, 0)), Ent.obj b0m0 (mapO (Value.int .i64) (fun x : TB0 => Value.agg #[.bool x.fEnded, .bool x.fOk, S x.fPhys]) ([] : List (Int × TB0)))]) := by
 unfold cloud_New at hF
 intro M1 hM0 w0 H w p0
 replace hG := GL.mono hM0 hG
 refine R_enter 4 Tryz.func8 rfl rfl (by simp) fun a0 f0 => RR (Y f0 1 fun _ f => eT (RR (W_newmap (Value.int .i64) (fun x : TB0 => Value.agg #[.bool x.fEnded, .bool x.fOk, S x.fPhys]) f p0 (by kernel_rfl) (by kernel_rfl) rfl rfl rfl fun bm_1 w_1 p_1 _ f => Y f 1 fun _ f => Y12 f p_1 (.cells #[.slice none 0 0, .int .i64 0, .slice none 0 0, .map (some bm_1), .slice none 0 0, .int .i64 0] 64 (0, 0)) fun b_1 w_2 p_2 _ f => Y f 1 fun _ f => eT (wp_ret (E_ret1 f rfl (by kernel_rfl : Vc.look _ 0 = some (.pointer (some (⟨b_1, 0, none⟩)))) ?_)))))
 obtain rfl := sI hF
 exact ⟨_, rfl, M1, _, (mR _), p_2, ⟨b_1, bm_1, rfl, rfl⟩⟩
def cloud_check_1 (n : Nat) (d0 : TC0) : Option Bool :=
  some ((d0.fUnknown))
theorem cloud_check_1_ok (n : Nat) (M : Mem) (hG : GL M) (c0 : List Value) (d0 : TC0) (h0 : Rep M (emb_TC0 d0) c0) (r : Bool) (hF : cloud_check_1 n d0 = some r) : Ok Tryz.prog M 45 [.agg c0.toArray] (fun _ v => v = .bool r) := by
 unfold cloud_check_1 at hF
 intro M1 hM0 w0 H w p0
 replace hG := GL.mono hM0 hG
 replace h0 := Rep.mono hM0 _ _ h0
 obtain ⟨A_1, cap_1, A_2, cap_2, rfl, h_1, h_2⟩ := TC0.opn h0
 refine R_enter 5 Tryz.func45 rfl rfl (by simp) fun a0 f0 => RR (Y13 (cs := #[S d0.fName, .bool d0.fUnknown, .int .i8 d0.fV.fKind, .bool d0.fV.fBool, .int .i64 d0.fV.fNum, S d0.fV.fText, .slice A_1 d0.fV.fList.length cap_1, .slice A_2 d0.fV.fKeys.length cap_2]) (T := 73) f0 p0 fun b_1 M_1 w_1 hM_1 hc_1 p_1 _ f => ?_)
 have hc_2 := fz_box hc_1
 refine Y f 1 fun _ f => eT (RR (Y f 1 fun _ f => Y15 f p_1 hc_2 1 rfl fun _ f => Y f 1 fun _ f => eT (wp_ret (E_ret1 f rfl (by kernel_rfl : Vc.look _ 2 = some (.bool d0.fUnknown)) ?_))))
 obtain rfl := sI hF
 exact ⟨_, rfl, M_1, hM_1, p_1, rfl⟩
def slices_IndexFuncapi_Given_api_Given_2_s1 (n : Nat) (d0 : List TC0) (s_1 : Int) : Option (Lp Int (Sum Int Unit)) :=
    bif (decide (s_1 < ((d0.length : Nat) : Int))) then
      ((getI d0 s_1).bind fun x_1 =>
      (cloud_check_1 n x_1).bind fun x_2 =>
      bif x_2 then
        (some (.br (.inl s_1)))
      else
        need (inR .i64 (s_1 + 1)) <|
        some (.nx (s_1 + 1)))
    else
      some (.br (.inr ()))
def slices_IndexFuncapi_Given_api_Given_2 (n : Nat) (d0 : List TC0) : Option Int :=
  (loopF (slices_IndexFuncapi_Given_api_Given_2_s1 n d0) n (0 : Int)).bind fun b_1 =>
  (match b_1 with 
  | .inl y_1 => some (y_1) 
  | .inr y_2 => some ((-1 : Int)))
theorem slices_IndexFuncapi_Given_api_Given_2_ok (n : Nat) (M : Mem) (hG : GL M) (A0 : Option Addr) (cap0 : Nat) (d0 : List TC0) (h0 : Sli M 8 emb_TC0 A0 cap0 d0) (r : Int) (hF : slices_IndexFuncapi_Given_api_Given_2 n d0 = some r) : Ok Tryz.prog M 59 [.slice A0 d0.length cap0, .func (.func 45) #[] #[]] (fun _ v => v = .int .i64 r) := by
 unfold slices_IndexFuncapi_Given_api_Given_2 at hF
 intro M1 hM0 w0 H w p0
 replace hG := GL.mono hM0 hG
 replace h0 := h0.mono hM0
 refine R_enter 19 Tryz.func59 rfl rfl (by simp) fun a0 f0 => RR (Y f0 1 fun _ f => eT (R_seq (RR (Y f 3 fun _ f => eT (wp_block ?_)))))
 obtain ⟨b_1, hL_1, hF_1⟩ := bS hF
 refine wp_mono (Q := fun e a w => (e = .ret ∧ (∃ y_1 : Int, b_1 = .inl y_1 ∧ ∃ M_2 : Mem, M1.le M_2 ∧ Frm 19 [(4, .int .i64 y_1)] a ∧ Hp w0 M_2 (H) w)) ∨ (e = .exit 0 ∧ (∃ y_2 : Unit, b_1 = .inr y_2 ∧ ∃ M_3 : Mem, M1.le M_3 ∧ Frm 19 [] a ∧ Hp w0 M_3 (H) w))) (R_loop (n := 19) (w0 := w0) (M := M1) (fun (x : Nat × Int) => match x with | (m_1, s_1) => [(0, .slice A0 d0.length cap0), (1, .func (.func 45) #[] #[]), (7, .int .i64 ((d0.length : Nat) : Int)), (8, .int .i64 s_1)]) (fun (x : Nat × Int) => match x with | (m_1, s_1) => (H)) (fun (x : Nat × Int) (MM : Mem) => match x with | (m_1, s_1) => loopF (slices_IndexFuncapi_Given_api_Given_2_s1 n d0) m_1 s_1 = some b_1) (fun (x : Nat × Int) => match x with | (m_1, s_1) => m_1) (n, (0 : Int)) (f.kp) p0 hL_1 ?_) ?_
 ·rintro ⟨m_1, s_1⟩ M_1 _ w_1 hM_1 I_1 f p_1
  have I_1L := I_1
  obtain ⟨m_2, r_1, rfl, hs_1, hn_1⟩ := loop_step I_1L
  unfold slices_IndexFuncapi_Given_api_Given_2_s1 at hs_1
  refine RR (Y f 1 fun _ f => eT (R_seq (RcF f hs_1 (fun h_1 hF_2 => ?_) fun h_1 hF_8 => ?_)))
  ·have k_1 := dI.1 h_1
   refine wp_skip (T_n (R_seq (wp_block (RR (Y f 2 fun _ f => eT (RR (Y f 3 fun _ f => ?_)))))))
   obtain ⟨x_1, hx_1, hF_3⟩ := bS hF_2
   obtain ⟨ad_1, c_1, e_1, -, hr_1, hc_1⟩ := Sli.at_ (h0.mono hM_1) hx_1
   obtain ⟨A_1, cap_1, A_2, cap_2, rfl, h_2, h_3⟩ := TC0.opn hr_1
   refine Z f (Y31 e_1 rfl (len := d0.length) (cap := cap0) (k := .i64) (i := s_1) (e := 73) (sz := 8) (getI_nn hx_1) (getI_lt hx_1)) fun _ f => Z (v := .agg #[S x_1.fName, .bool x_1.fUnknown, .int .i8 x_1.fV.fKind, .bool x_1.fV.fBool, .int .i64 x_1.fV.fNum, S x_1.fV.fText, .slice A_1 x_1.fV.fList.length cap_1, .slice A_2 x_1.fV.fKeys.length cap_2]) f (Y33 (cs := [S x_1.fName, .bool x_1.fUnknown, .int .i8 x_1.fV.fKind, .bool x_1.fV.fBool, .int .i64 x_1.fV.fNum, S x_1.fV.fText, .slice A_1 x_1.fV.fList.length cap_1, .slice A_2 x_1.fV.fKeys.length cap_2]) rfl (ad := ad_1.add (s_1.toNat * 8)) (fun j v h => p_1.cell (hc_1 j v h))) fun _ f => ?_
   obtain ⟨x_2, hx_2, hF_4⟩ := bS hF_3
   refine Y18 f p_1 (cloud_check_1_ok n _ (GL.mono hM_1 hG) _ x_1 (TC0.shutx (x := x_1) h_2 h_3) x_2 hx_2) fun w_2 p_2 _ f => eT (RcF f hF_4 (fun h_4 hF_5 => ?_) fun h_4 hF_6 => ?_)
   ·refine RR (Y f 2 fun _ f => eT (wp_ret (B_r (T_r (T_r ?_)))))
    obtain rfl := sI hF_5
    exact .inl ⟨rfl, s_1, (sI hn_1).symm, M_1, hM_1, f.kp, p_2⟩
   ·refine wp_skip (B_n (T_n (R_reg ?_)))
    obtain ⟨g_1, hF_7⟩ := nS hF_6
    refine Y f 1 fun _ f => ?_
    have f := f.st 18 (congrArg (Value.int .i64) (inR_wrap g_1))
    refine Y f 1 fun _ f => eT ?_
    obtain rfl := sI hF_7
    exact ⟨⟨m_2, s_1 + 1⟩, Nat.lt_succ_self _, M_1, hM_1, hn_1, f.kp, p_2⟩
  ·have k_4 := iff_f dI h_1
   refine wp_exit (T_x (T_x ?_))
   obtain rfl := sI hF_8
   exact .inr ⟨rfl, (), (sI hn_1).symm, M_1, hM_1, f.kp, p_1⟩
 ·rintro _ _ w_5 (⟨rfl, y_1, rfl, M_2, hM_2, f, p_3⟩ | ⟨rfl, y_2, rfl, M_3, hM_3, f, p_4⟩)
  ·refine B_r (T_r (E_ret1 f rfl (by kernel_rfl : Vc.look _ 4 = some (.int .i64 y_1)) ?_))
   obtain rfl := sI hF_1
   exact ⟨_, rfl, M_2, hM_2, p_3, rfl⟩
  ·refine B_x (T_n (RR (Y f 1 fun _ f => eT (wp_ret (E_ret1 f rfl (by kernel_rfl : Vc.look _ 4 = some (.int .i64 (-1))) ?_)))))
   obtain rfl := sI hF_1
   exact ⟨_, rfl, M_3, hM_3, p_4, rfl⟩
def slices_ContainsFuncapi_Given_api_Given_2 (n : Nat) (d0 : List TC0) : Option Bool :=
  (slices_IndexFuncapi_Given_api_Given_2 n d0).bind fun x_1 =>
  some ((decide ((0 : Int) ≤ x_1)))
theorem slices_ContainsFuncapi_Given_api_Given_2_ok (n : Nat) (M : Mem) (hG : GL M) (A0 : Option Addr) (cap0 : Nat) (d0 : List TC0) (h0 : Sli M 8 emb_TC0 A0 cap0 d0) (r : Bool) (hF : slices_ContainsFuncapi_Given_api_Given_2 n d0 = some r) : Ok Tryz.prog M 44 [.slice A0 d0.length cap0, .func (.func 45) #[] #[]] (fun _ v => v = .bool r) := by
 unfold slices_ContainsFuncapi_Given_api_Given_2 at hF
 intro M1 hM0 w0 H w p0
 replace hG := GL.mono hM0 hG
 replace h0 := h0.mono hM0
 refine R_enter 9 Tryz.func44 rfl rfl (by simp) fun a0 f0 => RR (Y f0 1 fun _ f => eT (RR (Y f 2 fun _ f => ?_)))
 obtain ⟨x_1, hx_1, hF_1⟩ := bS hF
 refine Y18 f p0 (slices_IndexFuncapi_Given_api_Given_2_ok n _ hG A0 cap0 d0 h0 x_1 hx_1) fun w_1 p_1 _ f => Y f 2 fun _ f => eT (wp_ret (E_ret1 f rfl (by kernel_rfl : Vc.look _ 4 = some (.bool (decide ((0 : Int) ≤ x_1)))) ?_))
 obtain rfl := sI hF_1
 exact ⟨_, rfl, M1, (mR _), p_1, rfl⟩
def cloud_check (n : Nat) (d0_0 : Int) (d0_1 : Int) (d0_2 : List UInt8) (d0_3 : List UInt8) (d0_4 : List TC0) : Option (Int × Int × Int × List UInt8 × List UInt8 × List TC0) :=
  ((((bif (decide (d0_0 < 1)) then
        (some ((decide (d0_0 < 1))))
      else
        bif (decide (d0_1 < 0)) then
          (some ((decide (d0_1 < 0))))
        else
          bif (decide ((2 : Int) < d0_1)) then
            (some ((decide ((2 : Int) < d0_1))))
          else
            some ((!((decide (d0_1 = 0)) == (decide (d0_2 = []))))) : Option Bool)).bind fun y_1 =>
    bif y_1 then
      (((some (((2 : Int), d0_0, d0_1, d0_2, d0_3, d0_4)) : Option (Int × Int × Int × List UInt8 × List UInt8 × List TC0))).map Lp.br)
    else
      ((bif (decide (d0_1 = 2)) then
          (some ((decide ((0 : Int) < ((d0_4.length : Nat) : Int)))))
        else
          some ((false)) : Option Bool)).bind fun y_2 =>
      ((bif y_2 then
          (some ((y_2)))
        else
          bif (decide (d0_1 = 1)) then
            (some ((decide (d0_3 = []))))
          else
            some ((false)) : Option Bool)).bind fun y_3 =>
      bif y_3 then
        (((some (((2 : Int), d0_0, d0_1, d0_2, d0_3, d0_4)) : Option (Int × Int × Int × List UInt8 × List UInt8 × List TC0))).map Lp.br)
      else
        bif (decide (d0_1 = 2)) then
          (((some (((0 : Int), d0_0, d0_1, d0_2, d0_3, d0_4)) : Option (Int × Int × Int × List UInt8 × List UInt8 × List TC0))).map Lp.br)
        else
          (slices_ContainsFuncapi_Given_api_Given_2 n d0_4).bind fun x_1 =>
          bif x_1 then
            (((some (((2 : Int), d0_0, d0_1, d0_2, d0_3, d0_4)) : Option (Int × Int × Int × List UInt8 × List UInt8 × List TC0))).map Lp.br)
          else
            some (.nx ()) : Option (Lp Unit (Int × Int × Int × List UInt8 × List UInt8 × List TC0)))).bind fun j => joinF j fun y_4 =>
  (schema_Check n d0_3 d0_4).bind fun x_2 =>
  some ((x_2, d0_0, d0_1, d0_2, d0_3, d0_4))
set_option maxRecDepth 20000 in
theorem cloud_check_ok (n : Nat) (M : Mem) (hG : GL M) (b0 : Nat) (d0_0 : Int) (d0_1 : Int) (d0_2 : List UInt8) (d0_3 : List UInt8) (d0_4 : List TC0) (A_1 : Option Addr) (cap_1 : Nat) (h_1 : Sli M 8 emb_TC0 A_1 cap_1 d0_4) (r : Int × Int × Int × List UInt8 × List UInt8 × List TC0) (hF : cloud_check n d0_0 d0_1 d0_2 d0_3 d0_4 = some r) : OkH Tryz.prog M [Ent.obj b0 (.cells #[.int .i64 d0_0, .int .i8 d0_1, S d0_2, S d0_3, .slice A_1 d0_4.length cap_1] 31 (0, 0))] 30 [.pointer (some (⟨b0, 0, none⟩))] (fun M' E' v => ∃ (A_2 : Option Addr) (cap_2 : Nat), v = .int .i64 r.1 ∧ E' = [Ent.obj b0 (.cells #[.int .i64 r.2.1, .int .i8 r.2.2.1, S r.2.2.2.1, S r.2.2.2.2.1, .slice A_2 r.2.2.2.2.2.length cap_2] 31 (0, 0))] ∧ Sli M' 8 emb_TC0 A_2 cap_2 r.2.2.2.2.2) := by
 unfold cloud_check at hF
 intro M1 hM0 w0 H w p0
 replace hG := GL.mono hM0 hG
 replace h_1 := h_1.mono hM0
 refine R_enter 77 Tryz.func30 rfl rfl (by simp) fun a0 f0 => RR (Y f0 1 fun _ f => eT (R_seq (R_draw p0 (by kernel_rfl) (by kernel_rfl) (Y5 default f 3 fun _ f => Y2 (v := .int .i8 d0_1) f (fun _ pq => Y32 (v := .int .i8 d0_1) rfl (ad := ⟨b0, 1, none⟩) (pq.ownCell 0 rfl 1)) fun _ f => Y5 default f 4 fun _ f => Y2 (v := .int .i8 d0_1) f (fun _ pq => Y32 (v := .int .i8 d0_1) rfl (ad := ⟨b0, 1, none⟩) (pq.ownCell 0 rfl 1)) fun _ f => Y5 default f 3 fun _ f => Q_end rfl ?_))))
 intro w_1 p_1
 refine T_n (R_seq ?_)
 obtain ⟨j_1, hj_1, hF_1⟩ := bS hF
 refine R_mid (fun a_45 w_6 => ∃ y_4 : Unit, j_1 = .nx y_4 ∧ ∃ M_4 : Mem, M1.le M_4 ∧ Frm 77 [(0, .pointer (some (⟨b0, 0, none⟩)))] a_45 ∧ Hp w0 M_4 ((Ent.obj b0 (.cells #[.int .i64 d0_0, .int .i8 d0_1, S d0_2, S d0_3, .slice A_1 d0_4.length cap_1] 31 (0, 0))) :: H) w_6) ?_ ?_
 ·refine wp_block (R_seq (RR (Y f 3 fun _ f => Z f (Y32 (v := .int .i64 d0_0) rfl (ad := ⟨b0, 0, none⟩) (p_1.ownCell 0 rfl 0)) fun _ f => Y f 2 fun _ f => eT ?_)))
  obtain ⟨j_2, hj_2, hF_2⟩ := bS hj_1
  refine R_mid (fun a_20 w_2 => ∃ y_1 : Bool, j_2 = y_1 ∧ ∃ M_1 : Mem, M1.le M_1 ∧ Frm 77 [(0, .pointer (some (⟨b0, 0, none⟩))), (4, .bool (decide (d0_1 = 2))), (15, .bool y_1)] a_20 ∧ Hp w0 M_1 ((Ent.obj b0 (.cells #[.int .i64 d0_0, .int .i8 d0_1, S d0_2, S d0_3, .slice A_1 d0_4.length cap_1] 31 (0, 0))) :: H) w_2) ?_ ?_
  ·refine RcF f hj_2 (fun h_2 hF_3 => ?_) fun h_2 hF_4 => ?_
   ·have k_1 := dI.1 h_2
    refine wp_skip (T_n ?_)
    exact ⟨(decide (d0_0 < 1)), (sI hF_3).symm, M1, (mR _), f.kp, p_1⟩
   ·have k_2 := iff_f dI h_2
    refine RR (Y f 3 fun _ f => Z f (Y32 (v := .int .i8 d0_1) rfl (ad := ⟨b0, 1, none⟩) (p_1.ownCell 0 rfl 1)) fun _ f => Y f 2 fun _ f => eT (RcF f hF_4 (fun h_3 hF_5 => ?_) fun h_3 hF_6 => ?_))
    ·have k_3 := dI.1 h_3
     refine wp_skip (T_n ?_)
     exact ⟨(decide (d0_1 < 0)), (sI hF_5).symm, M1, (mR _), f.kp, p_1⟩
    ·have k_4 := iff_f dI h_3
     refine RR (Y f 3 fun _ f => Z f (Y32 (v := .int .i8 d0_1) rfl (ad := ⟨b0, 1, none⟩) (p_1.ownCell 0 rfl 1)) fun _ f => Y f 2 fun _ f => eT (RcF f hF_6 (fun h_4 hF_7 => ?_) fun h_4 hF_8 => ?_))
     ·have k_5 := dI.1 h_4
      refine wp_skip (T_n ?_)
      exact ⟨(decide ((2 : Int) < d0_1)), (sI hF_7).symm, M1, (mR _), f.kp, p_1⟩
     ·have k_6 := iff_f dI h_4
      refine R_reg (Y f 4 fun _ f => Z f (Y32 (v := S d0_2) rfl (ad := ⟨b0, 2, none⟩) (p_1.ownCell 0 rfl 2)) fun _ f => Z f (Y38 rfl (l := d0_2) (m := [])) fun _ f => Y f 2 fun _ f => eT ?_)
      exact ⟨(!((decide (d0_1 = 0)) == (decide (d0_2 = [])))), (sI hF_8).symm, M1, (mR _), f.kp, p_1⟩
  ·rintro a_20 w_2 ⟨y_1, hq_1, M_1, hM_1, f, p_2⟩
   subst j_2
   refine T_n (RcF f hF_2 (fun h_5 hF_9 => ?_) fun h_5 hF_11 => ?_)
   ·refine RR (Y f 1 fun _ f => eT (wp_ret (B_r ?_)))
    have hF_10 := br_elim hF_9 hF_1
    refine T_r (T_r (E_ret1 f rfl (by kernel_rfl : Vc.look _ 2 = some (.int .i64 2)) ?_))
    obtain rfl := sI hF_10
    exact ⟨_, rfl, M_1, _, hM_1, p_2, ⟨A_1, cap_1, rfl, rfl, (h_1.mono hM_1)⟩⟩
   ·refine R_seq (R_seq ?_)
    obtain ⟨j_3, hj_3, hF_12⟩ := bS hF_11
    refine R_mid (fun a_27 w_3 => ∃ y_2 : Bool, j_3 = y_2 ∧ ∃ M_2 : Mem, M_1.le M_2 ∧ Frm 77 [(0, .pointer (some (⟨b0, 0, none⟩))), (4, .bool (decide (d0_1 = 2))), (38, .bool y_2)] a_27 ∧ Hp w0 M_2 ((Ent.obj b0 (.cells #[.int .i64 d0_0, .int .i8 d0_1, S d0_2, S d0_3, .slice A_1 d0_4.length cap_1] 31 (0, 0))) :: H) w_3) ?_ ?_
    ·refine R_reg (Y f 2 fun _ f => ?_)
     rcases cE hj_3 with ⟨h_6, hF_13⟩ | ⟨h_6, hF_14⟩
     ·have k_9 := dI.1 h_6
      have f := f.st 40 (cB h_6)
      refine Y f 3 fun _ f => Z f (Y32 (v := .slice A_1 d0_4.length cap_1) rfl (ad := ⟨b0, 4, none⟩) (p_2.ownCell 0 rfl 4)) fun _ f => Y f 4 fun _ f => eT ?_
      exact ⟨(decide ((0 : Int) < ((d0_4.length : Nat) : Int))), (sI hF_13).symm, M_1, (mR _), f.kp, p_2⟩
     ·have k_10 := iff_f dI h_6
      have f := f.st 40 (cB h_6)
      refine Y f 8 fun _ f => eT ?_
      exact ⟨(false), (sI hF_14).symm, M_1, (mR _), f.kp, p_2⟩
    ·rintro a_27 w_3 ⟨y_2, hq_2, M_2, hM_2, f, p_3⟩
     subst j_3
     refine T_n ?_
     obtain ⟨j_4, hj_4, hF_15⟩ := bS hF_12
     refine R_mid (fun a_36 w_4 => ∃ y_3 : Bool, j_4 = y_3 ∧ ∃ M_3 : Mem, M_2.le M_3 ∧ Frm 77 [(0, .pointer (some (⟨b0, 0, none⟩))), (4, .bool (decide (d0_1 = 2))), (38, .bool y_3)] a_36 ∧ Hp w0 M_3 ((Ent.obj b0 (.cells #[.int .i64 d0_0, .int .i8 d0_1, S d0_2, S d0_3, .slice A_1 d0_4.length cap_1] 31 (0, 0))) :: H) w_4) ?_ ?_
     ·refine RcF f hj_4 (fun h_7 hF_16 => ?_) fun h_7 hF_17 => ?_
      ·refine wp_skip (T_n ?_)
       exact ⟨(y_2), (sI hF_16).symm, M_2, (mR _), f.kp, p_3⟩
      ·refine R_reg (Y f 3 fun _ f => Z f (Y32 (v := .int .i8 d0_1) rfl (ad := ⟨b0, 1, none⟩) (p_3.ownCell 0 rfl 1)) fun _ f => Y f 2 fun _ f => ?_)
       rcases cE hF_17 with ⟨h_8, hF_18⟩ | ⟨h_8, hF_19⟩
       ·have k_13 := dI.1 h_8
        have f := f.st 53 (cB h_8)
        refine Y f 3 fun _ f => Z f (Y32 (v := S d0_3) rfl (ad := ⟨b0, 3, none⟩) (p_3.ownCell 0 rfl 3)) fun _ f => Z f (Y38 rfl (l := d0_3) (m := [])) fun _ f => Y f 2 fun _ f => eT ?_
        exact ⟨(decide (d0_3 = [])), (sI hF_18).symm, M_2, (mR _), f.kp, p_3⟩
       ·have k_14 := iff_f dI h_8
        have f := f.st 53 (cB h_8)
        refine Y f 7 fun _ f => eT ?_
        exact ⟨(false), (sI hF_19).symm, M_2, (mR _), f.kp, p_3⟩
     ·rintro a_36 w_4 ⟨y_3, hq_3, M_3, hM_3, f, p_4⟩
      subst j_4
      refine T_n (RcF f hF_15 (fun h_9 hF_20 => ?_) fun h_9 hF_22 => ?_)
      ·refine RR (Y f 1 fun _ f => eT (wp_ret (B_r ?_)))
       have hF_21 := br_elim hF_20 hF_1
       refine T_r (T_r (E_ret1 f rfl (by kernel_rfl : Vc.look _ 2 = some (.int .i64 2)) ?_))
       obtain rfl := sI hF_21
       exact ⟨_, rfl, M_3, _, ((hM_1.trans hM_2).trans hM_3), p_4, ⟨A_1, cap_1, rfl, rfl, (h_1.mono ((hM_1.trans hM_2).trans hM_3))⟩⟩
      ·refine RR (Y f 2 fun _ f => eT (RcF f hF_22 (fun h_10 hF_23 => ?_) fun h_10 hF_25 => ?_))
       ·have k_17 := dI.1 h_10
        refine RR (Y f 1 fun _ f => eT (wp_ret (B_r ?_)))
        have hF_24 := br_elim hF_23 hF_1
        refine T_r (T_r (E_ret1 f rfl (by kernel_rfl : Vc.look _ 2 = some (.int .i64 0)) ?_))
        obtain rfl := sI hF_24
        exact ⟨_, rfl, M_3, _, ((hM_1.trans hM_2).trans hM_3), p_4, ⟨A_1, cap_1, rfl, rfl, (h_1.mono ((hM_1.trans hM_2).trans hM_3))⟩⟩
       ·have k_18 := iff_f dI h_10
        refine RR (Y f 3 fun _ f => Z f (Y32 (v := .slice A_1 d0_4.length cap_1) rfl (ad := ⟨b0, 4, none⟩) (p_4.ownCell 0 rfl 4)) fun _ f => ?_)
        obtain ⟨x_1, hx_1, hF_26⟩ := bS hF_25
        refine Y18 f p_4 (slices_ContainsFuncapi_Given_api_Given_2_ok n _ (GL.mono ((hM_1.trans hM_2).trans hM_3) hG) A_1 cap_1 d0_4 (h_1.mono ((hM_1.trans hM_2).trans hM_3)) x_1 hx_1) fun w_5 p_5 _ f => Y f 1 fun _ f => eT (RcF f hF_26 (fun h_11 hF_27 => ?_) fun h_11 hF_29 => ?_)
        ·refine RR (Y f 1 fun _ f => eT (wp_ret (B_r ?_)))
         have hF_28 := br_elim hF_27 hF_1
         refine T_r (T_r (E_ret1 f rfl (by kernel_rfl : Vc.look _ 2 = some (.int .i64 2)) ?_))
         obtain rfl := sI hF_28
         exact ⟨_, rfl, M_3, _, ((hM_1.trans hM_2).trans hM_3), p_5, ⟨A_1, cap_1, rfl, rfl, (h_1.mono ((hM_1.trans hM_2).trans hM_3))⟩⟩
        ·refine wp_skip (B_n (T_n ?_))
         exact ⟨(), (sI hF_29).symm, M_3, ((hM_1.trans hM_2).trans hM_3), f.kp, p_5⟩
 ·rintro a_45 w_6 ⟨y_4, rfl, M_4, hM_4, f, p_6⟩
  refine T_n (R_seq (R_draw p_6 (by kernel_rfl) (by kernel_rfl) (Y5 default f 3 fun _ f => Y2 (v := S d0_3) f (fun _ pq => Y32 (v := S d0_3) rfl (ad := ⟨b0, 3, none⟩) (pq.ownCell 0 rfl 3)) fun _ f => Y5 default f 3 fun _ f => Y2 (v := .slice A_1 d0_4.length cap_1) f (fun _ pq => Y32 (v := .slice A_1 d0_4.length cap_1) rfl (ad := ⟨b0, 4, none⟩) (pq.ownCell 0 rfl 4)) fun _ f => ?_)))
  obtain ⟨x_2, hx_2, hF_30⟩ := bS hF_1
  refine Y3 f (schema_Check_ok n _ (GL.mono hM_4 hG) d0_3 A_1 cap_1 d0_4 (h_1.mono hM_4) x_2 hx_2) fun _ f => Y5 default f 1 fun _ f => Q_end rfl ?_
  intro w_8 p_8
  refine T_n (wp_ret (E_ret1 f rfl (by kernel_rfl : Vc.look _ 2 = some (.int .i64 x_2)) ?_))
  obtain rfl := sI hF_30
  exact ⟨_, rfl, M_4, _, hM_4, p_8, ⟨A_1, cap_1, rfl, rfl, (h_1.mono hM_4)⟩⟩
def slices_Cloneapi_Given_api_Given_z (n : Nat) (d0 : List TC0) (z0 : Bool) : Option (List TC0) :=
  bif z0 then
    (some (([] : List TC0)))
  else
    need ((([] : List TC0).length + d0.length) * 104 ≤ 140737488355328) <|
    some (([] : List TC0) ++ d0)
theorem slices_Cloneapi_Given_api_Given_z_ok (n : Nat) (M : Mem) (A0 : Option Addr) (cap0 : Nat) (d0 : List TC0) (h0 : Sli M 8 emb_TC0 A0 cap0 d0) (z0 : Bool) (hz0 : A0.isNone = z0) (r : List TC0) (hF : slices_Cloneapi_Given_api_Given_z n d0 z0 = some r) : OkH Tryz.prog M [] 31 [.slice A0 d0.length cap0] (fun M' E' v => ∃ (A0 : Option Addr) (k0 : Nat) (s0 : List Value), v = .slice A0 r.length k0 ∧ E' = [.row 73 8 (.slice A0 r.length k0) r.length s0] ∧ RepSeq M' (r.map emb_TC0) s0) := by
 unfold slices_Cloneapi_Given_api_Given_z at hF
 intro M1 hM0 w0 H w p0
 replace h0 := h0.mono hM0
 refine R_enter 8 Tryz.func31 rfl rfl (by simp) fun a0 f0 => RR (Y f0 1 fun _ f => eT (R_seq (RR (Y f 1 fun _ f => Z (v := .bool A0.isNone) f (X_slicenil (A := A0) (n := d0.length) (c := cap0) (e := 73) rfl (by kernel_rfl) (by kernel_rfl) (by kernel_rfl) _) fun _ f => ?_))))
 have f := Frm.set f 4 (v := .bool A0.isNone) (v' := .bool z0) (by kernel_rfl) (cB hz0)
 refine eT (RcF f hF (fun h_1 hF_1 => ?_) fun h_1 hF_2 => ?_)
 ·refine RR (Y f 1 fun _ f => eT (wp_ret (T_r ?_)))
  obtain ⟨A_1, cap_1, hv_1⟩ : ∃ A cap, Value.slice none 0 0 = .slice A ([] : List TC0).length cap := ⟨none, 0, rfl⟩
  have p_1 : Hp w0 M1 ((Ent.row 73 8 (.slice A_1 ([] : List TC0).length cap_1) ([] : List TC0).length []) :: H) w := by rw [← hv_1]; exact p0.nilRow 73 8
  have f := f.st 2 (hv_1)
  have hr_1 : RepSeq M1 (([] : List TC0).map emb_TC0) [] := rfl
  refine E_ret1 f rfl (by kernel_rfl : Vc.look _ 2 = some (.slice A_1 ([] : List TC0).length cap_1)) ?_
  obtain rfl := sI hF_1
  exact ⟨_, rfl, M1, _, (mR _), p_1, ⟨A_1, cap_1, [], rfl, rfl, hr_1⟩⟩
 ·refine wp_skip (T_n (RR (V_allocS (k := 0) (c := 0) f p0 (.cells #[] 73 (0, 0)) (by kernel_rfl) (fun _ => by kernel_rfl) fun b_1 w_1 p_2 _ f => Y f 1 fun _ f => ?_)))
  have hr_2 : RepSeq M1 (([] : List TC0).map emb_TC0) [] := rfl
  have p_3 : Hp w0 M1 ((Ent.row 73 8 (.slice (some ⟨b_1, 0, none⟩) 0 0) ([] : List TC0).length []) :: H) w_1 := p_2.objRow (n := 0) (cap := 0) (size := 8) (by decide) (by decide) (blk_eq (by decide) rfl) rfl rfl
  obtain ⟨g_1, hF_3⟩ := nS hF_2
  refine Y23 (z := .agg #[S [], .bool false, .int .i8 0, .bool false, .int .i64 0, S [], .slice none 0 0, .slice none 0 0]) (f := emb_TC0) (xs := ([] : List TC0)) (ys := d0) (c := cap0) f p_3 hr_2 h0 rfl rfl rfl g_1 (by omega) fun A_2 cap_2 cs_1 w_2 p_4 hr_3 _ f => Y f 1 fun _ f => eT (wp_ret (E_ret1 f rfl (by kernel_rfl : Vc.look _ 2 = some (.slice A_2 (([] : List TC0) ++ d0).length cap_2)) ?_))
  obtain rfl := sI hF_3
  exact ⟨_, rfl, M1, _, (mR _), p_4, ⟨A_2, cap_2, cs_1, rfl, rfl, hr_3⟩⟩
def slices_Cloneapi_Given_api_Given (_ : Nat) (d0 : List TC0) : Option (List TC0) := need (d0.length * 104 ≤ 140737488355328) (some d0)
theorem slices_Cloneapi_Given_api_Given_ok (n : Nat) (M : Mem) (A0 : Option Addr) (cap0 : Nat) (d0 : List TC0) (h0 : Sli M 8 emb_TC0 A0 cap0 d0) (r : List TC0) (hF : slices_Cloneapi_Given_api_Given n d0 = some r) : OkH Tryz.prog M [] 31 [.slice A0 d0.length cap0] (fun M' E' v => ∃ (A0 : Option Addr) (k0 : Nat) (s0 : List Value), v = .slice A0 r.length k0 ∧ E' = [.row 73 8 (.slice A0 r.length k0) r.length s0] ∧ RepSeq M' (r.map emb_TC0) s0) := by
 unfold slices_Cloneapi_Given_api_Given at hF
 obtain ⟨g, hF⟩ := nS hF
 obtain rfl := sI hF
 refine slices_Cloneapi_Given_api_Given_z_ok n M A0 cap0 d0 h0 A0.isNone rfl d0 ?_
 unfold slices_Cloneapi_Given_api_Given_z
 cases A0 with
 | none =>
  obtain ⟨h1, h2, _⟩ := h0
  have h3 := h2 rfl
  obtain rfl : d0 = [] := List.eq_nil_of_length_eq_zero (by omega)
  rfl
 | some a => simp [need]; omega
def cloud_Cloud_Submit (n : Nat) (d0_0 : List TE0) (d0_1 : Int) (d0_2 : List TF0) (d0_3 : List (Int × TB0)) (d0_4 : List TF0) (d0_5 : Int) (d1 : TF0) : Option (Int × List TE0 × Int × List TF0 × (List (Int × TB0)) × List TF0 × Int) :=
  (cloud_check n d1.fToken d1.fKind d1.fPhys d1.fType d1.fProps).bind fun x_1 =>
  bif (!(decide (x_1.1 = 0))) then
    (some ((x_1.1, d0_0, d0_1, d0_2, d0_3, d0_4, d0_5)))
  else
    bif (!(mget d0_3 x_1.2.1).isSome) then
      ((slices_Cloneapi_Given_api_Given n x_1.2.2.2.2.2).bind fun x_2 =>
      ((need ((d0_2.length + 1) * 72 ≤ 140737488355328) <|
        some ((x_2, d0_2 ++ [(⟨x_1.2.1, x_1.2.2.1, x_1.2.2.2.1, x_1.2.2.2.2.1, x_2⟩ : TF0)])) : Option (List TC0 × List TF0))).bind fun y_1 =>
      ((need ((d0_4.length + 1) * 72 ≤ 140737488355328) <|
        some (d0_4 ++ [(⟨x_1.2.1, x_1.2.2.1, x_1.2.2.2.1, x_1.2.2.2.2.1, y_1.1⟩ : TF0)]) : Option (List TF0))).bind fun y_2 =>
      some (((0 : Int), d0_0, d0_1, y_1.2, mput d0_3 x_1.2.1 z_TB0, y_2, d0_5)))
    else
      some (((0 : Int), d0_0, d0_1, d0_2, d0_3, d0_4, d0_5))
set_option maxRecDepth 20000 in
theorem cloud_Cloud_Submit_ok (n : Nat) (M : Mem) (hG : GL M) (b0 : Nat) (d0_0 : List TE0) (A_1 : Option Addr) (cap_1 : Nat) (h_1 : Sli M 3 emb_TE0 A_1 cap_1 d0_0) (d0_1 : Int) (d0_2 : List TF0) (A_2 : Option Addr) (cap_2 : Nat) (cs_1 : List Value) (hr_1 : RepSeq M (d0_2.map emb_TF0) cs_1) (m0_3 : Nat) (d0_3 : List (Int × TB0)) (d0_4 : List TF0) (A_3 : Option Addr) (cap_3 : Nat) (cs_2 : List Value) (hr_2 : RepSeq M (d0_4.map emb_TF0) cs_2) (d0_5 : Int) (c1 : List Value) (d1 : TF0) (h1 : Rep M (emb_TF0 d1) c1) (r : Int × List TE0 × Int × List TF0 × (List (Int × TB0)) × List TF0 × Int) (hF : cloud_Cloud_Submit n d0_0 d0_1 d0_2 d0_3 d0_4 d0_5 d1 = some r) : OkH Tryz.prog M [Ent.obj b0 (.cells #[.slice A_1 d0_0.length cap_1, .int .i64 d0_1, .slice A_2 d0_2.length cap_2, .map (some m0_3), .slice A_3 d0_4.length cap_3, .int .i64 d0_5] 64 (0, 0)), Ent.row 31 5 (.slice A_2 d0_2.length cap_2) d0_2.length cs_1, Ent.obj m0_3 (mapO (Value.int .i64) (fun x : TB0 => Value.agg #[.bool x.fEnded, .bool x.fOk, S x.fPhys]) d0_3), Ent.row 31 5 (.slice A_3 d0_4.length cap_3) d0_4.length cs_2] 9 [.pointer (some (⟨b0, 0, none⟩)), .agg c1.toArray] (fun M' E' v => ∃ (A_21 : Option Addr) (cap_21 : Nat) (A_22 : Option Addr) (cap_22 : Nat) (cs_13 : List Value) (A_23 : Option Addr) (cap_23 : Nat) (cs_14 : List Value), v = .int .i64 r.1 ∧ E' = [Ent.obj b0 (.cells #[.slice A_21 r.2.1.length cap_21, .int .i64 r.2.2.1, .slice A_22 r.2.2.2.1.length cap_22, .map (some m0_3), .slice A_23 r.2.2.2.2.2.1.length cap_23, .int .i64 r.2.2.2.2.2.2] 64 (0, 0)), Ent.row 31 5 (.slice A_22 r.2.2.2.1.length cap_22) r.2.2.2.1.length cs_13, Ent.obj m0_3 (mapO (Value.int .i64) (fun x : TB0 => Value.agg #[.bool x.fEnded, .bool x.fOk, S x.fPhys]) r.2.2.2.2.1), Ent.row 31 5 (.slice A_23 r.2.2.2.2.2.1.length cap_23) r.2.2.2.2.2.1.length cs_14] ∧ Sli M' 3 emb_TE0 A_21 cap_21 r.2.1 ∧ RepSeq M' (r.2.2.2.1.map emb_TF0) cs_13 ∧ RepSeq M' (r.2.2.2.2.2.1.map emb_TF0) cs_14) := by
 unfold cloud_Cloud_Submit at hF
 intro M1 hM0 w0 H w p0
 replace hG := GL.mono hM0 hG
 replace h_1 := h_1.mono hM0
 replace hr_1 := RepSeq.mono hM0 _ _ hr_1
 replace hr_2 := RepSeq.mono hM0 _ _ hr_2
 replace h1 := Rep.mono hM0 _ _ h1
 obtain ⟨A_4, cap_4, rfl, h_2⟩ := TF0.opn h1
 refine R_enter 57 Tryz.func9 rfl rfl (by simp) fun a0 f0 => RR (Y12 f0 p0 (.cells #[.int .i64 d1.fToken, .int .i8 d1.fKind, S d1.fPhys, S d1.fType, .slice A_4 d1.fProps.length cap_4] 31 (0, 0)) fun b_1 w_1 p_1 _ f => Y f 1 fun _ f => eT (R_seq (RR (Y f 1 fun _ f => Z (v := .bool false) f (X_ptrNil (q := some (⟨b0, 0, none⟩)) (e := 64) rfl (by kernel_rfl) (by kernel_rfl) (by kernel_rfl) _) fun _ f => eT (Y7 f (wp_skip (T_n (R_seq (RR ?_)))))))))
 obtain ⟨x_1, hx_1, hF_1⟩ := bS hF
 refine Y17 (E := [Ent.obj b_1 (.cells #[.int .i64 d1.fToken, .int .i8 d1.fKind, S d1.fPhys, S d1.fType, .slice A_4 d1.fProps.length cap_4] 31 (0, 0))]) (H := ((Ent.obj b0 (.cells #[.slice A_1 d0_0.length cap_1, .int .i64 d0_1, .slice A_2 d0_2.length cap_2, .map (some m0_3), .slice A_3 d0_4.length cap_3, .int .i64 d0_5] 64 (0, 0))) :: (Ent.row 31 5 (.slice A_2 d0_2.length cap_2) d0_2.length cs_1) :: (Ent.obj m0_3 (mapO (Value.int .i64) (fun x : TB0 => Value.agg #[.bool x.fEnded, .bool x.fOk, S x.fPhys]) d0_3)) :: (Ent.row 31 5 (.slice A_3 d0_4.length cap_3) d0_4.length cs_2) :: H)) f p_1 (cloud_check_ok n _ hG b_1 d1.fToken d1.fKind d1.fPhys d1.fType d1.fProps A_4 cap_4 h_2 x_1 hx_1) fun _ M_1 E_1 w_2 hM_1 p_2 q_1 _ f => ?_
 obtain ⟨A_5, cap_5, rfl, rfl, h_3⟩ := q_1
 refine Y f 1 fun _ f => eT (RR (Y f 2 fun _ f => eT (RcF f hF_1 (fun h_4 hF_2 => ?_) fun h_4 hF_3 => ?_)))
 ·have k_1 : ¬ (x_1.1 = 0) := (not_iff dI).1 h_4
  refine RR (Y f 2 fun _ f => eT (wp_ret (T_r (E_ret1 f rfl (by kernel_rfl : Vc.look _ 4 = some (.int .i64 x_1.1)) ?_))))
  obtain rfl := sI hF_2
  exact ⟨_, rfl, M_1, _, hM_1, (p_2.dropN 1), ⟨A_1, cap_1, A_2, cap_2, cs_1, A_3, cap_3, cs_2, rfl, rfl, (h_1.mono hM_1), (RepSeq.mono hM_1 _ _ hr_1), (RepSeq.mono hM_1 _ _ hr_2)⟩⟩
 ·have k_2 : ¬ (¬ (x_1.1 = 0)) := iff_f (not_iff dI) h_4
  refine wp_skip (T_n (R_seq (R_seq (R_mix (E := []) (Hr := ((Ent.obj b_1 (.cells #[.int .i64 x_1.2.1, .int .i8 x_1.2.2.1, S x_1.2.2.2.1, S x_1.2.2.2.2.1, .slice A_5 x_1.2.2.2.2.2.length cap_5] 31 (0, 0))) :: (Ent.obj b0 (.cells #[.slice A_1 d0_0.length cap_1, .int .i64 d0_1, .slice A_2 d0_2.length cap_2, .map (some m0_3), .slice A_3 d0_4.length cap_3, .int .i64 d0_5] 64 (0, 0))) :: (Ent.row 31 5 (.slice A_2 d0_2.length cap_2) d0_2.length cs_1) :: (Ent.obj m0_3 (mapO (Value.int .i64) (fun x : TB0 => Value.agg #[.bool x.fEnded, .bool x.fOk, S x.fPhys]) d0_3)) :: (Ent.row 31 5 (.slice A_3 d0_4.length cap_3) d0_4.length cs_2) :: H)) [(0, true), (1, true), (2, true), (3, true), (4, true), (5, true), (6, true), (7, true), (8, true), (9, true), (10, false), (11, false), (12, true)] p_2 (by kernel_rfl) (by kernel_rfl) rfl (by kernel_rfl) (Y0 default f 3 fun _ f => M_eq (v := .map (some m0_3)) f (by kernel_rfl) (by kernel_rfl) rfl rfl (fun _ pq => Y32 (v := .map (some m0_3)) rfl (ad := ⟨b0, 3, none⟩) (pq.ownCell 1 rfl 3)) fun _ f => Y0 default f 1 fun _ f => M_eq (v := .int .i64 x_1.2.1) f (by kernel_rfl) (by kernel_rfl) rfl rfl (fun _ pq => Y32 (v := .int .i64 x_1.2.1) rfl (ad := ⟨b_1, 0, none⟩) (pq.ownCell 0 rfl 0)) fun _ f => M_eq (v := .tuple #[.agg #[.bool ((mget d0_3 x_1.2.1).getD z_TB0).fEnded, .bool ((mget d0_3 x_1.2.1).getD z_TB0).fOk, S ((mget d0_3 x_1.2.1).getD z_TB0).fPhys], .bool (mget d0_3 x_1.2.1).isSome]) f (by kernel_rfl) (by kernel_rfl) rfl rfl (fun _ pq => Y34 (ek := (Value.int .i64)) (ev := (fun x : TB0 => Value.agg #[.bool x.fEnded, .bool x.fOk, S x.fPhys])) (m := d0_3) (k := x_1.2.1) (z := z_TB0) (kt := 3) (et := 37) rfl (intKey (by kernel_rfl)) (pq.ownObj 3 rfl)) fun _ f => Y0 default f 3 fun _ f => M_fix (E := []) fun w_3 p_3 => Y12 f p_3 (.cells #[.bool false, .bool false, S []] 37 (0, 0)) fun b_2 w_4 p_4 _ f => W_end rfl ?_)))))
  refine M_go (M1 := M_1) (E := [Ent.obj b_2 (.cells #[.bool false, .bool false, S []] 37 (0, 0))]) (mR _) p_4 (M_fix (E := [Ent.obj b_2 (.cells #[.bool false, .bool false, S []] 37 (0, 0))]) fun w_5 p_5 => Y27 (vs := [.bool ((mget d0_3 x_1.2.1).getD z_TB0).fEnded, .bool ((mget d0_3 x_1.2.1).getD z_TB0).fOk, S ((mget d0_3 x_1.2.1).getD z_TB0).fPhys]) (j := 0) f p_5 rfl rfl (by simp [Value.oneCell', S]) (by simp) (by decide) (cs' := #[.bool ((mget d0_3 x_1.2.1).getD z_TB0).fEnded, .bool ((mget d0_3 x_1.2.1).getD z_TB0).fOk, S ((mget d0_3 x_1.2.1).getD z_TB0).fPhys]) (by kernel_rfl) fun w_6 p_6 _ f => W_end rfl (M_go (M1 := M_1) (E := [Ent.obj b_2 (.cells #[.bool ((mget d0_3 x_1.2.1).getD z_TB0).fEnded, .bool ((mget d0_3 x_1.2.1).getD z_TB0).fOk, S ((mget d0_3 x_1.2.1).getD z_TB0).fPhys] 37 (0, 0))]) (mR _) p_6 (Y0 default f 1 fun _ f => M_end rfl fun w_7 p_7 => T_n (RR (Y f 2 fun _ f => eT (RcF f hF_3 (fun h_5 hF_4 => ?_) fun h_5 hF_10 => ?_))))))
  ·have k_3 : ((mget d0_3 x_1.2.1).isSome) = false := by simpa using h_5
   refine RR (Y f 1 fun _ f => Z f (Y32 (v := .slice A_5 x_1.2.2.2.2.2.length cap_5) rfl (ad := ⟨b_1, 4, none⟩) (p_7.ownCell 1 rfl 4)) fun _ f => ?_)
   obtain ⟨x_2, hx_2, hF_5⟩ := bS hF_4
   refine Y17 (E := []) (H := ((Ent.obj b_2 (.cells #[.bool ((mget d0_3 x_1.2.1).getD z_TB0).fEnded, .bool ((mget d0_3 x_1.2.1).getD z_TB0).fOk, S ((mget d0_3 x_1.2.1).getD z_TB0).fPhys] 37 (0, 0))) :: (Ent.obj b_1 (.cells #[.int .i64 x_1.2.1, .int .i8 x_1.2.2.1, S x_1.2.2.2.1, S x_1.2.2.2.2.1, .slice A_5 x_1.2.2.2.2.2.length cap_5] 31 (0, 0))) :: (Ent.obj b0 (.cells #[.slice A_1 d0_0.length cap_1, .int .i64 d0_1, .slice A_2 d0_2.length cap_2, .map (some m0_3), .slice A_3 d0_4.length cap_3, .int .i64 d0_5] 64 (0, 0))) :: (Ent.row 31 5 (.slice A_2 d0_2.length cap_2) d0_2.length cs_1) :: (Ent.obj m0_3 (mapO (Value.int .i64) (fun x : TB0 => Value.agg #[.bool x.fEnded, .bool x.fOk, S x.fPhys]) d0_3)) :: (Ent.row 31 5 (.slice A_3 d0_4.length cap_3) d0_4.length cs_2) :: H)) f p_7 (slices_Cloneapi_Given_api_Given_ok n _ A_5 cap_5 x_1.2.2.2.2.2 h_3 x_2 hx_2) fun _ M_2 E_2 w_8 hM_2 p_8 q_2 _ f => ?_
   obtain ⟨A_6, cap_6, cs_3, rfl, rfl, hr_3⟩ := q_2
   refine Y f 1 fun _ f => Y26 f p_8 2 rfl rfl (b := b_1) (j := 4) (v := .slice A_6 x_2.length cap_6) rfl (by exact rfl) (by simp) (by simp) ((Ent.row 73 8 (.slice A_6 x_2.length cap_6) x_2.length cs_3) :: (Ent.obj b_2 (.cells #[.bool ((mget d0_3 x_1.2.1).getD z_TB0).fEnded, .bool ((mget d0_3 x_1.2.1).getD z_TB0).fOk, S ((mget d0_3 x_1.2.1).getD z_TB0).fPhys] 37 (0, 0))) :: (Ent.obj b_1 (.cells #[.int .i64 x_1.2.1, .int .i8 x_1.2.2.1, S x_1.2.2.2.1, S x_1.2.2.2.2.1, .slice A_6 x_2.length cap_6] 31 (0, 0))) :: (Ent.obj b0 (.cells #[.slice A_1 d0_0.length cap_1, .int .i64 d0_1, .slice A_2 d0_2.length cap_2, .map (some m0_3), .slice A_3 d0_4.length cap_3, .int .i64 d0_5] 64 (0, 0))) :: (Ent.row 31 5 (.slice A_2 d0_2.length cap_2) d0_2.length cs_1) :: (Ent.obj m0_3 (mapO (Value.int .i64) (fun x : TB0 => Value.agg #[.bool x.fEnded, .bool x.fOk, S x.fPhys]) d0_3)) :: (Ent.row 31 5 (.slice A_3 d0_4.length cap_3) d0_4.length cs_2) :: H) rfl fun w_9 p_9 _ f => eT (R_seq (R_drawT 7 p_9 (by kernel_rfl) (by kernel_rfl) fun w_10 p_10 => ST_eq (v := .pointer (some (⟨b0, 0, none⟩))) f (by kernel_rfl) (by kernel_rfl) rfl rfl (by kernel_rfl) fun _ f => ST_eq (v := .pointer (some (⟨b0, 0, none⟩))) f (by kernel_rfl) (by kernel_rfl) rfl rfl (by kernel_rfl) fun _ f => ST_eq (v := .pointer (some (⟨b0, 3, none⟩))) f (by kernel_rfl) (by kernel_rfl) rfl rfl (by kernel_rfl) fun _ f => ST_eq (v := .map (some m0_3)) f (by kernel_rfl) (by kernel_rfl) rfl rfl (Y32 (v := .map (some m0_3)) rfl (ad := ⟨b0, 3, none⟩) (p_10.ownCell 3 rfl 3)) fun _ f => ST_eq (v := .pointer (some (⟨b_1, 0, none⟩))) f (by kernel_rfl) (by kernel_rfl) rfl rfl (by kernel_rfl) fun _ f => ST_eq (v := .int .i64 x_1.2.1) f (by kernel_rfl) (by kernel_rfl) rfl rfl (Y32 (v := .int .i64 x_1.2.1) rfl (ad := ⟨b_1, 0, none⟩) (p_10.ownCell 2 rfl 0)) fun _ f => ST_eq (v := .agg #[.bool false, .bool false, S []]) f (by kernel_rfl) (by kernel_rfl) rfl rfl (by kernel_rfl) fun _ f => ?_))
   refine ST_end rfl ?_
   have p_11 := p_10.pl [5]
   refine W_mapput (ek := (Value.int .i64)) (ev := (fun x : TB0 => Value.agg #[.bool x.fEnded, .bool x.fOk, S x.fPhys])) (m := d0_3) (k := x_1.2.1) (v := z_TB0) (kt := 3) (et := 37) f p_11 (by kernel_rfl) (by kernel_rfl) rfl (.inl rfl) (by kernel_rfl) (by kernel_rfl) (by kernel_rfl) (by kernel_rfl) (intKey (by kernel_rfl)) fun w_11 p_12 _ f => eT (R_seq ?_)
   obtain ⟨j_1, hj_1, hF_6⟩ := bS hF_5
   refine R_mid (fun a_63 w_41 => ∃ y_1 : List TC0 × List TF0, j_1 = y_1 ∧ ∃ M_7 : Mem, M_2.le M_7 ∧ ∃ (A_15 : Option Addr), ∃ (cap_15 : Nat), ∃ (A_16 : Option Addr), ∃ (cap_16 : Nat), ∃ (cs_8 : List Value), Sli M_7 8 emb_TC0 A_15 cap_15 y_1.1 ∧ RepSeq M_7 (y_1.2.map emb_TF0) cs_8 ∧ Frm 57 [(0, .pointer (some (⟨b0, 0, none⟩))), (3, .pointer (some (⟨b_1, 0, none⟩)))] a_63 ∧ Hp w0 M_7 ((Ent.row 31 5 (.slice A_16 y_1.2.length cap_16) y_1.2.length cs_8) :: (Ent.obj b_1 (.cells #[.int .i64 x_1.2.1, .int .i8 x_1.2.2.1, S x_1.2.2.2.1, S x_1.2.2.2.2.1, .slice A_15 y_1.1.length cap_15] 31 (0, 0))) :: (Ent.obj b0 (.cells #[.slice A_1 d0_0.length cap_1, .int .i64 d0_1, .slice A_16 y_1.2.length cap_16, .map (some m0_3), .slice A_3 d0_4.length cap_3, .int .i64 d0_5] 64 (0, 0))) :: (Ent.obj m0_3 (mapO (Value.int .i64) (fun x : TB0 => Value.agg #[.bool x.fEnded, .bool x.fOk, S x.fPhys]) (mput d0_3 x_1.2.1 z_TB0))) :: (Ent.obj b_2 (.cells #[.bool ((mget d0_3 x_1.2.1).getD z_TB0).fEnded, .bool ((mget d0_3 x_1.2.1).getD z_TB0).fOk, S ((mget d0_3 x_1.2.1).getD z_TB0).fPhys] 37 (0, 0))) :: (Ent.row 31 5 (.slice A_3 d0_4.length cap_3) d0_4.length cs_2) :: H) w_41) ?_ ?_
   ·have p_28 := p_12.pl [6, 3, 2, 6, 6, 6, 6]
    obtain ⟨g_1, hF_7⟩ := nS hj_1
    refine R_plan (ks := []) (E := [Ent.row 73 8 (.slice A_6 x_2.length cap_6) x_2.length cs_3, Ent.obj b_1 (.cells #[.int .i64 x_1.2.1, .int .i8 x_1.2.2.1, S x_1.2.2.2.1, S x_1.2.2.2.2.1, .slice A_6 x_2.length cap_6] 31 (0, 0)), Ent.obj b0 (.cells #[.slice A_1 d0_0.length cap_1, .int .i64 d0_1, .slice A_2 d0_2.length cap_2, .map (some m0_3), .slice A_3 d0_4.length cap_3, .int .i64 d0_5] 64 (0, 0)), Ent.row 31 5 (.slice A_2 d0_2.length cap_2) d0_2.length cs_1]) (Hr := ((Ent.obj m0_3 (mapO (Value.int .i64) (fun x : TB0 => Value.agg #[.bool x.fEnded, .bool x.fOk, S x.fPhys]) (mput d0_3 x_1.2.1 z_TB0))) :: (Ent.obj b_2 (.cells #[.bool ((mget d0_3 x_1.2.1).getD z_TB0).fEnded, .bool ((mget d0_3 x_1.2.1).getD z_TB0).fOk, S ((mget d0_3 x_1.2.1).getD z_TB0).fPhys] 37 (0, 0))) :: (Ent.row 31 5 (.slice A_3 d0_4.length cap_3) d0_4.length cs_2) :: H)) (.quiet 0 (.quiet 1 (.quiet 2 (.quiet 3 (.alt 4 (.alt 5 (.alt 6 (.alt 7 (.quiet 8 (.quiet 9 (.alt 10 .done .none))) .none) .none) .none) (.alt 5 (.alt 4 (.alt 6 (.alt 7 (.quiet 8 (.quiet 9 (.alt 10 .done .none))) .none) .none) (.alt 6 (.alt 4 (.alt 7 (.quiet 8 (.quiet 9 (.alt 10 .done .none))) .none) .none) .none)) .none)))))) p_28 (by kernel_rfl) (by kernel_rfl) (by kernel_rfl) (Y1 (v := .pointer (some (⟨b0, 0, none⟩))) rfl f rfl rfl (fun _ _ => by kernel_rfl) fun _ f => Y1 (v := .pointer (some (⟨b0, 0, none⟩))) rfl f rfl rfl (fun _ _ => by kernel_rfl) fun _ f => Y1 (v := .pointer (some (⟨b0, 0, none⟩))) rfl f rfl rfl (fun _ _ => by kernel_rfl) fun _ f => Y1 (v := .pointer (some (⟨b0, 2, none⟩))) rfl f rfl rfl (fun _ _ => by kernel_rfl) fun _ f => N_alt rfl (fun w_15 p_29 => ?_) ?_)
    ·refine Z f (Y32 (v := .slice A_2 d0_2.length cap_2) rfl (ad := ⟨b0, 2, none⟩) (p_29.ownCell 2 rfl 2)) fun _ f => W_end rfl (N_goN 4 (mR _) p_29 rfl (N_alt rfl (fun w_16 p_30 => ?_) ?_))
     ·refine Z (v := .agg #[.int .i64 x_1.2.1, .int .i8 x_1.2.2.1, S x_1.2.2.2.1, S x_1.2.2.2.2.1, .slice A_6 x_2.length cap_6]) f (Y33 (cs := [.int .i64 x_1.2.1, .int .i8 x_1.2.2.1, S x_1.2.2.2.1, S x_1.2.2.2.2.1, .slice A_6 x_2.length cap_6]) rfl (ad := ⟨b_1, 0, none⟩) (own_cells (p_30.ownCell 1 rfl) 0 rfl)) fun _ f => W_end rfl (N_goN 4 (mR _) p_30 rfl (N_alt rfl (fun w_17 p_31 => ?_) ?_))
      ·refine V_allocS (k := 1) (c := 1) f p_31 (.cells #[.int .i64 x_1.2.1, .int .i8 x_1.2.2.1, S x_1.2.2.2.1, S x_1.2.2.2.2.1, .slice A_6 x_2.length cap_6] 31 (0, 0)) (by kernel_rfl) (fun _ => by kernel_rfl) fun b_4 w_18 p_32 _ f => W_end rfl (N_goN 5 (mR _) p_32 rfl (N_alt rfl (fun w_19 p_33 => ?_) ?_))
       ·have p_34 := p_33.pl [1]
        obtain ⟨A_9, cap_9, M_4, hv_2, hM_4, p_35, h_7⟩ := p_34.rowSli (f := emb_TC0) (xs := x_2) szd_TC0 hr_3
        have f := Frm.set f 42 (v := .agg #[.int .i64 x_1.2.1, .int .i8 x_1.2.2.1, S x_1.2.2.2.1, S x_1.2.2.2.2.1, .slice A_6 x_2.length cap_6]) (v' := .agg #[.int .i64 x_1.2.1, .int .i8 x_1.2.2.1, S x_1.2.2.2.1, S x_1.2.2.2.2.1, .slice A_9 x_2.length cap_9]) (by kernel_rfl) (by rw [hv_2])
        have p_36 : Hp w0 M_4 ((Ent.obj b_4 (.cells #[.int .i64 x_1.2.1, .int .i8 x_1.2.2.1, S x_1.2.2.2.1, S x_1.2.2.2.2.1, .slice A_9 x_2.length cap_9] 31 (0, 0))) :: (Ent.obj b_1 (.cells #[.int .i64 x_1.2.1, .int .i8 x_1.2.2.1, S x_1.2.2.2.1, S x_1.2.2.2.2.1, .slice A_9 x_2.length cap_9] 31 (0, 0))) :: (Ent.obj b0 (.cells #[.slice A_1 d0_0.length cap_1, .int .i64 d0_1, .slice A_2 d0_2.length cap_2, .map (some m0_3), .slice A_3 d0_4.length cap_3, .int .i64 d0_5] 64 (0, 0))) :: (Ent.row 31 5 (.slice A_2 d0_2.length cap_2) d0_2.length cs_1) :: (Ent.obj m0_3 (mapO (Value.int .i64) (fun x : TB0 => Value.agg #[.bool x.fEnded, .bool x.fOk, S x.fPhys]) (mput d0_3 x_1.2.1 z_TB0))) :: (Ent.obj b_2 (.cells #[.bool ((mget d0_3 x_1.2.1).getD z_TB0).fEnded, .bool ((mget d0_3 x_1.2.1).getD z_TB0).fOk, S ((mget d0_3 x_1.2.1).getD z_TB0).fPhys] 37 (0, 0))) :: (Ent.row 31 5 (.slice A_3 d0_4.length cap_3) d0_4.length cs_2) :: H) w_19 := by rw [hv_2] at p_35; exact p_35
        have p_37 := p_36.pl [3]
        refine Y22 (z := .agg #[.int .i64 0, .int .i8 0, S [], S [], .slice none 0 0]) (f := emb_TF0) (xs := d0_2) (ys := [(⟨x_1.2.1, x_1.2.2.1, x_1.2.2.2.1, x_1.2.2.2.2.1, x_2⟩ : TF0)]) (news := [.int .i64 x_1.2.1, .int .i8 x_1.2.2.1, S x_1.2.2.2.1, S x_1.2.2.2.2.1, .slice A_9 x_2.length cap_9]) (ad := ⟨b_4, 0, none⟩) (m := 1) (c := 1) f p_37 (RepSeq.mono ((hM_1.trans hM_2).trans hM_4) _ _ hr_1) (by exact ⟨_, _, rfl, TF0.shut h_7, rfl⟩) rfl rfl rfl rfl (own_cells (p_37.ownCell 1 rfl) 0 rfl) (by exact g_1) (by have hg_ := g_1; first | omega | (simp only [List.length_cons, List.length_nil] at *; omega)) fun A_10 cap_10 cs_5 w_20 p_38 hr_5 _ f => ?_
        have p_39 := p_38.pl [1]
        have p_40 := p_39.drop
        refine W_end rfl (N_goN 3 hM_4 p_40 rfl (Y1 (v := .pointer (some (⟨b0, 0, none⟩))) rfl f rfl rfl (fun _ _ => by kernel_rfl) fun _ f => Y1 (v := .pointer (some (⟨b0, 2, none⟩))) rfl f rfl rfl (fun _ _ => by kernel_rfl) fun _ f => N_alt rfl (fun w_21 p_41 => ?_) ?_))
        ·refine Y26 f p_41 2 rfl rfl (b := b0) (j := 2) (v := .slice A_10 (d0_2 ++ [(⟨x_1.2.1, x_1.2.2.1, x_1.2.2.2.1, x_1.2.2.2.2.1, x_2⟩ : TF0)]).length cap_10) rfl (by exact rfl) (by simp) (by simp) ((Ent.row 31 5 (.slice A_10 (d0_2 ++ [(⟨x_1.2.1, x_1.2.2.1, x_1.2.2.2.1, x_1.2.2.2.2.1, x_2⟩ : TF0)]).length cap_10) (d0_2 ++ [(⟨x_1.2.1, x_1.2.2.1, x_1.2.2.2.1, x_1.2.2.2.2.1, x_2⟩ : TF0)]).length cs_5) :: (Ent.obj b_1 (.cells #[.int .i64 x_1.2.1, .int .i8 x_1.2.2.1, S x_1.2.2.2.1, S x_1.2.2.2.2.1, .slice A_9 x_2.length cap_9] 31 (0, 0))) :: (Ent.obj b0 (.cells #[.slice A_1 d0_0.length cap_1, .int .i64 d0_1, .slice A_10 (d0_2 ++ [(⟨x_1.2.1, x_1.2.2.1, x_1.2.2.2.1, x_1.2.2.2.2.1, x_2⟩ : TF0)]).length cap_10, .map (some m0_3), .slice A_3 d0_4.length cap_3, .int .i64 d0_5] 64 (0, 0))) :: (Ent.obj m0_3 (mapO (Value.int .i64) (fun x : TB0 => Value.agg #[.bool x.fEnded, .bool x.fOk, S x.fPhys]) (mput d0_3 x_1.2.1 z_TB0))) :: (Ent.obj b_2 (.cells #[.bool ((mget d0_3 x_1.2.1).getD z_TB0).fEnded, .bool ((mget d0_3 x_1.2.1).getD z_TB0).fOk, S ((mget d0_3 x_1.2.1).getD z_TB0).fPhys] 37 (0, 0))) :: (Ent.row 31 5 (.slice A_3 d0_4.length cap_3) d0_4.length cs_2) :: H) rfl fun w_22 p_42 _ f => W_end rfl (N_goN 3 hM_4 p_42 rfl (N_end fun w_23 p_43 => T_n ?_))
         exact ⟨(x_2, d0_2 ++ [(⟨x_1.2.1, x_1.2.2.1, x_1.2.2.2.1, x_1.2.2.2.2.1, x_2⟩ : TF0)]), (sI hF_7).symm, M_4, hM_4, A_9, cap_9, A_10, cap_10, cs_5, h_7, hr_5, f.kp, p_43⟩
        exact N_none
       exact N_none
      exact N_none
     exact N_none
    refine N_alt rfl (fun w_24 p_44 => ?_) ?_
    ·refine Z (v := .agg #[.int .i64 x_1.2.1, .int .i8 x_1.2.2.1, S x_1.2.2.2.1, S x_1.2.2.2.2.1, .slice A_6 x_2.length cap_6]) f (Y33 (cs := [.int .i64 x_1.2.1, .int .i8 x_1.2.2.1, S x_1.2.2.2.1, S x_1.2.2.2.2.1, .slice A_6 x_2.length cap_6]) rfl (ad := ⟨b_1, 0, none⟩) (own_cells (p_44.ownCell 1 rfl) 0 rfl)) fun _ f => W_end rfl (N_goN 4 (mR _) p_44 rfl (N_alt rfl (fun w_25 p_45 => ?_) ?_))
     ·refine Z f (Y32 (v := .slice A_2 d0_2.length cap_2) rfl (ad := ⟨b0, 2, none⟩) (p_45.ownCell 2 rfl 2)) fun _ f => W_end rfl (N_goN 4 (mR _) p_45 rfl (N_alt rfl (fun w_26 p_46 => ?_) ?_))
      ·refine V_allocS (k := 1) (c := 1) f p_46 (.cells #[.int .i64 x_1.2.1, .int .i8 x_1.2.2.1, S x_1.2.2.2.1, S x_1.2.2.2.2.1, .slice A_6 x_2.length cap_6] 31 (0, 0)) (by kernel_rfl) (fun _ => by kernel_rfl) fun b_5 w_27 p_47 _ f => W_end rfl (N_goN 5 (mR _) p_47 rfl (N_alt rfl (fun w_28 p_48 => ?_) ?_))
       ·have p_49 := p_48.pl [1]
        obtain ⟨A_11, cap_11, M_5, hv_3, hM_5, p_50, h_8⟩ := p_49.rowSli (f := emb_TC0) (xs := x_2) szd_TC0 hr_3
        have f := Frm.set f 42 (v := .agg #[.int .i64 x_1.2.1, .int .i8 x_1.2.2.1, S x_1.2.2.2.1, S x_1.2.2.2.2.1, .slice A_6 x_2.length cap_6]) (v' := .agg #[.int .i64 x_1.2.1, .int .i8 x_1.2.2.1, S x_1.2.2.2.1, S x_1.2.2.2.2.1, .slice A_11 x_2.length cap_11]) (by kernel_rfl) (by rw [hv_3])
        have p_51 : Hp w0 M_5 ((Ent.obj b_5 (.cells #[.int .i64 x_1.2.1, .int .i8 x_1.2.2.1, S x_1.2.2.2.1, S x_1.2.2.2.2.1, .slice A_11 x_2.length cap_11] 31 (0, 0))) :: (Ent.obj b_1 (.cells #[.int .i64 x_1.2.1, .int .i8 x_1.2.2.1, S x_1.2.2.2.1, S x_1.2.2.2.2.1, .slice A_11 x_2.length cap_11] 31 (0, 0))) :: (Ent.obj b0 (.cells #[.slice A_1 d0_0.length cap_1, .int .i64 d0_1, .slice A_2 d0_2.length cap_2, .map (some m0_3), .slice A_3 d0_4.length cap_3, .int .i64 d0_5] 64 (0, 0))) :: (Ent.row 31 5 (.slice A_2 d0_2.length cap_2) d0_2.length cs_1) :: (Ent.obj m0_3 (mapO (Value.int .i64) (fun x : TB0 => Value.agg #[.bool x.fEnded, .bool x.fOk, S x.fPhys]) (mput d0_3 x_1.2.1 z_TB0))) :: (Ent.obj b_2 (.cells #[.bool ((mget d0_3 x_1.2.1).getD z_TB0).fEnded, .bool ((mget d0_3 x_1.2.1).getD z_TB0).fOk, S ((mget d0_3 x_1.2.1).getD z_TB0).fPhys] 37 (0, 0))) :: (Ent.row 31 5 (.slice A_3 d0_4.length cap_3) d0_4.length cs_2) :: H) w_28 := by rw [hv_3] at p_50; exact p_50
        have p_52 := p_51.pl [3]
        refine Y22 (z := .agg #[.int .i64 0, .int .i8 0, S [], S [], .slice none 0 0]) (f := emb_TF0) (xs := d0_2) (ys := [(⟨x_1.2.1, x_1.2.2.1, x_1.2.2.2.1, x_1.2.2.2.2.1, x_2⟩ : TF0)]) (news := [.int .i64 x_1.2.1, .int .i8 x_1.2.2.1, S x_1.2.2.2.1, S x_1.2.2.2.2.1, .slice A_11 x_2.length cap_11]) (ad := ⟨b_5, 0, none⟩) (m := 1) (c := 1) f p_52 (RepSeq.mono ((hM_1.trans hM_2).trans hM_5) _ _ hr_1) (by exact ⟨_, _, rfl, TF0.shut h_8, rfl⟩) rfl rfl rfl rfl (own_cells (p_52.ownCell 1 rfl) 0 rfl) (by exact g_1) (by have hg_ := g_1; first | omega | (simp only [List.length_cons, List.length_nil] at *; omega)) fun A_12 cap_12 cs_6 w_29 p_53 hr_6 _ f => ?_
        have p_54 := p_53.pl [1]
        have p_55 := p_54.drop
        refine W_end rfl (N_goN 3 hM_5 p_55 rfl (Y1 (v := .pointer (some (⟨b0, 0, none⟩))) rfl f rfl rfl (fun _ _ => by kernel_rfl) fun _ f => Y1 (v := .pointer (some (⟨b0, 2, none⟩))) rfl f rfl rfl (fun _ _ => by kernel_rfl) fun _ f => N_alt rfl (fun w_30 p_56 => ?_) ?_))
        ·refine Y26 f p_56 2 rfl rfl (b := b0) (j := 2) (v := .slice A_12 (d0_2 ++ [(⟨x_1.2.1, x_1.2.2.1, x_1.2.2.2.1, x_1.2.2.2.2.1, x_2⟩ : TF0)]).length cap_12) rfl (by exact rfl) (by simp) (by simp) ((Ent.row 31 5 (.slice A_12 (d0_2 ++ [(⟨x_1.2.1, x_1.2.2.1, x_1.2.2.2.1, x_1.2.2.2.2.1, x_2⟩ : TF0)]).length cap_12) (d0_2 ++ [(⟨x_1.2.1, x_1.2.2.1, x_1.2.2.2.1, x_1.2.2.2.2.1, x_2⟩ : TF0)]).length cs_6) :: (Ent.obj b_1 (.cells #[.int .i64 x_1.2.1, .int .i8 x_1.2.2.1, S x_1.2.2.2.1, S x_1.2.2.2.2.1, .slice A_11 x_2.length cap_11] 31 (0, 0))) :: (Ent.obj b0 (.cells #[.slice A_1 d0_0.length cap_1, .int .i64 d0_1, .slice A_12 (d0_2 ++ [(⟨x_1.2.1, x_1.2.2.1, x_1.2.2.2.1, x_1.2.2.2.2.1, x_2⟩ : TF0)]).length cap_12, .map (some m0_3), .slice A_3 d0_4.length cap_3, .int .i64 d0_5] 64 (0, 0))) :: (Ent.obj m0_3 (mapO (Value.int .i64) (fun x : TB0 => Value.agg #[.bool x.fEnded, .bool x.fOk, S x.fPhys]) (mput d0_3 x_1.2.1 z_TB0))) :: (Ent.obj b_2 (.cells #[.bool ((mget d0_3 x_1.2.1).getD z_TB0).fEnded, .bool ((mget d0_3 x_1.2.1).getD z_TB0).fOk, S ((mget d0_3 x_1.2.1).getD z_TB0).fPhys] 37 (0, 0))) :: (Ent.row 31 5 (.slice A_3 d0_4.length cap_3) d0_4.length cs_2) :: H) rfl fun w_31 p_57 _ f => W_end rfl (N_goN 3 hM_5 p_57 rfl (N_end fun w_32 p_58 => T_n ?_))
         exact ⟨(x_2, d0_2 ++ [(⟨x_1.2.1, x_1.2.2.1, x_1.2.2.2.1, x_1.2.2.2.2.1, x_2⟩ : TF0)]), (sI hF_7).symm, M_5, hM_5, A_11, cap_11, A_12, cap_12, cs_6, h_8, hr_6, f.kp, p_58⟩
        exact N_none
       exact N_none
      exact N_none
     refine N_alt rfl (fun w_33 p_59 => ?_) ?_
     ·refine V_allocS (k := 1) (c := 1) f p_59 (.cells #[.int .i64 x_1.2.1, .int .i8 x_1.2.2.1, S x_1.2.2.2.1, S x_1.2.2.2.2.1, .slice A_6 x_2.length cap_6] 31 (0, 0)) (by kernel_rfl) (fun _ => by kernel_rfl) fun b_6 w_34 p_60 _ f => W_end rfl (N_goN 5 (mR _) p_60 rfl (N_alt rfl (fun w_35 p_61 => ?_) ?_))
      ·refine Z f (Y32 (v := .slice A_2 d0_2.length cap_2) rfl (ad := ⟨b0, 2, none⟩) (p_61.ownCell 3 rfl 2)) fun _ f => W_end rfl (N_goN 5 (mR _) p_61 rfl (N_alt rfl (fun w_36 p_62 => ?_) ?_))
       ·have p_63 := p_62.pl [1]
        obtain ⟨A_13, cap_13, M_6, hv_4, hM_6, p_64, h_9⟩ := p_63.rowSli (f := emb_TC0) (xs := x_2) szd_TC0 hr_3
        have f := Frm.set f 42 (v := .agg #[.int .i64 x_1.2.1, .int .i8 x_1.2.2.1, S x_1.2.2.2.1, S x_1.2.2.2.2.1, .slice A_6 x_2.length cap_6]) (v' := .agg #[.int .i64 x_1.2.1, .int .i8 x_1.2.2.1, S x_1.2.2.2.1, S x_1.2.2.2.2.1, .slice A_13 x_2.length cap_13]) (by kernel_rfl) (by rw [hv_4])
        have p_65 : Hp w0 M_6 ((Ent.obj b_6 (.cells #[.int .i64 x_1.2.1, .int .i8 x_1.2.2.1, S x_1.2.2.2.1, S x_1.2.2.2.2.1, .slice A_13 x_2.length cap_13] 31 (0, 0))) :: (Ent.obj b_1 (.cells #[.int .i64 x_1.2.1, .int .i8 x_1.2.2.1, S x_1.2.2.2.1, S x_1.2.2.2.2.1, .slice A_13 x_2.length cap_13] 31 (0, 0))) :: (Ent.obj b0 (.cells #[.slice A_1 d0_0.length cap_1, .int .i64 d0_1, .slice A_2 d0_2.length cap_2, .map (some m0_3), .slice A_3 d0_4.length cap_3, .int .i64 d0_5] 64 (0, 0))) :: (Ent.row 31 5 (.slice A_2 d0_2.length cap_2) d0_2.length cs_1) :: (Ent.obj m0_3 (mapO (Value.int .i64) (fun x : TB0 => Value.agg #[.bool x.fEnded, .bool x.fOk, S x.fPhys]) (mput d0_3 x_1.2.1 z_TB0))) :: (Ent.obj b_2 (.cells #[.bool ((mget d0_3 x_1.2.1).getD z_TB0).fEnded, .bool ((mget d0_3 x_1.2.1).getD z_TB0).fOk, S ((mget d0_3 x_1.2.1).getD z_TB0).fPhys] 37 (0, 0))) :: (Ent.row 31 5 (.slice A_3 d0_4.length cap_3) d0_4.length cs_2) :: H) w_36 := by rw [hv_4] at p_64; exact p_64
        have p_66 := p_65.pl [3]
        refine Y22 (z := .agg #[.int .i64 0, .int .i8 0, S [], S [], .slice none 0 0]) (f := emb_TF0) (xs := d0_2) (ys := [(⟨x_1.2.1, x_1.2.2.1, x_1.2.2.2.1, x_1.2.2.2.2.1, x_2⟩ : TF0)]) (news := [.int .i64 x_1.2.1, .int .i8 x_1.2.2.1, S x_1.2.2.2.1, S x_1.2.2.2.2.1, .slice A_13 x_2.length cap_13]) (ad := ⟨b_6, 0, none⟩) (m := 1) (c := 1) f p_66 (RepSeq.mono ((hM_1.trans hM_2).trans hM_6) _ _ hr_1) (by exact ⟨_, _, rfl, TF0.shut h_9, rfl⟩) rfl rfl rfl rfl (own_cells (p_66.ownCell 1 rfl) 0 rfl) (by exact g_1) (by have hg_ := g_1; first | omega | (simp only [List.length_cons, List.length_nil] at *; omega)) fun A_14 cap_14 cs_7 w_37 p_67 hr_7 _ f => ?_
        have p_68 := p_67.pl [1]
        have p_69 := p_68.drop
        refine W_end rfl (N_goN 3 hM_6 p_69 rfl (Y1 (v := .pointer (some (⟨b0, 0, none⟩))) rfl f rfl rfl (fun _ _ => by kernel_rfl) fun _ f => Y1 (v := .pointer (some (⟨b0, 2, none⟩))) rfl f rfl rfl (fun _ _ => by kernel_rfl) fun _ f => N_alt rfl (fun w_38 p_70 => ?_) ?_))
        ·refine Y26 f p_70 2 rfl rfl (b := b0) (j := 2) (v := .slice A_14 (d0_2 ++ [(⟨x_1.2.1, x_1.2.2.1, x_1.2.2.2.1, x_1.2.2.2.2.1, x_2⟩ : TF0)]).length cap_14) rfl (by exact rfl) (by simp) (by simp) ((Ent.row 31 5 (.slice A_14 (d0_2 ++ [(⟨x_1.2.1, x_1.2.2.1, x_1.2.2.2.1, x_1.2.2.2.2.1, x_2⟩ : TF0)]).length cap_14) (d0_2 ++ [(⟨x_1.2.1, x_1.2.2.1, x_1.2.2.2.1, x_1.2.2.2.2.1, x_2⟩ : TF0)]).length cs_7) :: (Ent.obj b_1 (.cells #[.int .i64 x_1.2.1, .int .i8 x_1.2.2.1, S x_1.2.2.2.1, S x_1.2.2.2.2.1, .slice A_13 x_2.length cap_13] 31 (0, 0))) :: (Ent.obj b0 (.cells #[.slice A_1 d0_0.length cap_1, .int .i64 d0_1, .slice A_14 (d0_2 ++ [(⟨x_1.2.1, x_1.2.2.1, x_1.2.2.2.1, x_1.2.2.2.2.1, x_2⟩ : TF0)]).length cap_14, .map (some m0_3), .slice A_3 d0_4.length cap_3, .int .i64 d0_5] 64 (0, 0))) :: (Ent.obj m0_3 (mapO (Value.int .i64) (fun x : TB0 => Value.agg #[.bool x.fEnded, .bool x.fOk, S x.fPhys]) (mput d0_3 x_1.2.1 z_TB0))) :: (Ent.obj b_2 (.cells #[.bool ((mget d0_3 x_1.2.1).getD z_TB0).fEnded, .bool ((mget d0_3 x_1.2.1).getD z_TB0).fOk, S ((mget d0_3 x_1.2.1).getD z_TB0).fPhys] 37 (0, 0))) :: (Ent.row 31 5 (.slice A_3 d0_4.length cap_3) d0_4.length cs_2) :: H) rfl fun w_39 p_71 _ f => W_end rfl (N_goN 3 hM_6 p_71 rfl (N_end fun w_40 p_72 => T_n ?_))
         exact ⟨(x_2, d0_2 ++ [(⟨x_1.2.1, x_1.2.2.1, x_1.2.2.2.1, x_1.2.2.2.2.1, x_2⟩ : TF0)]), (sI hF_7).symm, M_6, hM_6, A_13, cap_13, A_14, cap_14, cs_7, h_9, hr_7, f.kp, p_72⟩
        exact N_none
       exact N_none
      exact N_none
     exact N_none
    exact N_none
   ·rintro a_63 w_41 ⟨y_1, hq_1, M_7, hM_7, A_15, cap_15, A_16, cap_16, cs_8, h_10, hr_8, f, p_73⟩
    subst j_1
    refine T_n ?_
    obtain ⟨j_2, hj_2, hF_8⟩ := bS hF_6
    refine R_mid (fun a_88 w_61 => ∃ y_2 : List TF0, j_2 = y_2 ∧ ∃ M_8 : Mem, M_7.le M_8 ∧ ∃ (A_20 : Option Addr), ∃ (cap_20 : Nat), ∃ (cs_12 : List Value), RepSeq M_8 (y_2.map emb_TF0) cs_12 ∧ Frm 57 [] a_88 ∧ Hp w0 M_8 ((Ent.row 31 5 (.slice A_20 y_2.length cap_20) y_2.length cs_12) :: (Ent.obj b0 (.cells #[.slice A_1 d0_0.length cap_1, .int .i64 d0_1, .slice A_16 y_1.2.length cap_16, .map (some m0_3), .slice A_20 y_2.length cap_20, .int .i64 d0_5] 64 (0, 0))) :: (Ent.row 31 5 (.slice A_16 y_1.2.length cap_16) y_1.2.length cs_8) :: (Ent.obj b_1 (.cells #[.int .i64 x_1.2.1, .int .i8 x_1.2.2.1, S x_1.2.2.2.1, S x_1.2.2.2.2.1, .slice A_15 y_1.1.length cap_15] 31 (0, 0))) :: (Ent.obj m0_3 (mapO (Value.int .i64) (fun x : TB0 => Value.agg #[.bool x.fEnded, .bool x.fOk, S x.fPhys]) (mput d0_3 x_1.2.1 z_TB0))) :: (Ent.obj b_2 (.cells #[.bool ((mget d0_3 x_1.2.1).getD z_TB0).fEnded, .bool ((mget d0_3 x_1.2.1).getD z_TB0).fOk, S ((mget d0_3 x_1.2.1).getD z_TB0).fPhys] 37 (0, 0))) :: H) w_61) ?_ ?_
    ·have p_85 := p_73.pl [4, 4, 3, 3, 5, 5]
     obtain ⟨g_2, hF_9⟩ := nS hj_2
     refine R_plan (ks := []) (E := [Ent.obj b0 (.cells #[.slice A_1 d0_0.length cap_1, .int .i64 d0_1, .slice A_16 y_1.2.length cap_16, .map (some m0_3), .slice A_3 d0_4.length cap_3, .int .i64 d0_5] 64 (0, 0)), Ent.row 31 5 (.slice A_3 d0_4.length cap_3) d0_4.length cs_2]) (Hr := ((Ent.row 31 5 (.slice A_16 y_1.2.length cap_16) y_1.2.length cs_8) :: (Ent.obj b_1 (.cells #[.int .i64 x_1.2.1, .int .i8 x_1.2.2.1, S x_1.2.2.2.1, S x_1.2.2.2.2.1, .slice A_15 y_1.1.length cap_15] 31 (0, 0))) :: (Ent.obj m0_3 (mapO (Value.int .i64) (fun x : TB0 => Value.agg #[.bool x.fEnded, .bool x.fOk, S x.fPhys]) (mput d0_3 x_1.2.1 z_TB0))) :: (Ent.obj b_2 (.cells #[.bool ((mget d0_3 x_1.2.1).getD z_TB0).fEnded, .bool ((mget d0_3 x_1.2.1).getD z_TB0).fOk, S ((mget d0_3 x_1.2.1).getD z_TB0).fPhys] 37 (0, 0))) :: H)) (.quiet 0 (.quiet 1 (.quiet 2 (.quiet 3 (.quiet 5 (.alt 4 (.alt 6 (.alt 7 (.quiet 8 (.quiet 9 (.alt 10 .done .none))) .none) .none) (.alt 6 (.alt 4 (.alt 7 (.quiet 8 (.quiet 9 (.alt 10 .done .none))) .none) .none) .none))))))) p_85 (by kernel_rfl) (by kernel_rfl) (by kernel_rfl) (Y1 (v := .pointer (some (⟨b0, 0, none⟩))) rfl f rfl rfl (fun _ _ => by kernel_rfl) fun _ f => Y1 (v := .pointer (some (⟨b0, 0, none⟩))) rfl f rfl rfl (fun _ _ => by kernel_rfl) fun _ f => Y1 (v := .pointer (some (⟨b0, 0, none⟩))) rfl f rfl rfl (fun _ _ => by kernel_rfl) fun _ f => Y1 (v := .pointer (some (⟨b0, 4, none⟩))) rfl f rfl rfl (fun _ _ => by kernel_rfl) fun _ f => Y1 (v := .agg #[.int .i64 x_1.2.1, .int .i8 x_1.2.2.1, S x_1.2.2.2.1, S x_1.2.2.2.2.1, .slice A_15 y_1.1.length cap_15]) rfl f rfl rfl (fun _ pq => Y33 (cs := [.int .i64 x_1.2.1, .int .i8 x_1.2.2.1, S x_1.2.2.2.1, S x_1.2.2.2.2.1, .slice A_15 y_1.1.length cap_15]) rfl (ad := ⟨b_1, 0, none⟩) (own_cells (pq.ownCell 1 rfl) 0 rfl)) fun _ f => N_alt rfl (fun w_45 p_86 => ?_) ?_)
     ·refine Z f (Y32 (v := .slice A_3 d0_4.length cap_3) rfl (ad := ⟨b0, 4, none⟩) (p_86.ownCell 0 rfl 4)) fun _ f => W_end rfl (N_goN 2 (mR _) p_86 rfl (N_alt rfl (fun w_46 p_87 => ?_) ?_))
      ·refine V_allocS (k := 1) (c := 1) f p_87 (.cells #[.int .i64 x_1.2.1, .int .i8 x_1.2.2.1, S x_1.2.2.2.1, S x_1.2.2.2.2.1, .slice A_15 y_1.1.length cap_15] 31 (0, 0)) (by kernel_rfl) (fun _ => by kernel_rfl) fun b_8 w_47 p_88 _ f => W_end rfl (N_goN 3 (mR _) p_88 rfl (N_alt rfl (fun w_48 p_89 => ?_) ?_))
       ·have p_90 := p_89.pl [2]
        refine Y22 (z := .agg #[.int .i64 0, .int .i8 0, S [], S [], .slice none 0 0]) (f := emb_TF0) (xs := d0_4) (ys := [(⟨x_1.2.1, x_1.2.2.1, x_1.2.2.2.1, x_1.2.2.2.2.1, y_1.1⟩ : TF0)]) (news := [.int .i64 x_1.2.1, .int .i8 x_1.2.2.1, S x_1.2.2.2.1, S x_1.2.2.2.2.1, .slice A_15 y_1.1.length cap_15]) (ad := ⟨b_8, 0, none⟩) (m := 1) (c := 1) f p_90 (RepSeq.mono ((hM_1.trans hM_2).trans hM_7) _ _ hr_2) (by exact ⟨_, _, rfl, TF0.shut h_10, rfl⟩) rfl rfl rfl rfl (own_cells (p_90.ownCell 1 rfl) 0 rfl) (by exact g_2) (by have hg_ := g_2; first | omega | (simp only [List.length_cons, List.length_nil] at *; omega)) fun A_18 cap_18 cs_10 w_49 p_91 hr_10 _ f => ?_
        have p_92 := p_91.pl [1]
        have p_93 := p_92.drop
        refine W_end rfl (N_goN 2 (mR _) p_93 rfl (Y1 (v := .pointer (some (⟨b0, 0, none⟩))) rfl f rfl rfl (fun _ _ => by kernel_rfl) fun _ f => Y1 (v := .pointer (some (⟨b0, 4, none⟩))) rfl f rfl rfl (fun _ _ => by kernel_rfl) fun _ f => N_alt rfl (fun w_50 p_94 => ?_) ?_))
        ·refine Y26 f p_94 1 rfl rfl (b := b0) (j := 4) (v := .slice A_18 (d0_4 ++ [(⟨x_1.2.1, x_1.2.2.1, x_1.2.2.2.1, x_1.2.2.2.2.1, y_1.1⟩ : TF0)]).length cap_18) rfl (by exact rfl) (by simp) (by simp) ((Ent.row 31 5 (.slice A_18 (d0_4 ++ [(⟨x_1.2.1, x_1.2.2.1, x_1.2.2.2.1, x_1.2.2.2.2.1, y_1.1⟩ : TF0)]).length cap_18) (d0_4 ++ [(⟨x_1.2.1, x_1.2.2.1, x_1.2.2.2.1, x_1.2.2.2.2.1, y_1.1⟩ : TF0)]).length cs_10) :: (Ent.obj b0 (.cells #[.slice A_1 d0_0.length cap_1, .int .i64 d0_1, .slice A_16 y_1.2.length cap_16, .map (some m0_3), .slice A_18 (d0_4 ++ [(⟨x_1.2.1, x_1.2.2.1, x_1.2.2.2.1, x_1.2.2.2.2.1, y_1.1⟩ : TF0)]).length cap_18, .int .i64 d0_5] 64 (0, 0))) :: (Ent.row 31 5 (.slice A_16 y_1.2.length cap_16) y_1.2.length cs_8) :: (Ent.obj b_1 (.cells #[.int .i64 x_1.2.1, .int .i8 x_1.2.2.1, S x_1.2.2.2.1, S x_1.2.2.2.2.1, .slice A_15 y_1.1.length cap_15] 31 (0, 0))) :: (Ent.obj m0_3 (mapO (Value.int .i64) (fun x : TB0 => Value.agg #[.bool x.fEnded, .bool x.fOk, S x.fPhys]) (mput d0_3 x_1.2.1 z_TB0))) :: (Ent.obj b_2 (.cells #[.bool ((mget d0_3 x_1.2.1).getD z_TB0).fEnded, .bool ((mget d0_3 x_1.2.1).getD z_TB0).fOk, S ((mget d0_3 x_1.2.1).getD z_TB0).fPhys] 37 (0, 0))) :: H) rfl fun w_51 p_95 _ f => W_end rfl (N_goN 2 (mR _) p_95 rfl (N_end fun w_52 p_96 => T_n ?_))
         exact ⟨d0_4 ++ [(⟨x_1.2.1, x_1.2.2.1, x_1.2.2.2.1, x_1.2.2.2.2.1, y_1.1⟩ : TF0)], (sI hF_9).symm, M_7, (mR _), A_18, cap_18, cs_10, hr_10, f.kp, p_96⟩
        exact N_none
       exact N_none
      exact N_none
     refine N_alt rfl (fun w_53 p_97 => ?_) ?_
     ·refine V_allocS (k := 1) (c := 1) f p_97 (.cells #[.int .i64 x_1.2.1, .int .i8 x_1.2.2.1, S x_1.2.2.2.1, S x_1.2.2.2.2.1, .slice A_15 y_1.1.length cap_15] 31 (0, 0)) (by kernel_rfl) (fun _ => by kernel_rfl) fun b_9 w_54 p_98 _ f => W_end rfl (N_goN 3 (mR _) p_98 rfl (N_alt rfl (fun w_55 p_99 => ?_) ?_))
      ·refine Z f (Y32 (v := .slice A_3 d0_4.length cap_3) rfl (ad := ⟨b0, 4, none⟩) (p_99.ownCell 1 rfl 4)) fun _ f => W_end rfl (N_goN 3 (mR _) p_99 rfl (N_alt rfl (fun w_56 p_100 => ?_) ?_))
       ·have p_101 := p_100.pl [2]
        refine Y22 (z := .agg #[.int .i64 0, .int .i8 0, S [], S [], .slice none 0 0]) (f := emb_TF0) (xs := d0_4) (ys := [(⟨x_1.2.1, x_1.2.2.1, x_1.2.2.2.1, x_1.2.2.2.2.1, y_1.1⟩ : TF0)]) (news := [.int .i64 x_1.2.1, .int .i8 x_1.2.2.1, S x_1.2.2.2.1, S x_1.2.2.2.2.1, .slice A_15 y_1.1.length cap_15]) (ad := ⟨b_9, 0, none⟩) (m := 1) (c := 1) f p_101 (RepSeq.mono ((hM_1.trans hM_2).trans hM_7) _ _ hr_2) (by exact ⟨_, _, rfl, TF0.shut h_10, rfl⟩) rfl rfl rfl rfl (own_cells (p_101.ownCell 1 rfl) 0 rfl) (by exact g_2) (by have hg_ := g_2; first | omega | (simp only [List.length_cons, List.length_nil] at *; omega)) fun A_19 cap_19 cs_11 w_57 p_102 hr_11 _ f => ?_
        have p_103 := p_102.pl [1]
        have p_104 := p_103.drop
        refine W_end rfl (N_goN 2 (mR _) p_104 rfl (Y1 (v := .pointer (some (⟨b0, 0, none⟩))) rfl f rfl rfl (fun _ _ => by kernel_rfl) fun _ f => Y1 (v := .pointer (some (⟨b0, 4, none⟩))) rfl f rfl rfl (fun _ _ => by kernel_rfl) fun _ f => N_alt rfl (fun w_58 p_105 => ?_) ?_))
        ·refine Y26 f p_105 1 rfl rfl (b := b0) (j := 4) (v := .slice A_19 (d0_4 ++ [(⟨x_1.2.1, x_1.2.2.1, x_1.2.2.2.1, x_1.2.2.2.2.1, y_1.1⟩ : TF0)]).length cap_19) rfl (by exact rfl) (by simp) (by simp) ((Ent.row 31 5 (.slice A_19 (d0_4 ++ [(⟨x_1.2.1, x_1.2.2.1, x_1.2.2.2.1, x_1.2.2.2.2.1, y_1.1⟩ : TF0)]).length cap_19) (d0_4 ++ [(⟨x_1.2.1, x_1.2.2.1, x_1.2.2.2.1, x_1.2.2.2.2.1, y_1.1⟩ : TF0)]).length cs_11) :: (Ent.obj b0 (.cells #[.slice A_1 d0_0.length cap_1, .int .i64 d0_1, .slice A_16 y_1.2.length cap_16, .map (some m0_3), .slice A_19 (d0_4 ++ [(⟨x_1.2.1, x_1.2.2.1, x_1.2.2.2.1, x_1.2.2.2.2.1, y_1.1⟩ : TF0)]).length cap_19, .int .i64 d0_5] 64 (0, 0))) :: (Ent.row 31 5 (.slice A_16 y_1.2.length cap_16) y_1.2.length cs_8) :: (Ent.obj b_1 (.cells #[.int .i64 x_1.2.1, .int .i8 x_1.2.2.1, S x_1.2.2.2.1, S x_1.2.2.2.2.1, .slice A_15 y_1.1.length cap_15] 31 (0, 0))) :: (Ent.obj m0_3 (mapO (Value.int .i64) (fun x : TB0 => Value.agg #[.bool x.fEnded, .bool x.fOk, S x.fPhys]) (mput d0_3 x_1.2.1 z_TB0))) :: (Ent.obj b_2 (.cells #[.bool ((mget d0_3 x_1.2.1).getD z_TB0).fEnded, .bool ((mget d0_3 x_1.2.1).getD z_TB0).fOk, S ((mget d0_3 x_1.2.1).getD z_TB0).fPhys] 37 (0, 0))) :: H) rfl fun w_59 p_106 _ f => W_end rfl (N_goN 2 (mR _) p_106 rfl (N_end fun w_60 p_107 => T_n ?_))
         exact ⟨d0_4 ++ [(⟨x_1.2.1, x_1.2.2.1, x_1.2.2.2.1, x_1.2.2.2.2.1, y_1.1⟩ : TF0)], (sI hF_9).symm, M_7, (mR _), A_19, cap_19, cs_11, hr_11, f.kp, p_107⟩
        exact N_none
       exact N_none
      exact N_none
     exact N_none
    ·rintro a_88 w_61 ⟨y_2, hq_2, M_8, hM_8, A_20, cap_20, cs_12, hr_12, f, p_108⟩
     subst j_2
     refine T_n (RR (Y f 1 fun _ f => eT (wp_ret (E_ret1 f rfl (by kernel_rfl : Vc.look _ 4 = some (.int .i64 0)) ?_))))
     obtain rfl := sI hF_8
     have p_113 := p_108.pl [4, 3, 3, 5, 5]
     exact ⟨_, rfl, M_8, _, (((hM_1.trans hM_2).trans hM_7).trans hM_8), (p_113.dropN 2), ⟨A_1, cap_1, A_16, cap_16, cs_8, A_20, cap_20, cs_12, rfl, rfl, (h_1.mono (((hM_1.trans hM_2).trans hM_7).trans hM_8)), (RepSeq.mono hM_8 _ _ hr_8), hr_12⟩⟩
  ·have k_4 : ((mget d0_3 x_1.2.1).isSome) = true := by simpa using h_5
   refine wp_skip (T_n (RR (Y f 1 fun _ f => eT (wp_ret (E_ret1 f rfl (by kernel_rfl : Vc.look _ 4 = some (.int .i64 0)) ?_)))))
   obtain rfl := sI hF_10
   exact ⟨_, rfl, M_1, _, hM_1, (p_7.dropN 2), ⟨A_1, cap_1, A_2, cap_2, cs_1, A_3, cap_3, cs_2, rfl, rfl, (h_1.mono hM_1), (RepSeq.mono hM_1 _ _ hr_1), (RepSeq.mono hM_1 _ _ hr_2)⟩⟩
def cloud_Cloud_effect (n : Nat) (d0_0 : List TE0) (d0_1 : Int) (d0_2 : List TF0) (d0_3 : List (Int × TB0)) (d0_4 : List TF0) (d0_5 : Int) (d1_0 : Int) (d1_1 : Int) (d1_2 : List UInt8) (d1_3 : List UInt8) (d1_4 : List TC0) : Option (TB0 × List TE0 × Int × List TF0 × (List (Int × TB0)) × List TF0 × Int × Int × Int × List UInt8 × List UInt8 × List TC0) :=
  ((bif (decide (d1_1 = 0)) then
      ((store_Create n (⟨d0_0, d0_1⟩ : TA0) d1_3 d1_4).bind fun x_1 =>
      some ((x_1.2.1, x_1.2.2, x_1.1.fL, x_1.1.fMade)))
    else
      bif (decide (d1_1 = 1)) then
        ((store_Update n (⟨d0_0, d0_1⟩ : TA0) d1_2 d1_4).bind fun x_2 =>
        some ((([] : List UInt8), x_2.2, x_2.1.fL, x_2.1.fMade)))
      else
        bif (decide (d1_1 = 2)) then
          ((store_Delete n (⟨d0_0, d0_1⟩ : TA0) d1_2).bind fun x_3 =>
          some ((([] : List UInt8), x_3.2, x_3.1.fL, x_3.1.fMade)))
        else
          some ((([] : List UInt8), (0 : Int), d0_0, d0_1)) : Option (List UInt8 × Int × List TE0 × Int))).bind fun y_1 =>
  bif (!(decide (y_1.2.1 = 0))) then
    (some (((⟨(true), (false), ([] : List UInt8)⟩ : TB0), d0_0, d0_1, d0_2, d0_3, d0_4, d0_5, d1_0, d1_1, d1_2, d1_3, d1_4)))
  else
    bif (decide (d1_1 = 0)) then
      (need (inR .i64 (d0_5 + 1)) <|
      some (((⟨(true), (true), y_1.1⟩ : TB0), y_1.2.2.1, y_1.2.2.2, d0_2, d0_3, d0_4, d0_5 + 1, d1_0, d1_1, d1_2, d1_3, d1_4)))
    else
      some (((⟨(true), (true), y_1.1⟩ : TB0), y_1.2.2.1, y_1.2.2.2, d0_2, d0_3, d0_4, d0_5, d1_0, d1_1, d1_2, d1_3, d1_4))
set_option maxRecDepth 20000 in
theorem cloud_Cloud_effect_ok (n : Nat) (M : Mem) (hG : GL M) (b0 : Nat) (d0_0 : List TE0) (A_1 : Option Addr) (cap_1 : Nat) (h_1 : Sli M 3 emb_TE0 A_1 cap_1 d0_0) (d0_1 : Int) (d0_2 : List TF0) (A_2 : Option Addr) (cap_2 : Nat) (cs_1 : List Value) (hr_1 : RepSeq M (d0_2.map emb_TF0) cs_1) (m0_3 : Nat) (d0_3 : List (Int × TB0)) (d0_4 : List TF0) (A_3 : Option Addr) (cap_3 : Nat) (cs_2 : List Value) (hr_2 : RepSeq M (d0_4.map emb_TF0) cs_2) (d0_5 : Int) (b1 : Nat) (d1_0 : Int) (d1_1 : Int) (d1_2 : List UInt8) (d1_3 : List UInt8) (d1_4 : List TC0) (A_4 : Option Addr) (cap_4 : Nat) (h_2 : Sli M 8 emb_TC0 A_4 cap_4 d1_4) (r : TB0 × List TE0 × Int × List TF0 × (List (Int × TB0)) × List TF0 × Int × Int × Int × List UInt8 × List UInt8 × List TC0) (hF : cloud_Cloud_effect n d0_0 d0_1 d0_2 d0_3 d0_4 d0_5 d1_0 d1_1 d1_2 d1_3 d1_4 = some r) : OkH Tryz.prog M [Ent.obj b0 (.cells #[.slice A_1 d0_0.length cap_1, .int .i64 d0_1, .slice A_2 d0_2.length cap_2, .map (some m0_3), .slice A_3 d0_4.length cap_3, .int .i64 d0_5] 64 (0, 0)), Ent.row 31 5 (.slice A_2 d0_2.length cap_2) d0_2.length cs_1, Ent.obj m0_3 (mapO (Value.int .i64) (fun x : TB0 => Value.agg #[.bool x.fEnded, .bool x.fOk, S x.fPhys]) d0_3), Ent.row 31 5 (.slice A_3 d0_4.length cap_3) d0_4.length cs_2, Ent.obj b1 (.cells #[.int .i64 d1_0, .int .i8 d1_1, S d1_2, S d1_3, .slice A_4 d1_4.length cap_4] 31 (0, 0))] 32 [.pointer (some (⟨b0, 0, none⟩)), .pointer (some (⟨b1, 0, none⟩))] (fun M' E' v => ∃ (c0 : List Value) (A_9 : Option Addr) (cap_9 : Nat) (A_10 : Option Addr) (cap_10 : Nat) (cs_3 : List Value) (A_11 : Option Addr) (cap_11 : Nat) (cs_4 : List Value) (A_12 : Option Addr) (cap_12 : Nat), v = .agg c0.toArray ∧ E' = [Ent.obj b0 (.cells #[.slice A_9 r.2.1.length cap_9, .int .i64 r.2.2.1, .slice A_10 r.2.2.2.1.length cap_10, .map (some m0_3), .slice A_11 r.2.2.2.2.2.1.length cap_11, .int .i64 r.2.2.2.2.2.2.1] 64 (0, 0)), Ent.row 31 5 (.slice A_10 r.2.2.2.1.length cap_10) r.2.2.2.1.length cs_3, Ent.obj m0_3 (mapO (Value.int .i64) (fun x : TB0 => Value.agg #[.bool x.fEnded, .bool x.fOk, S x.fPhys]) r.2.2.2.2.1), Ent.row 31 5 (.slice A_11 r.2.2.2.2.2.1.length cap_11) r.2.2.2.2.2.1.length cs_4, Ent.obj b1 (.cells #[.int .i64 r.2.2.2.2.2.2.2.1, .int .i8 r.2.2.2.2.2.2.2.2.1, S r.2.2.2.2.2.2.2.2.2.1, S r.2.2.2.2.2.2.2.2.2.2.1, .slice A_12 r.2.2.2.2.2.2.2.2.2.2.2.length cap_12] 31 (0, 0))] ∧ Rep M' (emb_TB0 r.1) c0 ∧ Sli M' 3 emb_TE0 A_9 cap_9 r.2.1 ∧ RepSeq M' (r.2.2.2.1.map emb_TF0) cs_3 ∧ RepSeq M' (r.2.2.2.2.2.1.map emb_TF0) cs_4 ∧ Sli M' 8 emb_TC0 A_12 cap_12 r.2.2.2.2.2.2.2.2.2.2.2) := by
 unfold cloud_Cloud_effect at hF
 intro M1 hM0 w0 H w p0
 replace hG := GL.mono hM0 hG
 replace h_1 := h_1.mono hM0
 replace hr_1 := RepSeq.mono hM0 _ _ hr_1
 replace hr_2 := RepSeq.mono hM0 _ _ hr_2
 replace h_2 := h_2.mono hM0
 refine R_enter 91 Tryz.func32 rfl rfl (by simp) fun a0 f0 => RR (Y12 f0 p0 (.cells #[.bool false, .bool false, S []] 37 (0, 0)) fun b_1 w_1 p_1 _ f => eT (RR (Y f 1 fun _ f => Y26 f p_1 0 rfl rfl (b := b_1) (j := 0) (v := .bool true) rfl (by exact rfl) (by simp) (by simp) ((Ent.obj b_1 (.cells #[.bool true, .bool false, S []] 37 (0, 0))) :: (Ent.obj b0 (.cells #[.slice A_1 d0_0.length cap_1, .int .i64 d0_1, .slice A_2 d0_2.length cap_2, .map (some m0_3), .slice A_3 d0_4.length cap_3, .int .i64 d0_5] 64 (0, 0))) :: (Ent.row 31 5 (.slice A_2 d0_2.length cap_2) d0_2.length cs_1) :: (Ent.obj m0_3 (mapO (Value.int .i64) (fun x : TB0 => Value.agg #[.bool x.fEnded, .bool x.fOk, S x.fPhys]) d0_3)) :: (Ent.row 31 5 (.slice A_3 d0_4.length cap_3) d0_4.length cs_2) :: (Ent.obj b1 (.cells #[.int .i64 d1_0, .int .i8 d1_1, S d1_2, S d1_3, .slice A_4 d1_4.length cap_4] 31 (0, 0))) :: H) rfl fun w_2 p_2 _ f => eT (RR (Y f 3 fun _ f => Z (v := .agg #[.slice A_1 d0_0.length cap_1, .int .i64 d0_1]) f (Y33 (cs := [.slice A_1 d0_0.length cap_1, .int .i64 d0_1]) rfl (ad := ⟨b0, 0, none⟩) (own_cells (p_2.ownCell 1 rfl) 0 rfl)) fun _ f => Y12 f p_2 (.cells #[.slice none 0 0, .int .i64 0] 62 (0, 0)) fun b_2 w_3 p_3 _ f => Y27 (vs := [.slice A_1 d0_0.length cap_1, .int .i64 d0_1]) (j := 0) f p_3 rfl rfl (by simp [Value.oneCell', S]) (by simp) (by decide) (cs' := #[.slice A_1 d0_0.length cap_1, .int .i64 d0_1]) (by kernel_rfl) fun w_4 p_4 _ f => ?_)))))
 refine Y f 2 fun _ f => eT (R_seq (RR (Y f 3 fun _ f => Z f (Y32 (v := .int .i8 d1_1) rfl (ad := ⟨b1, 1, none⟩) (p_4.ownCell 6 rfl 1)) fun _ f => eT ?_)))
 obtain ⟨j_1, hj_1, hF_1⟩ := bS hF
 refine R_mid (fun a_42 w_20 => ∃ y_1 : List UInt8 × Int × List TE0 × Int, j_1 = y_1 ∧ ∃ M_4 : Mem, M1.le M_4 ∧ ∃ (A_8 : Option Addr), ∃ (cap_8 : Nat), Sli M_4 3 emb_TE0 A_8 cap_8 y_1.2.2.1 ∧ Frm 91 [(0, .pointer (some (⟨b0, 0, none⟩))), (1, .pointer (some (⟨b1, 0, none⟩))), (4, .pointer (some (⟨b_1, 0, none⟩))), (5, .pointer (some (⟨b_2, 0, none⟩))), (6, S y_1.1), (7, .int .i64 y_1.2.1)] a_42 ∧ Hp w0 M_4 ((Ent.obj b_2 (.cells #[.slice A_8 y_1.2.2.1.length cap_8, .int .i64 y_1.2.2.2] 62 (0, 0))) :: (Ent.obj b_1 (.cells #[.bool true, .bool false, S []] 37 (0, 0))) :: (Ent.obj b0 (.cells #[.slice A_1 d0_0.length cap_1, .int .i64 d0_1, .slice A_2 d0_2.length cap_2, .map (some m0_3), .slice A_3 d0_4.length cap_3, .int .i64 d0_5] 64 (0, 0))) :: (Ent.row 31 5 (.slice A_2 d0_2.length cap_2) d0_2.length cs_1) :: (Ent.obj m0_3 (mapO (Value.int .i64) (fun x : TB0 => Value.agg #[.bool x.fEnded, .bool x.fOk, S x.fPhys]) d0_3)) :: (Ent.row 31 5 (.slice A_3 d0_4.length cap_3) d0_4.length cs_2) :: (Ent.obj b1 (.cells #[.int .i64 d1_0, .int .i8 d1_1, S d1_2, S d1_3, .slice A_4 d1_4.length cap_4] 31 (0, 0))) :: H) w_20) ?_ ?_
 ·refine wp_block (RR (Y f 2 fun _ f => eT (RcF f hj_1 (fun h_3 hF_2 => ?_) fun h_3 hF_4 => ?_)))
  ·have k_1 := dI.1 h_3
   refine R_mix (E := [Ent.obj b_2 (.cells #[.slice A_1 d0_0.length cap_1, .int .i64 d0_1] 62 (0, 0))]) (Hr := ((Ent.obj b_1 (.cells #[.bool true, .bool false, S []] 37 (0, 0))) :: (Ent.obj b0 (.cells #[.slice A_1 d0_0.length cap_1, .int .i64 d0_1, .slice A_2 d0_2.length cap_2, .map (some m0_3), .slice A_3 d0_4.length cap_3, .int .i64 d0_5] 64 (0, 0))) :: (Ent.row 31 5 (.slice A_2 d0_2.length cap_2) d0_2.length cs_1) :: (Ent.obj m0_3 (mapO (Value.int .i64) (fun x : TB0 => Value.agg #[.bool x.fEnded, .bool x.fOk, S x.fPhys]) d0_3)) :: (Ent.row 31 5 (.slice A_3 d0_4.length cap_3) d0_4.length cs_2) :: (Ent.obj b1 (.cells #[.int .i64 d1_0, .int .i8 d1_1, S d1_2, S d1_3, .slice A_4 d1_4.length cap_4] 31 (0, 0))) :: H)) [(0, true), (1, true), (2, true), (3, true), (4, true), (5, true), (6, true), (7, true), (8, true), (9, true), (10, true), (11, true), (12, false), (13, true), (14, true), (15, true), (16, true), (17, false), (18, true), (19, true)] p_4 (by kernel_rfl) (by kernel_rfl) rfl (by kernel_rfl) (Y0 default f 3 fun _ f => M_eq (v := .agg #[.slice A_1 d0_0.length cap_1, .int .i64 d0_1]) f (by kernel_rfl) (by kernel_rfl) rfl rfl (fun _ pq => Y33 (cs := [.slice A_1 d0_0.length cap_1, .int .i64 d0_1]) rfl (ad := ⟨b0, 0, none⟩) (own_cells (pq.ownCell 1 rfl) 0 rfl)) fun _ f => Y0 default f 3 fun _ f => M_eq (v := S d1_3) f (by kernel_rfl) (by kernel_rfl) rfl rfl (fun _ pq => Y32 (v := S d1_3) rfl (ad := ⟨b1, 3, none⟩) (pq.ownCell 5 rfl 3)) fun _ f => Y0 default f 3 fun _ f => M_eq (v := .slice A_4 d1_4.length cap_4) f (by kernel_rfl) (by kernel_rfl) rfl rfl (fun _ pq => Y32 (v := .slice A_4 d1_4.length cap_4) rfl (ad := ⟨b1, 4, none⟩) (pq.ownCell 5 rfl 4)) fun _ f => M_fix (E := [Ent.obj b_2 (.cells #[.slice A_1 d0_0.length cap_1, .int .i64 d0_1] 62 (0, 0))]) fun w_5 p_5 => ?_)
   obtain ⟨x_1, hx_1, hF_3⟩ := bS hF_2
   refine Y16 f p_5 (store_Create_ok n _ hG _ (⟨d0_0, d0_1⟩ : TA0) (TA0.shut h_1) d1_3 A_4 cap_4 d1_4 h_2 x_1 hx_1) fun _ M_1 w_6 hM_1 p_6 q_1 _ f => ?_
   obtain ⟨c_1, rfl, hr_3⟩ := q_1
   obtain ⟨A_5, cap_5, rfl, h_4⟩ := TA0.opn hr_3
   refine W_end rfl (M_go (M1 := M_1) (E := [Ent.obj b_2 (.cells #[.slice A_1 d0_0.length cap_1, .int .i64 d0_1] 62 (0, 0))]) hM_1 p_6 (Y0 default f 4 fun _ f => M_fix (E := [Ent.obj b_2 (.cells #[.slice A_1 d0_0.length cap_1, .int .i64 d0_1] 62 (0, 0))]) fun w_7 p_7 => Y27 (vs := [.slice A_5 x_1.1.fL.length cap_5, .int .i64 x_1.1.fMade]) (j := 0) f p_7 rfl rfl (by simp [Value.oneCell', S]) (by simp) (by decide) (cs' := #[.slice A_5 x_1.1.fL.length cap_5, .int .i64 x_1.1.fMade]) (by kernel_rfl) fun w_8 p_8 _ f => W_end rfl (M_go (M1 := M_1) (E := [Ent.obj b_2 (.cells #[.slice A_5 x_1.1.fL.length cap_5, .int .i64 x_1.1.fMade] 62 (0, 0))]) hM_1 p_8 (Y0 default f 2 fun _ f => M_end rfl fun w_9 p_9 => B_n (T_n ?_)))))
   exact ⟨(x_1.2.1, x_1.2.2, x_1.1.fL, x_1.1.fMade), (sI hF_3).symm, M_1, hM_1, A_5, cap_5, h_4, f.kp, p_9⟩
  ·have k_2 := iff_f dI h_3
   refine RR (Y f 2 fun _ f => eT (RcF f hF_4 (fun h_5 hF_5 => ?_) fun h_5 hF_7 => ?_))
   ·have k_3 := dI.1 h_5
    refine R_mix (E := [Ent.obj b_2 (.cells #[.slice A_1 d0_0.length cap_1, .int .i64 d0_1] 62 (0, 0))]) (Hr := ((Ent.obj b_1 (.cells #[.bool true, .bool false, S []] 37 (0, 0))) :: (Ent.obj b0 (.cells #[.slice A_1 d0_0.length cap_1, .int .i64 d0_1, .slice A_2 d0_2.length cap_2, .map (some m0_3), .slice A_3 d0_4.length cap_3, .int .i64 d0_5] 64 (0, 0))) :: (Ent.row 31 5 (.slice A_2 d0_2.length cap_2) d0_2.length cs_1) :: (Ent.obj m0_3 (mapO (Value.int .i64) (fun x : TB0 => Value.agg #[.bool x.fEnded, .bool x.fOk, S x.fPhys]) d0_3)) :: (Ent.row 31 5 (.slice A_3 d0_4.length cap_3) d0_4.length cs_2) :: (Ent.obj b1 (.cells #[.int .i64 d1_0, .int .i8 d1_1, S d1_2, S d1_3, .slice A_4 d1_4.length cap_4] 31 (0, 0))) :: H)) [(0, true), (1, true), (2, true), (3, true), (4, true), (5, true), (6, true), (7, true), (8, true), (9, true), (10, true), (11, true), (12, false), (13, true), (14, true), (15, true), (16, false), (17, true)] p_4 (by kernel_rfl) (by kernel_rfl) rfl (by kernel_rfl) (Y0 default f 3 fun _ f => M_eq (v := .agg #[.slice A_1 d0_0.length cap_1, .int .i64 d0_1]) f (by kernel_rfl) (by kernel_rfl) rfl rfl (fun _ pq => Y33 (cs := [.slice A_1 d0_0.length cap_1, .int .i64 d0_1]) rfl (ad := ⟨b0, 0, none⟩) (own_cells (pq.ownCell 1 rfl) 0 rfl)) fun _ f => Y0 default f 3 fun _ f => M_eq (v := S d1_2) f (by kernel_rfl) (by kernel_rfl) rfl rfl (fun _ pq => Y32 (v := S d1_2) rfl (ad := ⟨b1, 2, none⟩) (pq.ownCell 5 rfl 2)) fun _ f => Y0 default f 3 fun _ f => M_eq (v := .slice A_4 d1_4.length cap_4) f (by kernel_rfl) (by kernel_rfl) rfl rfl (fun _ pq => Y32 (v := .slice A_4 d1_4.length cap_4) rfl (ad := ⟨b1, 4, none⟩) (pq.ownCell 5 rfl 4)) fun _ f => M_fix (E := [Ent.obj b_2 (.cells #[.slice A_1 d0_0.length cap_1, .int .i64 d0_1] 62 (0, 0))]) fun w_10 p_10 => ?_)
    obtain ⟨x_2, hx_2, hF_6⟩ := bS hF_5
    refine Y16 f p_10 (store_Update_ok n _ hG _ (⟨d0_0, d0_1⟩ : TA0) (TA0.shut h_1) d1_2 A_4 cap_4 d1_4 h_2 x_2 hx_2) fun _ M_2 w_11 hM_2 p_11 q_2 _ f => ?_
    obtain ⟨c_2, rfl, hr_4⟩ := q_2
    obtain ⟨A_6, cap_6, rfl, h_6⟩ := TA0.opn hr_4
    refine W_end rfl (M_go (M1 := M_2) (E := [Ent.obj b_2 (.cells #[.slice A_1 d0_0.length cap_1, .int .i64 d0_1] 62 (0, 0))]) hM_2 p_11 (Y0 default f 3 fun _ f => M_fix (E := [Ent.obj b_2 (.cells #[.slice A_1 d0_0.length cap_1, .int .i64 d0_1] 62 (0, 0))]) fun w_12 p_12 => Y27 (vs := [.slice A_6 x_2.1.fL.length cap_6, .int .i64 x_2.1.fMade]) (j := 0) f p_12 rfl rfl (by simp [Value.oneCell', S]) (by simp) (by decide) (cs' := #[.slice A_6 x_2.1.fL.length cap_6, .int .i64 x_2.1.fMade]) (by kernel_rfl) fun w_13 p_13 _ f => W_end rfl (M_go (M1 := M_2) (E := [Ent.obj b_2 (.cells #[.slice A_6 x_2.1.fL.length cap_6, .int .i64 x_2.1.fMade] 62 (0, 0))]) hM_2 p_13 (Y0 default f 1 fun _ f => M_end rfl fun w_14 p_14 => B_n (T_n ?_)))))
    exact ⟨(([] : List UInt8), x_2.2, x_2.1.fL, x_2.1.fMade), (sI hF_6).symm, M_2, hM_2, A_6, cap_6, h_6, f.kp, p_14⟩
   ·have k_4 := iff_f dI h_5
    refine RR (Y f 2 fun _ f => eT (RcF f hF_7 (fun h_7 hF_8 => ?_) fun h_7 hF_10 => ?_))
    ·have k_5 := dI.1 h_7
     refine R_mix (E := [Ent.obj b_2 (.cells #[.slice A_1 d0_0.length cap_1, .int .i64 d0_1] 62 (0, 0))]) (Hr := ((Ent.obj b_1 (.cells #[.bool true, .bool false, S []] 37 (0, 0))) :: (Ent.obj b0 (.cells #[.slice A_1 d0_0.length cap_1, .int .i64 d0_1, .slice A_2 d0_2.length cap_2, .map (some m0_3), .slice A_3 d0_4.length cap_3, .int .i64 d0_5] 64 (0, 0))) :: (Ent.row 31 5 (.slice A_2 d0_2.length cap_2) d0_2.length cs_1) :: (Ent.obj m0_3 (mapO (Value.int .i64) (fun x : TB0 => Value.agg #[.bool x.fEnded, .bool x.fOk, S x.fPhys]) d0_3)) :: (Ent.row 31 5 (.slice A_3 d0_4.length cap_3) d0_4.length cs_2) :: (Ent.obj b1 (.cells #[.int .i64 d1_0, .int .i8 d1_1, S d1_2, S d1_3, .slice A_4 d1_4.length cap_4] 31 (0, 0))) :: H)) [(0, true), (1, true), (2, true), (3, true), (4, true), (5, true), (6, true), (7, true), (8, false), (9, true), (10, true), (11, true), (12, false), (13, true)] p_4 (by kernel_rfl) (by kernel_rfl) rfl (by kernel_rfl) (Y0 default f 3 fun _ f => M_eq (v := .agg #[.slice A_1 d0_0.length cap_1, .int .i64 d0_1]) f (by kernel_rfl) (by kernel_rfl) rfl rfl (fun _ pq => Y33 (cs := [.slice A_1 d0_0.length cap_1, .int .i64 d0_1]) rfl (ad := ⟨b0, 0, none⟩) (own_cells (pq.ownCell 1 rfl) 0 rfl)) fun _ f => Y0 default f 3 fun _ f => M_eq (v := S d1_2) f (by kernel_rfl) (by kernel_rfl) rfl rfl (fun _ pq => Y32 (v := S d1_2) rfl (ad := ⟨b1, 2, none⟩) (pq.ownCell 5 rfl 2)) fun _ f => M_fix (E := [Ent.obj b_2 (.cells #[.slice A_1 d0_0.length cap_1, .int .i64 d0_1] 62 (0, 0))]) fun w_15 p_15 => ?_)
     obtain ⟨x_3, hx_3, hF_9⟩ := bS hF_8
     refine Y16 f p_15 (store_Delete_ok n _ hG _ (⟨d0_0, d0_1⟩ : TA0) (TA0.shut h_1) d1_2 x_3 hx_3) fun _ M_3 w_16 hM_3 p_16 q_3 _ f => ?_
     obtain ⟨c_3, rfl, hr_5⟩ := q_3
     obtain ⟨A_7, cap_7, rfl, h_8⟩ := TA0.opn hr_5
     refine W_end rfl (M_go (M1 := M_3) (E := [Ent.obj b_2 (.cells #[.slice A_1 d0_0.length cap_1, .int .i64 d0_1] 62 (0, 0))]) hM_3 p_16 (Y0 default f 3 fun _ f => M_fix (E := [Ent.obj b_2 (.cells #[.slice A_1 d0_0.length cap_1, .int .i64 d0_1] 62 (0, 0))]) fun w_17 p_17 => Y27 (vs := [.slice A_7 x_3.1.fL.length cap_7, .int .i64 x_3.1.fMade]) (j := 0) f p_17 rfl rfl (by simp [Value.oneCell', S]) (by simp) (by decide) (cs' := #[.slice A_7 x_3.1.fL.length cap_7, .int .i64 x_3.1.fMade]) (by kernel_rfl) fun w_18 p_18 _ f => W_end rfl (M_go (M1 := M_3) (E := [Ent.obj b_2 (.cells #[.slice A_7 x_3.1.fL.length cap_7, .int .i64 x_3.1.fMade] 62 (0, 0))]) hM_3 p_18 (Y0 default f 1 fun _ f => M_end rfl fun w_19 p_19 => B_n (T_n ?_)))))
     exact ⟨(([] : List UInt8), x_3.2, x_3.1.fL, x_3.1.fMade), (sI hF_9).symm, M_3, hM_3, A_7, cap_7, h_8, f.kp, p_19⟩
    ·have k_6 := iff_f dI h_7
     refine wp_skip (B_n (T_n ?_))
     exact ⟨(([] : List UInt8), (0 : Int), d0_0, d0_1), (sI hF_10).symm, M1, (mR _), A_1, cap_1, h_1, f.kp, p_4⟩
 ·rintro a_42 w_20 ⟨y_1, hq_1, M_4, hM_4, A_8, cap_8, h_9, f, p_20⟩
  subst j_1
  refine T_n (R_seq (RR (Y f 2 fun _ f => eT (RcF f hF_1 (fun h_10 hF_11 => ?_) fun h_10 hF_12 => ?_))))
  ·have k_7 : ¬ (y_1.2.1 = 0) := (not_iff dI).1 h_10
   refine RR (Z (v := .agg #[.bool true, .bool false, S []]) f (Y33 (cs := [.bool true, .bool false, S []]) rfl (ad := ⟨b_1, 0, none⟩) (own_cells (p_20.ownCell 1 rfl) 0 rfl)) fun _ f => ?_)
   have p_21 := p_20.pl [1]
   refine Y27 (vs := [.bool true, .bool false, S []]) (j := 0) f p_21 rfl rfl (by simp [Value.oneCell', S]) (by simp) (by decide) (cs' := #[.bool true, .bool false, S []]) (by kernel_rfl) fun w_21 p_22 _ f => eT (wp_ret (T_r (E_rv1 f rfl (Y10 (cs := [.bool true, .bool false, S []]) (ad := ⟨b_1, 0, none⟩) f (own_cells (p_22.ownCell 0 rfl) 0 rfl)) ?_)))
   obtain rfl := sI hF_11
   exact ⟨_, rfl, M_4, _, hM_4, (p_22.dropN 2), ⟨[.bool true, .bool false, S []], A_1, cap_1, A_2, cap_2, cs_1, A_3, cap_3, cs_2, A_4, cap_4, rfl, rfl, (TB0.shut), (h_1.mono hM_4), (RepSeq.mono hM_4 _ _ hr_1), (RepSeq.mono hM_4 _ _ hr_2), (h_2.mono hM_4)⟩⟩
  ·have k_8 : ¬ (¬ (y_1.2.1 = 0)) := iff_f (not_iff dI) h_10
   refine wp_skip (T_n (RR (Y f 1 fun _ f => Z (v := .agg #[.slice A_8 y_1.2.2.1.length cap_8, .int .i64 y_1.2.2.2]) f (Y33 (cs := [.slice A_8 y_1.2.2.1.length cap_8, .int .i64 y_1.2.2.2]) rfl (ad := ⟨b_2, 0, none⟩) (own_cells (p_20.ownCell 0 rfl) 0 rfl)) fun _ f => Y f 3 fun _ f => ?_)))
   have p_23 := p_20.pl [2]
   refine Y27 (vs := [.slice A_8 y_1.2.2.1.length cap_8, .int .i64 y_1.2.2.2]) (j := 0) f p_23 rfl rfl (by simp [Value.oneCell', S]) (by simp) (by decide) (cs' := #[.slice A_8 y_1.2.2.1.length cap_8, .int .i64 y_1.2.2.2, .slice A_2 d0_2.length cap_2, .map (some m0_3), .slice A_3 d0_4.length cap_3, .int .i64 d0_5]) (by kernel_rfl) fun w_22 p_24 _ f => Y f 1 fun _ f => Y26 f p_24 2 rfl rfl (b := b_1) (j := 1) (v := .bool true) rfl (by exact rfl) (by simp) (by simp) ((Ent.obj b0 (.cells #[.slice A_8 y_1.2.2.1.length cap_8, .int .i64 y_1.2.2.2, .slice A_2 d0_2.length cap_2, .map (some m0_3), .slice A_3 d0_4.length cap_3, .int .i64 d0_5] 64 (0, 0))) :: (Ent.obj b_2 (.cells #[.slice A_8 y_1.2.2.1.length cap_8, .int .i64 y_1.2.2.2] 62 (0, 0))) :: (Ent.obj b_1 (.cells #[.bool true, .bool true, S []] 37 (0, 0))) :: (Ent.row 31 5 (.slice A_2 d0_2.length cap_2) d0_2.length cs_1) :: (Ent.obj m0_3 (mapO (Value.int .i64) (fun x : TB0 => Value.agg #[.bool x.fEnded, .bool x.fOk, S x.fPhys]) d0_3)) :: (Ent.row 31 5 (.slice A_3 d0_4.length cap_3) d0_4.length cs_2) :: (Ent.obj b1 (.cells #[.int .i64 d1_0, .int .i8 d1_1, S d1_2, S d1_3, .slice A_4 d1_4.length cap_4] 31 (0, 0))) :: H) rfl fun w_23 p_25 _ f => Y f 1 fun _ f => Y26 f p_25 2 rfl rfl (b := b_1) (j := 2) (v := S y_1.1) rfl (by exact rfl) (by simp) (by simp) ((Ent.obj b0 (.cells #[.slice A_8 y_1.2.2.1.length cap_8, .int .i64 y_1.2.2.2, .slice A_2 d0_2.length cap_2, .map (some m0_3), .slice A_3 d0_4.length cap_3, .int .i64 d0_5] 64 (0, 0))) :: (Ent.obj b_2 (.cells #[.slice A_8 y_1.2.2.1.length cap_8, .int .i64 y_1.2.2.2] 62 (0, 0))) :: (Ent.obj b_1 (.cells #[.bool true, .bool true, S y_1.1] 37 (0, 0))) :: (Ent.row 31 5 (.slice A_2 d0_2.length cap_2) d0_2.length cs_1) :: (Ent.obj m0_3 (mapO (Value.int .i64) (fun x : TB0 => Value.agg #[.bool x.fEnded, .bool x.fOk, S x.fPhys]) d0_3)) :: (Ent.row 31 5 (.slice A_3 d0_4.length cap_3) d0_4.length cs_2) :: (Ent.obj b1 (.cells #[.int .i64 d1_0, .int .i8 d1_1, S d1_2, S d1_3, .slice A_4 d1_4.length cap_4] 31 (0, 0))) :: H) rfl fun w_24 p_26 _ f => eT (R_seq (RR (Y f 3 fun _ f => Z f (Y32 (v := .int .i8 d1_1) rfl (ad := ⟨b1, 1, none⟩) (p_26.ownCell 6 rfl 1)) fun _ f => Y f 1 fun _ f => eT (RcF f hF_12 (fun h_11 hF_13 => ?_) fun h_11 hF_15 => ?_))))
   ·have k_9 := dI.1 h_11
    refine R_reg (Y f 3 fun _ f => Z f (Y32 (v := .int .i64 d0_5) rfl (ad := ⟨b0, 5, none⟩) (p_26.ownCell 0 rfl 5)) fun _ f => ?_)
    obtain ⟨g_1, hF_14⟩ := nS hF_13
    refine Y f 1 fun _ f => ?_
    have f := f.st 87 (congrArg (Value.int .i64) (inR_wrap g_1))
    refine Y f 2 fun _ f => Y26 f p_26 0 rfl rfl (b := b0) (j := 5) (v := .int .i64 (d0_5 + 1)) rfl (by exact rfl) (by simp) (by simp) ((Ent.obj b0 (.cells #[.slice A_8 y_1.2.2.1.length cap_8, .int .i64 y_1.2.2.2, .slice A_2 d0_2.length cap_2, .map (some m0_3), .slice A_3 d0_4.length cap_3, .int .i64 (d0_5 + 1)] 64 (0, 0))) :: (Ent.obj b_2 (.cells #[.slice A_8 y_1.2.2.1.length cap_8, .int .i64 y_1.2.2.2] 62 (0, 0))) :: (Ent.obj b_1 (.cells #[.bool true, .bool true, S y_1.1] 37 (0, 0))) :: (Ent.row 31 5 (.slice A_2 d0_2.length cap_2) d0_2.length cs_1) :: (Ent.obj m0_3 (mapO (Value.int .i64) (fun x : TB0 => Value.agg #[.bool x.fEnded, .bool x.fOk, S x.fPhys]) d0_3)) :: (Ent.row 31 5 (.slice A_3 d0_4.length cap_3) d0_4.length cs_2) :: (Ent.obj b1 (.cells #[.int .i64 d1_0, .int .i8 d1_1, S d1_2, S d1_3, .slice A_4 d1_4.length cap_4] 31 (0, 0))) :: H) rfl fun w_25 p_27 _ f => eT (RR (Z (v := .agg #[.bool true, .bool true, S y_1.1]) f (Y33 (cs := [.bool true, .bool true, S y_1.1]) rfl (ad := ⟨b_1, 0, none⟩) (own_cells (p_27.ownCell 2 rfl) 0 rfl)) fun _ f => ?_))
    have p_28 := p_27.pl [2]
    refine Y27 (vs := [.bool true, .bool true, S y_1.1]) (j := 0) f p_28 rfl rfl (by simp [Value.oneCell', S]) (by simp) (by decide) (cs' := #[.bool true, .bool true, S y_1.1]) (by kernel_rfl) fun w_26 p_29 _ f => eT (wp_ret (E_rv1 f rfl (Y10 (cs := [.bool true, .bool true, S y_1.1]) (ad := ⟨b_1, 0, none⟩) f (own_cells (p_29.ownCell 0 rfl) 0 rfl)) ?_))
    obtain rfl := sI hF_14
    have p_36 := p_29.pl [6, 6, 6, 6, 5, 6, 6]
    exact ⟨_, rfl, M_4, _, hM_4, (p_36.dropN 2), ⟨[.bool true, .bool true, S y_1.1], A_8, cap_8, A_2, cap_2, cs_1, A_3, cap_3, cs_2, A_4, cap_4, rfl, rfl, (TB0.shut), h_9, (RepSeq.mono hM_4 _ _ hr_1), (RepSeq.mono hM_4 _ _ hr_2), (h_2.mono hM_4)⟩⟩
   ·have k_10 := iff_f dI h_11
    refine wp_skip (T_n (RR (Z (v := .agg #[.bool true, .bool true, S y_1.1]) f (Y33 (cs := [.bool true, .bool true, S y_1.1]) rfl (ad := ⟨b_1, 0, none⟩) (own_cells (p_26.ownCell 2 rfl) 0 rfl)) fun _ f => ?_)))
    have p_37 := p_26.pl [2]
    refine Y27 (vs := [.bool true, .bool true, S y_1.1]) (j := 0) f p_37 rfl rfl (by simp [Value.oneCell', S]) (by simp) (by decide) (cs' := #[.bool true, .bool true, S y_1.1]) (by kernel_rfl) fun w_27 p_38 _ f => eT (wp_ret (E_rv1 f rfl (Y10 (cs := [.bool true, .bool true, S y_1.1]) (ad := ⟨b_1, 0, none⟩) f (own_cells (p_38.ownCell 0 rfl) 0 rfl)) ?_))
    obtain rfl := sI hF_15
    have p_45 := p_38.pl [6, 6, 6, 6, 5, 6, 6]
    exact ⟨_, rfl, M_4, _, hM_4, (p_45.dropN 2), ⟨[.bool true, .bool true, S y_1.1], A_8, cap_8, A_2, cap_2, cs_1, A_3, cap_3, cs_2, A_4, cap_4, rfl, rfl, (TB0.shut), h_9, (RepSeq.mono hM_4 _ _ hr_1), (RepSeq.mono hM_4 _ _ hr_2), (h_2.mono hM_4)⟩⟩
def cloud_Cloud_End (n : Nat) (d0_0 : List TE0) (d0_1 : Int) (d0_2 : List TF0) (d0_3 : List (Int × TB0)) (d0_4 : List TF0) (d0_5 : Int) (d1 : Int) (d2 : Bool) : Option (Int × TB0 × Int × List TE0 × Int × List TF0 × (List (Int × TB0)) × List TF0 × Int) :=
  ((bif (decide (d1 < 0)) then
      (some ((true)))
    else
      some ((decide (((d0_4.length : Nat) : Int) ≤ d1))) : Option Bool)).bind fun y_1 =>
  bif y_1 then
    (some (((0 : Int), z_TB0, (4 : Int), d0_0, d0_1, d0_2, d0_3, d0_4, d0_5)))
  else
    (getI d0_4 d1).bind fun x_1 =>
    ((need (inR .i64 (d1 + 1)) <|
      need (0 ≤ d1 ∧ d1 ≤ (d0_4.length : Int)) <|
      need (0 ≤ (d1 + 1) ∧ (d1 + 1) ≤ (d0_4.length : Int)) <|
      need ((d1 + 1).toNat = d1.toNat + 1 ∧ d1.toNat < d0_4.length) <|
      need (d0_4.length * 72 ≤ 140737488355328) <|
      some (d0_4.take d1.toNat ++ d0_4.drop (d1.toNat + 1)) : Option (List TF0))).bind fun y_2 =>
    ((bif d2 then
        ((cloud_Cloud_effect n d0_0 d0_1 d0_2 d0_3 y_2 d0_5 x_1.fToken x_1.fKind x_1.fPhys x_1.fType x_1.fProps).bind fun x_2 =>
        some (((x_2.1.fEnded), (x_2.1.fOk), x_2.1.fPhys, x_2.2.1, x_2.2.2.1, x_2.2.2.2.1, x_2.2.2.2.2.2.1, x_2.2.2.2.2.2.2.1, x_2.2.2.2.2.2.2.2.1, x_2.2.2.2.2.2.2.2.2.1, x_2.2.2.2.2.2.2.2.2.2.1, x_2.2.2.2.2.2.2.2.2.2.2.1, x_2.2.2.2.2.2.2.2.2.2.2.2, x_2.2.2.2.2.1)))
      else
        some (((true), (false), ([] : List UInt8), d0_0, d0_1, d0_2, y_2, d0_5, x_1.fToken, x_1.fKind, x_1.fPhys, x_1.fType, x_1.fProps, d0_3)) : Option (Bool × Bool × List UInt8 × List TE0 × Int × List TF0 × List TF0 × Int × Int × Int × List UInt8 × List UInt8 × List TC0 × (List (Int × TB0))))).bind fun y_3 =>
    some ((y_3.2.2.2.2.2.2.2.2.1, (⟨(y_3.1), (y_3.2.1), y_3.2.2.1⟩ : TB0), (0 : Int), y_3.2.2.2.1, y_3.2.2.2.2.1, y_3.2.2.2.2.2.1, mput y_3.2.2.2.2.2.2.2.2.2.2.2.2.2 y_3.2.2.2.2.2.2.2.2.1 (⟨(y_3.1), (y_3.2.1), y_3.2.2.1⟩ : TB0), y_3.2.2.2.2.2.2.1, y_3.2.2.2.2.2.2.2.1))
set_option maxRecDepth 20000 in
theorem cloud_Cloud_End_ok (n : Nat) (M : Mem) (hG : GL M) (b0 : Nat) (d0_0 : List TE0) (A_1 : Option Addr) (cap_1 : Nat) (h_1 : Sli M 3 emb_TE0 A_1 cap_1 d0_0) (d0_1 : Int) (d0_2 : List TF0) (A_2 : Option Addr) (cap_2 : Nat) (cs_1 : List Value) (hr_1 : RepSeq M (d0_2.map emb_TF0) cs_1) (m0_3 : Nat) (d0_3 : List (Int × TB0)) (d0_4 : List TF0) (A_3 : Option Addr) (cap_3 : Nat) (cs_2 : List Value) (hr_2 : RepSeq M (d0_4.map emb_TF0) cs_2) (d0_5 : Int) (d1 : Int) (d2 : Bool) (r : Int × TB0 × Int × List TE0 × Int × List TF0 × (List (Int × TB0)) × List TF0 × Int) (hF : cloud_Cloud_End n d0_0 d0_1 d0_2 d0_3 d0_4 d0_5 d1 d2 = some r) : OkH Tryz.prog M [Ent.obj b0 (.cells #[.slice A_1 d0_0.length cap_1, .int .i64 d0_1, .slice A_2 d0_2.length cap_2, .map (some m0_3), .slice A_3 d0_4.length cap_3, .int .i64 d0_5] 64 (0, 0)), Ent.row 31 5 (.slice A_2 d0_2.length cap_2) d0_2.length cs_1, Ent.obj m0_3 (mapO (Value.int .i64) (fun x : TB0 => Value.agg #[.bool x.fEnded, .bool x.fOk, S x.fPhys]) d0_3), Ent.row 31 5 (.slice A_3 d0_4.length cap_3) d0_4.length cs_2] 10 [.pointer (some (⟨b0, 0, none⟩)), .int .i64 d1, .bool d2] (fun M' E' v => ∃ (c1 : List Value) (A_35 : Option Addr) (cap_36 : Nat) (A_36 : Option Addr) (cap_37 : Nat) (cs_15 : List Value) (A_37 : Option Addr) (cap_38 : Nat) (cs_16 : List Value), v = .tuple #[.int .i64 r.1, .agg c1.toArray, .int .i64 r.2.2.1] ∧ E' = [Ent.obj b0 (.cells #[.slice A_35 r.2.2.2.1.length cap_36, .int .i64 r.2.2.2.2.1, .slice A_36 r.2.2.2.2.2.1.length cap_37, .map (some m0_3), .slice A_37 r.2.2.2.2.2.2.2.1.length cap_38, .int .i64 r.2.2.2.2.2.2.2.2] 64 (0, 0)), Ent.row 31 5 (.slice A_36 r.2.2.2.2.2.1.length cap_37) r.2.2.2.2.2.1.length cs_15, Ent.obj m0_3 (mapO (Value.int .i64) (fun x : TB0 => Value.agg #[.bool x.fEnded, .bool x.fOk, S x.fPhys]) r.2.2.2.2.2.2.1), Ent.row 31 5 (.slice A_37 r.2.2.2.2.2.2.2.1.length cap_38) r.2.2.2.2.2.2.2.1.length cs_16] ∧ Rep M' (emb_TB0 r.2.1) c1 ∧ Sli M' 3 emb_TE0 A_35 cap_36 r.2.2.2.1 ∧ RepSeq M' (r.2.2.2.2.2.1.map emb_TF0) cs_15 ∧ RepSeq M' (r.2.2.2.2.2.2.2.1.map emb_TF0) cs_16) := by
 unfold cloud_Cloud_End at hF
 intro M1 hM0 w0 H w p0
 replace hG := GL.mono hM0 hG
 replace h_1 := h_1.mono hM0
 replace hr_1 := RepSeq.mono hM0 _ _ hr_1
 replace hr_2 := RepSeq.mono hM0 _ _ hr_2
 refine R_enter 64 Tryz.func10 rfl rfl (by simp) fun a0 f0 => RR (Y f0 1 fun _ f => Y12 f p0 (.cells #[.bool false, .bool false, S []] 37 (0, 0)) fun b_1 w_1 p_1 _ f => Y f 1 fun _ f => eT (R_seq (RR (Y f 1 fun _ f => Z (v := .bool false) f (X_ptrNil (q := some (⟨b0, 0, none⟩)) (e := 64) rfl (by kernel_rfl) (by kernel_rfl) (by kernel_rfl) _) fun _ f => eT (Y7 f (wp_skip (T_n (R_seq (R_seq ?_)))))))))
 obtain ⟨j_1, hj_1, hF_1⟩ := bS hF
 refine R_mid (fun a_11 w_2 => ∃ y_1 : Bool, j_1 = y_1 ∧ ∃ M_1 : Mem, M1.le M_1 ∧ Frm 64 [(0, .pointer (some (⟨b0, 0, none⟩))), (1, .int .i64 d1), (2, .bool d2), (7, .pointer (some (⟨b_1, 0, none⟩))), (23, .bool y_1)] a_11 ∧ Hp w0 M_1 ((Ent.obj b_1 (.cells #[.bool false, .bool false, S []] 37 (0, 0))) :: (Ent.obj b0 (.cells #[.slice A_1 d0_0.length cap_1, .int .i64 d0_1, .slice A_2 d0_2.length cap_2, .map (some m0_3), .slice A_3 d0_4.length cap_3, .int .i64 d0_5] 64 (0, 0))) :: (Ent.row 31 5 (.slice A_2 d0_2.length cap_2) d0_2.length cs_1) :: (Ent.obj m0_3 (mapO (Value.int .i64) (fun x : TB0 => Value.agg #[.bool x.fEnded, .bool x.fOk, S x.fPhys]) d0_3)) :: (Ent.row 31 5 (.slice A_3 d0_4.length cap_3) d0_4.length cs_2) :: H) w_2) ?_ ?_
 ·refine R_reg (Y f 3 fun _ f => ?_)
  rcases cE hj_1 with ⟨h_2, hF_2⟩ | ⟨h_2, hF_3⟩
  ·have k_1 := dI.1 h_2
   have f := f.st 15 (cB h_2)
   refine Y f 8 fun _ f => eT ?_
   exact ⟨(true), (sI hF_2).symm, M1, (mR _), f.kp, p_1⟩
  ·have k_2 := iff_f dI h_2
   have f := f.st 15 (cB h_2)
   refine Y f 4 fun _ f => Z f (Y32 (v := .slice A_3 d0_4.length cap_3) rfl (ad := ⟨b0, 4, none⟩) (p_1.ownCell 1 rfl 4)) fun _ f => Y f 3 fun _ f => eT ?_
   exact ⟨(decide (((d0_4.length : Nat) : Int) ≤ d1)), (sI hF_3).symm, M1, (mR _), f.kp, p_1⟩
 ·rintro a_11 w_2 ⟨y_1, hq_1, M_1, hM_1, f, p_2⟩
  subst j_1
  refine T_n (RcF f hF_1 (fun h_3 hF_4 => ?_) fun h_3 hF_5 => ?_)
  ·refine R_seq (R_drawT 2 p_2 (by kernel_rfl) (by kernel_rfl) fun w_3 p_3 => ST_eq (v := .agg #[.bool false, .bool false, S []]) f (by kernel_rfl) (by kernel_rfl) rfl rfl (Y33 (cs := [.bool false, .bool false, S []]) rfl (ad := ⟨b_1, 0, none⟩) (own_cells (p_3.ownCell 0 rfl) 0 rfl)) fun _ f => ST_eq (v := .int .i64 0) f (by kernel_rfl) (by kernel_rfl) rfl rfl (by kernel_rfl) fun _ f => ST_end rfl (Y27 (vs := [.bool false, .bool false, S []]) (j := 0) f p_3 rfl rfl (by simp [Value.oneCell', S]) (by simp) (by decide) (cs' := #[.bool false, .bool false, S []]) (by kernel_rfl) fun w_4 p_4 _ f => Y f 1 fun _ f => eT (wp_ret (T_r (E_rv3 f rfl (Y11 (v := .int .i64 0) f) (Y10 (cs := [.bool false, .bool false, S []]) (ad := ⟨b_1, 0, none⟩) f (own_cells (p_4.ownCell 0 rfl) 0 rfl)) (Y11 (v := .int .i64 4) f) ?_)))))
   obtain rfl := sI hF_4
   exact ⟨_, rfl, M_1, _, hM_1, (p_4.dropN 1), ⟨[.bool false, .bool false, S []], A_1, cap_1, A_2, cap_2, cs_1, A_3, cap_3, cs_2, rfl, rfl, (TB0.shut), (h_1.mono hM_1), (RepSeq.mono hM_1 _ _ hr_1), (RepSeq.mono hM_1 _ _ hr_2)⟩⟩
  ·refine wp_skip (T_n (RR (Y f 3 fun _ f => Z f (Y32 (v := .slice A_3 d0_4.length cap_3) rfl (ad := ⟨b0, 4, none⟩) (p_2.ownCell 1 rfl 4)) fun _ f => Y f 1 fun _ f => ?_)))
   obtain ⟨x_1, hx_1, hF_6⟩ := bS hF_5
   obtain ⟨b_2, cap_4, hv_1, hcap_1⟩ := p_2.rowAddr 4 rfl (getI_pos hx_1)
   have f := f.st 28 (hv_1)
   refine Z f (Y30 rfl (ad := ⟨b_2, 0, none⟩) (len := d0_4.length) (cap := cap_4) (k := .i64) (i := d1) (e := 31) (sz := 5) (getI_nn hx_1) (getI_lt hx_1)) fun _ f => ?_
   have f := f.st 28 (hv_1.symm)
   obtain ⟨c_1, -, hr_3, hc_1⟩ := RepSeq.get d1.toNat (szd_all szd_TF0) (RepSeq.mono hM_1 _ _ hr_2) (getI_map hx_1)
   obtain ⟨A_4, cap_5, rfl, h_4⟩ := TF0.opn hr_3
   refine Z (v := .agg #[.int .i64 x_1.fToken, .int .i8 x_1.fKind, S x_1.fPhys, S x_1.fType, .slice A_4 x_1.fProps.length cap_5]) f (Y33 (cs := [.int .i64 x_1.fToken, .int .i8 x_1.fKind, S x_1.fPhys, S x_1.fType, .slice A_4 x_1.fProps.length cap_5]) rfl (ad := (⟨b_2, 0, none⟩ : Addr).add (d1.toNat * 5)) (fun j v h => row_at (p_2.rowCell 4 rfl hv_1) hc_1 j v h)) fun _ f => Y12 f p_2 (.cells #[.int .i64 0, .int .i8 0, S [], S [], .slice none 0 0] 31 (0, 0)) fun b_3 w_5 p_5 _ f => Y27 (vs := [.int .i64 x_1.fToken, .int .i8 x_1.fKind, S x_1.fPhys, S x_1.fType, .slice A_4 x_1.fProps.length cap_5]) (j := 0) f p_5 rfl rfl (by simp [Value.oneCell', S]) (by simp) (by decide) (cs' := #[.int .i64 x_1.fToken, .int .i8 x_1.fKind, S x_1.fPhys, S x_1.fType, .slice A_4 x_1.fProps.length cap_5]) (by kernel_rfl) fun w_6 p_6 _ f => eT (R_seq ?_)
   obtain ⟨j_2, hj_2, hF_7⟩ := bS hF_6
   refine R_mid (fun a_85 w_57 => ∃ y_2 : List TF0, j_2 = y_2 ∧ ∃ M_2 : Mem, M_1.le M_2 ∧ ∃ (A_26 : Option Addr), ∃ (cap_27 : Nat), ∃ (cs_10 : List Value), RepSeq M_2 (y_2.map emb_TF0) cs_10 ∧ Frm 64 [(0, .pointer (some (⟨b0, 0, none⟩))), (2, .bool d2), (7, .pointer (some (⟨b_1, 0, none⟩))), (9, .pointer (some (⟨b_3, 0, none⟩)))] a_85 ∧ Hp w0 M_2 ((Ent.row 31 5 (.slice A_26 y_2.length cap_27) y_2.length cs_10) :: (Ent.obj b0 (.cells #[.slice A_1 d0_0.length cap_1, .int .i64 d0_1, .slice A_2 d0_2.length cap_2, .map (some m0_3), .slice A_26 y_2.length cap_27, .int .i64 d0_5] 64 (0, 0))) :: (Ent.obj b_3 (.cells #[.int .i64 x_1.fToken, .int .i8 x_1.fKind, S x_1.fPhys, S x_1.fType, .slice A_4 x_1.fProps.length cap_5] 31 (0, 0))) :: (Ent.obj b_1 (.cells #[.bool false, .bool false, S []] 37 (0, 0))) :: (Ent.row 31 5 (.slice A_2 d0_2.length cap_2) d0_2.length cs_1) :: (Ent.obj m0_3 (mapO (Value.int .i64) (fun x : TB0 => Value.agg #[.bool x.fEnded, .bool x.fOk, S x.fPhys]) d0_3)) :: H) w_57) ?_ ?_
   ·have p_15 := p_6.pl [4, 4, 3, 3, 5, 5]
    obtain ⟨g_1, hF_8⟩ := nS hj_2
    obtain ⟨g_2, hF_9⟩ := nS hF_8
    obtain ⟨g_3, hF_10⟩ := nS hF_9
    obtain ⟨g_4, hF_11⟩ := nS hF_10
    obtain ⟨g_5, hF_12⟩ := nS hF_11
    refine R_plan (ks := []) (E := [Ent.obj b0 (.cells #[.slice A_1 d0_0.length cap_1, .int .i64 d0_1, .slice A_2 d0_2.length cap_2, .map (some m0_3), .slice A_3 d0_4.length cap_3, .int .i64 d0_5] 64 (0, 0)), Ent.row 31 5 (.slice A_3 d0_4.length cap_3) d0_4.length cs_2]) (Hr := ((Ent.obj b_3 (.cells #[.int .i64 x_1.fToken, .int .i8 x_1.fKind, S x_1.fPhys, S x_1.fType, .slice A_4 x_1.fProps.length cap_5] 31 (0, 0))) :: (Ent.obj b_1 (.cells #[.bool false, .bool false, S []] 37 (0, 0))) :: (Ent.row 31 5 (.slice A_2 d0_2.length cap_2) d0_2.length cs_1) :: (Ent.obj m0_3 (mapO (Value.int .i64) (fun x : TB0 => Value.agg #[.bool x.fEnded, .bool x.fOk, S x.fPhys]) d0_3)) :: H)) (.quiet 0 (.quiet 1 (.quiet 2 (.quiet 3 (.quiet 5 (.quiet 6 (.quiet 8 (.quiet 9 (.quiet 10 (.quiet 12 (.quiet 13 (.alt 4 (.alt 7 (.alt 11 (.alt 14 (.alt 15 (.quiet 16 (.quiet 17 (.alt 18 .done .none))) .none) .none) .none) (.alt 11 (.alt 7 (.alt 14 (.alt 15 (.quiet 16 (.quiet 17 (.alt 18 .done .none))) .none) .none) (.alt 14 (.alt 7 (.alt 15 (.quiet 16 (.quiet 17 (.alt 18 .done .none))) .none) .none) .none)) .none)) (.alt 11 (.alt 4 (.alt 7 (.alt 14 (.alt 15 (.quiet 16 (.quiet 17 (.alt 18 .done .none))) .none) .none) (.alt 14 (.alt 7 (.alt 15 (.quiet 16 (.quiet 17 (.alt 18 .done .none))) .none) .none) .none)) (.alt 14 (.alt 4 (.alt 7 (.alt 15 (.quiet 16 (.quiet 17 (.alt 18 .done .none))) .none) .none) .none) .none)) .none))))))))))))) p_15 (by kernel_rfl) (by kernel_rfl) (by kernel_rfl) (Y1 (v := .pointer (some (⟨b0, 0, none⟩))) rfl f rfl rfl (fun _ _ => by kernel_rfl) fun _ f => Y1 (v := .pointer (some (⟨b0, 0, none⟩))) rfl f rfl rfl (fun _ _ => by kernel_rfl) fun _ f => Y1 (v := .pointer (some (⟨b0, 0, none⟩))) rfl f rfl rfl (fun _ _ => by kernel_rfl) fun _ f => Y1 (v := .pointer (some (⟨b0, 4, none⟩))) rfl f rfl rfl (fun _ _ => by kernel_rfl) fun _ f => Y1 (v := .int .i64 d1) rfl f rfl rfl (fun _ _ => by kernel_rfl) fun _ f => Y1 (v := .int .i64 d1) rfl f rfl rfl (fun _ _ => by kernel_rfl) fun _ f => Y1 (v := .pointer (some (⟨b0, 0, none⟩))) rfl f rfl rfl (fun _ _ => by kernel_rfl) fun _ f => Y1 (v := .pointer (some (⟨b0, 0, none⟩))) rfl f rfl rfl (fun _ _ => by kernel_rfl) fun _ f => Y1 (v := .pointer (some (⟨b0, 4, none⟩))) rfl f rfl rfl (fun _ _ => by kernel_rfl) fun _ f => Y1 (v := .int .i64 d1) rfl f rfl rfl (fun _ _ => by kernel_rfl) fun _ f => ?_)
    refine Y1 (v := .int .i64 (IntKind.wrap .i64 (d1 + 1))) rfl f rfl rfl (fun _ pq => by kernel_rfl) fun _ f => ?_
    have f := f.st 45 (congrArg (Value.int .i64) (inR_wrap g_1))
    refine N_alt rfl (fun w_9 p_16 => ?_) ?_
    ·refine Z f (Y32 (v := .slice A_3 d0_4.length cap_3) rfl (ad := ⟨b0, 4, none⟩) (p_16.ownCell 0 rfl 4)) fun _ f => W_end rfl (N_goN 2 (mR _) p_16 rfl (N_alt rfl (fun w_10 p_17 => ?_) ?_))
     ·obtain ⟨A_8, cap_9, hv_4, hcap_4, hcn_3⟩ := p_17.rowShape 1 rfl
      have f := f.st 36 (hv_4)
      refine Z (v := .slice (cutA A_8 5 0 d1.toNat) d1.toNat d1.toNat) f (Y35 rfl (A := A_8) (len := d0_4.length) (cap := cap_9) (k := .i64) (k' := .i64) (b := d1) (e := 31) (sz := 5) g_2.1 (by omega)) fun _ f => ?_
      have f := f.st 36 (hv_4.symm)
      refine W_end rfl (N_goN 2 (mR _) p_17 rfl (N_alt rfl (fun w_11 p_18 => ?_) ?_))
      ·refine Z f (Y32 (v := .slice A_3 d0_4.length cap_3) rfl (ad := ⟨b0, 4, none⟩) (p_18.ownCell 0 rfl 4)) fun _ f => W_end rfl (N_goN 2 (mR _) p_18 rfl (N_alt rfl (fun w_12 p_19 => ?_) ?_))
       ·obtain ⟨A_9, cap_10, hv_5, hcap_5, hcn_4⟩ := p_19.rowShape 1 rfl
        have f := f.st 43 (hv_5)
        refine Z f (Y36 rfl (A := A_9) (len := d0_4.length) (cap := cap_10) (k := .i64) (a := d1 + 1) (e := 31) (sz := 5) (by omega) (by omega)) fun _ f => ?_
        have f := f.st 43 (hv_5.symm)
        refine W_end rfl (N_goN 2 (mR _) p_19 rfl (N_alt rfl (fun w_13 p_20 => ?_) ?_))
        ·have p_21 := p_20.pl [1]
         have he_2 := Value.slice.inj (hv_5.symm.trans hv_4)
         have f := Frm.set f 46 (v := .slice (cutA A_9 5 (d1 + 1).toNat cap_10) (d0_4.length - (d1 + 1).toNat) (cap_10 - (d1 + 1).toNat)) (v' := .slice (cutA A_8 5 (d1.toNat + 1) cap_9) (d0_4.length - (d1.toNat + 1)) (cap_9 - (d1.toNat + 1))) (by kernel_rfl) (by rw [g_4.1, he_2.1, he_2.2.2])
         refine W_rowRemove3 (z := .agg #[.int .i64 0, .int .i8 0, S [], S [], .slice none 0 0]) (bytes := 72) (f := emb_TF0) (xs := d0_4) (k := d1.toNat) f p_21 szd_TF0 (RepSeq.mono hM_1 _ _ hr_2) hv_4 g_4.2 (by kernel_rfl) (by kernel_rfl) rfl rfl rfl (by kernel_rfl) (by kernel_rfl) (by kernel_rfl) (by kernel_rfl) g_5 (by omega) fun A_10 cap_11 cs_4 w_14 p_22 hr_5 _ f => W_end rfl (N_goN 2 (mR _) p_22 rfl (Y1 (v := .pointer (some (⟨b0, 0, none⟩))) rfl f rfl rfl (fun _ _ => by kernel_rfl) fun _ f => Y1 (v := .pointer (some (⟨b0, 4, none⟩))) rfl f rfl rfl (fun _ _ => by kernel_rfl) fun _ f => N_alt rfl (fun w_15 p_23 => ?_) ?_))
         ·refine Y26 f p_23 1 rfl rfl (b := b0) (j := 4) (v := .slice A_10 (d0_4.take d1.toNat ++ d0_4.drop (d1.toNat + 1)).length cap_11) rfl (by exact rfl) (by simp) (by simp) ((Ent.row 31 5 (.slice A_10 (d0_4.take d1.toNat ++ d0_4.drop (d1.toNat + 1)).length cap_11) (d0_4.take d1.toNat ++ d0_4.drop (d1.toNat + 1)).length cs_4) :: (Ent.obj b0 (.cells #[.slice A_1 d0_0.length cap_1, .int .i64 d0_1, .slice A_2 d0_2.length cap_2, .map (some m0_3), .slice A_10 (d0_4.take d1.toNat ++ d0_4.drop (d1.toNat + 1)).length cap_11, .int .i64 d0_5] 64 (0, 0))) :: (Ent.obj b_3 (.cells #[.int .i64 x_1.fToken, .int .i8 x_1.fKind, S x_1.fPhys, S x_1.fType, .slice A_4 x_1.fProps.length cap_5] 31 (0, 0))) :: (Ent.obj b_1 (.cells #[.bool false, .bool false, S []] 37 (0, 0))) :: (Ent.row 31 5 (.slice A_2 d0_2.length cap_2) d0_2.length cs_1) :: (Ent.obj m0_3 (mapO (Value.int .i64) (fun x : TB0 => Value.agg #[.bool x.fEnded, .bool x.fOk, S x.fPhys]) d0_3)) :: H) rfl fun w_16 p_24 _ f => W_end rfl (N_goN 2 (mR _) p_24 rfl (N_end fun w_17 p_25 => T_n ?_))
          exact ⟨d0_4.take d1.toNat ++ d0_4.drop (d1.toNat + 1), (sI hF_12).symm, M_1, (mR _), A_10, cap_11, cs_4, hr_5, f.kp, p_25⟩
         exact N_none
        exact N_none
       exact N_none
      exact N_none
     refine N_alt rfl (fun w_18 p_26 => ?_) ?_
     ·refine Z f (Y32 (v := .slice A_3 d0_4.length cap_3) rfl (ad := ⟨b0, 4, none⟩) (p_26.ownCell 0 rfl 4)) fun _ f => W_end rfl (N_goN 2 (mR _) p_26 rfl (N_alt rfl (fun w_19 p_27 => ?_) ?_))
      ·obtain ⟨A_11, cap_12, hv_6, hcap_6, hcn_5⟩ := p_27.rowShape 1 rfl
       have f := f.st 36 (hv_6)
       refine Z (v := .slice (cutA A_11 5 0 d1.toNat) d1.toNat d1.toNat) f (Y35 rfl (A := A_11) (len := d0_4.length) (cap := cap_12) (k := .i64) (k' := .i64) (b := d1) (e := 31) (sz := 5) g_2.1 (by omega)) fun _ f => ?_
       have f := f.st 36 (hv_6.symm)
       refine W_end rfl (N_goN 2 (mR _) p_27 rfl (N_alt rfl (fun w_20 p_28 => ?_) ?_))
       ·obtain ⟨A_12, cap_13, hv_7, hcap_7, hcn_6⟩ := p_28.rowShape 1 rfl
        have f := f.st 43 (hv_7)
        refine Z f (Y36 rfl (A := A_12) (len := d0_4.length) (cap := cap_13) (k := .i64) (a := d1 + 1) (e := 31) (sz := 5) (by omega) (by omega)) fun _ f => ?_
        have f := f.st 43 (hv_7.symm)
        refine W_end rfl (N_goN 2 (mR _) p_28 rfl (N_alt rfl (fun w_21 p_29 => ?_) ?_))
        ·have p_30 := p_29.pl [1]
         have he_3 := Value.slice.inj (hv_7.symm.trans hv_6)
         have f := Frm.set f 46 (v := .slice (cutA A_12 5 (d1 + 1).toNat cap_13) (d0_4.length - (d1 + 1).toNat) (cap_13 - (d1 + 1).toNat)) (v' := .slice (cutA A_11 5 (d1.toNat + 1) cap_12) (d0_4.length - (d1.toNat + 1)) (cap_12 - (d1.toNat + 1))) (by kernel_rfl) (by rw [g_4.1, he_3.1, he_3.2.2])
         refine W_rowRemove3 (z := .agg #[.int .i64 0, .int .i8 0, S [], S [], .slice none 0 0]) (bytes := 72) (f := emb_TF0) (xs := d0_4) (k := d1.toNat) f p_30 szd_TF0 (RepSeq.mono hM_1 _ _ hr_2) hv_6 g_4.2 (by kernel_rfl) (by kernel_rfl) rfl rfl rfl (by kernel_rfl) (by kernel_rfl) (by kernel_rfl) (by kernel_rfl) g_5 (by omega) fun A_13 cap_14 cs_5 w_22 p_31 hr_6 _ f => W_end rfl (N_goN 2 (mR _) p_31 rfl (Y1 (v := .pointer (some (⟨b0, 0, none⟩))) rfl f rfl rfl (fun _ _ => by kernel_rfl) fun _ f => Y1 (v := .pointer (some (⟨b0, 4, none⟩))) rfl f rfl rfl (fun _ _ => by kernel_rfl) fun _ f => N_alt rfl (fun w_23 p_32 => ?_) ?_))
         ·refine Y26 f p_32 1 rfl rfl (b := b0) (j := 4) (v := .slice A_13 (d0_4.take d1.toNat ++ d0_4.drop (d1.toNat + 1)).length cap_14) rfl (by exact rfl) (by simp) (by simp) ((Ent.row 31 5 (.slice A_13 (d0_4.take d1.toNat ++ d0_4.drop (d1.toNat + 1)).length cap_14) (d0_4.take d1.toNat ++ d0_4.drop (d1.toNat + 1)).length cs_5) :: (Ent.obj b0 (.cells #[.slice A_1 d0_0.length cap_1, .int .i64 d0_1, .slice A_2 d0_2.length cap_2, .map (some m0_3), .slice A_13 (d0_4.take d1.toNat ++ d0_4.drop (d1.toNat + 1)).length cap_14, .int .i64 d0_5] 64 (0, 0))) :: (Ent.obj b_3 (.cells #[.int .i64 x_1.fToken, .int .i8 x_1.fKind, S x_1.fPhys, S x_1.fType, .slice A_4 x_1.fProps.length cap_5] 31 (0, 0))) :: (Ent.obj b_1 (.cells #[.bool false, .bool false, S []] 37 (0, 0))) :: (Ent.row 31 5 (.slice A_2 d0_2.length cap_2) d0_2.length cs_1) :: (Ent.obj m0_3 (mapO (Value.int .i64) (fun x : TB0 => Value.agg #[.bool x.fEnded, .bool x.fOk, S x.fPhys]) d0_3)) :: H) rfl fun w_24 p_33 _ f => W_end rfl (N_goN 2 (mR _) p_33 rfl (N_end fun w_25 p_34 => T_n ?_))
          exact ⟨d0_4.take d1.toNat ++ d0_4.drop (d1.toNat + 1), (sI hF_12).symm, M_1, (mR _), A_13, cap_14, cs_5, hr_6, f.kp, p_34⟩
         exact N_none
        exact N_none
       exact N_none
      refine N_alt rfl (fun w_26 p_35 => ?_) ?_
      ·obtain ⟨A_14, cap_15, hv_8, hcap_8, hcn_7⟩ := p_35.rowShape 1 rfl
       have f := f.st 43 (hv_8)
       refine Z f (Y36 rfl (A := A_14) (len := d0_4.length) (cap := cap_15) (k := .i64) (a := d1 + 1) (e := 31) (sz := 5) (by omega) (by omega)) fun _ f => ?_
       have f := f.st 43 (hv_8.symm)
       refine W_end rfl (N_goN 2 (mR _) p_35 rfl (N_alt rfl (fun w_27 p_36 => ?_) ?_))
       ·obtain ⟨A_15, cap_16, hv_9, hcap_9, hcn_8⟩ := p_36.rowShape 1 rfl
        have f := f.st 36 (hv_9)
        refine Z (v := .slice (cutA A_15 5 0 d1.toNat) d1.toNat d1.toNat) f (Y35 rfl (A := A_15) (len := d0_4.length) (cap := cap_16) (k := .i64) (k' := .i64) (b := d1) (e := 31) (sz := 5) g_2.1 (by omega)) fun _ f => ?_
        have f := f.st 36 (hv_9.symm)
        refine W_end rfl (N_goN 2 (mR _) p_36 rfl (N_alt rfl (fun w_28 p_37 => ?_) ?_))
        ·have p_38 := p_37.pl [1]
         have he_4 := Value.slice.inj (hv_8.symm.trans hv_9)
         have f := Frm.set f 46 (v := .slice (cutA A_14 5 (d1 + 1).toNat cap_15) (d0_4.length - (d1 + 1).toNat) (cap_15 - (d1 + 1).toNat)) (v' := .slice (cutA A_15 5 (d1.toNat + 1) cap_16) (d0_4.length - (d1.toNat + 1)) (cap_16 - (d1.toNat + 1))) (by kernel_rfl) (by rw [g_4.1, he_4.1, he_4.2.2])
         refine W_rowRemove3 (z := .agg #[.int .i64 0, .int .i8 0, S [], S [], .slice none 0 0]) (bytes := 72) (f := emb_TF0) (xs := d0_4) (k := d1.toNat) f p_38 szd_TF0 (RepSeq.mono hM_1 _ _ hr_2) hv_9 g_4.2 (by kernel_rfl) (by kernel_rfl) rfl rfl rfl (by kernel_rfl) (by kernel_rfl) (by kernel_rfl) (by kernel_rfl) g_5 (by omega) fun A_16 cap_17 cs_6 w_29 p_39 hr_7 _ f => W_end rfl (N_goN 2 (mR _) p_39 rfl (Y1 (v := .pointer (some (⟨b0, 0, none⟩))) rfl f rfl rfl (fun _ _ => by kernel_rfl) fun _ f => Y1 (v := .pointer (some (⟨b0, 4, none⟩))) rfl f rfl rfl (fun _ _ => by kernel_rfl) fun _ f => N_alt rfl (fun w_30 p_40 => ?_) ?_))
         ·refine Y26 f p_40 1 rfl rfl (b := b0) (j := 4) (v := .slice A_16 (d0_4.take d1.toNat ++ d0_4.drop (d1.toNat + 1)).length cap_17) rfl (by exact rfl) (by simp) (by simp) ((Ent.row 31 5 (.slice A_16 (d0_4.take d1.toNat ++ d0_4.drop (d1.toNat + 1)).length cap_17) (d0_4.take d1.toNat ++ d0_4.drop (d1.toNat + 1)).length cs_6) :: (Ent.obj b0 (.cells #[.slice A_1 d0_0.length cap_1, .int .i64 d0_1, .slice A_2 d0_2.length cap_2, .map (some m0_3), .slice A_16 (d0_4.take d1.toNat ++ d0_4.drop (d1.toNat + 1)).length cap_17, .int .i64 d0_5] 64 (0, 0))) :: (Ent.obj b_3 (.cells #[.int .i64 x_1.fToken, .int .i8 x_1.fKind, S x_1.fPhys, S x_1.fType, .slice A_4 x_1.fProps.length cap_5] 31 (0, 0))) :: (Ent.obj b_1 (.cells #[.bool false, .bool false, S []] 37 (0, 0))) :: (Ent.row 31 5 (.slice A_2 d0_2.length cap_2) d0_2.length cs_1) :: (Ent.obj m0_3 (mapO (Value.int .i64) (fun x : TB0 => Value.agg #[.bool x.fEnded, .bool x.fOk, S x.fPhys]) d0_3)) :: H) rfl fun w_31 p_41 _ f => W_end rfl (N_goN 2 (mR _) p_41 rfl (N_end fun w_32 p_42 => T_n ?_))
          exact ⟨d0_4.take d1.toNat ++ d0_4.drop (d1.toNat + 1), (sI hF_12).symm, M_1, (mR _), A_16, cap_17, cs_6, hr_7, f.kp, p_42⟩
         exact N_none
        exact N_none
       exact N_none
      exact N_none
     exact N_none
    refine N_alt rfl (fun w_33 p_43 => ?_) ?_
    ·refine Z f (Y32 (v := .slice A_3 d0_4.length cap_3) rfl (ad := ⟨b0, 4, none⟩) (p_43.ownCell 0 rfl 4)) fun _ f => W_end rfl (N_goN 2 (mR _) p_43 rfl (N_alt rfl (fun w_34 p_44 => ?_) ?_))
     ·refine Z f (Y32 (v := .slice A_3 d0_4.length cap_3) rfl (ad := ⟨b0, 4, none⟩) (p_44.ownCell 0 rfl 4)) fun _ f => W_end rfl (N_goN 2 (mR _) p_44 rfl (N_alt rfl (fun w_35 p_45 => ?_) ?_))
      ·obtain ⟨A_17, cap_18, hv_10, hcap_10, hcn_9⟩ := p_45.rowShape 1 rfl
       have f := f.st 36 (hv_10)
       refine Z (v := .slice (cutA A_17 5 0 d1.toNat) d1.toNat d1.toNat) f (Y35 rfl (A := A_17) (len := d0_4.length) (cap := cap_18) (k := .i64) (k' := .i64) (b := d1) (e := 31) (sz := 5) g_2.1 (by omega)) fun _ f => ?_
       have f := f.st 36 (hv_10.symm)
       refine W_end rfl (N_goN 2 (mR _) p_45 rfl (N_alt rfl (fun w_36 p_46 => ?_) ?_))
       ·obtain ⟨A_18, cap_19, hv_11, hcap_11, hcn_10⟩ := p_46.rowShape 1 rfl
        have f := f.st 43 (hv_11)
        refine Z f (Y36 rfl (A := A_18) (len := d0_4.length) (cap := cap_19) (k := .i64) (a := d1 + 1) (e := 31) (sz := 5) (by omega) (by omega)) fun _ f => ?_
        have f := f.st 43 (hv_11.symm)
        refine W_end rfl (N_goN 2 (mR _) p_46 rfl (N_alt rfl (fun w_37 p_47 => ?_) ?_))
        ·have p_48 := p_47.pl [1]
         have he_5 := Value.slice.inj (hv_11.symm.trans hv_10)
         have f := Frm.set f 46 (v := .slice (cutA A_18 5 (d1 + 1).toNat cap_19) (d0_4.length - (d1 + 1).toNat) (cap_19 - (d1 + 1).toNat)) (v' := .slice (cutA A_17 5 (d1.toNat + 1) cap_18) (d0_4.length - (d1.toNat + 1)) (cap_18 - (d1.toNat + 1))) (by kernel_rfl) (by rw [g_4.1, he_5.1, he_5.2.2])
         refine W_rowRemove3 (z := .agg #[.int .i64 0, .int .i8 0, S [], S [], .slice none 0 0]) (bytes := 72) (f := emb_TF0) (xs := d0_4) (k := d1.toNat) f p_48 szd_TF0 (RepSeq.mono hM_1 _ _ hr_2) hv_10 g_4.2 (by kernel_rfl) (by kernel_rfl) rfl rfl rfl (by kernel_rfl) (by kernel_rfl) (by kernel_rfl) (by kernel_rfl) g_5 (by omega) fun A_19 cap_20 cs_7 w_38 p_49 hr_8 _ f => W_end rfl (N_goN 2 (mR _) p_49 rfl (Y1 (v := .pointer (some (⟨b0, 0, none⟩))) rfl f rfl rfl (fun _ _ => by kernel_rfl) fun _ f => Y1 (v := .pointer (some (⟨b0, 4, none⟩))) rfl f rfl rfl (fun _ _ => by kernel_rfl) fun _ f => N_alt rfl (fun w_39 p_50 => ?_) ?_))
         ·refine Y26 f p_50 1 rfl rfl (b := b0) (j := 4) (v := .slice A_19 (d0_4.take d1.toNat ++ d0_4.drop (d1.toNat + 1)).length cap_20) rfl (by exact rfl) (by simp) (by simp) ((Ent.row 31 5 (.slice A_19 (d0_4.take d1.toNat ++ d0_4.drop (d1.toNat + 1)).length cap_20) (d0_4.take d1.toNat ++ d0_4.drop (d1.toNat + 1)).length cs_7) :: (Ent.obj b0 (.cells #[.slice A_1 d0_0.length cap_1, .int .i64 d0_1, .slice A_2 d0_2.length cap_2, .map (some m0_3), .slice A_19 (d0_4.take d1.toNat ++ d0_4.drop (d1.toNat + 1)).length cap_20, .int .i64 d0_5] 64 (0, 0))) :: (Ent.obj b_3 (.cells #[.int .i64 x_1.fToken, .int .i8 x_1.fKind, S x_1.fPhys, S x_1.fType, .slice A_4 x_1.fProps.length cap_5] 31 (0, 0))) :: (Ent.obj b_1 (.cells #[.bool false, .bool false, S []] 37 (0, 0))) :: (Ent.row 31 5 (.slice A_2 d0_2.length cap_2) d0_2.length cs_1) :: (Ent.obj m0_3 (mapO (Value.int .i64) (fun x : TB0 => Value.agg #[.bool x.fEnded, .bool x.fOk, S x.fPhys]) d0_3)) :: H) rfl fun w_40 p_51 _ f => W_end rfl (N_goN 2 (mR _) p_51 rfl (N_end fun w_41 p_52 => T_n ?_))
          exact ⟨d0_4.take d1.toNat ++ d0_4.drop (d1.toNat + 1), (sI hF_12).symm, M_1, (mR _), A_19, cap_20, cs_7, hr_8, f.kp, p_52⟩
         exact N_none
        exact N_none
       exact N_none
      refine N_alt rfl (fun w_42 p_53 => ?_) ?_
      ·obtain ⟨A_20, cap_21, hv_12, hcap_12, hcn_11⟩ := p_53.rowShape 1 rfl
       have f := f.st 43 (hv_12)
       refine Z f (Y36 rfl (A := A_20) (len := d0_4.length) (cap := cap_21) (k := .i64) (a := d1 + 1) (e := 31) (sz := 5) (by omega) (by omega)) fun _ f => ?_
       have f := f.st 43 (hv_12.symm)
       refine W_end rfl (N_goN 2 (mR _) p_53 rfl (N_alt rfl (fun w_43 p_54 => ?_) ?_))
       ·obtain ⟨A_21, cap_22, hv_13, hcap_13, hcn_12⟩ := p_54.rowShape 1 rfl
        have f := f.st 36 (hv_13)
        refine Z (v := .slice (cutA A_21 5 0 d1.toNat) d1.toNat d1.toNat) f (Y35 rfl (A := A_21) (len := d0_4.length) (cap := cap_22) (k := .i64) (k' := .i64) (b := d1) (e := 31) (sz := 5) g_2.1 (by omega)) fun _ f => ?_
        have f := f.st 36 (hv_13.symm)
        refine W_end rfl (N_goN 2 (mR _) p_54 rfl (N_alt rfl (fun w_44 p_55 => ?_) ?_))
        ·have p_56 := p_55.pl [1]
         have he_6 := Value.slice.inj (hv_12.symm.trans hv_13)
         have f := Frm.set f 46 (v := .slice (cutA A_20 5 (d1 + 1).toNat cap_21) (d0_4.length - (d1 + 1).toNat) (cap_21 - (d1 + 1).toNat)) (v' := .slice (cutA A_21 5 (d1.toNat + 1) cap_22) (d0_4.length - (d1.toNat + 1)) (cap_22 - (d1.toNat + 1))) (by kernel_rfl) (by rw [g_4.1, he_6.1, he_6.2.2])
         refine W_rowRemove3 (z := .agg #[.int .i64 0, .int .i8 0, S [], S [], .slice none 0 0]) (bytes := 72) (f := emb_TF0) (xs := d0_4) (k := d1.toNat) f p_56 szd_TF0 (RepSeq.mono hM_1 _ _ hr_2) hv_13 g_4.2 (by kernel_rfl) (by kernel_rfl) rfl rfl rfl (by kernel_rfl) (by kernel_rfl) (by kernel_rfl) (by kernel_rfl) g_5 (by omega) fun A_22 cap_23 cs_8 w_45 p_57 hr_9 _ f => W_end rfl (N_goN 2 (mR _) p_57 rfl (Y1 (v := .pointer (some (⟨b0, 0, none⟩))) rfl f rfl rfl (fun _ _ => by kernel_rfl) fun _ f => Y1 (v := .pointer (some (⟨b0, 4, none⟩))) rfl f rfl rfl (fun _ _ => by kernel_rfl) fun _ f => N_alt rfl (fun w_46 p_58 => ?_) ?_))
         ·refine Y26 f p_58 1 rfl rfl (b := b0) (j := 4) (v := .slice A_22 (d0_4.take d1.toNat ++ d0_4.drop (d1.toNat + 1)).length cap_23) rfl (by exact rfl) (by simp) (by simp) ((Ent.row 31 5 (.slice A_22 (d0_4.take d1.toNat ++ d0_4.drop (d1.toNat + 1)).length cap_23) (d0_4.take d1.toNat ++ d0_4.drop (d1.toNat + 1)).length cs_8) :: (Ent.obj b0 (.cells #[.slice A_1 d0_0.length cap_1, .int .i64 d0_1, .slice A_2 d0_2.length cap_2, .map (some m0_3), .slice A_22 (d0_4.take d1.toNat ++ d0_4.drop (d1.toNat + 1)).length cap_23, .int .i64 d0_5] 64 (0, 0))) :: (Ent.obj b_3 (.cells #[.int .i64 x_1.fToken, .int .i8 x_1.fKind, S x_1.fPhys, S x_1.fType, .slice A_4 x_1.fProps.length cap_5] 31 (0, 0))) :: (Ent.obj b_1 (.cells #[.bool false, .bool false, S []] 37 (0, 0))) :: (Ent.row 31 5 (.slice A_2 d0_2.length cap_2) d0_2.length cs_1) :: (Ent.obj m0_3 (mapO (Value.int .i64) (fun x : TB0 => Value.agg #[.bool x.fEnded, .bool x.fOk, S x.fPhys]) d0_3)) :: H) rfl fun w_47 p_59 _ f => W_end rfl (N_goN 2 (mR _) p_59 rfl (N_end fun w_48 p_60 => T_n ?_))
          exact ⟨d0_4.take d1.toNat ++ d0_4.drop (d1.toNat + 1), (sI hF_12).symm, M_1, (mR _), A_22, cap_23, cs_8, hr_9, f.kp, p_60⟩
         exact N_none
        exact N_none
       exact N_none
      exact N_none
     refine N_alt rfl (fun w_49 p_61 => ?_) ?_
     ·obtain ⟨A_23, cap_24, hv_14, hcap_14, hcn_13⟩ := p_61.rowShape 1 rfl
      have f := f.st 43 (hv_14)
      refine Z f (Y36 rfl (A := A_23) (len := d0_4.length) (cap := cap_24) (k := .i64) (a := d1 + 1) (e := 31) (sz := 5) (by omega) (by omega)) fun _ f => ?_
      have f := f.st 43 (hv_14.symm)
      refine W_end rfl (N_goN 2 (mR _) p_61 rfl (N_alt rfl (fun w_50 p_62 => ?_) ?_))
      ·refine Z f (Y32 (v := .slice A_3 d0_4.length cap_3) rfl (ad := ⟨b0, 4, none⟩) (p_62.ownCell 0 rfl 4)) fun _ f => W_end rfl (N_goN 2 (mR _) p_62 rfl (N_alt rfl (fun w_51 p_63 => ?_) ?_))
       ·obtain ⟨A_24, cap_25, hv_15, hcap_15, hcn_14⟩ := p_63.rowShape 1 rfl
        have f := f.st 36 (hv_15)
        refine Z (v := .slice (cutA A_24 5 0 d1.toNat) d1.toNat d1.toNat) f (Y35 rfl (A := A_24) (len := d0_4.length) (cap := cap_25) (k := .i64) (k' := .i64) (b := d1) (e := 31) (sz := 5) g_2.1 (by omega)) fun _ f => ?_
        have f := f.st 36 (hv_15.symm)
        refine W_end rfl (N_goN 2 (mR _) p_63 rfl (N_alt rfl (fun w_52 p_64 => ?_) ?_))
        ·have p_65 := p_64.pl [1]
         have he_7 := Value.slice.inj (hv_14.symm.trans hv_15)
         have f := Frm.set f 46 (v := .slice (cutA A_23 5 (d1 + 1).toNat cap_24) (d0_4.length - (d1 + 1).toNat) (cap_24 - (d1 + 1).toNat)) (v' := .slice (cutA A_24 5 (d1.toNat + 1) cap_25) (d0_4.length - (d1.toNat + 1)) (cap_25 - (d1.toNat + 1))) (by kernel_rfl) (by rw [g_4.1, he_7.1, he_7.2.2])
         refine W_rowRemove3 (z := .agg #[.int .i64 0, .int .i8 0, S [], S [], .slice none 0 0]) (bytes := 72) (f := emb_TF0) (xs := d0_4) (k := d1.toNat) f p_65 szd_TF0 (RepSeq.mono hM_1 _ _ hr_2) hv_15 g_4.2 (by kernel_rfl) (by kernel_rfl) rfl rfl rfl (by kernel_rfl) (by kernel_rfl) (by kernel_rfl) (by kernel_rfl) g_5 (by omega) fun A_25 cap_26 cs_9 w_53 p_66 hr_10 _ f => W_end rfl (N_goN 2 (mR _) p_66 rfl (Y1 (v := .pointer (some (⟨b0, 0, none⟩))) rfl f rfl rfl (fun _ _ => by kernel_rfl) fun _ f => Y1 (v := .pointer (some (⟨b0, 4, none⟩))) rfl f rfl rfl (fun _ _ => by kernel_rfl) fun _ f => N_alt rfl (fun w_54 p_67 => ?_) ?_))
         ·refine Y26 f p_67 1 rfl rfl (b := b0) (j := 4) (v := .slice A_25 (d0_4.take d1.toNat ++ d0_4.drop (d1.toNat + 1)).length cap_26) rfl (by exact rfl) (by simp) (by simp) ((Ent.row 31 5 (.slice A_25 (d0_4.take d1.toNat ++ d0_4.drop (d1.toNat + 1)).length cap_26) (d0_4.take d1.toNat ++ d0_4.drop (d1.toNat + 1)).length cs_9) :: (Ent.obj b0 (.cells #[.slice A_1 d0_0.length cap_1, .int .i64 d0_1, .slice A_2 d0_2.length cap_2, .map (some m0_3), .slice A_25 (d0_4.take d1.toNat ++ d0_4.drop (d1.toNat + 1)).length cap_26, .int .i64 d0_5] 64 (0, 0))) :: (Ent.obj b_3 (.cells #[.int .i64 x_1.fToken, .int .i8 x_1.fKind, S x_1.fPhys, S x_1.fType, .slice A_4 x_1.fProps.length cap_5] 31 (0, 0))) :: (Ent.obj b_1 (.cells #[.bool false, .bool false, S []] 37 (0, 0))) :: (Ent.row 31 5 (.slice A_2 d0_2.length cap_2) d0_2.length cs_1) :: (Ent.obj m0_3 (mapO (Value.int .i64) (fun x : TB0 => Value.agg #[.bool x.fEnded, .bool x.fOk, S x.fPhys]) d0_3)) :: H) rfl fun w_55 p_68 _ f => W_end rfl (N_goN 2 (mR _) p_68 rfl (N_end fun w_56 p_69 => T_n ?_))
          exact ⟨d0_4.take d1.toNat ++ d0_4.drop (d1.toNat + 1), (sI hF_12).symm, M_1, (mR _), A_25, cap_26, cs_9, hr_10, f.kp, p_69⟩
         exact N_none
        exact N_none
       exact N_none
      exact N_none
     exact N_none
    exact N_none
   ·rintro a_85 w_57 ⟨y_2, hq_2, M_2, hM_2, A_26, cap_27, cs_10, hr_11, f, p_70⟩
    subst j_2
    refine T_n (R_seq (RR (Y f 1 fun _ f => Y26 f p_70 3 rfl rfl (b := b_1) (j := 0) (v := .bool true) rfl (by exact rfl) (by simp) (by simp) ((Ent.row 31 5 (.slice A_26 y_2.length cap_27) y_2.length cs_10) :: (Ent.obj b0 (.cells #[.slice A_1 d0_0.length cap_1, .int .i64 d0_1, .slice A_2 d0_2.length cap_2, .map (some m0_3), .slice A_26 y_2.length cap_27, .int .i64 d0_5] 64 (0, 0))) :: (Ent.obj b_3 (.cells #[.int .i64 x_1.fToken, .int .i8 x_1.fKind, S x_1.fPhys, S x_1.fType, .slice A_4 x_1.fProps.length cap_5] 31 (0, 0))) :: (Ent.obj b_1 (.cells #[.bool true, .bool false, S []] 37 (0, 0))) :: (Ent.row 31 5 (.slice A_2 d0_2.length cap_2) d0_2.length cs_1) :: (Ent.obj m0_3 (mapO (Value.int .i64) (fun x : TB0 => Value.agg #[.bool x.fEnded, .bool x.fOk, S x.fPhys]) d0_3)) :: H) rfl fun w_58 p_71 _ f => eT (RR (Y f 1 fun _ f => eT ?_)))))
    obtain ⟨j_3, hj_3, hF_13⟩ := bS hF_7
    refine R_mid (fun a_92 w_61 => ∃ y_3 : Bool × Bool × List UInt8 × List TE0 × Int × List TF0 × List TF0 × Int × Int × Int × List UInt8 × List UInt8 × List TC0 × (List (Int × TB0)), j_3 = y_3 ∧ ∃ M_4 : Mem, M_2.le M_4 ∧ ∃ (A_31 : Option Addr), ∃ (cap_32 : Nat), ∃ (A_32 : Option Addr), ∃ (cap_33 : Nat), ∃ (cs_13 : List Value), ∃ (A_33 : Option Addr), ∃ (cap_34 : Nat), ∃ (cs_14 : List Value), ∃ (A_34 : Option Addr), ∃ (cap_35 : Nat), Sli M_4 3 emb_TE0 A_31 cap_32 y_3.2.2.2.1 ∧ RepSeq M_4 (y_3.2.2.2.2.2.1.map emb_TF0) cs_13 ∧ RepSeq M_4 (y_3.2.2.2.2.2.2.1.map emb_TF0) cs_14 ∧ Sli M_4 8 emb_TC0 A_34 cap_35 y_3.2.2.2.2.2.2.2.2.2.2.2.2.1 ∧ Frm 64 [(0, .pointer (some (⟨b0, 0, none⟩))), (7, .pointer (some (⟨b_1, 0, none⟩))), (9, .pointer (some (⟨b_3, 0, none⟩)))] a_92 ∧ Hp w0 M_4 ((Ent.row 31 5 (.slice A_32 y_3.2.2.2.2.2.1.length cap_33) y_3.2.2.2.2.2.1.length cs_13) :: (Ent.row 31 5 (.slice A_33 y_3.2.2.2.2.2.2.1.length cap_34) y_3.2.2.2.2.2.2.1.length cs_14) :: (Ent.obj m0_3 (mapO (Value.int .i64) (fun x : TB0 => Value.agg #[.bool x.fEnded, .bool x.fOk, S x.fPhys]) y_3.2.2.2.2.2.2.2.2.2.2.2.2.2)) :: (Ent.obj b_1 (.cells #[.bool y_3.1, .bool y_3.2.1, S y_3.2.2.1] 37 (0, 0))) :: (Ent.obj b0 (.cells #[.slice A_31 y_3.2.2.2.1.length cap_32, .int .i64 y_3.2.2.2.2.1, .slice A_32 y_3.2.2.2.2.2.1.length cap_33, .map (some m0_3), .slice A_33 y_3.2.2.2.2.2.2.1.length cap_34, .int .i64 y_3.2.2.2.2.2.2.2.1] 64 (0, 0))) :: (Ent.obj b_3 (.cells #[.int .i64 y_3.2.2.2.2.2.2.2.2.1, .int .i8 y_3.2.2.2.2.2.2.2.2.2.1, S y_3.2.2.2.2.2.2.2.2.2.2.1, S y_3.2.2.2.2.2.2.2.2.2.2.2.1, .slice A_34 y_3.2.2.2.2.2.2.2.2.2.2.2.2.1.length cap_35] 31 (0, 0))) :: H) w_61) ?_ ?_
    ·refine RcF f hj_3 (fun h_5 hF_14 => ?_) fun h_5 hF_16 => ?_
     ·refine R_reg (Y f 1 fun _ f => ?_)
      obtain ⟨x_2, hx_2, hF_15⟩ := bS hF_14
      have p_77 := p_71.pl [2, 1, 5, 5, 4]
      refine Y17 (E := [Ent.obj b0 (.cells #[.slice A_1 d0_0.length cap_1, .int .i64 d0_1, .slice A_2 d0_2.length cap_2, .map (some m0_3), .slice A_26 y_2.length cap_27, .int .i64 d0_5] 64 (0, 0)), Ent.row 31 5 (.slice A_2 d0_2.length cap_2) d0_2.length cs_1, Ent.obj m0_3 (mapO (Value.int .i64) (fun x : TB0 => Value.agg #[.bool x.fEnded, .bool x.fOk, S x.fPhys]) d0_3), Ent.row 31 5 (.slice A_26 y_2.length cap_27) y_2.length cs_10, Ent.obj b_3 (.cells #[.int .i64 x_1.fToken, .int .i8 x_1.fKind, S x_1.fPhys, S x_1.fType, .slice A_4 x_1.fProps.length cap_5] 31 (0, 0))]) (H := ((Ent.obj b_1 (.cells #[.bool true, .bool false, S []] 37 (0, 0))) :: H)) f p_77 (cloud_Cloud_effect_ok n _ (GL.mono (hM_1.trans hM_2) hG) b0 d0_0 A_1 cap_1 (h_1.mono (hM_1.trans hM_2)) d0_1 d0_2 A_2 cap_2 cs_1 (RepSeq.mono (hM_1.trans hM_2) _ _ hr_1) m0_3 d0_3 y_2 A_26 cap_27 cs_10 hr_11 d0_5 b_3 x_1.fToken x_1.fKind x_1.fPhys x_1.fType x_1.fProps A_4 cap_5 (h_4.mono hM_2) x_2 hx_2) fun _ M_3 E_1 w_59 hM_3 p_72 q_1 _ f => ?_
      obtain ⟨c_2, A_27, cap_28, A_28, cap_29, cs_11, A_29, cap_30, cs_12, A_30, cap_31, rfl, rfl, hr_12, h_6, hr_13, hr_14, h_7⟩ := q_1
      obtain rfl := TB0.opn hr_12
      have p_78 := p_72.pl [5]
      refine Y27 (vs := [.bool x_2.1.fEnded, .bool x_2.1.fOk, S x_2.1.fPhys]) (j := 0) f p_78 rfl rfl (by simp [Value.oneCell', S]) (by simp) (by decide) (cs' := #[.bool x_2.1.fEnded, .bool x_2.1.fOk, S x_2.1.fPhys]) (by kernel_rfl) fun w_60 p_79 _ f => W_end rfl ?_
      have p_86 := p_79.pl [5, 2, 2, 4, 5, 5]
      refine T_n ?_
      exact ⟨((x_2.1.fEnded), (x_2.1.fOk), x_2.1.fPhys, x_2.2.1, x_2.2.2.1, x_2.2.2.2.1, x_2.2.2.2.2.2.1, x_2.2.2.2.2.2.2.1, x_2.2.2.2.2.2.2.2.1, x_2.2.2.2.2.2.2.2.2.1, x_2.2.2.2.2.2.2.2.2.2.1, x_2.2.2.2.2.2.2.2.2.2.2.1, x_2.2.2.2.2.2.2.2.2.2.2.2, x_2.2.2.2.2.1), (sI hF_15).symm, M_3, hM_3, A_27, cap_28, A_28, cap_29, cs_11, A_29, cap_30, cs_12, A_30, cap_31, h_6, hr_13, hr_14, h_7, f.kp, p_86⟩
     ·refine wp_skip ?_
      have p_92 := p_71.pl [2, 2, 3, 5, 4, 5]
      refine T_n ?_
      exact ⟨((true), (false), ([] : List UInt8), d0_0, d0_1, d0_2, y_2, d0_5, x_1.fToken, x_1.fKind, x_1.fPhys, x_1.fType, x_1.fProps, d0_3), (sI hF_16).symm, M_2, (mR _), A_1, cap_1, A_2, cap_2, cs_1, A_26, cap_27, cs_10, A_4, cap_5, (h_1.mono (hM_1.trans hM_2)), (RepSeq.mono (hM_1.trans hM_2) _ _ hr_1), hr_11, (h_4.mono hM_2), f.kp, p_92⟩
    ·rintro a_92 w_61 ⟨y_3, hq_3, M_4, hM_4, A_31, cap_32, A_32, cap_33, cs_13, A_33, cap_34, cs_14, A_34, cap_35, h_8, hr_15, hr_16, h_9, f, p_80⟩
     subst j_3
     refine T_n (R_seq (R_drawT 7 p_80 (by kernel_rfl) (by kernel_rfl) fun w_62 p_93 => ST_eq (v := .pointer (some (⟨b0, 0, none⟩))) f (by kernel_rfl) (by kernel_rfl) rfl rfl (by kernel_rfl) fun _ f => ST_eq (v := .pointer (some (⟨b0, 0, none⟩))) f (by kernel_rfl) (by kernel_rfl) rfl rfl (by kernel_rfl) fun _ f => ST_eq (v := .pointer (some (⟨b0, 3, none⟩))) f (by kernel_rfl) (by kernel_rfl) rfl rfl (by kernel_rfl) fun _ f => ST_eq (v := .map (some m0_3)) f (by kernel_rfl) (by kernel_rfl) rfl rfl (Y32 (v := .map (some m0_3)) rfl (ad := ⟨b0, 3, none⟩) (p_93.ownCell 4 rfl 3)) fun _ f => ST_eq (v := .pointer (some (⟨b_3, 0, none⟩))) f (by kernel_rfl) (by kernel_rfl) rfl rfl (by kernel_rfl) fun _ f => ST_eq (v := .int .i64 y_3.2.2.2.2.2.2.2.2.1) f (by kernel_rfl) (by kernel_rfl) rfl rfl (Y32 (v := .int .i64 y_3.2.2.2.2.2.2.2.2.1) rfl (ad := ⟨b_3, 0, none⟩) (p_93.ownCell 5 rfl 0)) fun _ f => ST_eq (v := .agg #[.bool y_3.1, .bool y_3.2.1, S y_3.2.2.1]) f (by kernel_rfl) (by kernel_rfl) rfl rfl (Y33 (cs := [.bool y_3.1, .bool y_3.2.1, S y_3.2.2.1]) rfl (ad := ⟨b_1, 0, none⟩) (own_cells (p_93.ownCell 3 rfl) 0 rfl)) fun _ f => ST_end rfl ?_))
     have p_94 := p_93.pl [2]
     refine W_mapput (ek := (Value.int .i64)) (ev := (fun x : TB0 => Value.agg #[.bool x.fEnded, .bool x.fOk, S x.fPhys])) (m := y_3.2.2.2.2.2.2.2.2.2.2.2.2.2) (k := y_3.2.2.2.2.2.2.2.2.1) (v := (⟨(y_3.1), (y_3.2.1), y_3.2.2.1⟩ : TB0)) (kt := 3) (et := 37) f p_94 (by kernel_rfl) (by kernel_rfl) rfl (.inl rfl) (by kernel_rfl) (by kernel_rfl) (by kernel_rfl) (by kernel_rfl) (intKey (by kernel_rfl)) fun w_63 p_95 _ f => eT (R_seq (R_drawT 4 p_95 (by kernel_rfl) (by kernel_rfl) fun w_64 p_96 => ST_eq (v := .pointer (some (⟨b_3, 0, none⟩))) f (by kernel_rfl) (by kernel_rfl) rfl rfl (by kernel_rfl) fun _ f => ST_eq (v := .int .i64 y_3.2.2.2.2.2.2.2.2.1) f (by kernel_rfl) (by kernel_rfl) rfl rfl (Y32 (v := .int .i64 y_3.2.2.2.2.2.2.2.2.1) rfl (ad := ⟨b_3, 0, none⟩) (p_96.ownCell 5 rfl 0)) fun _ f => ST_eq (v := .agg #[.bool y_3.1, .bool y_3.2.1, S y_3.2.2.1]) f (by kernel_rfl) (by kernel_rfl) rfl rfl (Y33 (cs := [.bool y_3.1, .bool y_3.2.1, S y_3.2.2.1]) rfl (ad := ⟨b_1, 0, none⟩) (own_cells (p_96.ownCell 3 rfl) 0 rfl)) fun _ f => ST_eq (v := .int .i64 y_3.2.2.2.2.2.2.2.2.1) f (by kernel_rfl) (by kernel_rfl) rfl rfl (by kernel_rfl) fun _ f => ST_end rfl ?_))
     have p_97 := p_96.pl [3]
     refine Y27 (vs := [.bool y_3.1, .bool y_3.2.1, S y_3.2.2.1]) (j := 0) f p_97 rfl rfl (by simp [Value.oneCell', S]) (by simp) (by decide) (cs' := #[.bool y_3.1, .bool y_3.2.1, S y_3.2.2.1]) (by kernel_rfl) fun w_65 p_98 _ f => Y f 1 fun _ f => eT (wp_ret (E_rv3 f rfl (Y11 (v := .int .i64 y_3.2.2.2.2.2.2.2.2.1) f) (Y10 (cs := [.bool y_3.1, .bool y_3.2.1, S y_3.2.2.1]) (ad := ⟨b_1, 0, none⟩) f (own_cells (p_98.ownCell 0 rfl) 0 rfl)) (Y11 (v := .int .i64 0) f) ?_))
     obtain rfl := sI hF_13
     have p_104 := p_98.pl [3, 2, 3, 4, 5, 5]
     exact ⟨_, rfl, M_4, _, ((hM_1.trans hM_2).trans hM_4), (p_104.dropN 2), ⟨[.bool y_3.1, .bool y_3.2.1, S y_3.2.2.1], A_31, cap_32, A_32, cap_33, cs_13, A_33, cap_34, cs_14, rfl, rfl, (TB0.shut), h_8, hr_15, hr_16⟩⟩
def cloud_Cloud_Made (n : Nat) (d0_0 : List TE0) (d0_1 : Int) (d0_2 : List TF0) (d0_3 : List (Int × TB0)) (d0_4 : List TF0) (d0_5 : Int) : Option (Int × List TE0 × Int × List TF0 × (List (Int × TB0)) × List TF0 × Int) :=
  some ((d0_5, d0_0, d0_1, d0_2, d0_3, d0_4, d0_5))
theorem cloud_Cloud_Made_ok (n : Nat) (M : Mem) (hG : GL M) (b0 : Nat) (d0_0 : List TE0) (A_1 : Option Addr) (cap_1 : Nat) (h_1 : Sli M 3 emb_TE0 A_1 cap_1 d0_0) (d0_1 : Int) (d0_2 : List TF0) (A_2 : Option Addr) (cap_2 : Nat) (cs_1 : List Value) (hr_1 : RepSeq M (d0_2.map emb_TF0) cs_1) (m0_3 : Nat) (d0_3 : List (Int × TB0)) (d0_4 : List TF0) (A_3 : Option Addr) (cap_3 : Nat) (cs_2 : List Value) (hr_2 : RepSeq M (d0_4.map emb_TF0) cs_2) (d0_5 : Int) (r : Int × List TE0 × Int × List TF0 × (List (Int × TB0)) × List TF0 × Int) (hF : cloud_Cloud_Made n d0_0 d0_1 d0_2 d0_3 d0_4 d0_5 = some r) : OkH Tryz.prog M [Ent.obj b0 (.cells #[.slice A_1 d0_0.length cap_1, .int .i64 d0_1, .slice A_2 d0_2.length cap_2, .map (some m0_3), .slice A_3 d0_4.length cap_3, .int .i64 d0_5] 64 (0, 0)), Ent.row 31 5 (.slice A_2 d0_2.length cap_2) d0_2.length cs_1, Ent.obj m0_3 (mapO (Value.int .i64) (fun x : TB0 => Value.agg #[.bool x.fEnded, .bool x.fOk, S x.fPhys]) d0_3), Ent.row 31 5 (.slice A_3 d0_4.length cap_3) d0_4.length cs_2] 23 [.pointer (some (⟨b0, 0, none⟩))] (fun M' E' v => ∃ (A_4 : Option Addr) (cap_4 : Nat) (A_5 : Option Addr) (cap_5 : Nat) (cs_3 : List Value) (A_6 : Option Addr) (cap_6 : Nat) (cs_4 : List Value), v = .int .i64 r.1 ∧ E' = [Ent.obj b0 (.cells #[.slice A_4 r.2.1.length cap_4, .int .i64 r.2.2.1, .slice A_5 r.2.2.2.1.length cap_5, .map (some m0_3), .slice A_6 r.2.2.2.2.2.1.length cap_6, .int .i64 r.2.2.2.2.2.2] 64 (0, 0)), Ent.row 31 5 (.slice A_5 r.2.2.2.1.length cap_5) r.2.2.2.1.length cs_3, Ent.obj m0_3 (mapO (Value.int .i64) (fun x : TB0 => Value.agg #[.bool x.fEnded, .bool x.fOk, S x.fPhys]) r.2.2.2.2.1), Ent.row 31 5 (.slice A_6 r.2.2.2.2.2.1.length cap_6) r.2.2.2.2.2.1.length cs_4] ∧ Sli M' 3 emb_TE0 A_4 cap_4 r.2.1 ∧ RepSeq M' (r.2.2.2.1.map emb_TF0) cs_3 ∧ RepSeq M' (r.2.2.2.2.2.1.map emb_TF0) cs_4) := by
 unfold cloud_Cloud_Made at hF
 intro M1 hM0 w0 H w p0
 replace hG := GL.mono hM0 hG
 replace h_1 := h_1.mono hM0
 replace hr_1 := RepSeq.mono hM0 _ _ hr_1
 replace hr_2 := RepSeq.mono hM0 _ _ hr_2
 refine R_enter 9 Tryz.func23 rfl rfl (by simp) fun a0 f0 => RR (Y f0 1 fun _ f => eT (R_seq (RR (Y f 1 fun _ f => Z (v := .bool false) f (X_ptrNil (q := some (⟨b0, 0, none⟩)) (e := 64) rfl (by kernel_rfl) (by kernel_rfl) (by kernel_rfl) _) fun _ f => eT (Y7 f (wp_skip (T_n (RR (Y f 3 fun _ f => Z f (Y32 (v := .int .i64 d0_5) rfl (ad := ⟨b0, 5, none⟩) (p0.ownCell 0 rfl 5)) fun _ f => ?_)))))))))
 refine Y f 1 fun _ f => eT (wp_ret (E_ret1 f rfl (by kernel_rfl : Vc.look _ 2 = some (.int .i64 d0_5)) ?_))
 obtain rfl := sI hF
 exact ⟨_, rfl, M1, _, (mR _), p0, ⟨A_1, cap_1, A_2, cap_2, cs_1, A_3, cap_3, cs_2, rfl, rfl, h_1, hr_1, hr_2⟩⟩
def slices_Cloneapi_Thing_api_Thing_z (n : Nat) (d0 : List TE0) (z0 : Bool) : Option (List TE0) :=
  bif z0 then
    (some (([] : List TE0)))
  else
    need ((([] : List TE0).length + d0.length) * 56 ≤ 140737488355328) <|
    some (([] : List TE0) ++ d0)
theorem slices_Cloneapi_Thing_api_Thing_z_ok (n : Nat) (M : Mem) (A0 : Option Addr) (cap0 : Nat) (d0 : List TE0) (h0 : Sli M 3 emb_TE0 A0 cap0 d0) (z0 : Bool) (hz0 : A0.isNone = z0) (r : List TE0) (hF : slices_Cloneapi_Thing_api_Thing_z n d0 z0 = some r) : OkH Tryz.prog M [] 42 [.slice A0 d0.length cap0] (fun M' E' v => ∃ (A0 : Option Addr) (k0 : Nat) (s0 : List Value), v = .slice A0 r.length k0 ∧ E' = [.row 50 3 (.slice A0 r.length k0) r.length s0] ∧ RepSeq M' (r.map emb_TE0) s0) := by
 unfold slices_Cloneapi_Thing_api_Thing_z at hF
 intro M1 hM0 w0 H w p0
 replace h0 := h0.mono hM0
 refine R_enter 8 Tryz.func42 rfl rfl (by simp) fun a0 f0 => RR (Y f0 1 fun _ f => eT (R_seq (RR (Y f 1 fun _ f => Z (v := .bool A0.isNone) f (X_slicenil (A := A0) (n := d0.length) (c := cap0) (e := 50) rfl (by kernel_rfl) (by kernel_rfl) (by kernel_rfl) _) fun _ f => ?_))))
 have f := Frm.set f 4 (v := .bool A0.isNone) (v' := .bool z0) (by kernel_rfl) (cB hz0)
 refine eT (RcF f hF (fun h_1 hF_1 => ?_) fun h_1 hF_2 => ?_)
 ·refine RR (Y f 1 fun _ f => eT (wp_ret (T_r ?_)))
  obtain ⟨A_1, cap_1, hv_1⟩ : ∃ A cap, Value.slice none 0 0 = .slice A ([] : List TE0).length cap := ⟨none, 0, rfl⟩
  have p_1 : Hp w0 M1 ((Ent.row 50 3 (.slice A_1 ([] : List TE0).length cap_1) ([] : List TE0).length []) :: H) w := by rw [← hv_1]; exact p0.nilRow 50 3
  have f := f.st 2 (hv_1)
  have hr_1 : RepSeq M1 (([] : List TE0).map emb_TE0) [] := rfl
  refine E_ret1 f rfl (by kernel_rfl : Vc.look _ 2 = some (.slice A_1 ([] : List TE0).length cap_1)) ?_
  obtain rfl := sI hF_1
  exact ⟨_, rfl, M1, _, (mR _), p_1, ⟨A_1, cap_1, [], rfl, rfl, hr_1⟩⟩
 ·refine wp_skip (T_n (RR (V_allocS (k := 0) (c := 0) f p0 (.cells #[] 50 (0, 0)) (by kernel_rfl) (fun _ => by kernel_rfl) fun b_1 w_1 p_2 _ f => Y f 1 fun _ f => ?_)))
  have hr_2 : RepSeq M1 (([] : List TE0).map emb_TE0) [] := rfl
  have p_3 : Hp w0 M1 ((Ent.row 50 3 (.slice (some ⟨b_1, 0, none⟩) 0 0) ([] : List TE0).length []) :: H) w_1 := p_2.objRow (n := 0) (cap := 0) (size := 3) (by decide) (by decide) (blk_eq (by decide) rfl) rfl rfl
  obtain ⟨g_1, hF_3⟩ := nS hF_2
  refine Y23 (z := .agg #[S [], S [], .slice none 0 0]) (f := emb_TE0) (xs := ([] : List TE0)) (ys := d0) (c := cap0) f p_3 hr_2 h0 rfl rfl rfl g_1 (by omega) fun A_2 cap_2 cs_1 w_2 p_4 hr_3 _ f => Y f 1 fun _ f => eT (wp_ret (E_ret1 f rfl (by kernel_rfl : Vc.look _ 2 = some (.slice A_2 (([] : List TE0) ++ d0).length cap_2)) ?_))
  obtain rfl := sI hF_3
  exact ⟨_, rfl, M1, _, (mR _), p_4, ⟨A_2, cap_2, cs_1, rfl, rfl, hr_3⟩⟩
def slices_Cloneapi_Thing_api_Thing (_ : Nat) (d0 : List TE0) : Option (List TE0) := need (d0.length * 56 ≤ 140737488355328) (some d0)
theorem slices_Cloneapi_Thing_api_Thing_ok (n : Nat) (M : Mem) (A0 : Option Addr) (cap0 : Nat) (d0 : List TE0) (h0 : Sli M 3 emb_TE0 A0 cap0 d0) (r : List TE0) (hF : slices_Cloneapi_Thing_api_Thing n d0 = some r) : OkH Tryz.prog M [] 42 [.slice A0 d0.length cap0] (fun M' E' v => ∃ (A0 : Option Addr) (k0 : Nat) (s0 : List Value), v = .slice A0 r.length k0 ∧ E' = [.row 50 3 (.slice A0 r.length k0) r.length s0] ∧ RepSeq M' (r.map emb_TE0) s0) := by
 unfold slices_Cloneapi_Thing_api_Thing at hF
 obtain ⟨g, hF⟩ := nS hF
 obtain rfl := sI hF
 refine slices_Cloneapi_Thing_api_Thing_z_ok n M A0 cap0 d0 h0 A0.isNone rfl d0 ?_
 unfold slices_Cloneapi_Thing_api_Thing_z
 cases A0 with
 | none =>
  obtain ⟨h1, h2, _⟩ := h0
  have h3 := h2 rfl
  obtain rfl : d0 = [] := List.eq_nil_of_length_eq_zero (by omega)
  rfl
 | some a => simp [need]; omega
def cloud_Cloud_Things (n : Nat) (d0_0 : List TE0) (d0_1 : Int) (d0_2 : List TF0) (d0_3 : List (Int × TB0)) (d0_4 : List TF0) (d0_5 : Int) : Option (List TE0 × List TE0 × Int × List TF0 × (List (Int × TB0)) × List TF0 × Int) :=
  (slices_Cloneapi_Thing_api_Thing n d0_0).bind fun x_1 =>
  some ((x_1, d0_0, d0_1, d0_2, d0_3, d0_4, d0_5))
theorem cloud_Cloud_Things_ok (n : Nat) (M : Mem) (hG : GL M) (b0 : Nat) (d0_0 : List TE0) (A_1 : Option Addr) (cap_1 : Nat) (h_1 : Sli M 3 emb_TE0 A_1 cap_1 d0_0) (d0_1 : Int) (d0_2 : List TF0) (A_2 : Option Addr) (cap_2 : Nat) (cs_1 : List Value) (hr_1 : RepSeq M (d0_2.map emb_TF0) cs_1) (m0_3 : Nat) (d0_3 : List (Int × TB0)) (d0_4 : List TF0) (A_3 : Option Addr) (cap_3 : Nat) (cs_2 : List Value) (hr_2 : RepSeq M (d0_4.map emb_TF0) cs_2) (d0_5 : Int) (r : List TE0 × List TE0 × Int × List TF0 × (List (Int × TB0)) × List TF0 × Int) (hF : cloud_Cloud_Things n d0_0 d0_1 d0_2 d0_3 d0_4 d0_5 = some r) : OkH Tryz.prog M [Ent.obj b0 (.cells #[.slice A_1 d0_0.length cap_1, .int .i64 d0_1, .slice A_2 d0_2.length cap_2, .map (some m0_3), .slice A_3 d0_4.length cap_3, .int .i64 d0_5] 64 (0, 0)), Ent.row 31 5 (.slice A_2 d0_2.length cap_2) d0_2.length cs_1, Ent.obj m0_3 (mapO (Value.int .i64) (fun x : TB0 => Value.agg #[.bool x.fEnded, .bool x.fOk, S x.fPhys]) d0_3), Ent.row 31 5 (.slice A_3 d0_4.length cap_3) d0_4.length cs_2] 25 [.pointer (some (⟨b0, 0, none⟩))] (fun M' E' v => ∃ (A0 : Option Addr) (k0 : Nat) (s0 : List Value) (A_5 : Option Addr) (cap_5 : Nat) (A_6 : Option Addr) (cap_6 : Nat) (cs_4 : List Value) (A_7 : Option Addr) (cap_7 : Nat) (cs_5 : List Value), v = .slice A0 r.1.length k0 ∧ E' = [.row 50 3 (.slice A0 r.1.length k0) r.1.length s0, Ent.obj b0 (.cells #[.slice A_5 r.2.1.length cap_5, .int .i64 r.2.2.1, .slice A_6 r.2.2.2.1.length cap_6, .map (some m0_3), .slice A_7 r.2.2.2.2.2.1.length cap_7, .int .i64 r.2.2.2.2.2.2] 64 (0, 0)), Ent.row 31 5 (.slice A_6 r.2.2.2.1.length cap_6) r.2.2.2.1.length cs_4, Ent.obj m0_3 (mapO (Value.int .i64) (fun x : TB0 => Value.agg #[.bool x.fEnded, .bool x.fOk, S x.fPhys]) r.2.2.2.2.1), Ent.row 31 5 (.slice A_7 r.2.2.2.2.2.1.length cap_7) r.2.2.2.2.2.1.length cs_5] ∧ RepSeq M' (r.1.map emb_TE0) s0 ∧ Sli M' 3 emb_TE0 A_5 cap_5 r.2.1 ∧ RepSeq M' (r.2.2.2.1.map emb_TF0) cs_4 ∧ RepSeq M' (r.2.2.2.2.2.1.map emb_TF0) cs_5) := by
 unfold cloud_Cloud_Things at hF
 intro M1 hM0 w0 H w p0
 replace hG := GL.mono hM0 hG
 replace h_1 := h_1.mono hM0
 replace hr_1 := RepSeq.mono hM0 _ _ hr_1
 replace hr_2 := RepSeq.mono hM0 _ _ hr_2
 refine R_enter 11 Tryz.func25 rfl rfl (by simp) fun a0 f0 => RR (Y f0 1 fun _ f => eT (R_seq (RR (Y f 1 fun _ f => Z (v := .bool false) f (X_ptrNil (q := some (⟨b0, 0, none⟩)) (e := 64) rfl (by kernel_rfl) (by kernel_rfl) (by kernel_rfl) _) fun _ f => eT (Y7 f (wp_skip (T_n (RR (Y f 4 fun _ f => Z f (Y32 (v := .slice A_1 d0_0.length cap_1) rfl (ad := ⟨b0, 0, none⟩) (p0.ownCell 0 rfl 0)) fun _ f => ?_)))))))))
 obtain ⟨x_1, hx_1, hF_1⟩ := bS hF
 refine Y17 (E := []) (H := ((Ent.obj b0 (.cells #[.slice A_1 d0_0.length cap_1, .int .i64 d0_1, .slice A_2 d0_2.length cap_2, .map (some m0_3), .slice A_3 d0_4.length cap_3, .int .i64 d0_5] 64 (0, 0))) :: (Ent.row 31 5 (.slice A_2 d0_2.length cap_2) d0_2.length cs_1) :: (Ent.obj m0_3 (mapO (Value.int .i64) (fun x : TB0 => Value.agg #[.bool x.fEnded, .bool x.fOk, S x.fPhys]) d0_3)) :: (Ent.row 31 5 (.slice A_3 d0_4.length cap_3) d0_4.length cs_2) :: H)) f p0 (slices_Cloneapi_Thing_api_Thing_ok n _ A_1 cap_1 d0_0 h_1 x_1 hx_1) fun _ M_1 E_1 w_1 hM_1 p_1 q_1 _ f => ?_
 obtain ⟨A_4, cap_4, cs_3, rfl, rfl, hr_3⟩ := q_1
 refine Y f 1 fun _ f => eT (wp_ret (E_ret1 f rfl (by kernel_rfl : Vc.look _ 2 = some (.slice A_4 x_1.length cap_4)) ?_))
 obtain rfl := sI hF_1
 exact ⟨_, rfl, M_1, _, hM_1, p_1, ⟨A_4, cap_4, cs_3, A_1, cap_1, A_2, cap_2, cs_1, A_3, cap_3, cs_2, rfl, rfl, hr_3, (h_1.mono hM_1), (RepSeq.mono hM_1 _ _ hr_1), (RepSeq.mono hM_1 _ _ hr_2)⟩⟩
def law11_wakes (n : Nat) : Option Bool :=
  (cloud_New n).bind fun x_1 =>
  (cloud_Cloud_Submit n ([] : List TE0) (0 : Int) ([] : List TF0) ([] : List (Int × TB0)) ([] : List TF0) (0 : Int) (⟨(1 : Int), (0 : Int), ([] : List UInt8), [68, 105, 115, 107], ([] : List TC0)⟩ : TF0)).bind fun x_2 =>
  (cloud_Cloud_Submit n x_2.2.1 x_2.2.2.1 x_2.2.2.2.1 x_2.2.2.2.2.1 x_2.2.2.2.2.2.1 x_2.2.2.2.2.2.2 (⟨(1 : Int), (0 : Int), ([] : List UInt8), [68, 105, 115, 107], ([] : List TC0)⟩ : TF0)).bind fun x_3 =>
  (cloud_Cloud_End n x_3.2.1 x_3.2.2.1 x_3.2.2.2.1 x_3.2.2.2.2.1 x_3.2.2.2.2.2.1 x_3.2.2.2.2.2.2 (0 : Int) (true)).bind fun x_4 =>
  bif (decide (x_2.1 = 0)) then
    (bif (decide (x_3.1 = 0)) then
      (bif (decide (x_4.1 = 1)) then
        (bif (andL [(x_4.2.1.fEnded == true), (x_4.2.1.fOk == true), decide (x_4.2.1.fPhys = [112, 49])]) then
          (bif (decide (x_4.2.2.1 = 0)) then
            ((cloud_Cloud_Made n x_4.2.2.2.1 x_4.2.2.2.2.1 x_4.2.2.2.2.2.1 x_4.2.2.2.2.2.2.1 x_4.2.2.2.2.2.2.2.1 x_4.2.2.2.2.2.2.2.2).bind fun x_5 =>
            bif (decide (x_5.1 = 1)) then
              ((cloud_Cloud_Things n x_5.2.1 x_5.2.2.1 x_5.2.2.2.1 x_5.2.2.2.2.1 x_5.2.2.2.2.2.1 x_5.2.2.2.2.2.2).bind fun x_6 =>
              some ((decide (((x_6.1.length : Nat) : Int) = 1))))
            else
              some ((false)))
          else
            some ((false)))
        else
          some ((false)))
      else
        some ((false)))
    else
      some ((false)))
  else
    some ((false))
set_option maxRecDepth 20000 in
theorem law11_wakes_ok (n : Nat) (M : Mem) (hG : GL M) (r : Bool) (hF : law11_wakes n = some r) : Ok Tryz.prog M 7 [] (fun _ v => v = .bool r) := by
 unfold law11_wakes at hF
 intro M1 hM0 w0 H w p0
 replace hG := GL.mono hM0 hG
 refine R_enter 52 Tryz.func7 rfl rfl (by simp) fun a0 f0 => RR (Y f0 1 fun _ f => eT (RR ?_))
 obtain ⟨x_1, hx_1, hF_1⟩ := bS hF
 refine Y17 (E := []) (H := (H)) f p0 (cloud_New_ok n _ hG x_1 hx_1) fun _ M_1 E_1 w_1 hM_1 p_1 q_1 _ f => ?_
 obtain ⟨nb_1, nb_1m0, rfl, rfl⟩ := q_1
 refine Y f 1 fun _ f => eT (RR (Y f 1 fun _ f => Y12 f p_1 (.cells #[.int .i64 0, .int .i8 0, S [], S [], .slice none 0 0] 31 (0, 0)) fun b_1 w_2 p_2 _ f => Y27 (vs := [.int .i64 1, .int .i8 0, S [], S [68, 105, 115, 107], .slice none 0 0]) (j := 0) f p_2 rfl rfl (by simp [Value.oneCell', S]) (by simp) (by decide) (cs' := #[.int .i64 1, .int .i8 0, S [], S [68, 105, 115, 107], .slice none 0 0]) (by kernel_rfl) fun w_3 p_3 _ f => eT (R_seq ?_)))
 have p_5 := p_3.pl [2, 2]
 refine R_mix (E := [Ent.obj nb_1 (.cells #[.slice none 0 0, .int .i64 0, .slice none 0 0, .map (some nb_1m0), .slice none 0 0, .int .i64 0] 64 (0, 0)), Ent.obj nb_1m0 (mapO (Value.int .i64) (fun x : TB0 => Value.agg #[.bool x.fEnded, .bool x.fOk, S x.fPhys]) ([] : List (Int × TB0)))]) (Hr := ((Ent.obj b_1 (.cells #[.int .i64 1, .int .i8 0, S [], S [68, 105, 115, 107], .slice none 0 0] 31 (0, 0))) :: H)) [(0, true), (1, true), (3, true), (4, true), (2, false), (5, false), (6, true), (7, true)] p_5 (by kernel_rfl) (by kernel_rfl) rfl (by kernel_rfl) (Y0 default f 1 fun _ f => M_eq (v := .agg #[.int .i64 1, .int .i8 0, S [], S [68, 105, 115, 107], .slice none 0 0]) f (by kernel_rfl) (by kernel_rfl) rfl rfl (fun _ pq => Y33 (cs := [.int .i64 1, .int .i8 0, S [], S [68, 105, 115, 107], .slice none 0 0]) rfl (ad := ⟨b_1, 0, none⟩) (own_cells (pq.ownCell 0 rfl) 0 rfl)) fun _ f => Y0 default f 1 fun _ f => M_eq (v := .agg #[.int .i64 1, .int .i8 0, S [], S [68, 105, 115, 107], .slice none 0 0]) f (by kernel_rfl) (by kernel_rfl) rfl rfl (fun _ pq => Y33 (cs := [.int .i64 1, .int .i8 0, S [], S [68, 105, 115, 107], .slice none 0 0]) rfl (ad := ⟨b_1, 0, none⟩) (own_cells (pq.ownCell 0 rfl) 0 rfl)) fun _ f => M_fix (E := [Ent.obj nb_1 (.cells #[.slice none 0 0, .int .i64 0, .slice none 0 0, .map (some nb_1m0), .slice none 0 0, .int .i64 0] 64 (0, 0)), Ent.obj nb_1m0 (mapO (Value.int .i64) (fun x : TB0 => Value.agg #[.bool x.fEnded, .bool x.fOk, S x.fPhys]) ([] : List (Int × TB0)))]) fun w_4 p_6 => ?_)
 obtain ⟨A_1, cap_1, hv_1⟩ : ∃ A cap, Value.slice none 0 0 = .slice A ([] : List TF0).length cap := ⟨none, 0, rfl⟩
 have p_7 : Hp w0 M_1 ((Ent.row 31 5 (.slice A_1 ([] : List TF0).length cap_1) ([] : List TF0).length []) :: (Ent.obj nb_1 (.cells #[.slice none 0 0, .int .i64 0, .slice A_1 ([] : List TF0).length cap_1, .map (some nb_1m0), .slice none 0 0, .int .i64 0] 64 (0, 0))) :: (Ent.obj nb_1m0 (mapO (Value.int .i64) (fun x : TB0 => Value.agg #[.bool x.fEnded, .bool x.fOk, S x.fPhys]) ([] : List (Int × TB0)))) :: (Ent.obj b_1 (.cells #[.int .i64 1, .int .i8 0, S [], S [68, 105, 115, 107], .slice none 0 0] 31 (0, 0))) :: H) w_4 := by rw [← hv_1]; exact p_6.nilRow 31 5
 have hr_1 : RepSeq M_1 (([] : List TF0).map emb_TF0) [] := rfl
 obtain ⟨A_2, cap_2, hv_2⟩ : ∃ A cap, Value.slice none 0 0 = .slice A ([] : List TF0).length cap := ⟨none, 0, rfl⟩
 have p_8 : Hp w0 M_1 ((Ent.row 31 5 (.slice A_2 ([] : List TF0).length cap_2) ([] : List TF0).length []) :: (Ent.row 31 5 (.slice A_1 ([] : List TF0).length cap_1) ([] : List TF0).length []) :: (Ent.obj nb_1 (.cells #[.slice none 0 0, .int .i64 0, .slice A_1 ([] : List TF0).length cap_1, .map (some nb_1m0), .slice A_2 ([] : List TF0).length cap_2, .int .i64 0] 64 (0, 0))) :: (Ent.obj nb_1m0 (mapO (Value.int .i64) (fun x : TB0 => Value.agg #[.bool x.fEnded, .bool x.fOk, S x.fPhys]) ([] : List (Int × TB0)))) :: (Ent.obj b_1 (.cells #[.int .i64 1, .int .i8 0, S [], S [68, 105, 115, 107], .slice none 0 0] 31 (0, 0))) :: H) w_4 := by rw [← hv_2]; exact p_7.nilRow 31 5
 have hr_2 : RepSeq M_1 (([] : List TF0).map emb_TF0) [] := rfl
 obtain ⟨x_2, hx_2, hF_2⟩ := bS hF_1
 have p_12 := p_8.pl [3, 2, 3]
 refine Y17 (E := [Ent.obj nb_1 (.cells #[.slice none 0 0, .int .i64 0, .slice A_1 ([] : List TF0).length cap_1, .map (some nb_1m0), .slice A_2 ([] : List TF0).length cap_2, .int .i64 0] 64 (0, 0)), Ent.row 31 5 (.slice A_1 ([] : List TF0).length cap_1) ([] : List TF0).length [], Ent.obj nb_1m0 (mapO (Value.int .i64) (fun x : TB0 => Value.agg #[.bool x.fEnded, .bool x.fOk, S x.fPhys]) ([] : List (Int × TB0))), Ent.row 31 5 (.slice A_2 ([] : List TF0).length cap_2) ([] : List TF0).length []]) (H := ((Ent.obj b_1 (.cells #[.int .i64 1, .int .i8 0, S [], S [68, 105, 115, 107], .slice none 0 0] 31 (0, 0))) :: H)) f p_12 (cloud_Cloud_Submit_ok n _ (GL.mono hM_1 hG) nb_1 ([] : List TE0) none 0 Sli.nil (0 : Int) ([] : List TF0) A_1 cap_1 [] hr_1 nb_1m0 ([] : List (Int × TB0)) ([] : List TF0) A_2 cap_2 [] hr_2 (0 : Int) _ (⟨(1 : Int), (0 : Int), ([] : List UInt8), [68, 105, 115, 107], ([] : List TC0)⟩ : TF0) (TF0.shut Sli.nil) x_2 hx_2) fun _ M_2 E_2 w_5 hM_2 p_9 q_2 _ f => ?_
 obtain ⟨A_3, cap_3, A_4, cap_4, cs_1, A_5, cap_5, cs_2, rfl, rfl, h_1, hr_3, hr_4⟩ := q_2
 refine W_end rfl (M_go (M1 := M_2) (E := [Ent.obj nb_1 (.cells #[.slice A_3 x_2.2.1.length cap_3, .int .i64 x_2.2.2.1, .slice A_4 x_2.2.2.2.1.length cap_4, .map (some nb_1m0), .slice A_5 x_2.2.2.2.2.2.1.length cap_5, .int .i64 x_2.2.2.2.2.2.2] 64 (0, 0)), Ent.row 31 5 (.slice A_4 x_2.2.2.2.1.length cap_4) x_2.2.2.2.1.length cs_1, Ent.obj nb_1m0 (mapO (Value.int .i64) (fun x : TB0 => Value.agg #[.bool x.fEnded, .bool x.fOk, S x.fPhys]) x_2.2.2.2.2.1), Ent.row 31 5 (.slice A_5 x_2.2.2.2.2.2.1.length cap_5) x_2.2.2.2.2.2.1.length cs_2]) hM_2 p_9 (M_fix (E := [Ent.obj nb_1 (.cells #[.slice A_3 x_2.2.1.length cap_3, .int .i64 x_2.2.2.1, .slice A_4 x_2.2.2.2.1.length cap_4, .map (some nb_1m0), .slice A_5 x_2.2.2.2.2.2.1.length cap_5, .int .i64 x_2.2.2.2.2.2.2] 64 (0, 0)), Ent.row 31 5 (.slice A_4 x_2.2.2.2.1.length cap_4) x_2.2.2.2.1.length cs_1, Ent.obj nb_1m0 (mapO (Value.int .i64) (fun x : TB0 => Value.agg #[.bool x.fEnded, .bool x.fOk, S x.fPhys]) x_2.2.2.2.2.1), Ent.row 31 5 (.slice A_5 x_2.2.2.2.2.2.1.length cap_5) x_2.2.2.2.2.2.1.length cs_2]) fun w_6 p_13 => ?_))
 obtain ⟨x_3, hx_3, hF_3⟩ := bS hF_2
 refine Y17 (E := [Ent.obj nb_1 (.cells #[.slice A_3 x_2.2.1.length cap_3, .int .i64 x_2.2.2.1, .slice A_4 x_2.2.2.2.1.length cap_4, .map (some nb_1m0), .slice A_5 x_2.2.2.2.2.2.1.length cap_5, .int .i64 x_2.2.2.2.2.2.2] 64 (0, 0)), Ent.row 31 5 (.slice A_4 x_2.2.2.2.1.length cap_4) x_2.2.2.2.1.length cs_1, Ent.obj nb_1m0 (mapO (Value.int .i64) (fun x : TB0 => Value.agg #[.bool x.fEnded, .bool x.fOk, S x.fPhys]) x_2.2.2.2.2.1), Ent.row 31 5 (.slice A_5 x_2.2.2.2.2.2.1.length cap_5) x_2.2.2.2.2.2.1.length cs_2]) (H := ((Ent.obj b_1 (.cells #[.int .i64 1, .int .i8 0, S [], S [68, 105, 115, 107], .slice none 0 0] 31 (0, 0))) :: H)) f p_13 (cloud_Cloud_Submit_ok n _ (GL.mono (hM_1.trans hM_2) hG) nb_1 x_2.2.1 A_3 cap_3 h_1 x_2.2.2.1 x_2.2.2.2.1 A_4 cap_4 cs_1 hr_3 nb_1m0 x_2.2.2.2.2.1 x_2.2.2.2.2.2.1 A_5 cap_5 cs_2 hr_4 x_2.2.2.2.2.2.2 _ (⟨(1 : Int), (0 : Int), ([] : List UInt8), [68, 105, 115, 107], ([] : List TC0)⟩ : TF0) (TF0.shut Sli.nil) x_3 hx_3) fun _ M_3 E_3 w_7 hM_3 p_14 q_3 _ f => ?_
 obtain ⟨A_6, cap_6, A_7, cap_7, cs_3, A_8, cap_8, cs_4, rfl, rfl, h_2, hr_5, hr_6⟩ := q_3
 refine W_end rfl (M_go (M1 := M_3) (E := [Ent.obj nb_1 (.cells #[.slice A_6 x_3.2.1.length cap_6, .int .i64 x_3.2.2.1, .slice A_7 x_3.2.2.2.1.length cap_7, .map (some nb_1m0), .slice A_8 x_3.2.2.2.2.2.1.length cap_8, .int .i64 x_3.2.2.2.2.2.2] 64 (0, 0)), Ent.row 31 5 (.slice A_7 x_3.2.2.2.1.length cap_7) x_3.2.2.2.1.length cs_3, Ent.obj nb_1m0 (mapO (Value.int .i64) (fun x : TB0 => Value.agg #[.bool x.fEnded, .bool x.fOk, S x.fPhys]) x_3.2.2.2.2.1), Ent.row 31 5 (.slice A_8 x_3.2.2.2.2.2.1.length cap_8) x_3.2.2.2.2.2.1.length cs_4]) (hM_2.trans hM_3) p_14 (Y0 default f 2 fun _ f => M_end rfl fun w_8 p_15 => T_n (RR (Y f 1 fun _ f => ?_))))
 obtain ⟨x_4, hx_4, hF_4⟩ := bS hF_3
 refine Y17 (E := [Ent.obj nb_1 (.cells #[.slice A_6 x_3.2.1.length cap_6, .int .i64 x_3.2.2.1, .slice A_7 x_3.2.2.2.1.length cap_7, .map (some nb_1m0), .slice A_8 x_3.2.2.2.2.2.1.length cap_8, .int .i64 x_3.2.2.2.2.2.2] 64 (0, 0)), Ent.row 31 5 (.slice A_7 x_3.2.2.2.1.length cap_7) x_3.2.2.2.1.length cs_3, Ent.obj nb_1m0 (mapO (Value.int .i64) (fun x : TB0 => Value.agg #[.bool x.fEnded, .bool x.fOk, S x.fPhys]) x_3.2.2.2.2.1), Ent.row 31 5 (.slice A_8 x_3.2.2.2.2.2.1.length cap_8) x_3.2.2.2.2.2.1.length cs_4]) (H := ((Ent.obj b_1 (.cells #[.int .i64 1, .int .i8 0, S [], S [68, 105, 115, 107], .slice none 0 0] 31 (0, 0))) :: H)) f p_15 (cloud_Cloud_End_ok n _ (GL.mono ((hM_1.trans hM_2).trans hM_3) hG) nb_1 x_3.2.1 A_6 cap_6 h_2 x_3.2.2.1 x_3.2.2.2.1 A_7 cap_7 cs_3 hr_5 nb_1m0 x_3.2.2.2.2.1 x_3.2.2.2.2.2.1 A_8 cap_8 cs_4 hr_6 x_3.2.2.2.2.2.2 (0 : Int) (true) x_4 hx_4) fun _ M_4 E_4 w_9 hM_4 p_16 q_4 _ f => ?_
 obtain ⟨c_1, A_9, cap_9, A_10, cap_10, cs_5, A_11, cap_11, cs_6, rfl, rfl, hr_7, h_3, hr_8, hr_9⟩ := q_4
 obtain rfl := TB0.opn hr_7
 refine Y f 4 fun _ f => Y12 f p_16 (.cells #[.bool false, .bool false, S []] 37 (0, 0)) fun b_2 w_10 p_17 _ f => Y f 1 fun _ f => Y27 (vs := [.bool x_4.2.1.fEnded, .bool x_4.2.1.fOk, S x_4.2.1.fPhys]) (j := 0) f p_17 rfl rfl (by simp [Value.oneCell', S]) (by simp) (by decide) (cs' := #[.bool x_4.2.1.fEnded, .bool x_4.2.1.fOk, S x_4.2.1.fPhys]) (by kernel_rfl) fun w_11 p_18 _ f => Y f 1 fun _ f => eT (RR (Y f 3 fun _ f => ?_))
 rcases cE hF_4 with ⟨h_4, hF_5⟩ | ⟨h_4, hF_18⟩
 ·have k_1 := dI.1 h_4
  have f := f.st 24 (cB h_4)
  refine Y f 4 fun _ f => ?_
  rcases cE hF_5 with ⟨h_5, hF_6⟩ | ⟨h_5, hF_17⟩
  ·have k_2 := dI.1 h_5
   have f := f.st 28 (cB h_5)
   refine Y f 4 fun _ f => ?_
   rcases cE hF_6 with ⟨h_6, hF_7⟩ | ⟨h_6, hF_16⟩
   ·have k_3 := dI.1 h_6
    have f := f.st 32 (cB h_6)
    refine Z (v := .agg #[.bool x_4.2.1.fEnded, .bool x_4.2.1.fOk, S x_4.2.1.fPhys]) f (Y33 (cs := [.bool x_4.2.1.fEnded, .bool x_4.2.1.fOk, S x_4.2.1.fPhys]) rfl (ad := ⟨b_2, 0, none⟩) (own_cells (p_18.ownCell 0 rfl) 0 rfl)) fun _ f => Y f 1 fun _ f => Z (v := .bool (andL [(x_4.2.1.fEnded == true), (x_4.2.1.fOk == true), decide (x_4.2.1.fPhys = [112, 49])])) f (Y28 rfl (xs := #[.bool x_4.2.1.fEnded, .bool x_4.2.1.fOk, S x_4.2.1.fPhys]) (ys := #[.bool true, .bool true, S [112, 49]]) (s := [(4, 0), (4, 1), (9, 2)]) (rs := [(x_4.2.1.fEnded == true), (x_4.2.1.fOk == true), decide (x_4.2.1.fPhys = [112, 49])]) (fun w => ⟨⟨.bool x_4.2.1.fEnded, .bool true, by kernel_rfl, by kernel_rfl, EqB (by kernel_rfl)⟩, ⟨.bool x_4.2.1.fOk, .bool true, by kernel_rfl, by kernel_rfl, EqB (by kernel_rfl)⟩, ⟨S x_4.2.1.fPhys, S [112, 49], by kernel_rfl, by kernel_rfl, EqS (by kernel_rfl)⟩, trivial⟩) _) fun _ f => Y f 2 fun _ f => ?_
    rcases cE hF_7 with ⟨h_7, hF_8⟩ | ⟨h_7, hF_15⟩
    ·have f := f.st 37 (cB h_7)
     refine Y f 4 fun _ f => ?_
     rcases cE hF_8 with ⟨h_8, hF_9⟩ | ⟨h_8, hF_14⟩
     ·have k_5 := dI.1 h_8
      have f := f.st 41 (cB h_8)
      refine Y f 1 fun _ f => ?_
      obtain ⟨x_5, hx_5, hF_10⟩ := bS hF_9
      have p_23 := p_18.pl [4, 4, 4, 4]
      refine Y17 (E := [Ent.obj nb_1 (.cells #[.slice A_9 x_4.2.2.2.1.length cap_9, .int .i64 x_4.2.2.2.2.1, .slice A_10 x_4.2.2.2.2.2.1.length cap_10, .map (some nb_1m0), .slice A_11 x_4.2.2.2.2.2.2.2.1.length cap_11, .int .i64 x_4.2.2.2.2.2.2.2.2] 64 (0, 0)), Ent.row 31 5 (.slice A_10 x_4.2.2.2.2.2.1.length cap_10) x_4.2.2.2.2.2.1.length cs_5, Ent.obj nb_1m0 (mapO (Value.int .i64) (fun x : TB0 => Value.agg #[.bool x.fEnded, .bool x.fOk, S x.fPhys]) x_4.2.2.2.2.2.2.1), Ent.row 31 5 (.slice A_11 x_4.2.2.2.2.2.2.2.1.length cap_11) x_4.2.2.2.2.2.2.2.1.length cs_6]) (H := ((Ent.obj b_2 (.cells #[.bool x_4.2.1.fEnded, .bool x_4.2.1.fOk, S x_4.2.1.fPhys] 37 (0, 0))) :: (Ent.obj b_1 (.cells #[.int .i64 1, .int .i8 0, S [], S [68, 105, 115, 107], .slice none 0 0] 31 (0, 0))) :: H)) f p_23 (cloud_Cloud_Made_ok n _ (GL.mono (((hM_1.trans hM_2).trans hM_3).trans hM_4) hG) nb_1 x_4.2.2.2.1 A_9 cap_9 h_3 x_4.2.2.2.2.1 x_4.2.2.2.2.2.1 A_10 cap_10 cs_5 hr_8 nb_1m0 x_4.2.2.2.2.2.2.1 x_4.2.2.2.2.2.2.2.1 A_11 cap_11 cs_6 hr_9 x_4.2.2.2.2.2.2.2.2 x_5 hx_5) fun _ M_5 E_5 w_12 hM_5 p_19 q_5 _ f => ?_
      obtain ⟨A_12, cap_12, A_13, cap_13, cs_7, A_14, cap_14, cs_8, rfl, rfl, h_9, hr_10, hr_11⟩ := q_5
      refine Y f 3 fun _ f => ?_
      rcases cE hF_10 with ⟨h_10, hF_11⟩ | ⟨h_10, hF_13⟩
      ·have k_6 := dI.1 h_10
       have f := f.st 46 (cB h_10)
       refine Y f 1 fun _ f => ?_
       obtain ⟨x_6, hx_6, hF_12⟩ := bS hF_11
       refine Y17 (E := [Ent.obj nb_1 (.cells #[.slice A_12 x_5.2.1.length cap_12, .int .i64 x_5.2.2.1, .slice A_13 x_5.2.2.2.1.length cap_13, .map (some nb_1m0), .slice A_14 x_5.2.2.2.2.2.1.length cap_14, .int .i64 x_5.2.2.2.2.2.2] 64 (0, 0)), Ent.row 31 5 (.slice A_13 x_5.2.2.2.1.length cap_13) x_5.2.2.2.1.length cs_7, Ent.obj nb_1m0 (mapO (Value.int .i64) (fun x : TB0 => Value.agg #[.bool x.fEnded, .bool x.fOk, S x.fPhys]) x_5.2.2.2.2.1), Ent.row 31 5 (.slice A_14 x_5.2.2.2.2.2.1.length cap_14) x_5.2.2.2.2.2.1.length cs_8]) (H := ((Ent.obj b_2 (.cells #[.bool x_4.2.1.fEnded, .bool x_4.2.1.fOk, S x_4.2.1.fPhys] 37 (0, 0))) :: (Ent.obj b_1 (.cells #[.int .i64 1, .int .i8 0, S [], S [68, 105, 115, 107], .slice none 0 0] 31 (0, 0))) :: H)) f p_19 (cloud_Cloud_Things_ok n _ (GL.mono ((((hM_1.trans hM_2).trans hM_3).trans hM_4).trans hM_5) hG) nb_1 x_5.2.1 A_12 cap_12 h_9 x_5.2.2.1 x_5.2.2.2.1 A_13 cap_13 cs_7 hr_10 nb_1m0 x_5.2.2.2.2.1 x_5.2.2.2.2.2.1 A_14 cap_14 cs_8 hr_11 x_5.2.2.2.2.2.2 x_6 hx_6) fun _ M_6 E_6 w_13 hM_6 p_24 q_6 _ f => ?_
       obtain ⟨A_15, cap_15, cs_9, A_16, cap_16, A_17, cap_17, cs_10, A_18, cap_18, cs_11, rfl, rfl, hr_12, h_11, hr_13, hr_14⟩ := q_6
       refine Y f 4 fun _ f => eT (wp_ret (E_ret1 f rfl (by kernel_rfl : Vc.look _ 0 = some (.bool (decide (((x_6.1.length : Nat) : Int) = 1)))) ?_))
       obtain rfl := sI hF_12
       exact ⟨_, rfl, M_6, (((((hM_1.trans hM_2).trans hM_3).trans hM_4).trans hM_5).trans hM_6), (p_24.dropN 7), rfl⟩
      ·have k_7 := iff_f dI h_10
       have f := f.st 46 (cB h_10)
       refine Y f 6 fun _ f => eT (wp_ret (E_ret1 f rfl (by kernel_rfl : Vc.look _ 0 = some (.bool false)) ?_))
       obtain rfl := sI hF_13
       exact ⟨_, rfl, M_5, ((((hM_1.trans hM_2).trans hM_3).trans hM_4).trans hM_5), (p_19.dropN 6), rfl⟩
     ·have k_8 := iff_f dI h_8
      have f := f.st 41 (cB h_8)
      refine Y f 11 fun _ f => eT (wp_ret (E_ret1 f rfl (by kernel_rfl : Vc.look _ 0 = some (.bool false)) ?_))
      obtain rfl := sI hF_14
      exact ⟨_, rfl, M_4, (((hM_1.trans hM_2).trans hM_3).trans hM_4), (p_18.dropN 6), rfl⟩
    ·have f := f.st 37 (cB h_7)
     refine Y f 15 fun _ f => eT (wp_ret (E_ret1 f rfl (by kernel_rfl : Vc.look _ 0 = some (.bool false)) ?_))
     obtain rfl := sI hF_15
     exact ⟨_, rfl, M_4, (((hM_1.trans hM_2).trans hM_3).trans hM_4), (p_18.dropN 6), rfl⟩
   ·have k_10 := iff_f dI h_6
    have f := f.st 32 (cB h_6)
    refine Y f 20 fun _ f => eT (wp_ret (E_ret1 f rfl (by kernel_rfl : Vc.look _ 0 = some (.bool false)) ?_))
    obtain rfl := sI hF_16
    exact ⟨_, rfl, M_4, (((hM_1.trans hM_2).trans hM_3).trans hM_4), (p_18.dropN 6), rfl⟩
  ·have k_11 := iff_f dI h_5
   have f := f.st 28 (cB h_5)
   refine Y f 24 fun _ f => eT (wp_ret (E_ret1 f rfl (by kernel_rfl : Vc.look _ 0 = some (.bool false)) ?_))
   obtain rfl := sI hF_17
   exact ⟨_, rfl, M_4, (((hM_1.trans hM_2).trans hM_3).trans hM_4), (p_18.dropN 6), rfl⟩
 ·have k_12 := iff_f dI h_4
  have f := f.st 24 (cB h_4)
  refine Y f 28 fun _ f => eT (wp_ret (E_ret1 f rfl (by kernel_rfl : Vc.look _ 0 = some (.bool false)) ?_))
  obtain rfl := sI hF_18
  exact ⟨_, rfl, M_4, (((hM_1.trans hM_2).trans hM_3).trans hM_4), (p_18.dropN 6), rfl⟩
def ref11_Great (n : Nat) (d0 : TF0) : Option Bool :=
  bif (decide ((200 : Int) < (d0.fPhys.length : Int))) then
    (some ((true)))
  else
    bif (decide ((200 : Int) < (d0.fType.length : Int))) then
      (some ((true)))
    else
      (ref09_Great n d0.fProps).bind fun x_1 =>
      some ((x_1))
theorem ref11_Great_ok (n : Nat) (M : Mem) (hG : GL M) (c0 : List Value) (d0 : TF0) (h0 : Rep M (emb_TF0 d0) c0) (r : Bool) (hF : ref11_Great n d0 = some r) : Ok Tryz.prog M 29 [.agg c0.toArray] (fun _ v => v = .bool r) := by
 unfold ref11_Great at hF
 intro M1 hM0 w0 H w p0
 replace hG := GL.mono hM0 hG
 replace h0 := Rep.mono hM0 _ _ h0
 obtain ⟨A_1, cap_1, rfl, h_1⟩ := TF0.opn h0
 refine R_enter 18 Tryz.func29 rfl rfl (by simp) fun a0 f0 => RR (Y13 (cs := #[.int .i64 d0.fToken, .int .i8 d0.fKind, S d0.fPhys, S d0.fType, .slice A_1 d0.fProps.length cap_1]) (T := 31) f0 p0 fun b_1 M_1 w_1 hM_1 hc_1 p_1 _ f => ?_)
 have hc_2 := fz_box hc_1
 refine Y f 1 fun _ f => eT (RR (Y f 1 fun _ f => Y15 f p_1 hc_2 2 rfl fun _ f => Y f 3 fun _ f => ?_))
 rcases cE hF with ⟨h_2, hF_1⟩ | ⟨h_2, hF_2⟩
 ·have k_1 := dI.1 h_2
  have f := f.st 7 (cB h_2)
  refine Y f 11 fun _ f => eT (wp_ret (E_ret1 f rfl (by kernel_rfl : Vc.look _ 2 = some (.bool true)) ?_))
  obtain rfl := sI hF_1
  exact ⟨_, rfl, M_1, hM_1, p_1, rfl⟩
 ·have k_2 := iff_f dI h_2
  have f := f.st 7 (cB h_2)
  refine Y f 1 fun _ f => Y15 f p_1 hc_2 3 rfl fun _ f => Y f 4 fun _ f => ?_
  rcases cE hF_2 with ⟨h_3, hF_3⟩ | ⟨h_3, hF_4⟩
  ·have k_3 := dI.1 h_3
   have f := f.st 13 (cB h_3)
   refine Y f 5 fun _ f => eT (wp_ret (E_ret1 f rfl (by kernel_rfl : Vc.look _ 2 = some (.bool true)) ?_))
   obtain rfl := sI hF_3
   exact ⟨_, rfl, M_1, hM_1, p_1, rfl⟩
  ·have k_4 := iff_f dI h_3
   have f := f.st 13 (cB h_3)
   refine Y f 1 fun _ f => Y15 f p_1 hc_2 4 rfl fun _ f => ?_
   obtain ⟨x_1, hx_1, hF_5⟩ := bS hF_4
   refine Y18 f p_1 (ref09_Great_ok n _ (GL.mono hM_1 hG) A_1 cap_1 d0.fProps (h_1.mono hM_1) x_1 hx_1) fun w_2 p_2 _ f => Y f 2 fun _ f => eT (wp_ret (E_ret1 f rfl (by kernel_rfl : Vc.look _ 2 = some (.bool x_1)) ?_))
   obtain rfl := sI hF_5
   exact ⟨_, rfl, M_1, hM_1, p_2, rfl⟩
structure CS where
  L : List TE0
  made : Int
  calls : List TF0
  ans : List (Int × TB0)
  inn : List TF0
  good : Int
set_option maxRecDepth 100000 in
theorem wakes11 : law11_wakes 10000 = some true := by decide +kernel
theorem wakes11b : ((law11_wakes 10000).bind fun x => some x) = some true := by rw [wakes11, bnd]
structure OkC (m : Nat) (c : CS) : Prop where
  good : GoodL c.L
  few : c.L.length ≤ m
  calls : c.calls.length ≤ m
  inn : c.inn.length ≤ m
  props : ∀ x ∈ c.inn, GoodP x.fProps
  g0 : 0 ≤ c.good
  g1 : c.good ≤ m
theorem OkC.le {m k : Nat} {c : CS} (h : OkC m c) (hmk : m ≤ k) : OkC k c := ⟨h.good, Nat.le_trans h.few hmk, Nat.le_trans h.calls hmk, Nat.le_trans h.inn hmk, h.props, h.g0, by have := h.g1; omega⟩
theorem great11 {n : Nat} (hn : 6000 < n) (x : TF0) : ∃ g, ref11_Great n x = some g ∧ (g = false → GoodP x.fProps) := by
 unfold ref11_Great
 by_cases h1 : (200 : Int) < (x.fPhys.length : Int)
 ·exact ⟨true, by rw [decide_eq_true h1, cT], fun h => by cases h⟩
 rw [decide_eq_false h1, cF]
 by_cases h2 : (200 : Int) < (x.fType.length : Int)
 ·exact ⟨true, by rw [decide_eq_true h2, cT], fun h => by cases h⟩
 rw [decide_eq_false h2, cF]
 obtain ⟨g, hg, hf⟩ := great9 hn x.fProps
 exact ⟨g, by rw [hg, bnd], fun h => ⟨(hf h).1, fun y hy => ((hf h).2 y hy).2⟩⟩
def cloud_Cloud_End_2 (n : Nat) (d1 : Int) (d2 : Bool) : Option (Int × TB0 × Int) :=
  some (((0 : Int), z_TB0, (1 : Int)))
theorem cloud_Cloud_End_2_ok (n : Nat) (M : Mem) (hG : GL M) (d1 : Int) (d2 : Bool) (r : Int × TB0 × Int) (hF : cloud_Cloud_End_2 n d1 d2 = some r) : Ok Tryz.prog M 10 [.pointer none, .int .i64 d1, .bool d2] (fun M' v => ∃ (c1 : List Value), v = .tuple #[.int .i64 r.1, .agg c1.toArray, .int .i64 r.2.2] ∧ Rep M' (emb_TB0 r.2.1) c1) := by
 unfold cloud_Cloud_End_2 at hF
 intro M1 hM0 w0 H w p0
 replace hG := GL.mono hM0 hG
 refine R_enter 64 Tryz.func10 rfl rfl (by simp) fun a0 f0 => RR (Y f0 1 fun _ f => Y12 f p0 (.cells #[.bool false, .bool false, S []] 37 (0, 0)) fun b_1 w_1 p_1 _ f => Y f 1 fun _ f => eT (R_seq (RR (Y f 1 fun _ f => Z (v := .bool true) f (X_ptrNil (q := none) (e := 64) rfl (by kernel_rfl) (by kernel_rfl) (by kernel_rfl) _) fun _ f => eT (Y8 f (R_seq ?_))))))
 refine R_drawT 2 p_1 (by kernel_rfl) (by kernel_rfl) fun w_2 p_2 => ST_eq (v := .agg #[.bool false, .bool false, S []]) f (by kernel_rfl) (by kernel_rfl) rfl rfl (Y33 (cs := [.bool false, .bool false, S []]) rfl (ad := ⟨b_1, 0, none⟩) (own_cells (p_2.ownCell 0 rfl) 0 rfl)) fun _ f => ST_eq (v := .int .i64 0) f (by kernel_rfl) (by kernel_rfl) rfl rfl (by kernel_rfl) fun _ f => ST_end rfl (Y27 (vs := [.bool false, .bool false, S []]) (j := 0) f p_2 rfl rfl (by simp [Value.oneCell', S]) (by simp) (by decide) (cs' := #[.bool false, .bool false, S []]) (by kernel_rfl) fun w_3 p_3 _ f => Y f 1 fun _ f => eT (wp_ret (T_r (E_rv3 f rfl (Y11 (v := .int .i64 0) f) (Y10 (cs := [.bool false, .bool false, S []]) (ad := ⟨b_1, 0, none⟩) f (own_cells (p_3.ownCell 0 rfl) 0 rfl)) (Y11 (v := .int .i64 1) f) ?_))))
 obtain rfl := sI hF
 exact ⟨_, rfl, M1, (mR _), (p_3.dropN 1), ⟨[.bool false, .bool false, S []], rfl, (TB0.shut)⟩⟩
def cloud_Cloud_Ask (n : Nat) (d1 : Int) : Option (TB0 × Bool) :=
  some ((z_TB0, (false)))
theorem cloud_Cloud_Ask_ok (n : Nat) (M : Mem) (hG : GL M) (d1 : Int) (r : TB0 × Bool) (hF : cloud_Cloud_Ask n d1 = some r) : Ok Tryz.prog M 13 [.pointer none, .int .i64 d1] (fun M' v => ∃ (c0 : List Value), v = .tuple #[.agg c0.toArray, .bool r.2] ∧ Rep M' (emb_TB0 r.1) c0) := by
 unfold cloud_Cloud_Ask at hF
 intro M1 hM0 w0 H w p0
 replace hG := GL.mono hM0 hG
 refine R_enter 22 Tryz.func13 rfl rfl (by simp) fun a0 f0 => RR (Y12 f0 p0 (.cells #[.bool false, .bool false, S []] 37 (0, 0)) fun b_1 w_1 p_1 _ f => Y f 1 fun _ f => eT (R_seq (RR (Y f 1 fun _ f => Z (v := .bool true) f (X_ptrNil (q := none) (e := 64) rfl (by kernel_rfl) (by kernel_rfl) (by kernel_rfl) _) fun _ f => eT (Y8 f (RR (Y f 1 fun _ f => ?_)))))))
 refine Y27 (vs := [.bool false, .bool false, S []]) (j := 0) f p_1 rfl rfl (by simp [Value.oneCell', S]) (by simp) (by decide) (cs' := #[.bool false, .bool false, S []]) (by kernel_rfl) fun w_2 p_2 _ f => Y f 1 fun _ f => eT (wp_ret (T_r (E_rv2 f rfl (Y10 (cs := [.bool false, .bool false, S []]) (ad := ⟨b_1, 0, none⟩) f (own_cells (p_2.ownCell 0 rfl) 0 rfl)) (Y11 (v := .bool false) f) ?_)))
 obtain rfl := sI hF
 exact ⟨_, rfl, M1, (mR _), (p_2.dropN 1), ⟨[.bool false, .bool false, S []], rfl, (TB0.shut)⟩⟩
def cloud_Cloud_Get (n : Nat) (d1 : List UInt8) : Option (TE0 × Bool) :=
  some ((z_TE0, (false)))
theorem cloud_Cloud_Get_ok (n : Nat) (M : Mem) (hG : GL M) (d1 : List UInt8) (r : TE0 × Bool) (hF : cloud_Cloud_Get n d1 = some r) : Ok Tryz.prog M 18 [.pointer none, S d1] (fun M' v => ∃ (c0 : List Value), v = .tuple #[.agg c0.toArray, .bool r.2] ∧ Rep M' (emb_TE0 r.1) c0) := by
 unfold cloud_Cloud_Get at hF
 intro M1 hM0 w0 H w p0
 replace hG := GL.mono hM0 hG
 refine R_enter 17 Tryz.func18 rfl rfl (by simp) fun a0 f0 => RR (Y12 f0 p0 (.cells #[S [], S [], .slice none 0 0] 50 (0, 0)) fun b_1 w_1 p_1 _ f => Y f 1 fun _ f => eT (R_seq (RR (Y f 1 fun _ f => Z (v := .bool true) f (X_ptrNil (q := none) (e := 64) rfl (by kernel_rfl) (by kernel_rfl) (by kernel_rfl) _) fun _ f => eT (Y8 f (RR (Y f 1 fun _ f => ?_)))))))
 refine Y27 (vs := [S [], S [], .slice none 0 0]) (j := 0) f p_1 rfl rfl (by simp [Value.oneCell', S]) (by simp) (by decide) (cs' := #[S [], S [], .slice none 0 0]) (by kernel_rfl) fun w_2 p_2 _ f => Y f 1 fun _ f => eT (wp_ret (T_r (E_rv2 f rfl (Y10 (cs := [S [], S [], .slice none 0 0]) (ad := ⟨b_1, 0, none⟩) f (own_cells (p_2.ownCell 0 rfl) 0 rfl)) (Y11 (v := .bool false) f) ?_)))
 obtain rfl := sI hF
 exact ⟨_, rfl, M1, (mR _), (p_2.dropN 1), ⟨[S [], S [], .slice none 0 0], rfl, (TE0.shut Sli.nil)⟩⟩
def cloud_Cloud_Submit_2 (n : Nat) (d1 : TF0) : Option Int :=
  some ((1 : Int))
theorem cloud_Cloud_Submit_2_ok (n : Nat) (M : Mem) (hG : GL M) (c1 : List Value) (d1 : TF0) (h1 : Rep M (emb_TF0 d1) c1) (r : Int) (hF : cloud_Cloud_Submit_2 n d1 = some r) : Ok Tryz.prog M 9 [.pointer none, .agg c1.toArray] (fun _ v => v = .int .i64 r) := by
 unfold cloud_Cloud_Submit_2 at hF
 intro M1 hM0 w0 H w p0
 replace hG := GL.mono hM0 hG
 replace h1 := Rep.mono hM0 _ _ h1
 obtain ⟨A_1, cap_1, rfl, h_1⟩ := TF0.opn h1
 refine R_enter 57 Tryz.func9 rfl rfl (by simp) fun a0 f0 => RR (Y12 f0 p0 (.cells #[.int .i64 d1.fToken, .int .i8 d1.fKind, S d1.fPhys, S d1.fType, .slice A_1 d1.fProps.length cap_1] 31 (0, 0)) fun b_1 w_1 p_1 _ f => Y f 1 fun _ f => eT (R_seq (RR (Y f 1 fun _ f => Z (v := .bool true) f (X_ptrNil (q := none) (e := 64) rfl (by kernel_rfl) (by kernel_rfl) (by kernel_rfl) _) fun _ f => eT (Y8 f (RR (Y f 1 fun _ f => ?_)))))))
 refine eT (wp_ret (T_r (E_ret1 f rfl (by kernel_rfl : Vc.look _ 4 = some (.int .i64 1)) ?_)))
 obtain rfl := sI hF
 exact ⟨_, rfl, M1, (mR _), (p_1.dropN 1), rfl⟩
def cloud_Cloud_Flight (n : Nat) : Option (List Int) :=
  some (([] : List Int))
theorem cloud_Cloud_Flight_ok (n : Nat) (M : Mem) (hG : GL M) (r : List Int) (hF : cloud_Cloud_Flight n = some r) : Ok Tryz.prog M 11 [.pointer none] (fun M' v => ∃ (A0 : Option Addr) (k0 : Nat), v = .slice A0 r.length k0 ∧ Sli M' 1 (Dat.int .i64) A0 k0 r) := by
 unfold cloud_Cloud_Flight at hF
 intro M1 hM0 w0 H w p0
 replace hG := GL.mono hM0 hG
 refine R_enter 23 Tryz.func11 rfl rfl (by simp) fun a0 f0 => RR (Y f0 1 fun _ f => eT (R_seq (RR (Y f 1 fun _ f => Z (v := .bool true) f (X_ptrNil (q := none) (e := 64) rfl (by kernel_rfl) (by kernel_rfl) (by kernel_rfl) _) fun _ f => eT (Y8 f (RR (Y f 1 fun _ f => eT (wp_ret (T_r ?_)))))))))
 refine E_ret1 f rfl (by kernel_rfl : Vc.look _ 2 = some (.slice none 0 0)) ?_
 obtain rfl := sI hF
 exact ⟨_, rfl, M1, (mR _), p0, ⟨none, 0, rfl, Sli.nil⟩⟩
def cloud_Cloud_Things_2 (n : Nat) : Option (List TE0) :=
  some (([] : List TE0))
theorem cloud_Cloud_Things_2_ok (n : Nat) (M : Mem) (hG : GL M) (r : List TE0) (hF : cloud_Cloud_Things_2 n = some r) : Ok Tryz.prog M 25 [.pointer none] (fun M' v => ∃ (A0 : Option Addr) (k0 : Nat), v = .slice A0 r.length k0 ∧ Sli M' 3 emb_TE0 A0 k0 r) := by
 unfold cloud_Cloud_Things_2 at hF
 intro M1 hM0 w0 H w p0
 replace hG := GL.mono hM0 hG
 refine R_enter 11 Tryz.func25 rfl rfl (by simp) fun a0 f0 => RR (Y f0 1 fun _ f => eT (R_seq (RR (Y f 1 fun _ f => Z (v := .bool true) f (X_ptrNil (q := none) (e := 64) rfl (by kernel_rfl) (by kernel_rfl) (by kernel_rfl) _) fun _ f => eT (Y8 f (RR (Y f 1 fun _ f => eT (wp_ret (T_r ?_)))))))))
 refine E_ret1 f rfl (by kernel_rfl : Vc.look _ 2 = some (.slice none 0 0)) ?_
 obtain rfl := sI hF
 exact ⟨_, rfl, M1, (mR _), p0, ⟨none, 0, rfl, Sli.nil⟩⟩
def cloud_Cloud_Calls (n : Nat) : Option (List TF0) :=
  some (([] : List TF0))
theorem cloud_Cloud_Calls_ok (n : Nat) (M : Mem) (hG : GL M) (r : List TF0) (hF : cloud_Cloud_Calls n = some r) : Ok Tryz.prog M 12 [.pointer none] (fun M' v => ∃ (A0 : Option Addr) (k0 : Nat), v = .slice A0 r.length k0 ∧ Sli M' 5 emb_TF0 A0 k0 r) := by
 unfold cloud_Cloud_Calls at hF
 intro M1 hM0 w0 H w p0
 replace hG := GL.mono hM0 hG
 refine R_enter 10 Tryz.func12 rfl rfl (by simp) fun a0 f0 => RR (Y f0 1 fun _ f => eT (R_seq (RR (Y f 1 fun _ f => Z (v := .bool true) f (X_ptrNil (q := none) (e := 64) rfl (by kernel_rfl) (by kernel_rfl) (by kernel_rfl) _) fun _ f => eT (Y8 f (RR (Y f 1 fun _ f => eT (wp_ret (T_r ?_)))))))))
 refine E_ret1 f rfl (by kernel_rfl : Vc.look _ 2 = some (.slice none 0 0)) ?_
 obtain rfl := sI hF
 exact ⟨_, rfl, M1, (mR _), p0, ⟨none, 0, rfl, Sli.nil⟩⟩
def cloud_Cloud_Made_2 (n : Nat) : Option Int :=
  some ((0 : Int))
theorem cloud_Cloud_Made_2_ok (n : Nat) (M : Mem) (hG : GL M) (r : Int) (hF : cloud_Cloud_Made_2 n = some r) : Ok Tryz.prog M 23 [.pointer none] (fun _ v => v = .int .i64 r) := by
 unfold cloud_Cloud_Made_2 at hF
 intro M1 hM0 w0 H w p0
 replace hG := GL.mono hM0 hG
 refine R_enter 9 Tryz.func23 rfl rfl (by simp) fun a0 f0 => RR (Y f0 1 fun _ f => eT (R_seq (RR (Y f 1 fun _ f => Z (v := .bool true) f (X_ptrNil (q := none) (e := 64) rfl (by kernel_rfl) (by kernel_rfl) (by kernel_rfl) _) fun _ f => eT (Y8 f (RR (Y f 1 fun _ f => eT (wp_ret (T_r ?_)))))))))
 refine E_ret1 f rfl (by kernel_rfl : Vc.look _ 2 = some (.int .i64 0)) ?_
 obtain rfl := sI hF
 exact ⟨_, rfl, M1, (mR _), p0, rfl⟩
def law11_CloudNil (n : Nat) (d0 : TF0) (d1 : Int) : Option Bool :=
  (ref11_Great n d0).bind fun x_1 =>
  bif x_1 then
    ((law11_wakes n).bind fun x_2 =>
    some ((x_2)))
  else
    (cloud_Cloud_End_2 n d1 (true)).bind fun x_3 =>
    (cloud_Cloud_Ask n d1).bind fun x_4 =>
    (cloud_Cloud_Get n d0.fPhys).bind fun x_5 =>
    (cloud_Cloud_Submit_2 n d0).bind fun x_6 =>
    bif (decide (x_6 = 1)) then
      (bif (andL [(x_3.2.1.fEnded == false), (x_3.2.1.fOk == false), decide (x_3.2.1.fPhys = [])]) then
        (bif (decide (x_3.2.2 = 1)) then
          (bif !x_4.2 then
            (bif !x_5.2 then
              ((cloud_Cloud_Flight n).bind fun x_7 =>
              (cloud_Cloud_Things_2 n).bind fun x_8 =>
              need (inR .i64 (((x_7.length : Nat) : Int) + ((x_8.length : Nat) : Int))) <|
              (cloud_Cloud_Calls n).bind fun x_9 =>
              need (inR .i64 ((((x_7.length : Nat) : Int) + ((x_8.length : Nat) : Int)) + ((x_9.length : Nat) : Int))) <|
              (cloud_Cloud_Made_2 n).bind fun x_10 =>
              need (inR .i64 (((((x_7.length : Nat) : Int) + ((x_8.length : Nat) : Int)) + ((x_9.length : Nat) : Int)) + x_10)) <|
              bif (decide ((((((x_7.length : Nat) : Int) + ((x_8.length : Nat) : Int)) + ((x_9.length : Nat) : Int)) + x_10) = 0)) then
                ((law11_wakes n).bind fun x_11 =>
                some ((x_11)))
              else
                some ((false)))
            else
              some ((false)))
          else
            some ((false)))
        else
          some ((false)))
      else
        some ((false)))
    else
      some ((false))
set_option maxRecDepth 20000 in
theorem law11_CloudNil_ok (n : Nat) (M : Mem) (hG : GL M) (c0 : List Value) (d0 : TF0) (h0 : Rep M (emb_TF0 d0) c0) (d1 : Int) (r : Bool) (hF : law11_CloudNil n d0 d1 = some r) : Ok Tryz.prog M 5 [.agg c0.toArray, .int .i64 d1] (fun _ v => v = .bool r) := by
 unfold law11_CloudNil at hF
 intro M1 hM0 w0 H w p0
 replace hG := GL.mono hM0 hG
 replace h0 := Rep.mono hM0 _ _ h0
 obtain ⟨A_1, cap_1, rfl, h_1⟩ := TF0.opn h0
 refine R_enter 77 Tryz.func5 rfl rfl (by simp) fun a0 f0 => RR (Y13 (cs := #[.int .i64 d0.fToken, .int .i8 d0.fKind, S d0.fPhys, S d0.fType, .slice A_1 d0.fProps.length cap_1]) (T := 31) f0 p0 fun b_1 M_1 w_1 hM_1 hc_1 p_1 _ f => ?_)
 have hc_2 := fz_box hc_1
 refine Y f 1 fun _ f => eT (R_seq (RR (Z (v := .agg #[.int .i64 d0.fToken, .int .i8 d0.fKind, S d0.fPhys, S d0.fType, .slice A_1 d0.fProps.length cap_1]) f (Y33 (cs := [.int .i64 d0.fToken, .int .i8 d0.fKind, S d0.fPhys, S d0.fType, .slice A_1 d0.fProps.length cap_1]) rfl (ad := ⟨b_1, 0, none⟩) (fun j v h => p_1.cell (hc_2 j v h))) fun _ f => ?_)))
 obtain ⟨x_1, hx_1, hF_1⟩ := bS hF
 refine Y18 f p_1 (ref11_Great_ok n _ (GL.mono hM_1 hG) _ d0 (TF0.shutx (x := d0) (h_1.mono hM_1)) x_1 hx_1) fun w_2 p_2 _ f => eT (RcF f hF_1 (fun h_2 hF_2 => ?_) fun h_2 hF_4 => ?_)
 ·refine RR ?_
  obtain ⟨x_2, hx_2, hF_3⟩ := bS hF_2
  refine Y18 f p_2 (law11_wakes_ok n _ (GL.mono hM_1 hG) x_2 hx_2) fun w_3 p_3 _ f => Y f 1 fun _ f => eT (wp_ret (T_r (E_ret1 f rfl (by kernel_rfl : Vc.look _ 4 = some (.bool x_2)) ?_)))
  obtain rfl := sI hF_3
  exact ⟨_, rfl, M_1, hM_1, p_3, rfl⟩
 ·refine wp_skip (T_n (RR (Y f 1 fun _ f => eT (RR (Y f 2 fun _ f => ?_)))))
  obtain ⟨x_3, hx_3, hF_5⟩ := bS hF_4
  refine Y16 f p_2 (cloud_Cloud_End_2_ok n _ (GL.mono hM_1 hG) d1 (true) x_3 hx_3) fun _ M_2 w_4 hM_2 p_4 q_1 _ f => ?_
  obtain ⟨c_1, rfl, hr_1⟩ := q_1
  obtain rfl := TB0.opn hr_1
  refine Y f 4 fun _ f => Y12 f p_4 (.cells #[.bool false, .bool false, S []] 37 (0, 0)) fun b_2 w_5 p_5 _ f => Y f 1 fun _ f => Y27 (vs := [.bool x_3.2.1.fEnded, .bool x_3.2.1.fOk, S x_3.2.1.fPhys]) (j := 0) f p_5 rfl rfl (by simp [Value.oneCell', S]) (by simp) (by decide) (cs' := #[.bool x_3.2.1.fEnded, .bool x_3.2.1.fOk, S x_3.2.1.fPhys]) (by kernel_rfl) fun w_6 p_6 _ f => Y f 1 fun _ f => eT (RR (Y f 2 fun _ f => ?_))
  obtain ⟨x_4, hx_4, hF_6⟩ := bS hF_5
  refine Y16 f p_6 (cloud_Cloud_Ask_ok n _ (GL.mono (hM_1.trans hM_2) hG) d1 x_4 hx_4) fun _ M_3 w_7 hM_3 p_7 q_2 _ f => ?_
  obtain ⟨c_2, rfl, hr_2⟩ := q_2
  obtain rfl := TB0.opn hr_2
  refine Y f 3 fun _ f => Y12 f p_7 (.cells #[.bool false, .bool false, S []] 37 (0, 0)) fun b_3 w_8 p_8 _ f => Y27 (vs := [.bool x_4.1.fEnded, .bool x_4.1.fOk, S x_4.1.fPhys]) (j := 0) f p_8 rfl rfl (by simp [Value.oneCell', S]) (by simp) (by decide) (cs' := #[.bool x_4.1.fEnded, .bool x_4.1.fOk, S x_4.1.fPhys]) (by kernel_rfl) fun w_9 p_9 _ f => Y f 1 fun _ f => eT (RR (Y f 2 fun _ f => Y15 f p_9 (fzu (hM_2.trans hM_3) hc_2) 2 rfl fun _ f => ?_))
  obtain ⟨x_5, hx_5, hF_7⟩ := bS hF_6
  refine Y16 f p_9 (cloud_Cloud_Get_ok n _ (GL.mono ((hM_1.trans hM_2).trans hM_3) hG) d0.fPhys x_5 hx_5) fun _ M_4 w_10 hM_4 p_10 q_3 _ f => ?_
  obtain ⟨c_3, rfl, hr_3⟩ := q_3
  obtain ⟨A_2, cap_2, rfl, h_3⟩ := TE0.opn hr_3
  refine Y f 3 fun _ f => Y12 f p_10 (.cells #[S [], S [], .slice none 0 0] 50 (0, 0)) fun b_4 w_11 p_11 _ f => Y27 (vs := [S x_5.1.fPhys, S x_5.1.fType, .slice A_2 x_5.1.fProps.length cap_2]) (j := 0) f p_11 rfl rfl (by simp [Value.oneCell', S]) (by simp) (by decide) (cs' := #[S x_5.1.fPhys, S x_5.1.fType, .slice A_2 x_5.1.fProps.length cap_2]) (by kernel_rfl) fun w_12 p_12 _ f => Y f 1 fun _ f => eT (RR (Y f 1 fun _ f => Z (v := .agg #[.int .i64 d0.fToken, .int .i8 d0.fKind, S d0.fPhys, S d0.fType, .slice A_1 d0.fProps.length cap_1]) f (Y33 (cs := [.int .i64 d0.fToken, .int .i8 d0.fKind, S d0.fPhys, S d0.fType, .slice A_1 d0.fProps.length cap_1]) rfl (ad := ⟨b_1, 0, none⟩) (fun j v h => p_12.cell ((fzu ((hM_2.trans hM_3).trans hM_4) hc_2) j v h))) fun _ f => ?_))
  obtain ⟨x_6, hx_6, hF_8⟩ := bS hF_7
  refine Y18 f p_12 (cloud_Cloud_Submit_2_ok n _ (GL.mono (((hM_1.trans hM_2).trans hM_3).trans hM_4) hG) _ d0 (TF0.shutx (x := d0) (h_1.mono (((hM_1.trans hM_2).trans hM_3).trans hM_4))) x_6 hx_6) fun w_13 p_13 _ f => Y f 2 fun _ f => ?_
  rcases cE hF_8 with ⟨h_4, hF_9⟩ | ⟨h_4, hF_28⟩
  ·have k_3 := dI.1 h_4
   have f := f.st 40 (cB h_4)
   refine Z (v := .agg #[.bool x_3.2.1.fEnded, .bool x_3.2.1.fOk, S x_3.2.1.fPhys]) f (Y33 (cs := [.bool x_3.2.1.fEnded, .bool x_3.2.1.fOk, S x_3.2.1.fPhys]) rfl (ad := ⟨b_2, 0, none⟩) (own_cells (p_13.ownCell 2 rfl) 0 rfl)) fun _ f => Y f 1 fun _ f => Z (v := .bool (andL [(x_3.2.1.fEnded == false), (x_3.2.1.fOk == false), decide (x_3.2.1.fPhys = [])])) f (Y28 rfl (xs := #[.bool x_3.2.1.fEnded, .bool x_3.2.1.fOk, S x_3.2.1.fPhys]) (ys := #[.bool false, .bool false, S []]) (s := [(4, 0), (4, 1), (9, 2)]) (rs := [(x_3.2.1.fEnded == false), (x_3.2.1.fOk == false), decide (x_3.2.1.fPhys = [])]) (fun w => ⟨⟨.bool x_3.2.1.fEnded, .bool false, by kernel_rfl, by kernel_rfl, EqB (by kernel_rfl)⟩, ⟨.bool x_3.2.1.fOk, .bool false, by kernel_rfl, by kernel_rfl, EqB (by kernel_rfl)⟩, ⟨S x_3.2.1.fPhys, S [], by kernel_rfl, by kernel_rfl, EqS (by kernel_rfl)⟩, trivial⟩) _) fun _ f => Y f 2 fun _ f => ?_
   rcases cE hF_9 with ⟨h_5, hF_10⟩ | ⟨h_5, hF_27⟩
   ·have f := f.st 45 (cB h_5)
    refine Y f 4 fun _ f => ?_
    rcases cE hF_10 with ⟨h_6, hF_11⟩ | ⟨h_6, hF_26⟩
    ·have k_5 := dI.1 h_6
     have f := f.st 49 (cB h_6)
     refine Y f 4 fun _ f => ?_
     rcases cE hF_11 with ⟨h_7, hF_12⟩ | ⟨h_7, hF_25⟩
     ·have k_6 : (x_4.2) = false := by simpa using h_7
      have f := f.st 53 (cB h_7)
      refine Y f 4 fun _ f => ?_
      rcases cE hF_12 with ⟨h_8, hF_13⟩ | ⟨h_8, hF_24⟩
      ·have k_7 : (x_5.2) = false := by simpa using h_8
       have f := f.st 57 (cB h_8)
       refine Y f 1 fun _ f => ?_
       obtain ⟨x_7, hx_7, hF_14⟩ := bS hF_13
       refine Y16 f p_13 (cloud_Cloud_Flight_ok n _ (GL.mono (((hM_1.trans hM_2).trans hM_3).trans hM_4) hG) x_7 hx_7) fun _ M_5 w_14 hM_5 p_14 q_4 _ f => ?_
       obtain ⟨A_3, cap_3, rfl, h_9⟩ := q_4
       refine Y f 2 fun _ f => ?_
       obtain ⟨x_8, hx_8, hF_15⟩ := bS hF_14
       refine Y16 f p_14 (cloud_Cloud_Things_2_ok n _ (GL.mono ((((hM_1.trans hM_2).trans hM_3).trans hM_4).trans hM_5) hG) x_8 hx_8) fun _ M_6 w_15 hM_6 p_15 q_5 _ f => ?_
       obtain ⟨A_4, cap_4, rfl, h_10⟩ := q_5
       refine Y f 1 fun _ f => ?_
       obtain ⟨g_1, hF_16⟩ := nS hF_15
       refine Y f 1 fun _ f => ?_
       have f := f.st 64 (congrArg (Value.int .i64) (inR_wrap g_1))
       refine Y f 1 fun _ f => ?_
       obtain ⟨x_9, hx_9, hF_17⟩ := bS hF_16
       refine Y16 f p_15 (cloud_Cloud_Calls_ok n _ (GL.mono (((((hM_1.trans hM_2).trans hM_3).trans hM_4).trans hM_5).trans hM_6) hG) x_9 hx_9) fun _ M_7 w_16 hM_7 p_16 q_6 _ f => ?_
       obtain ⟨A_5, cap_5, rfl, h_11⟩ := q_6
       refine Y f 1 fun _ f => ?_
       obtain ⟨g_2, hF_18⟩ := nS hF_17
       refine Y f 1 fun _ f => ?_
       have f := f.st 68 (congrArg (Value.int .i64) (inR_wrap g_2))
       refine Y f 1 fun _ f => ?_
       obtain ⟨x_10, hx_10, hF_19⟩ := bS hF_18
       refine Y18 f p_16 (cloud_Cloud_Made_2_ok n _ (GL.mono ((((((hM_1.trans hM_2).trans hM_3).trans hM_4).trans hM_5).trans hM_6).trans hM_7) hG) x_10 hx_10) fun w_17 p_17 _ f => ?_
       obtain ⟨g_3, hF_20⟩ := nS hF_19
       refine Y f 1 fun _ f => ?_
       have f := f.st 71 (congrArg (Value.int .i64) (inR_wrap g_3))
       refine Y f 3 fun _ f => ?_
       rcases cE hF_20 with ⟨h_12, hF_21⟩ | ⟨h_12, hF_23⟩
       ·have k_8 := dI.1 h_12
        have f := f.st 74 (cB h_12)
        obtain ⟨x_11, hx_11, hF_22⟩ := bS hF_21
        refine Y18 f p_17 (law11_wakes_ok n _ (GL.mono ((((((hM_1.trans hM_2).trans hM_3).trans hM_4).trans hM_5).trans hM_6).trans hM_7) hG) x_11 hx_11) fun w_18 p_18 _ f => Y f 2 fun _ f => eT (wp_ret (E_ret1 f rfl (by kernel_rfl : Vc.look _ 4 = some (.bool x_11)) ?_))
        obtain rfl := sI hF_22
        exact ⟨_, rfl, M_7, ((((((hM_1.trans hM_2).trans hM_3).trans hM_4).trans hM_5).trans hM_6).trans hM_7), (p_18.dropN 3), rfl⟩
       ·have k_9 := iff_f dI h_12
        have f := f.st 74 (cB h_12)
        refine Y f 3 fun _ f => eT (wp_ret (E_ret1 f rfl (by kernel_rfl : Vc.look _ 4 = some (.bool false)) ?_))
        obtain rfl := sI hF_23
        exact ⟨_, rfl, M_7, ((((((hM_1.trans hM_2).trans hM_3).trans hM_4).trans hM_5).trans hM_6).trans hM_7), (p_17.dropN 3), rfl⟩
      ·have k_10 : (x_5.2) = true := by simpa using h_8
       have f := f.st 57 (cB h_8)
       refine Y f 20 fun _ f => eT (wp_ret (E_ret1 f rfl (by kernel_rfl : Vc.look _ 4 = some (.bool false)) ?_))
       obtain rfl := sI hF_24
       exact ⟨_, rfl, M_4, (((hM_1.trans hM_2).trans hM_3).trans hM_4), (p_13.dropN 3), rfl⟩
     ·have k_11 : (x_4.2) = true := by simpa using h_7
      have f := f.st 53 (cB h_7)
      refine Y f 24 fun _ f => eT (wp_ret (E_ret1 f rfl (by kernel_rfl : Vc.look _ 4 = some (.bool false)) ?_))
      obtain rfl := sI hF_25
      exact ⟨_, rfl, M_4, (((hM_1.trans hM_2).trans hM_3).trans hM_4), (p_13.dropN 3), rfl⟩
    ·have k_12 := iff_f dI h_6
     have f := f.st 49 (cB h_6)
     refine Y f 28 fun _ f => eT (wp_ret (E_ret1 f rfl (by kernel_rfl : Vc.look _ 4 = some (.bool false)) ?_))
     obtain rfl := sI hF_26
     exact ⟨_, rfl, M_4, (((hM_1.trans hM_2).trans hM_3).trans hM_4), (p_13.dropN 3), rfl⟩
   ·have f := f.st 45 (cB h_5)
    refine Y f 32 fun _ f => eT (wp_ret (E_ret1 f rfl (by kernel_rfl : Vc.look _ 4 = some (.bool false)) ?_))
    obtain rfl := sI hF_27
    exact ⟨_, rfl, M_4, (((hM_1.trans hM_2).trans hM_3).trans hM_4), (p_13.dropN 3), rfl⟩
  ·have k_14 := iff_f dI h_4
   have f := f.st 40 (cB h_4)
   refine Y f 37 fun _ f => eT (wp_ret (E_ret1 f rfl (by kernel_rfl : Vc.look _ 4 = some (.bool false)) ?_))
   obtain rfl := sI hF_28
   exact ⟨_, rfl, M_4, (((hM_1.trans hM_2).trans hM_3).trans hM_4), (p_13.dropN 3), rfl⟩
theorem cloudNil_true (x : TF0) (k : Int) : law11_CloudNil 10000 x k = some true := by
 unfold law11_CloudNil
 obtain ⟨g, hg, hf⟩ := great11 (n := 10000) (by omega) x
 rw [hg, bnd]
 cases g with
 | true => rw [cT, wakes11b]
 | false =>
  unfold cloud_Cloud_End_2 cloud_Cloud_Ask cloud_Cloud_Get cloud_Cloud_Submit_2 cloud_Cloud_Flight cloud_Cloud_Things_2 cloud_Cloud_Calls cloud_Cloud_Made_2
  have ha : andL [(z_TB0.fEnded == false), (z_TB0.fOk == false), decide (z_TB0.fPhys = [])] = true := by decide
  rw [cF, bnd, bnd, bnd, bnd, decide_eq_true rfl, cT]
  dsimp only
  rw [ha, cT, cT, Bool.not_false, cT, cT, bnd, bnd, need_i (by decide) (by decide), bnd, need_i (by decide) (by decide), bnd, need_i (by decide) (by decide), wakes11b]
  rfl
end Go.Proofs.YtocefedhenhbfabGreatDoor
end

section
namespace Go.Vc
open Go
mutual
def dsz : Dat → Nat
  | .int _ _ => 1
  | .bool _ => 1
  | .str l => l.length + 1
  | .list _ ds => dszs ds + 1
  | .struct ds => dszs ds + 1
def dszs : List Dat → Nat
  | [] => 0
  | d :: ds => dsz d + dszs ds
end
theorem dszs_app : ∀ (a b : List Dat), dszs (a ++ b) = dszs a + dszs b
 | [], b => by simp [dszs]
 | d :: a, b => by simp only [List.cons_append, dszs, dszs_app a b]; omega
theorem le_sum : ∀ {l : List Nat} {x : Nat}, x ∈ l → x ≤ l.sum
 | y :: l, x, h => by
  rcases List.mem_cons.1 h with rfl | h
  ·simp
  ·have := le_sum h; simp only [List.sum_cons]; omega
section
variable {H : Type}
structure BulkOk (B : DataW H → Nat) : Prop where
  one : ∀ d, 1 ≤ B d
  str : ∀ l, B (.lit (.string l)) = l.length + 1
  slice : ∀ e s, (e.map B).sum + 1 ≤ B (.slice e s)
  agg : ∀ e, (e.map B).sum + 1 ≤ B (.agg e)
variable {enc : TypeId × Value → H} {P : Program} {w : World} {t : TypeId} {α : Type} {f : α → Dat} {m : Nat} {B : DataW H → Nat}
def OpnAt (enc : TypeId × Value → H) (P : Program) (w : World) (t : TypeId) {α : Type} (f : α → Dat) (B : DataW H → Nat) (m : Nat) : Prop :=
  ∀ cs x, DataW.trod enc P w 0 (fun _ => true) true m t cs = some x → ∃ a, Rep (Mem.of w) (f a) cs ∧ Vld (f a) ∧ dsz (f a) ≤ B x.1
theorem OpnAt.zero : OpnAt enc P w t f B 0 := fun cs x h => by simp [DataW.trod] at h
theorem opa_int {k : IntKind} (hB : BulkOk B) (ht : P.underlying t = some (.int k)) : OpnAt enc P w t (Dat.int k) B m := fun cs x h => by
 obtain ⟨a, rfl, _, hw⟩ := DataW.trod_int ht h
 exact ⟨a, rfl, hw, hB.one _⟩
theorem opa_bool (hB : BulkOk B) (ht : P.underlying t = some .bool) : OpnAt enc P w t Dat.bool B m := fun cs x h => by
 obtain ⟨a, rfl, _⟩ := DataW.trod_bool ht h
 exact ⟨a, rfl, trivial, hB.one _⟩
theorem opa_str (hB : BulkOk B) (ht : P.underlying t = some .string) : OpnAt enc P w t Dat.str B m := fun cs x h => by
 obtain ⟨s, rfl, hx, hw⟩ := DataW.trod_string ht h
 refine ⟨s.data.toList, (by show [Value.string s] = _; rw [S_eta]), by show s.data.toList.length ≤ maxLen; simpa using hw, ?_⟩
 rw [hx]
 show s.data.toList.length + 1 ≤ B (.lit (.string s.data.toList))
 rw [hB.str]
 exact Nat.le_refl _
theorem opa_slice {e : TypeId} {sz : Nat} (hB : BulkOk B) (ht : P.underlying t = some (.slice e)) (hsz : P.cellsOf e = sz) (h : OpnAt enc P w e f B m) : OpnAt enc P w t (eL sz f) B (m + 1) := fun cs x hx => by
 rcases DataW.trod_slice ht hx with ⟨rfl, hx⟩ | ⟨ad, len, cap, elems, rest, n', hn', rfl, hxe, _, hlc, hcm, hel, hat, _⟩
 ·refine ⟨[], Sli.rep (Sli.nil (sz := sz) (f := f)), by simp [Vld, eL, VldAll], ?_⟩
  have := hB.one x.1
  simpa [eL, dsz, dszs] using this
 ·obtain rfl : n' = m := by omega
  have key : ∀ k, k ≤ len → ∃ xs : List α, xs.length = k ∧ RepArr (Mem.of w) sz (xs.map f) ad ∧ (∀ x ∈ xs, Vld (f x)) ∧ dszs (xs.map f) ≤ ((elems.take k).map fun x => B x.1).sum := by
   intro k
   induction k with
   | zero => intro _; exact ⟨[], rfl, trivial, fun x hx => (by cases hx), by simp [dszs]⟩
   | succ k ih =>
    intro hk
    obtain ⟨xs, h1, h2, h3, h3b⟩ := ih (by omega)
    have hk' : k < elems.length := by omega
    have := hat k (by omega)
    rw [List.getElem?_eq_getElem hk'] at this
    obtain ⟨cs', g1, g2⟩ := Option.bind_eq_some_iff.1 this
    obtain ⟨a, g3, g4, g4b⟩ := h cs' _ g2
    obtain ⟨g5, g6⟩ := cells_of g1
    rw [hsz] at g5 g6
    refine ⟨xs ++ [a], by simp [h1], ?_, fun x hx => ?_, ?_⟩
    ·rw [List.map_append]
     have app : ∀ (ds : List Dat) (ad : Addr), RepArr (Mem.of w) sz ds ad → RepArr (Mem.of w) sz [f a] (ad.add (ds.length * sz)) → RepArr (Mem.of w) sz (ds ++ [f a]) ad := by
      intro ds
      induction ds with
      | nil => intro ad _ hh; simpa [Addr.add] using hh
      | cons d ds ih =>
       intro ad h1 h2
       refine ⟨h1.1, ih _ h1.2 ?_⟩
       rw [add_of_add]
       rw [List.length_cons, show (ds.length + 1) * sz = sz + ds.length * sz by rw [Nat.add_mul]; omega] at h2
       exact h2
     refine app _ _ h2 ⟨⟨cs', g5, g3, ?_⟩, trivial⟩
     rw [List.length_map, h1]
     exact g6
    ·rcases List.mem_append.1 hx with hx | hx
     ·exact h3 x hx
     ·simp at hx; subst hx; exact g4
    ·rw [List.map_append, dszs_app, List.take_add_one, List.getElem?_eq_getElem hk', List.map_append, List.sum_append]
     simp only [List.map_cons, List.map_nil, dszs, Option.toList_some, List.sum_cons, List.sum_nil]
     omega
  obtain ⟨xs, h1, h2, h3, h3b⟩ := key len (Nat.le_refl _)
  subst h1
  refine ⟨xs, Sli.rep ⟨hlc, fun e => (by cases e), .inr ⟨ad, rfl, h2⟩⟩, ?_, ?_⟩
  ·refine ⟨by rw [List.length_map]; omega, VldAll.mk fun d hd => ?_⟩
   obtain ⟨x, hx, rfl⟩ := List.mem_map.1 hd
   exact h3 x hx
  ·rw [hxe]
   show dszs (xs.map f) + 1 ≤ _
   have := hB.slice (elems.map (·.1)) (rest.map (·.1))
   rw [← hel, List.take_length] at h3b
   rw [List.map_map] at this
   have e : (elems.map (B ∘ fun x => x.1)) = elems.map fun x => B x.1 := rfl
   rw [e] at this
   show _ ≤ B (.slice (elems.map (·.1)) (rest.map (·.1)))
   omega
theorem opa_slice0 {e : TypeId} {sz : Nat} (hB : BulkOk B) (ht : P.underlying t = some (.slice e)) (hsz : P.cellsOf e = sz) (h : ∀ k, k < m → OpnAt enc P w e f B k) : OpnAt enc P w t (eL sz f) B m := by
 cases m with
 | zero => exact OpnAt.zero
 | succ m => exact opa_slice hB ht hsz (h m (Nat.lt_succ_self m))
theorem OpnAt.arg (h : ∀ n, OpnAt enc P w t f B n) {v : Value} {d : DataW H} {ps : List MemPlace} (ht : DataW.Trod enc P w 0 (fun _ => true) true t v d ps) : ∃ a, Rep (Mem.of w) (f a) v.cells.toList ∧ Vld (f a) ∧ dsz (f a) ≤ B d := by
 obtain ⟨fuel, hf⟩ := ht
 exact h fuel _ _ hf
theorem OpnAt.struct_arg (h : ∀ n, OpnAt enc P w t f B n) {v : Value} {d : DataW H} {ps : List MemPlace} (hv : ∃ cs : Array Value, v = .agg cs) (ht : DataW.Trod enc P w 0 (fun _ => true) true t v d ps) :
  ∃ (c : List Value) (a : α), v = .agg c.toArray ∧ Rep (Mem.of w) (f a) c ∧ Vld (f a) ∧ dsz (f a) ≤ B d := by
 obtain ⟨cs, rfl⟩ := hv
 obtain ⟨a, h1, h2⟩ := OpnAt.arg h ht
 exact ⟨cs.toList, a, by simp, h1, h2⟩
end
end Go.Vc
end
