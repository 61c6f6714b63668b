/-
  Texts of this claim, packed (what nothing names is left out): T2, T3, T6, StoreP1, T4, T5, StoreP2, L6, StoreLDoes, Vo2, Op. Own work, partly printed by own programs. No condition.
-/
import Derived.Test.YtalifkcchfkgmaaGreatDoorPkC5
import Derived.Test.YtalifkcchfkgmaaGreatDoorPkC3
import Derived.Test.YtalifkcchfkgmaaGreatDoorRows
import Derived.Test.YtalifkcchfkgmaaGreatDoorPkC1
import Derived.Test.YtalifkcchfkgmaaGreatDoorPkC2
set_option linter.unusedVariables false
set_option linter.unusedSimpArgs false
set_option maxHeartbeats 2000000
section
namespace Go.Proofs.YtalifkcchfkgmaaGreatDoor
open Go Go.Vc Go.RowKit
def store_Check_s1 (n : Nat) (d0 : TB0) (s_1 : Int × Int) : Option (Lp (Int × Int) (Sum Unit Int)) :=
    bif (decide (s_1.2 < ((d0.fL.length : Nat) : Int))) then
      ((getI d0.fL s_1.2).bind fun x_1 =>
      (store_Number n x_1.fPhys).bind fun x_2 =>
      bif !x_2.2 then
        (some (.br (.inl ())))
      else
        bif (decide (x_2.1 ≤ s_1.1)) then
          (some (.br (.inl ())))
        else
          (schema_Check n x_1.fType x_1.fProps).bind fun x_3 =>
          bif (!(decide (x_3 = 0))) then
            (some (.br (.inl ())))
          else
            (store_known n x_1.fProps).bind fun x_4 =>
            bif !x_4 then
              (some (.br (.inl ())))
            else
              need (inR .i64 (s_1.2 + 1)) <|
              some (.nx (x_2.1, s_1.2 + 1)))
    else
      some (.br (.inr s_1.1))
def store_Check (n : Nat) (d0 : TB0) : Option Int :=
  (loopF (store_Check_s1 n d0) n ((0 : Int), (0 : Int))).bind fun b_2 =>
  (match b_2 with 
  | .inl y_1 => some ((2 : Int)) 
  | .inr y_2 => bif (decide (d0.fMade < y_2)) then
      (some ((2 : Int)))
    else
      bif (decide ((1099511627776 : Int) < d0.fMade)) then
        (some ((2 : Int)))
      else
        some ((0 : Int)))
theorem store_Check_ok (n : Nat) (M : Mem) (hG : GL M) (c0 : List Value) (d0 : TB0) (h0 : Rep M (emb_TB0 d0) c0) (r : Int) (hF : store_Check n d0 = some r) : Ok Tryz.prog M 21 [.agg c0.toArray] (fun _ v => v = .int .i64 r) := by
 unfold store_Check at hF
 intro M1 hM0 w0 H w p0
 replace hG := GL.mono hM0 hG
 replace h0 := Rep.mono hM0 _ _ h0
 obtain ⟨A_1, cap_1, rfl, h_1⟩ := TB0.opn h0
 refine R_enter 53 Tryz.func21 rfl rfl (by simp) fun a0 f0 => RR (Y13 (cs := #[.slice A_1 d0.fL.length cap_1, .int .i64 d0.fMade]) (T := 24) f0 p0 fun b_1 M_1 w_1 hM_1 hc_1 p_1 _ f => ?_)
 have hc_2 := fz_box hc_1
 refine Y f 1 fun _ f => eT (RR (Y f 1 fun _ f => eT (R_seq (RR (Y f 1 fun _ f => Y15 f p_1 hc_2 0 rfl fun _ f => Y f 2 fun _ f => eT (wp_block ?_))))))
 obtain ⟨b_2, hL_1, hF_1⟩ := bS hF
 refine wp_mono (Q := fun e a w => (e = .ret ∧ (∃ y_1 : Unit, b_2 = .inl y_1 ∧ ∃ M_3 : Mem, M_1.le M_3 ∧ Frm 53 [(2, .int .i64 2)] a ∧ Hp w0 M_3 (H) w)) ∨ (e = .exit 0 ∧ (∃ y_2 : Int, b_2 = .inr y_2 ∧ ∃ M_4 : Mem, M_1.le M_4 ∧ Frm 53 [(1, .pointer (some (⟨b_1, 0, none⟩))), (3, .int .i64 y_2)] a ∧ Hp w0 M_4 (H) w))) (R_loop (n := 53) (w0 := w0) (M := M_1) (fun (x : Nat × (Int × Int)) => match x with | (m_1, s_1) => [(1, .pointer (some (⟨b_1, 0, none⟩))), (3, .int .i64 s_1.1), (9, .slice A_1 d0.fL.length cap_1), (10, .int .i64 ((d0.fL.length : Nat) : Int)), (11, .int .i64 s_1.2)]) (fun (x : Nat × (Int × Int)) => match x with | (m_1, s_1) => (H)) (fun (x : Nat × (Int × Int)) (MM : Mem) => match x with | (m_1, s_1) => loopF (store_Check_s1 n d0) m_1 s_1 = some b_2) (fun (x : Nat × (Int × Int)) => match x with | (m_1, s_1) => m_1) (n, ((0 : Int), (0 : Int))) (f.kp) p_1 hL_1 ?_) ?_
 ·rintro ⟨m_1, s_1⟩ M_2 _ w_2 hM_2 I_1 f p_2
  have I_1L := I_1
  obtain ⟨m_2, r_1, rfl, hs_1, hn_1⟩ := loop_step I_1L
  unfold store_Check_s1 at hs_1
  refine RR (Y f 1 fun _ f => eT (R_seq (RcF f hs_1 (fun h_2 hF_2 => ?_) fun h_2 hF_16 => ?_)))
  ·have k_1 := dI.1 h_2
   refine wp_skip (T_n (R_seq (wp_block (RR ?_))))
   obtain ⟨x_1, hx_1, hF_3⟩ := bS hF_2
   obtain ⟨ad_1, c_1, e_1, -, hr_1, hc_3⟩ := Sli.at_ (h_1.mono (hM_1.trans hM_2)) hx_1
   obtain ⟨A_2, cap_2, rfl, h_3⟩ := TD0.opn hr_1
   refine Z f (Y31 e_1 rfl (len := d0.fL.length) (cap := cap_1) (k := .i64) (i := s_1.2) (e := 52) (sz := 3) (getI_nn hx_1) (getI_lt hx_1)) fun _ f => Z (v := .agg #[S x_1.fPhys, S x_1.fType, .slice A_2 x_1.fProps.length cap_2]) f (Y33 (cs := [S x_1.fPhys, S x_1.fType, .slice A_2 x_1.fProps.length cap_2]) rfl (ad := ad_1.add (s_1.2.toNat * 3)) (fun j v h => p_2.cell (hc_3 j v h))) fun _ f => Y12 f p_2 (.cells #[S [], S [], .slice none 0 0] 52 (0, 0)) fun b_3 w_3 p_3 _ f => Y28 (vs := [S x_1.fPhys, S x_1.fType, .slice A_2 x_1.fProps.length cap_2]) (j := 0) f p_3 rfl rfl (by simp [Value.oneCell', S]) (by simp) (by decide) (cs' := #[S x_1.fPhys, S x_1.fType, .slice A_2 x_1.fProps.length cap_2]) (by kernel_rfl) fun w_4 p_4 _ f => eT (RR (Y f 1 fun _ f => Z f (Y32 (v := S x_1.fPhys) rfl (ad := ⟨b_3, 0, none⟩) (p_4.ownCell 0 rfl 0)) fun _ f => ?_))
   obtain ⟨x_2, hx_2, hF_4⟩ := bS hF_3
   refine Y18 f p_4 (store_Number_ok n _ (GL.mono (hM_1.trans hM_2) hG) x_1.fPhys x_2 hx_2) fun w_5 p_5 _ f => Y f 5 fun _ f => eT (R_seq (RR (Y f 3 fun _ f => ?_)))
   rcases cE hF_4 with ⟨h_4, hF_5⟩ | ⟨h_4, hF_6⟩
   ·have k_2 : (x_2.2) = false := by simpa using h_4
    have f := f.st 23 (cB h_4)
    refine Y f 18 fun _ f => eT (Y8 f (RR (Y f 1 fun _ f => eT (wp_ret (T_r (B_r (T_r (T_r ?_))))))))
    obtain rfl := sI hF_5
    exact .inl ⟨rfl, (), (sI hn_1).symm, M_2, hM_2, f.kp, (p_5.dropN 1)⟩
   ·have k_3 : (x_2.2) = true := by simpa using h_4
    have f := f.st 23 (cB h_4)
    refine Y f 5 fun _ f => ?_
    rcases cE hF_6 with ⟨h_5, hF_7⟩ | ⟨h_5, hF_8⟩
    ·have k_4 := dI.1 h_5
     have f := f.st 28 (cB h_5)
     refine Y f 13 fun _ f => eT (Y8 f (RR (Y f 1 fun _ f => eT (wp_ret (T_r (B_r (T_r (T_r ?_))))))))
     obtain rfl := sI hF_7
     exact .inl ⟨rfl, (), (sI hn_1).symm, M_2, hM_2, f.kp, (p_5.dropN 1)⟩
    ·have k_5 := iff_f dI h_5
     have f := f.st 28 (cB h_5)
     refine Y f 1 fun _ f => Z f (Y32 (v := S x_1.fType) rfl (ad := ⟨b_3, 1, none⟩) (p_5.ownCell 0 rfl 1)) fun _ f => Y f 1 fun _ f => Z f (Y32 (v := .slice A_2 x_1.fProps.length cap_2) rfl (ad := ⟨b_3, 2, none⟩) (p_5.ownCell 0 rfl 2)) fun _ f => ?_
     obtain ⟨x_3, hx_3, hF_9⟩ := bS hF_8
     refine Y18 f p_5 (schema_Check_ok n _ (GL.mono (hM_1.trans hM_2) hG) x_1.fType A_2 cap_2 x_1.fProps h_3 x_3 hx_3) fun w_6 p_6 _ f => Y f 3 fun _ f => ?_
     rcases cE hF_9 with ⟨h_6, hF_10⟩ | ⟨h_6, hF_11⟩
     ·have k_6 : ¬ (x_3 = 0) := (not_iff dI).1 h_6
      have f := f.st 36 (cB h_6)
      refine Y f 5 fun _ f => eT (Y8 f (RR (Y f 1 fun _ f => eT (wp_ret (T_r (B_r (T_r (T_r ?_))))))))
      obtain rfl := sI hF_10
      exact .inl ⟨rfl, (), (sI hn_1).symm, M_2, hM_2, f.kp, (p_6.dropN 1)⟩
     ·have k_7 : ¬ (¬ (x_3 = 0)) := iff_f (not_iff dI) h_6
      have f := f.st 36 (cB h_6)
      refine Y f 1 fun _ f => Z f (Y32 (v := .slice A_2 x_1.fProps.length cap_2) rfl (ad := ⟨b_3, 2, none⟩) (p_6.ownCell 0 rfl 2)) fun _ f => ?_
      obtain ⟨x_4, hx_4, hF_12⟩ := bS hF_11
      refine Y18 f p_6 (store_known_ok n _ (GL.mono (hM_1.trans hM_2) hG) A_2 cap_2 x_1.fProps h_3 x_4 hx_4) fun w_7 p_7 _ f => Y f 2 fun _ f => eT (RcF f hF_12 (fun h_7 hF_13 => ?_) fun h_7 hF_14 => ?_)
      ·have k_8 : (x_4) = false := by simpa using h_7
       refine RR (Y f 1 fun _ f => eT (wp_ret (T_r (B_r (T_r (T_r ?_))))))
       obtain rfl := sI hF_13
       exact .inl ⟨rfl, (), (sI hn_1).symm, M_2, hM_2, f.kp, (p_7.dropN 1)⟩
      ·have k_9 : (x_4) = true := by simpa using h_7
       refine wp_skip (T_n (R_reg (Y f 2 fun _ f => W_end rfl (B_n (T_n (R_reg ?_))))))
       obtain ⟨g_1, hF_15⟩ := nS hF_14
       refine Y f 1 fun _ f => ?_
       have f := f.st 43 (congrArg (Value.int .i64) (inR_wrap g_1))
       refine Y f 1 fun _ f => eT ?_
       obtain rfl := sI hF_15
       exact ⟨⟨m_2, (x_2.1, s_1.2 + 1)⟩, Nat.lt_succ_self _, M_2, hM_2, hn_1, f.kp, (p_7.dropN 1)⟩
  ·have k_10 := iff_f dI h_2
   refine wp_exit (T_x (T_x ?_))
   obtain rfl := sI hF_16
   exact .inr ⟨rfl, s_1.1, (sI hn_1).symm, M_2, hM_2, f.kp, p_2⟩
 ·rintro _ _ w_10 (⟨rfl, y_1, rfl, M_3, hM_3, f, p_8⟩ | ⟨rfl, y_2, rfl, M_4, hM_4, f, p_9⟩)
  ·refine B_r (T_r (E_ret1 f rfl (by kernel_rfl : Vc.look _ 2 = some (.int .i64 2)) ?_))
   obtain rfl := sI hF_1
   exact ⟨_, rfl, M_3, (hM_1.trans hM_3), p_8, rfl⟩
  ·refine B_x (T_n (R_seq (RR (Y f 1 fun _ f => Y15 f p_9 (fzu hM_4 hc_2) 1 rfl fun _ f => Y f 3 fun _ f => ?_))))
   rcases cE hF_1 with ⟨h_8, hF_17⟩ | ⟨h_8, hF_18⟩
   ·have k_11 := dI.1 h_8
    have f := f.st 48 (cB h_8)
    refine Y f 4 fun _ f => eT (Y8 f (RR (Y f 1 fun _ f => eT (wp_ret (T_r (E_ret1 f rfl (by kernel_rfl : Vc.look _ 2 = some (.int .i64 2)) ?_))))))
    obtain rfl := sI hF_17
    exact ⟨_, rfl, M_4, (hM_1.trans hM_4), p_9, rfl⟩
   ·have k_12 := iff_f dI h_8
    have f := f.st 48 (cB h_8)
    refine Y f 1 fun _ f => Y15 f p_9 (fzu hM_4 hc_2) 1 rfl fun _ f => Y f 2 fun _ f => eT (RcF f hF_18 (fun h_9 hF_19 => ?_) fun h_9 hF_20 => ?_)
    ·have k_13 := dI.1 h_9
     refine RR (Y f 1 fun _ f => eT (wp_ret (T_r (E_ret1 f rfl (by kernel_rfl : Vc.look _ 2 = some (.int .i64 2)) ?_))))
     obtain rfl := sI hF_19
     exact ⟨_, rfl, M_4, (hM_1.trans hM_4), p_9, rfl⟩
    ·have k_14 := iff_f dI h_9
     refine wp_skip (T_n (RR (Y f 1 fun _ f => eT (wp_ret (E_ret1 f rfl (by kernel_rfl : Vc.look _ 2 = some (.int .i64 0)) ?_)))))
     obtain rfl := sI hF_20
     exact ⟨_, rfl, M_4, (hM_1.trans hM_4), p_9, rfl⟩
def store_at_1 (n : Nat) (d0 : TD0) (d1 : List UInt8) : Option Bool :=
  some ((decide (d0.fPhys = d1)))
theorem store_at_1_ok (n : Nat) (M : Mem) (hG : GL M) (c0 : List Value) (d0 : TD0) (h0 : Rep M (emb_TD0 d0) c0) (ad1 : Addr) (c1 : List Value) (d1 : List UInt8) (h1 : Rep M (Dat.str d1) c1) (q1 : ∀ j v, c1[j]? = some v → M.cell? (ad1.add j) = some v) (r : Bool) (hF : store_at_1 n d0 d1 = some r) : Ok Tryz.prog M 71 [.agg c0.toArray, .pointer (some ad1)] (fun _ v => v = .bool r) := by
 unfold store_at_1 at hF
 intro M1 hM0 w0 H w p0
 replace hG := GL.mono hM0 hG
 replace h0 := Rep.mono hM0 _ _ h0
 replace h1 := Rep.mono hM0 _ _ h1
 replace q1 := fun j v h => hM0.cell (q1 j v h)
 obtain ⟨A_1, cap_1, rfl, h_1⟩ := TD0.opn h0
 obtain rfl : c1 = [S d1] := h1
 refine R_enter 8 Tryz.func71 rfl rfl (by simp) fun a0 f0 => RR (Y13 (cs := #[S d0.fPhys, S d0.fType, .slice A_1 d0.fProps.length cap_1]) (T := 52) f0 p0 fun b_1 M_1 w_1 hM_1 hc_1 p_1 _ f => ?_)
 have hc_2 := fz_box hc_1
 refine Y f 1 fun _ f => eT (RR (Y f 1 fun _ f => Y15 f p_1 hc_2 0 rfl fun _ f => Y15 f p_1 (fzu hM_1 q1) 0 rfl fun _ f => Z f (Y38 rfl (l := d0.fPhys) (m := d1)) fun _ f => Y f 1 fun _ f => eT (wp_ret (E_ret1 f rfl (by kernel_rfl : Vc.look _ 3 = some (.bool (decide (d0.fPhys = d1)))) ?_))))
 obtain rfl := sI hF
 exact ⟨_, rfl, M_1, hM_1, p_1, rfl⟩
def store_find_2_s1 (n : Nat) (d0 : List TD0) (d1_0 : List UInt8) (s_1 : Int) : Option (Lp Int (Sum Int Unit)) :=
    bif (decide (s_1 < ((d0.length : Nat) : Int))) then
      ((getI d0 s_1).bind fun x_1 =>
      (store_at_1 n x_1 d1_0).bind fun x_2 =>
      bif x_2 then
        (some (.br (.inl s_1)))
      else
        need (inR .i64 (s_1 + 1)) <|
        some (.nx (s_1 + 1)))
    else
      some (.br (.inr ()))
def store_find_2 (n : Nat) (d0 : List TD0) (d1_0 : List UInt8) : Option Int :=
  (loopF (store_find_2_s1 n d0 d1_0) n (0 : Int)).bind fun b_1 =>
  (match b_1 with 
  | .inl y_1 => some (y_1) 
  | .inr y_2 => some ((-1 : Int)))
theorem store_find_2_ok (n : Nat) (M : Mem) (hG : GL M) (A0 : Option Addr) (cap0 : Nat) (d0 : List TD0) (h0 : Sli M 3 emb_TD0 A0 cap0 d0) (ad1_0 : Addr) (c1_0 : List Value) (d1_0 : List UInt8) (h1_0 : Rep M (Dat.str d1_0) c1_0) (q1_0 : ∀ j v, c1_0[j]? = some v → M.cell? (ad1_0.add j) = some v) (r : Int) (hF : store_find_2 n d0 d1_0 = some r) : Ok Tryz.prog M 49 [.slice A0 d0.length cap0, .func (.func 71) #[] #[.pointer (some ad1_0)]] (fun _ v => v = .int .i64 r) := by
 unfold store_find_2 at hF
 intro M1 hM0 w0 H w p0
 replace hG := GL.mono hM0 hG
 replace h0 := h0.mono hM0
 replace h1_0 := Rep.mono hM0 _ _ h1_0
 replace q1_0 := fun j v h => hM0.cell (q1_0 j v h)
 obtain rfl : c1_0 = [S d1_0] := h1_0
 refine R_enter 19 Tryz.func49 rfl rfl (by simp) fun a0 f0 => RR (Y f0 1 fun _ f => eT (R_seq (RR (Y f 3 fun _ f => eT (wp_block ?_)))))
 obtain ⟨b_1, hL_1, hF_1⟩ := bS hF
 refine wp_mono (Q := fun e a w => (e = .ret ∧ (∃ y_1 : Int, b_1 = .inl y_1 ∧ ∃ M_2 : Mem, M1.le M_2 ∧ Frm 19 [(4, .int .i64 y_1)] a ∧ Hp w0 M_2 (H) w)) ∨ (e = .exit 0 ∧ (∃ y_2 : Unit, b_1 = .inr y_2 ∧ ∃ M_3 : Mem, M1.le M_3 ∧ Frm 19 [] a ∧ Hp w0 M_3 (H) w))) (R_loop (n := 19) (w0 := w0) (M := M1) (fun (x : Nat × Int) => match x with | (m_1, s_1) => [(1, .func (.func 71) #[] #[.pointer (some ad1_0)]), (7, .slice A0 d0.length cap0), (8, .int .i64 ((d0.length : Nat) : Int)), (9, .int .i64 s_1)]) (fun (x : Nat × Int) => match x with | (m_1, s_1) => (H)) (fun (x : Nat × Int) (MM : Mem) => match x with | (m_1, s_1) => loopF (store_find_2_s1 n d0 d1_0) m_1 s_1 = some b_1) (fun (x : Nat × Int) => match x with | (m_1, s_1) => m_1) (n, (0 : Int)) (f.kp) p0 hL_1 ?_) ?_
 ·rintro ⟨m_1, s_1⟩ M_1 _ w_1 hM_1 I_1 f p_1
  have I_1L := I_1
  obtain ⟨m_2, r_1, rfl, hs_1, hn_1⟩ := loop_step I_1L
  unfold store_find_2_s1 at hs_1
  refine RR (Y f 1 fun _ f => eT (R_seq (RcF f hs_1 (fun h_1 hF_2 => ?_) fun h_1 hF_8 => ?_)))
  ·have k_1 := dI.1 h_1
   refine wp_skip (T_n (R_seq (wp_block (RR (Y f 1 fun _ f => ?_)))))
   obtain ⟨x_1, hx_1, hF_3⟩ := bS hF_2
   obtain ⟨ad_1, c_1, e_1, -, hr_1, hc_1⟩ := Sli.at_ (h0.mono hM_1) hx_1
   obtain ⟨A_1, cap_1, rfl, h_2⟩ := TD0.opn hr_1
   refine Z f (Y31 e_1 rfl (len := d0.length) (cap := cap0) (k := .i64) (i := s_1) (e := 52) (sz := 3) (getI_nn hx_1) (getI_lt hx_1)) fun _ f => Z (v := .agg #[S x_1.fPhys, S x_1.fType, .slice A_1 x_1.fProps.length cap_1]) f (Y33 (cs := [S x_1.fPhys, S x_1.fType, .slice A_1 x_1.fProps.length cap_1]) rfl (ad := ad_1.add (s_1.toNat * 3)) (fun j v h => p_1.cell (hc_1 j v h))) fun _ f => Y12 f p_1 (.cells #[S [], S [], .slice none 0 0] 52 (0, 0)) fun b_2 w_2 p_2 _ f => Y f 1 fun _ f => Y28 (vs := [S x_1.fPhys, S x_1.fType, .slice A_1 x_1.fProps.length cap_1]) (j := 0) f p_2 rfl rfl (by simp [Value.oneCell', S]) (by simp) (by decide) (cs' := #[S x_1.fPhys, S x_1.fType, .slice A_1 x_1.fProps.length cap_1]) (by kernel_rfl) fun w_3 p_3 _ f => eT (RR (Y f 1 fun _ f => Z (v := .agg #[S x_1.fPhys, S x_1.fType, .slice A_1 x_1.fProps.length cap_1]) f (Y33 (cs := [S x_1.fPhys, S x_1.fType, .slice A_1 x_1.fProps.length cap_1]) rfl (ad := ⟨b_2, 0, none⟩) (own_cells (p_3.ownCell 0 rfl) 0 rfl)) fun _ f => ?_))
   obtain ⟨x_2, hx_2, hF_4⟩ := bS hF_3
   refine Y18 f p_3 (store_at_1_ok n _ (GL.mono hM_1 hG) _ x_1 (TD0.shutx (x := x_1) h_2) ad1_0 [S d1_0] d1_0 (rfl) (fz_at ((fzu hM_1 q1_0)) 0 rfl) x_2 hx_2) fun w_4 p_4 _ f => eT (RcF f hF_4 (fun h_3 hF_5 => ?_) fun h_3 hF_6 => ?_)
   ·refine RR (Y f 2 fun _ f => eT (wp_ret (B_r (T_r (T_r ?_)))))
    obtain rfl := sI hF_5
    exact .inl ⟨rfl, s_1, (sI hn_1).symm, M_1, hM_1, f.kp, (p_4.dropN 1)⟩
   ·refine wp_skip (B_n (T_n (R_reg ?_)))
    obtain ⟨g_1, hF_7⟩ := nS hF_6
    refine Y f 1 fun _ f => ?_
    have f := f.st 18 (congrArg (Value.int .i64) (inR_wrap g_1))
    refine Y f 1 fun _ f => eT ?_
    obtain rfl := sI hF_7
    exact ⟨⟨m_2, s_1 + 1⟩, Nat.lt_succ_self _, M_1, hM_1, hn_1, f.kp, (p_4.dropN 1)⟩
  ·have k_4 := iff_f dI h_1
   refine wp_exit (T_x (T_x ?_))
   obtain rfl := sI hF_8
   exact .inr ⟨rfl, (), (sI hn_1).symm, M_1, hM_1, f.kp, p_1⟩
 ·rintro _ _ w_7 (⟨rfl, y_1, rfl, M_2, hM_2, f, p_5⟩ | ⟨rfl, y_2, rfl, M_3, hM_3, f, p_6⟩)
  ·refine B_r (T_r (E_ret1 f rfl (by kernel_rfl : Vc.look _ 4 = some (.int .i64 y_1)) ?_))
   obtain rfl := sI hF_1
   exact ⟨_, rfl, M_2, hM_2, p_5, rfl⟩
  ·refine B_x (T_n (RR (Y f 1 fun _ f => eT (wp_ret (E_ret1 f rfl (by kernel_rfl : Vc.look _ 4 = some (.int .i64 (-1))) ?_)))))
   obtain rfl := sI hF_1
   exact ⟨_, rfl, M_3, hM_3, p_6, rfl⟩
def store_at (n : Nat) (d0 : TB0) (d1 : List UInt8) : Option Int :=
  (store_find_2 n d0.fL d1).bind fun x_1 =>
  some (x_1)
theorem store_at_ok (n : Nat) (M : Mem) (hG : GL M) (c0 : List Value) (d0 : TB0) (h0 : Rep M (emb_TB0 d0) c0) (d1 : List UInt8) (r : Int) (hF : store_at n d0 d1 = some r) : Ok Tryz.prog M 42 [.agg c0.toArray, S d1] (fun _ v => v = .int .i64 r) := by
 unfold store_at at hF
 intro M1 hM0 w0 H w p0
 replace hG := GL.mono hM0 hG
 replace h0 := Rep.mono hM0 _ _ h0
 obtain ⟨A_1, cap_1, rfl, h_1⟩ := TB0.opn h0
 refine R_enter 9 Tryz.func42 rfl rfl (by simp) fun a0 f0 => RR (Y13 (cs := #[.slice A_1 d0.fL.length cap_1, .int .i64 d0.fMade]) (T := 24) f0 p0 fun b_1 M_1 w_1 hM_1 hc_1 p_1 _ f => ?_)
 have hc_2 := fz_box hc_1
 refine Y13 (cs := #[S d1]) (T := 9) f p_1 fun b_2 M_2 w_2 hM_2 hc_3 p_2 _ f => ?_
 have hc_4 := fz_box hc_3
 refine Y f 1 fun _ f => eT (RR (Y f 1 fun _ f => Y15 f p_2 (fzu hM_2 hc_2) 0 rfl fun _ f => Y f 1 fun _ f => ?_))
 obtain ⟨x_1, hx_1, hF_1⟩ := bS hF
 refine Y18 f p_2 (store_find_2_ok n _ (GL.mono (hM_1.trans hM_2) hG) A_1 cap_1 d0.fL (h_1.mono (hM_1.trans hM_2)) (⟨b_2, 0, none⟩) [S d1] d1 (rfl) (fz_at (hc_4) 0 rfl) x_1 hx_1) fun w_3 p_3 _ f => Y f 1 fun _ f => eT (wp_ret (E_ret1 f rfl (by kernel_rfl : Vc.look _ 4 = some (.int .i64 x_1)) ?_))
 obtain rfl := sI hF_1
 exact ⟨_, rfl, M_2, (hM_1.trans hM_2), p_3, rfl⟩
def store_Create (n : Nat) (d0 : TB0) (d1 : List UInt8) (d2 : List TE0) : Option (TB0 × List UInt8 × Int) :=
  (store_Check n (⟨d0.fL, d0.fMade⟩ : TB0)).bind fun x_1 =>
  ((bif (decide (x_1 = 0)) then
      ((schema_Check n d1 d2).bind fun x_2 =>
      some (x_2))
    else
      some (x_1) : Option Int)).bind fun y_1 =>
  bif (!(decide (y_1 = 0))) then
    (some ((z_TB0, ([] : List UInt8), y_1)))
  else
    (store_known n d2).bind fun x_3 =>
    bif !x_3 then
      (some ((z_TB0, ([] : List UInt8), (91 : Int))))
    else
      bif (decide (d0.fMade = 1099511627776)) then
        (some ((z_TB0, ([] : List UInt8), (3 : Int))))
      else
        need (inR .i64 (d0.fMade + 1)) <|
        (store_Phys n (d0.fMade + 1)).bind fun x_4 =>
        need (0 ≤ ((d0.fL.length : Nat) : Int) ∧ ((d0.fL.length : Nat) : Int) ≤ (d0.fL.length : Int)) <|
        need (((d0.fL.take ((d0.fL.length : Nat) : Int).toNat).length + 1) * 56 ≤ 140737488355328) <|
        some (((⟨(d0.fL.take ((d0.fL.length : Nat) : Int).toNat) ++ [(⟨x_4.1, d1, d2⟩ : TD0)], d0.fMade + 1⟩ : TB0), x_4.1, (0 : Int)))
set_option maxRecDepth 20000 in
theorem store_Create_ok (n : Nat) (M : Mem) (hG : GL M) (c0 : List Value) (d0 : TB0) (h0 : Rep M (emb_TB0 d0) c0) (d1 : List UInt8) (A2 : Option Addr) (cap2 : Nat) (d2 : List TE0) (h2 : Sli M 8 emb_TE0 A2 cap2 d2) (r : TB0 × List UInt8 × Int) (hF : store_Create n d0 d1 d2 = some r) : Ok Tryz.prog M 9 [.agg c0.toArray, S d1, .slice A2 d2.length cap2] (fun M' v => ∃ (c0 : List Value), v = .tuple #[.agg c0.toArray, S r.2.1, .int .i64 r.2.2] ∧ Rep M' (emb_TB0 r.1) c0) := by
 unfold store_Create at hF
 intro M1 hM0 w0 H w p0
 replace hG := GL.mono hM0 hG
 replace h0 := Rep.mono hM0 _ _ h0
 replace h2 := h2.mono hM0
 obtain ⟨A_1, cap_1, rfl, h_1⟩ := TB0.opn h0
 refine R_enter 62 Tryz.func9 rfl rfl (by simp) fun a0 f0 => RR (Y12 f0 p0 (.cells #[.slice A_1 d0.fL.length cap_1, .int .i64 d0.fMade] 24 (0, 0)) fun b_1 w_1 p_1 _ f => Y12 f p_1 (.cells #[.slice none 0 0, .int .i64 0] 24 (0, 0)) fun b_2 w_2 p_2 _ f => Y f 2 fun _ f => eT (RR (Z (v := .agg #[.slice A_1 d0.fL.length cap_1, .int .i64 d0.fMade]) f (Y33 (cs := [.slice A_1 d0.fL.length cap_1, .int .i64 d0.fMade]) rfl (ad := ⟨b_1, 0, none⟩) (own_cells (p_2.ownCell 1 rfl) 0 rfl)) fun _ f => ?_)))
 obtain ⟨x_1, hx_1, hF_1⟩ := bS hF
 refine Y18 f p_2 (store_Check_ok n _ hG _ (⟨d0.fL, d0.fMade⟩ : TB0) (TB0.shut h_1) x_1 hx_1) fun w_3 p_3 _ f => Y f 1 fun _ f => eT (R_seq (RR (Y f 2 fun _ f => eT ?_)))
 obtain ⟨j_1, hj_1, hF_2⟩ := bS hF_1
 refine R_mid (fun a_11 w_5 => ∃ y_1 : Int, j_1 = y_1 ∧ ∃ M_1 : Mem, M1.le M_1 ∧ Frm 62 [(1, S d1), (2, .slice A2 d2.length cap2), (3, .pointer (some (⟨b_1, 0, none⟩))), (6, .pointer (some (⟨b_2, 0, none⟩))), (9, .int .i64 y_1)] a_11 ∧ Hp w0 M_1 ((Ent.obj b_2 (.cells #[.slice none 0 0, .int .i64 0] 24 (0, 0))) :: (Ent.obj b_1 (.cells #[.slice A_1 d0.fL.length cap_1, .int .i64 d0.fMade] 24 (0, 0))) :: H) w_5) ?_ ?_
 ·refine RcF f hj_1 (fun h_2 hF_3 => ?_) fun h_2 hF_5 => ?_
  ·have k_1 := dI.1 h_2
   refine R_reg (Y f 2 fun _ f => ?_)
   obtain ⟨x_2, hx_2, hF_4⟩ := bS hF_3
   refine Y18 f p_3 (schema_Check_ok n _ hG d1 A2 cap2 d2 h2 x_2 hx_2) fun w_4 p_4 _ f => Y f 1 fun _ f => eT ?_
   exact ⟨x_2, (sI hF_4).symm, M1, (mR _), f.kp, p_4⟩
  ·have k_2 := iff_f dI h_2
   refine wp_skip (T_n ?_)
   exact ⟨x_1, (sI hF_5).symm, M1, (mR _), f.kp, p_3⟩
 ·rintro a_11 w_5 ⟨y_1, hq_1, M_1, hM_1, f, p_5⟩
  subst j_1
  refine T_n (R_seq (wp_block (RR (Y f 3 fun _ f => eT (RcF f hF_2 (fun h_3 hF_6 => ?_) fun h_3 hF_7 => ?_)))))
  ·have k_3 : ¬ (y_1 = 0) := (not_iff dI).1 h_3
   refine RR (Y f 2 fun _ f => Y28 (vs := [.slice none 0 0, .int .i64 0]) (j := 0) f p_5 rfl rfl (by simp [Value.oneCell', S]) (by simp) (by decide) (cs' := #[.slice none 0 0, .int .i64 0]) (by kernel_rfl) fun w_6 p_6 _ f => Y f 2 fun _ f => eT (wp_ret (B_r (T_r (E_rv3 f rfl (Y10 (cs := [.slice none 0 0, .int .i64 0]) (ad := ⟨b_2, 0, none⟩) f (own_cells (p_6.ownCell 0 rfl) 0 rfl)) (Y11 (v := S []) f) (Y11 (v := .int .i64 y_1) f) ?_)))))
   obtain rfl := sI hF_6
   exact ⟨_, rfl, M_1, hM_1, (p_6.dropN 2), ⟨[.slice none 0 0, .int .i64 0], rfl, (TB0.shut Sli.nil)⟩⟩
  ·have k_4 : ¬ (¬ (y_1 = 0)) := iff_f (not_iff dI) h_3
   refine RR (Y f 1 fun _ f => ?_)
   obtain ⟨x_3, hx_3, hF_8⟩ := bS hF_7
   refine Y18 f p_5 (store_known_ok n _ (GL.mono hM_1 hG) A2 cap2 d2 (h2.mono hM_1) x_3 hx_3) fun w_7 p_7 _ f => Y f 2 fun _ f => eT (RcF f hF_8 (fun h_4 hF_9 => ?_) fun h_4 hF_10 => ?_)
   ·have k_5 : (x_3) = false := by simpa using h_4
    refine RR (Y f 1 fun _ f => Y28 (vs := [.slice none 0 0, .int .i64 0]) (j := 0) f p_7 rfl rfl (by simp [Value.oneCell', S]) (by simp) (by decide) (cs' := #[.slice none 0 0, .int .i64 0]) (by kernel_rfl) fun w_8 p_8 _ f => Y f 2 fun _ f => eT (wp_ret (B_r (T_r (E_rv3 f rfl (Y10 (cs := [.slice none 0 0, .int .i64 0]) (ad := ⟨b_2, 0, none⟩) f (own_cells (p_8.ownCell 0 rfl) 0 rfl)) (Y11 (v := S []) f) (Y11 (v := .int .i64 91) f) ?_)))))
    obtain rfl := sI hF_9
    exact ⟨_, rfl, M_1, hM_1, (p_8.dropN 2), ⟨[.slice none 0 0, .int .i64 0], rfl, (TB0.shut Sli.nil)⟩⟩
   ·have k_6 : (x_3) = true := by simpa using h_4
    refine RR (Y f 1 fun _ f => Z f (Y32 (v := .int .i64 d0.fMade) rfl (ad := ⟨b_1, 1, none⟩) (p_7.ownCell 1 rfl 1)) fun _ f => Y f 2 fun _ f => eT (RcF f hF_10 (fun h_5 hF_11 => ?_) fun h_5 hF_12 => ?_))
    ·have k_7 := dI.1 h_5
     refine RR (Y f 1 fun _ f => Y28 (vs := [.slice none 0 0, .int .i64 0]) (j := 0) f p_7 rfl rfl (by simp [Value.oneCell', S]) (by simp) (by decide) (cs' := #[.slice none 0 0, .int .i64 0]) (by kernel_rfl) fun w_9 p_9 _ f => Y f 2 fun _ f => eT (wp_ret (B_r (T_r (E_rv3 f rfl (Y10 (cs := [.slice none 0 0, .int .i64 0]) (ad := ⟨b_2, 0, none⟩) f (own_cells (p_9.ownCell 0 rfl) 0 rfl)) (Y11 (v := S []) f) (Y11 (v := .int .i64 3) f) ?_)))))
     obtain rfl := sI hF_11
     exact ⟨_, rfl, M_1, hM_1, (p_9.dropN 2), ⟨[.slice none 0 0, .int .i64 0], rfl, (TB0.shut Sli.nil)⟩⟩
    ·have k_8 := iff_f dI h_5
     refine wp_skip (B_n (T_n (RR (Y f 1 fun _ f => Z f (Y32 (v := .slice A_1 d0.fL.length cap_1) rfl (ad := ⟨b_1, 0, none⟩) (p_7.ownCell 1 rfl 0)) fun _ f => Y f 2 fun _ f => eT (RR (Y f 1 fun _ f => Z f (Y32 (v := .int .i64 d0.fMade) rfl (ad := ⟨b_1, 1, none⟩) (p_7.ownCell 1 rfl 1)) fun _ f => ?_))))))
     obtain ⟨g_1, hF_13⟩ := nS hF_12
     refine Y f 1 fun _ f => ?_
     have f := f.st 40 (congrArg (Value.int .i64) (inR_wrap g_1))
     refine Y f 1 fun _ f => Y27 f p_7 1 rfl rfl (b := b_1) (j := 1) (v := .int .i64 (d0.fMade + 1)) rfl (by exact rfl) (by simp) (by simp) ((Ent.obj b_2 (.cells #[.slice none 0 0, .int .i64 0] 24 (0, 0))) :: (Ent.obj b_1 (.cells #[.slice A_1 d0.fL.length cap_1, .int .i64 (d0.fMade + 1)] 24 (0, 0))) :: H) rfl fun w_10 p_10 _ f => eT (RR (Y f 1 fun _ f => Z f (Y32 (v := .int .i64 (d0.fMade + 1)) rfl (ad := ⟨b_1, 1, none⟩) (p_10.ownCell 1 rfl 1)) fun _ f => ?_))
     obtain ⟨x_4, hx_4, hF_14⟩ := bS hF_13
     refine Y18 f p_10 (store_Phys_ok n _ (GL.mono hM_1 hG) (d0.fMade + 1) x_4 hx_4) fun w_11 p_11 _ f => Y f 5 fun _ f => eT (RR (Y f 1 fun _ f => Z f (Y32 (v := .slice A_1 d0.fL.length cap_1) rfl (ad := ⟨b_1, 0, none⟩) (p_11.ownCell 1 rfl 0)) fun _ f => Y f 2 fun _ f => ?_))
     obtain ⟨g_2, hF_15⟩ := nS hF_14
     have h_6 : Sli M_1 3 emb_TD0 (cutA A_1 3 0 ((d0.fL.length : Nat) : Int).toNat) (d0.fL.take ((d0.fL.length : Nat) : Int).toNat).length (d0.fL.take ((d0.fL.length : Nat) : Int).toNat) := Sli.full (cap := cap_1) (h_1.mono hM_1) (by omega)
     have hl_1 := Sli.len (cap := cap_1) (h_1.mono hM_1)
     have he_1 : ((d0.fL.length : Nat) : Int).toNat = (d0.fL.take ((d0.fL.length : Nat) : Int).toNat).length := by rw [List.length_take]; omega
     refine Z (v := .slice (cutA A_1 3 0 ((d0.fL.length : Nat) : Int).toNat) ((d0.fL.length : Nat) : Int).toNat ((d0.fL.length : Nat) : Int).toNat) f (Y34 rfl (A := A_1) (len := d0.fL.length) (cap := cap_1) (k := .i64) (k' := .i64) (b := ((d0.fL.length : Nat) : Int)) (e := 52) (sz := 3) g_2.1 (by omega)) fun _ f => ?_
     have f := Frm.set f 52 (v := .slice (cutA A_1 3 0 ((d0.fL.length : Nat) : Int).toNat) ((d0.fL.length : Nat) : Int).toNat ((d0.fL.length : Nat) : Int).toNat) (v' := .slice (cutA A_1 3 0 ((d0.fL.length : Nat) : Int).toNat) (d0.fL.take ((d0.fL.length : Nat) : Int).toNat).length (d0.fL.take ((d0.fL.length : Nat) : Int).toNat).length) (by kernel_rfl) (by rw [← he_1])
     refine Y f 4 fun _ f => V_allocS (k := 1) (c := 1) f p_11 (.cells #[S x_4.1, S d1, .slice A2 d2.length cap2] 52 (0, 0)) (by kernel_rfl) (fun _ => by kernel_rfl) fun b_3 w_12 p_12 _ f => ?_
     obtain ⟨g_3, hF_16⟩ := nS hF_15
     refine Y20 (e := 52) (bytes := 56) (z := .agg #[S [], S [], .slice none 0 0]) (f := emb_TD0) (xs := d0.fL.take ((d0.fL.length : Nat) : Int).toNat) (ys := [(⟨x_4.1, d1, d2⟩ : TD0)]) (news := [S x_4.1, S d1, .slice A2 d2.length cap2]) (ad := ⟨b_3, 0, none⟩) (m := 1) (c := 1) f p_12 (by decide) (by decide) h_6 (by exact ⟨_, _, rfl, TD0.shut (h2.mono hM_1), rfl⟩) rfl rfl rfl rfl (own_cells (p_12.ownCell 0 rfl) 0 rfl) g_3 (by have hg_ := g_3; omega) fun A_2 cap_2 cs_1 w_13 p_13 hr_1 _ f => ?_
     have p_14 := p_13.pl [1]
     have p_15 := p_14.drop
     refine Y f 1 fun _ f => Y27 f p_15 2 rfl rfl (b := b_1) (j := 0) (v := .slice A_2 ((d0.fL.take ((d0.fL.length : Nat) : Int).toNat) ++ [(⟨x_4.1, d1, d2⟩ : TD0)]).length cap_2) rfl (by exact rfl) (by simp) (by simp) ((Ent.row 52 3 (.slice A_2 ((d0.fL.take ((d0.fL.length : Nat) : Int).toNat) ++ [(⟨x_4.1, d1, d2⟩ : TD0)]).length cap_2) ((d0.fL.take ((d0.fL.length : Nat) : Int).toNat) ++ [(⟨x_4.1, d1, d2⟩ : TD0)]).length cs_1) :: (Ent.obj b_2 (.cells #[.slice none 0 0, .int .i64 0] 24 (0, 0))) :: (Ent.obj b_1 (.cells #[.slice A_2 ((d0.fL.take ((d0.fL.length : Nat) : Int).toNat) ++ [(⟨x_4.1, d1, d2⟩ : TD0)]).length cap_2, .int .i64 (d0.fMade + 1)] 24 (0, 0))) :: H) rfl fun w_14 p_16 _ f => eT (RR (Z (v := .agg #[.slice A_2 ((d0.fL.take ((d0.fL.length : Nat) : Int).toNat) ++ [(⟨x_4.1, d1, d2⟩ : TD0)]).length cap_2, .int .i64 (d0.fMade + 1)]) f (Y33 (cs := [.slice A_2 ((d0.fL.take ((d0.fL.length : Nat) : Int).toNat) ++ [(⟨x_4.1, d1, d2⟩ : TD0)]).length cap_2, .int .i64 (d0.fMade + 1)]) rfl (ad := ⟨b_1, 0, none⟩) (own_cells (p_16.ownCell 2 rfl) 0 rfl)) fun _ f => Y f 1 fun _ f => ?_))
     obtain ⟨A_3, cap_3, M_2, hv_1, hM_2, p_17, h_7⟩ := p_16.rowSli (f := emb_TD0) (xs := (d0.fL.take ((d0.fL.length : Nat) : Int).toNat) ++ [(⟨x_4.1, d1, d2⟩ : TD0)]) szd_TD0 hr_1
     have f := Frm.set f 60 (v := .agg #[.slice A_2 ((d0.fL.take ((d0.fL.length : Nat) : Int).toNat) ++ [(⟨x_4.1, d1, d2⟩ : TD0)]).length cap_2, .int .i64 (d0.fMade + 1)]) (v' := .agg #[.slice A_3 ((d0.fL.take ((d0.fL.length : Nat) : Int).toNat) ++ [(⟨x_4.1, d1, d2⟩ : TD0)]).length cap_3, .int .i64 (d0.fMade + 1)]) (by kernel_rfl) (by rw [hv_1])
     have p_18 : Hp w0 M_2 ((Ent.obj b_2 (.cells #[.slice none 0 0, .int .i64 0] 24 (0, 0))) :: (Ent.obj b_1 (.cells #[.slice A_3 ((d0.fL.take ((d0.fL.length : Nat) : Int).toNat) ++ [(⟨x_4.1, d1, d2⟩ : TD0)]).length cap_3, .int .i64 (d0.fMade + 1)] 24 (0, 0))) :: H) w_14 := by rw [hv_1] at p_17; exact p_17
     refine Y28 (vs := [.slice A_3 ((d0.fL.take ((d0.fL.length : Nat) : Int).toNat) ++ [(⟨x_4.1, d1, d2⟩ : TD0)]).length cap_3, .int .i64 (d0.fMade + 1)]) (j := 0) f p_18 rfl rfl (by simp [Value.oneCell', S]) (by simp) (by decide) (cs' := #[.slice A_3 ((d0.fL.take ((d0.fL.length : Nat) : Int).toNat) ++ [(⟨x_4.1, d1, d2⟩ : TD0)]).length cap_3, .int .i64 (d0.fMade + 1)]) (by kernel_rfl) fun w_15 p_19 _ f => Y f 2 fun _ f => eT (wp_ret (E_rv3 f rfl (Y10 (cs := [.slice A_3 ((d0.fL.take ((d0.fL.length : Nat) : Int).toNat) ++ [(⟨x_4.1, d1, d2⟩ : TD0)]).length cap_3, .int .i64 (d0.fMade + 1)]) (ad := ⟨b_2, 0, none⟩) f (own_cells (p_19.ownCell 0 rfl) 0 rfl)) (Y11 (v := S x_4.1) f) (Y11 (v := .int .i64 0) f) ?_))
     obtain rfl := sI hF_16
     exact ⟨_, rfl, M_2, (hM_1.trans hM_2), (p_19.dropN 2), ⟨[.slice A_3 ((d0.fL.take ((d0.fL.length : Nat) : Int).toNat) ++ [(⟨x_4.1, d1, d2⟩ : TD0)]).length cap_3, .int .i64 (d0.fMade + 1)], rfl, (TB0.shut h_7)⟩⟩
def store_Update (n : Nat) (d0 : TB0) (d1 : List UInt8) (d2 : List TE0) : Option (TB0 × Int) :=
  (store_Check n (⟨d0.fL, d0.fMade⟩ : TB0)).bind fun x_1 =>
  bif (!(decide (x_1 = 0))) then
    (some ((z_TB0, (2 : Int))))
  else
    (store_at n (⟨d0.fL, d0.fMade⟩ : TB0) d1).bind fun x_2 =>
    bif (decide (x_2 < 0)) then
      (some ((z_TB0, (4 : Int))))
    else
      (getI d0.fL x_2).bind fun x_3 =>
      (schema_Check n x_3.fType d2).bind fun x_4 =>
      bif (!(decide (x_4 = 0))) then
        (some ((z_TB0, x_4)))
      else
        (schema_Differ n x_3.fType x_3.fProps d2).bind fun x_5 =>
        (((store_known n d2).bind fun x_6 =>
          bif !x_6 then
            (some ((true)))
          else
            bif (!(decide (x_5.2 = 0))) then
              (some ((true)))
            else
              some ((decide (x_5.1 = 3))) : Option Bool)).bind fun y_1 =>
        bif y_1 then
          (some ((z_TB0, (91 : Int))))
        else
          ((need (0 ≤ x_2 ∧ x_2 ≤ (d0.fL.length : Int)) <|
            need (inR .i64 (x_2 + 1)) <|
            need (0 ≤ (x_2 + 1) ∧ (x_2 + 1) ≤ (d0.fL.length : Int)) <|
            need (((d0.fL.take x_2.toNat).length + 1) * 56 ≤ 140737488355328) <|
            need ((((d0.fL.take x_2.toNat) ++ [(⟨x_3.fPhys, x_3.fType, d2⟩ : TD0)]).length + (d0.fL.drop (x_2 + 1).toNat).length) * 56 ≤ 140737488355328) <|
            some (((d0.fL.take x_2.toNat) ++ [(⟨x_3.fPhys, x_3.fType, d2⟩ : TD0)]) ++ (d0.fL.drop (x_2 + 1).toNat)) : Option (List TD0))).bind fun y_2 =>
          some (((⟨y_2, d0.fMade⟩ : TB0), (0 : Int)))
set_option maxRecDepth 20000 in
theorem store_Update_ok (n : Nat) (M : Mem) (hG : GL M) (c0 : List Value) (d0 : TB0) (h0 : Rep M (emb_TB0 d0) c0) (d1 : List UInt8) (A2 : Option Addr) (cap2 : Nat) (d2 : List TE0) (h2 : Sli M 8 emb_TE0 A2 cap2 d2) (r : TB0 × Int) (hF : store_Update n d0 d1 d2 = some r) : Ok Tryz.prog M 12 [.agg c0.toArray, S d1, .slice A2 d2.length cap2] (fun M' v => ∃ (c0 : List Value), v = .tuple #[.agg c0.toArray, .int .i64 r.2] ∧ Rep M' (emb_TB0 r.1) c0) := by
 unfold store_Update at hF
 intro M1 hM0 w0 H w p0
 replace hG := GL.mono hM0 hG
 replace h0 := Rep.mono hM0 _ _ h0
 replace h2 := h2.mono hM0
 obtain ⟨A_1, cap_1, rfl, h_1⟩ := TB0.opn h0
 refine R_enter 75 Tryz.func12 rfl rfl (by simp) fun a0 f0 => RR (Y12 f0 p0 (.cells #[.slice A_1 d0.fL.length cap_1, .int .i64 d0.fMade] 24 (0, 0)) fun b_1 w_1 p_1 _ f => Y12 f p_1 (.cells #[.slice none 0 0, .int .i64 0] 24 (0, 0)) fun b_2 w_2 p_2 _ f => Y f 1 fun _ f => eT (R_seq (RR (Z (v := .agg #[.slice A_1 d0.fL.length cap_1, .int .i64 d0.fMade]) f (Y33 (cs := [.slice A_1 d0.fL.length cap_1, .int .i64 d0.fMade]) rfl (ad := ⟨b_1, 0, none⟩) (own_cells (p_2.ownCell 1 rfl) 0 rfl)) fun _ f => ?_))))
 obtain ⟨x_1, hx_1, hF_1⟩ := bS hF
 refine Y18 f p_2 (store_Check_ok n _ hG _ (⟨d0.fL, d0.fMade⟩ : TB0) (TB0.shut h_1) x_1 hx_1) fun w_3 p_3 _ f => Y f 1 fun _ f => eT (RcF f hF_1 (fun h_2 hF_2 => ?_) fun h_2 hF_3 => ?_)
 ·have k_1 : ¬ (x_1 = 0) := (not_iff dI).1 h_2
  refine RR (Y f 1 fun _ f => Y28 (vs := [.slice none 0 0, .int .i64 0]) (j := 0) f p_3 rfl rfl (by simp [Value.oneCell', S]) (by simp) (by decide) (cs' := #[.slice none 0 0, .int .i64 0]) (by kernel_rfl) fun w_4 p_4 _ f => Y f 1 fun _ f => eT (wp_ret (T_r (E_rv2 f rfl (Y10 (cs := [.slice none 0 0, .int .i64 0]) (ad := ⟨b_2, 0, none⟩) f (own_cells (p_4.ownCell 0 rfl) 0 rfl)) (Y11 (v := .int .i64 2) f) ?_))))
  obtain rfl := sI hF_2
  exact ⟨_, rfl, M1, (mR _), (p_4.dropN 2), ⟨[.slice none 0 0, .int .i64 0], rfl, (TB0.shut Sli.nil)⟩⟩
 ·have k_2 : ¬ (¬ (x_1 = 0)) := iff_f (not_iff dI) h_2
  refine wp_skip (T_n (RR (Z (v := .agg #[.slice A_1 d0.fL.length cap_1, .int .i64 d0.fMade]) f (Y33 (cs := [.slice A_1 d0.fL.length cap_1, .int .i64 d0.fMade]) rfl (ad := ⟨b_1, 0, none⟩) (own_cells (p_3.ownCell 1 rfl) 0 rfl)) fun _ f => Y f 1 fun _ f => ?_)))
  obtain ⟨x_2, hx_2, hF_4⟩ := bS hF_3
  refine Y18 f p_3 (store_at_ok n _ hG _ (⟨d0.fL, d0.fMade⟩ : TB0) (TB0.shut h_1) d1 x_2 hx_2) fun w_5 p_5 _ f => Y f 1 fun _ f => eT (R_seq (RR (Y f 2 fun _ f => eT (RcF f hF_4 (fun h_3 hF_5 => ?_) fun h_3 hF_6 => ?_))))
  ·have k_3 := dI.1 h_3
   refine RR (Y f 1 fun _ f => Y28 (vs := [.slice none 0 0, .int .i64 0]) (j := 0) f p_5 rfl rfl (by simp [Value.oneCell', S]) (by simp) (by decide) (cs' := #[.slice none 0 0, .int .i64 0]) (by kernel_rfl) fun w_6 p_6 _ f => Y f 1 fun _ f => eT (wp_ret (T_r (E_rv2 f rfl (Y10 (cs := [.slice none 0 0, .int .i64 0]) (ad := ⟨b_2, 0, none⟩) f (own_cells (p_6.ownCell 0 rfl) 0 rfl)) (Y11 (v := .int .i64 4) f) ?_))))
   obtain rfl := sI hF_5
   exact ⟨_, rfl, M1, (mR _), (p_6.dropN 2), ⟨[.slice none 0 0, .int .i64 0], rfl, (TB0.shut Sli.nil)⟩⟩
  ·have k_4 := iff_f dI h_3
   refine wp_skip (T_n (RR (Y f 1 fun _ f => Z f (Y32 (v := .slice A_1 d0.fL.length cap_1) rfl (ad := ⟨b_1, 0, none⟩) (p_5.ownCell 1 rfl 0)) fun _ f => Y f 1 fun _ f => ?_)))
   obtain ⟨x_3, hx_3, hF_7⟩ := bS hF_6
   obtain ⟨ad_1, c_1, e_1, -, hr_1, hc_1⟩ := Sli.at_ h_1 hx_3
   obtain ⟨A_2, cap_2, rfl, h_4⟩ := TD0.opn hr_1
   refine Z f (Y31 e_1 rfl (len := d0.fL.length) (cap := cap_1) (k := .i64) (i := x_2) (e := 52) (sz := 3) (getI_nn hx_3) (getI_lt hx_3)) fun _ f => Z (v := .agg #[S x_3.fPhys, S x_3.fType, .slice A_2 x_3.fProps.length cap_2]) f (Y33 (cs := [S x_3.fPhys, S x_3.fType, .slice A_2 x_3.fProps.length cap_2]) rfl (ad := ad_1.add (x_2.toNat * 3)) (fun j v h => p_5.cell (hc_1 j v h))) fun _ f => Y12 f p_5 (.cells #[S [], S [], .slice none 0 0] 52 (0, 0)) fun b_3 w_7 p_7 _ f => Y28 (vs := [S x_3.fPhys, S x_3.fType, .slice A_2 x_3.fProps.length cap_2]) (j := 0) f p_7 rfl rfl (by simp [Value.oneCell', S]) (by simp) (by decide) (cs' := #[S x_3.fPhys, S x_3.fType, .slice A_2 x_3.fProps.length cap_2]) (by kernel_rfl) fun w_8 p_8 _ f => eT (R_seq (RR (Y f 1 fun _ f => Z f (Y32 (v := S x_3.fType) rfl (ad := ⟨b_3, 1, none⟩) (p_8.ownCell 0 rfl 1)) fun _ f => Y f 1 fun _ f => ?_)))
   obtain ⟨x_4, hx_4, hF_8⟩ := bS hF_7
   refine Y18 f p_8 (schema_Check_ok n _ hG x_3.fType A2 cap2 d2 h2 x_4 hx_4) fun w_9 p_9 _ f => Y f 1 fun _ f => eT (RR (Y f 2 fun _ f => eT (RcF f hF_8 (fun h_5 hF_9 => ?_) fun h_5 hF_10 => ?_)))
   ·have k_5 : ¬ (x_4 = 0) := (not_iff dI).1 h_5
    refine RR (Y f 2 fun _ f => ?_)
    have p_10 := p_9.pl [1]
    refine Y28 (vs := [.slice none 0 0, .int .i64 0]) (j := 0) f p_10 rfl rfl (by simp [Value.oneCell', S]) (by simp) (by decide) (cs' := #[.slice none 0 0, .int .i64 0]) (by kernel_rfl) fun w_10 p_11 _ f => Y f 1 fun _ f => eT (wp_ret (T_r (E_rv2 f rfl (Y10 (cs := [.slice none 0 0, .int .i64 0]) (ad := ⟨b_2, 0, none⟩) f (own_cells (p_11.ownCell 0 rfl) 0 rfl)) (Y11 (v := .int .i64 x_4) f) ?_)))
    obtain rfl := sI hF_9
    exact ⟨_, rfl, M1, (mR _), (p_11.dropN 3), ⟨[.slice none 0 0, .int .i64 0], rfl, (TB0.shut Sli.nil)⟩⟩
   ·have k_6 : ¬ (¬ (x_4 = 0)) := iff_f (not_iff dI) h_5
    refine wp_skip (T_n (RR (Y f 1 fun _ f => Z f (Y32 (v := S x_3.fType) rfl (ad := ⟨b_3, 1, none⟩) (p_9.ownCell 0 rfl 1)) fun _ f => Y f 1 fun _ f => Z f (Y32 (v := .slice A_2 x_3.fProps.length cap_2) rfl (ad := ⟨b_3, 2, none⟩) (p_9.ownCell 0 rfl 2)) fun _ f => Y f 1 fun _ f => ?_)))
    obtain ⟨x_5, hx_5, hF_11⟩ := bS hF_10
    refine Y18 f p_9 (schema_Differ_ok n _ hG x_3.fType A_2 cap_2 x_3.fProps h_4 A2 cap2 d2 h2 x_5 hx_5) fun w_11 p_12 _ f => Y f 5 fun _ f => eT (R_seq (R_seq ?_))
    obtain ⟨j_1, hj_1, hF_12⟩ := bS hF_11
    refine R_mid (fun a_48 w_13 => ∃ y_1 : Bool, j_1 = y_1 ∧ ∃ M_1 : Mem, M1.le M_1 ∧ Frm 75 [(2, .slice A2 d2.length cap2), (3, .pointer (some (⟨b_1, 0, none⟩))), (6, .pointer (some (⟨b_2, 0, none⟩))), (8, .int .i64 x_2), (9, .pointer (some (⟨b_3, 0, none⟩))), (55, .bool y_1)] a_48 ∧ Hp w0 M_1 ((Ent.obj b_3 (.cells #[S x_3.fPhys, S x_3.fType, .slice A_2 x_3.fProps.length cap_2] 52 (0, 0))) :: (Ent.obj b_2 (.cells #[.slice none 0 0, .int .i64 0] 24 (0, 0))) :: (Ent.obj b_1 (.cells #[.slice A_1 d0.fL.length cap_1, .int .i64 d0.fMade] 24 (0, 0))) :: H) w_13) ?_ ?_
    ·refine R_reg (Y f 1 fun _ f => ?_)
     obtain ⟨x_6, hx_6, hF_13⟩ := bS hj_1
     refine Y18 f p_12 (store_known_ok n _ hG A2 cap2 d2 h2 x_6 hx_6) fun w_12 p_13 _ f => Y f 2 fun _ f => ?_
     rcases cE hF_13 with ⟨h_6, hF_14⟩ | ⟨h_6, hF_15⟩
     ·have k_7 : (x_6) = false := by simpa using h_6
      have f := f.st 48 (cB h_6)
      refine Y f 7 fun _ f => eT ?_
      exact ⟨(true), (sI hF_14).symm, M1, (mR _), f.kp, p_13⟩
     ·have k_8 : (x_6) = true := by simpa using h_6
      have f := f.st 48 (cB h_6)
      refine Y f 4 fun _ f => ?_
      rcases cE hF_15 with ⟨h_7, hF_16⟩ | ⟨h_7, hF_17⟩
      ·have k_9 : ¬ (x_5.2 = 0) := (not_iff dI).1 h_7
       have f := f.st 52 (cB h_7)
       refine Y f 3 fun _ f => eT ?_
       exact ⟨(true), (sI hF_16).symm, M1, (mR _), f.kp, p_13⟩
      ·have k_10 : ¬ (¬ (x_5.2 = 0)) := iff_f (not_iff dI) h_7
       have f := f.st 52 (cB h_7)
       refine Y f 3 fun _ f => eT ?_
       exact ⟨(decide (x_5.1 = 3)), (sI hF_17).symm, M1, (mR _), f.kp, p_13⟩
    ·rintro a_48 w_13 ⟨y_1, hq_1, M_1, hM_1, f, p_14⟩
     subst j_1
     refine T_n (RcF f hF_12 (fun h_8 hF_18 => ?_) fun h_8 hF_19 => ?_)
     ·refine RR (Y f 1 fun _ f => ?_)
      have p_15 := p_14.pl [1]
      refine Y28 (vs := [.slice none 0 0, .int .i64 0]) (j := 0) f p_15 rfl rfl (by simp [Value.oneCell', S]) (by simp) (by decide) (cs' := #[.slice none 0 0, .int .i64 0]) (by kernel_rfl) fun w_14 p_16 _ f => Y f 1 fun _ f => eT (wp_ret (T_r (E_rv2 f rfl (Y10 (cs := [.slice none 0 0, .int .i64 0]) (ad := ⟨b_2, 0, none⟩) f (own_cells (p_16.ownCell 0 rfl) 0 rfl)) (Y11 (v := .int .i64 91) f) ?_)))
      obtain rfl := sI hF_18
      exact ⟨_, rfl, M_1, hM_1, (p_16.dropN 3), ⟨[.slice none 0 0, .int .i64 0], rfl, (TB0.shut Sli.nil)⟩⟩
     ·refine wp_skip (T_n (RR (Y f 2 fun _ f => Y27 f p_14 0 rfl rfl (b := b_3) (j := 2) (v := .slice A2 d2.length cap2) rfl (by exact rfl) (by simp) (by simp) ((Ent.obj b_3 (.cells #[S x_3.fPhys, S x_3.fType, .slice A2 d2.length cap2] 52 (0, 0))) :: (Ent.obj b_2 (.cells #[.slice none 0 0, .int .i64 0] 24 (0, 0))) :: (Ent.obj b_1 (.cells #[.slice A_1 d0.fL.length cap_1, .int .i64 d0.fMade] 24 (0, 0))) :: H) rfl fun w_15 p_17 _ f => eT (R_seq ?_))))
      obtain ⟨j_2, hj_2, hF_20⟩ := bS hF_19
      refine R_mid (fun a_83 w_27 => ∃ y_2 : List TD0, j_2 = y_2 ∧ ∃ M_2 : Mem, M_1.le M_2 ∧ ∃ (A_7 : Option Addr), ∃ (cap_7 : Nat), ∃ (cs_5 : List Value), RepSeq M_2 (y_2.map emb_TD0) cs_5 ∧ Frm 75 [(3, .pointer (some (⟨b_1, 0, none⟩))), (6, .pointer (some (⟨b_2, 0, none⟩)))] a_83 ∧ Hp w0 M_2 ((Ent.row 52 3 (.slice A_7 y_2.length cap_7) y_2.length cs_5) :: (Ent.obj b_3 (.cells #[S x_3.fPhys, S x_3.fType, .slice A2 d2.length cap2] 52 (0, 0))) :: (Ent.obj b_2 (.cells #[.slice none 0 0, .int .i64 0] 24 (0, 0))) :: (Ent.obj b_1 (.cells #[.slice A_7 y_2.length cap_7, .int .i64 d0.fMade] 24 (0, 0))) :: H) w_27) ?_ ?_
      ·obtain ⟨g_1, hF_21⟩ := nS hj_2
       obtain ⟨g_2, hF_22⟩ := nS hF_21
       obtain ⟨g_3, hF_23⟩ := nS hF_22
       obtain ⟨g_4, hF_24⟩ := nS hF_23
       obtain ⟨g_5, hF_25⟩ := nS hF_24
       refine R_plan (ks := [14, 15]) (E := []) (Hr := ((Ent.obj b_3 (.cells #[S x_3.fPhys, S x_3.fType, .slice A2 d2.length cap2] 52 (0, 0))) :: (Ent.obj b_2 (.cells #[.slice none 0 0, .int .i64 0] 24 (0, 0))) :: (Ent.obj b_1 (.cells #[.slice A_1 d0.fL.length cap_1, .int .i64 d0.fMade] 24 (0, 0))) :: H)) (.quiet 0 (.quiet 1 (.quiet 2 (.quiet 3 (.quiet 4 (.quiet 5 (.quiet 8 (.quiet 9 (.quiet 10 (.quiet 11 (.quiet 12 (.alt 6 (.alt 7 (.alt 13 .done .none) .none) .none)))))))))))) p_17 (by kernel_rfl) (by kernel_rfl) (by kernel_rfl) (Y1 (v := .pointer (some (⟨b_1, 0, none⟩))) rfl f rfl rfl (fun _ _ => by kernel_rfl) fun _ f => Y1 (v := .slice A_1 d0.fL.length cap_1) rfl f rfl rfl (fun _ pq => Y32 (v := .slice A_1 d0.fL.length cap_1) rfl (ad := ⟨b_1, 0, none⟩) (pq.ownCell 2 rfl 0)) fun _ f => Y1 (v := .int .i64 x_2) rfl f rfl rfl (fun _ _ => by kernel_rfl) fun _ f => Y1 (v := .int .i64 x_2) rfl f rfl rfl (fun _ _ => by kernel_rfl) fun _ f => ?_)
       have h_11 : Sli M_1 3 emb_TD0 (cutA A_1 3 0 x_2.toNat) (d0.fL.take x_2.toNat).length (d0.fL.take x_2.toNat) := Sli.full (cap := cap_1) (h_1.mono hM_1) (by omega)
       have hl_3 := Sli.len (cap := cap_1) (h_1.mono hM_1)
       have he_2 : x_2.toNat = (d0.fL.take x_2.toNat).length := by rw [List.length_take]; omega
       refine Y1 (v := .slice (cutA A_1 3 0 x_2.toNat) x_2.toNat x_2.toNat) rfl f rfl rfl (fun _ pq => Y34 rfl (A := A_1) (len := d0.fL.length) (cap := cap_1) (k := .i64) (k' := .i64) (b := x_2) (e := 52) (sz := 3) g_1.1 (by omega)) fun _ f => ?_
       have f := Frm.set f 63 (v := .slice (cutA A_1 3 0 x_2.toNat) x_2.toNat x_2.toNat) (v' := .slice (cutA A_1 3 0 x_2.toNat) (d0.fL.take x_2.toNat).length (d0.fL.take x_2.toNat).length) (by kernel_rfl) (by rw [← he_2])
       refine Y1 (v := .agg #[S x_3.fPhys, S x_3.fType, .slice A2 d2.length cap2]) rfl f rfl rfl (fun _ pq => Y33 (cs := [S x_3.fPhys, S x_3.fType, .slice A2 d2.length cap2]) rfl (ad := ⟨b_3, 0, none⟩) (own_cells (pq.ownCell 0 rfl) 0 rfl)) fun _ f => Y1 (v := .pointer (some (⟨b_1, 0, none⟩))) rfl f rfl rfl (fun _ _ => by kernel_rfl) fun _ f => Y1 (v := .slice A_1 d0.fL.length cap_1) rfl f rfl rfl (fun _ pq => Y32 (v := .slice A_1 d0.fL.length cap_1) rfl (ad := ⟨b_1, 0, none⟩) (pq.ownCell 2 rfl 0)) fun _ f => Y1 (v := .int .i64 x_2) rfl f rfl rfl (fun _ _ => by kernel_rfl) fun _ f => Y1 (v := .int .i64 (IntKind.wrap .i64 (x_2 + 1))) rfl f rfl rfl (fun _ pq => by kernel_rfl) fun _ f => ?_
       have f := f.st 70 (congrArg (Value.int .i64) (inR_wrap g_2))
       have h_12 : Sli M_1 3 emb_TD0 (cutA A_1 3 (x_2 + 1).toNat cap_1) (cap_1 - (x_2 + 1).toNat) (d0.fL.drop (x_2 + 1).toNat) := Sli.cutFrom (h_1.mono hM_1) (by omega)
       refine Y1 (v := .slice (cutA A_1 3 (x_2 + 1).toNat cap_1) (d0.fL.length - (x_2 + 1).toNat) (cap_1 - (x_2 + 1).toNat)) rfl f rfl rfl (fun _ pq => Y35 rfl (A := A_1) (len := d0.fL.length) (cap := cap_1) (k := .i64) (a := x_2 + 1) (e := 52) (sz := 3) g_3.1 g_3.2) fun _ f => ?_
       have f := Frm.set f 71 (v := .slice (cutA A_1 3 (x_2 + 1).toNat cap_1) (d0.fL.length - (x_2 + 1).toNat) (cap_1 - (x_2 + 1).toNat)) (v' := .slice (cutA A_1 3 (x_2 + 1).toNat cap_1) (d0.fL.drop (x_2 + 1).toNat).length (cap_1 - (x_2 + 1).toNat)) (by kernel_rfl) (by rw [List.length_drop])
       refine N_alt rfl (fun w_19 p_23 => ?_) ?_
       ·refine V_allocS (k := 1) (c := 1) f p_23 (.cells #[S x_3.fPhys, S x_3.fType, .slice A2 d2.length cap2] 52 (0, 0)) (by kernel_rfl) (fun _ => by kernel_rfl) fun b_5 w_20 p_24 _ f => W_end rfl (N_goN 1 (mR _) p_24 rfl (N_alt rfl (fun w_21 p_25 => ?_) ?_))
        ·refine Y20 (e := 52) (bytes := 56) (z := .agg #[S [], S [], .slice none 0 0]) (f := emb_TD0) (xs := d0.fL.take x_2.toNat) (ys := [(⟨x_3.fPhys, x_3.fType, d2⟩ : TD0)]) (news := [S x_3.fPhys, S x_3.fType, .slice A2 d2.length cap2]) (ad := ⟨b_5, 0, none⟩) (m := 1) (c := 1) f p_25 (by decide) (by decide) h_11 (by exact ⟨_, _, rfl, TD0.shut (h2.mono hM_1), rfl⟩) rfl rfl rfl rfl (own_cells (p_25.ownCell 0 rfl) 0 rfl) g_4 (by have hg_ := g_4; omega) fun A_5 cap_5 cs_3 w_22 p_26 hr_4 _ f => ?_
         have p_27 := p_26.pl [1]
         have p_28 := p_27.drop
         refine W_end rfl (N_goN 1 (mR _) p_28 rfl (N_alt rfl (fun w_23 p_29 => ?_) ?_))
         ·refine Y24 (z := .agg #[S [], S [], .slice none 0 0]) (f := emb_TD0) (xs := (d0.fL.take x_2.toNat) ++ [(⟨x_3.fPhys, x_3.fType, d2⟩ : TD0)]) (ys := d0.fL.drop (x_2 + 1).toNat) (c := (cap_1 - (x_2 + 1).toNat)) f p_29 hr_4 h_12 rfl rfl rfl g_5 (by omega) fun A_6 cap_6 cs_4 w_24 p_30 hr_5 _ f => W_end rfl (N_goN 1 (mR _) p_30 rfl (N_tail fun w_25 p_31 => Y f 1 fun _ f => Y27 f p_31 3 rfl rfl (b := b_1) (j := 0) (v := .slice A_6 (((d0.fL.take x_2.toNat) ++ [(⟨x_3.fPhys, x_3.fType, d2⟩ : TD0)]) ++ (d0.fL.drop (x_2 + 1).toNat)).length cap_6) rfl (by exact rfl) (by simp) (by simp) ((Ent.row 52 3 (.slice A_6 (((d0.fL.take x_2.toNat) ++ [(⟨x_3.fPhys, x_3.fType, d2⟩ : TD0)]) ++ (d0.fL.drop (x_2 + 1).toNat)).length cap_6) (((d0.fL.take x_2.toNat) ++ [(⟨x_3.fPhys, x_3.fType, d2⟩ : TD0)]) ++ (d0.fL.drop (x_2 + 1).toNat)).length cs_4) :: (Ent.obj b_3 (.cells #[S x_3.fPhys, S x_3.fType, .slice A2 d2.length cap2] 52 (0, 0))) :: (Ent.obj b_2 (.cells #[.slice none 0 0, .int .i64 0] 24 (0, 0))) :: (Ent.obj b_1 (.cells #[.slice A_6 (((d0.fL.take x_2.toNat) ++ [(⟨x_3.fPhys, x_3.fType, d2⟩ : TD0)]) ++ (d0.fL.drop (x_2 + 1).toNat)).length cap_6, .int .i64 d0.fMade] 24 (0, 0))) :: H) rfl fun w_26 p_32 _ f => W_end rfl (N_te (T_n ?_))))
          exact ⟨((d0.fL.take x_2.toNat) ++ [(⟨x_3.fPhys, x_3.fType, d2⟩ : TD0)]) ++ (d0.fL.drop (x_2 + 1).toNat), (sI hF_25).symm, M_1, (mR _), A_6, cap_6, cs_4, hr_5, f.kp, p_32⟩
         exact N_none
        exact N_none
       exact N_none
      ·rintro a_83 w_27 ⟨y_2, hq_2, M_2, hM_2, A_7, cap_7, cs_5, hr_6, f, p_33⟩
       subst j_2
       refine T_n (RR (Z (v := .agg #[.slice A_7 y_2.length cap_7, .int .i64 d0.fMade]) f (Y33 (cs := [.slice A_7 y_2.length cap_7, .int .i64 d0.fMade]) rfl (ad := ⟨b_1, 0, none⟩) (own_cells (p_33.ownCell 3 rfl) 0 rfl)) fun _ f => ?_))
       obtain ⟨A_8, cap_8, M_3, hv_1, hM_3, p_34, h_13⟩ := p_33.rowSli (f := emb_TD0) (xs := y_2) szd_TD0 hr_6
       have f := Frm.set f 74 (v := .agg #[.slice A_7 y_2.length cap_7, .int .i64 d0.fMade]) (v' := .agg #[.slice A_8 y_2.length cap_8, .int .i64 d0.fMade]) (by kernel_rfl) (by rw [hv_1])
       have p_35 : Hp w0 M_3 ((Ent.obj b_3 (.cells #[S x_3.fPhys, S x_3.fType, .slice A2 d2.length cap2] 52 (0, 0))) :: (Ent.obj b_2 (.cells #[.slice none 0 0, .int .i64 0] 24 (0, 0))) :: (Ent.obj b_1 (.cells #[.slice A_8 y_2.length cap_8, .int .i64 d0.fMade] 24 (0, 0))) :: H) w_27 := by rw [hv_1] at p_34; exact p_34
       have p_36 := p_35.pl [1]
       refine Y28 (vs := [.slice A_8 y_2.length cap_8, .int .i64 d0.fMade]) (j := 0) f p_36 rfl rfl (by simp [Value.oneCell', S]) (by simp) (by decide) (cs' := #[.slice A_8 y_2.length cap_8, .int .i64 d0.fMade]) (by kernel_rfl) fun w_28 p_37 _ f => Y f 1 fun _ f => eT (wp_ret (E_rv2 f rfl (Y10 (cs := [.slice A_8 y_2.length cap_8, .int .i64 d0.fMade]) (ad := ⟨b_2, 0, none⟩) f (own_cells (p_37.ownCell 0 rfl) 0 rfl)) (Y11 (v := .int .i64 0) f) ?_))
       obtain rfl := sI hF_20
       exact ⟨_, rfl, M_3, ((hM_1.trans hM_2).trans hM_3), (p_37.dropN 3), ⟨[.slice A_8 y_2.length cap_8, .int .i64 d0.fMade], rfl, (TB0.shut h_13)⟩⟩
def store_Delete (n : Nat) (d0 : TB0) (d1 : List UInt8) : Option (TB0 × Int) :=
  (store_Check n (⟨d0.fL, d0.fMade⟩ : TB0)).bind fun x_1 =>
  bif (!(decide (x_1 = 0))) then
    (some ((z_TB0, (2 : Int))))
  else
    (store_at n (⟨d0.fL, d0.fMade⟩ : TB0) d1).bind fun x_2 =>
    bif (decide (x_2 < 0)) then
      (some ((z_TB0, (4 : Int))))
    else
      need (0 ≤ x_2 ∧ x_2 ≤ (d0.fL.length : Int)) <|
      need (inR .i64 (x_2 + 1)) <|
      need (0 ≤ (x_2 + 1) ∧ (x_2 + 1) ≤ (d0.fL.length : Int)) <|
      need (((d0.fL.take x_2.toNat).length + (d0.fL.drop (x_2 + 1).toNat).length) * 56 ≤ 140737488355328) <|
      some (((⟨(d0.fL.take x_2.toNat) ++ (d0.fL.drop (x_2 + 1).toNat), d0.fMade⟩ : TB0), (0 : Int)))
set_option maxRecDepth 20000 in
theorem store_Delete_ok (n : Nat) (M : Mem) (hG : GL M) (c0 : List Value) (d0 : TB0) (h0 : Rep M (emb_TB0 d0) c0) (d1 : List UInt8) (r : TB0 × Int) (hF : store_Delete n d0 d1 = some r) : Ok Tryz.prog M 14 [.agg c0.toArray, S d1] (fun M' v => ∃ (c0 : List Value), v = .tuple #[.agg c0.toArray, .int .i64 r.2] ∧ Rep M' (emb_TB0 r.1) c0) := by
 unfold store_Delete at hF
 intro M1 hM0 w0 H w p0
 replace hG := GL.mono hM0 hG
 replace h0 := Rep.mono hM0 _ _ h0
 obtain ⟨A_1, cap_1, rfl, h_1⟩ := TB0.opn h0
 refine R_enter 30 Tryz.func14 rfl rfl (by simp) fun a0 f0 => RR (Y12 f0 p0 (.cells #[.slice A_1 d0.fL.length cap_1, .int .i64 d0.fMade] 24 (0, 0)) fun b_1 w_1 p_1 _ f => Y12 f p_1 (.cells #[.slice none 0 0, .int .i64 0] 24 (0, 0)) fun b_2 w_2 p_2 _ f => Y f 1 fun _ f => eT (R_seq (RR (Z (v := .agg #[.slice A_1 d0.fL.length cap_1, .int .i64 d0.fMade]) f (Y33 (cs := [.slice A_1 d0.fL.length cap_1, .int .i64 d0.fMade]) rfl (ad := ⟨b_1, 0, none⟩) (own_cells (p_2.ownCell 1 rfl) 0 rfl)) fun _ f => ?_))))
 obtain ⟨x_1, hx_1, hF_1⟩ := bS hF
 refine Y18 f p_2 (store_Check_ok n _ hG _ (⟨d0.fL, d0.fMade⟩ : TB0) (TB0.shut h_1) x_1 hx_1) fun w_3 p_3 _ f => Y f 1 fun _ f => eT (RcF f hF_1 (fun h_2 hF_2 => ?_) fun h_2 hF_3 => ?_)
 ·have k_1 : ¬ (x_1 = 0) := (not_iff dI).1 h_2
  refine RR (Y f 1 fun _ f => Y28 (vs := [.slice none 0 0, .int .i64 0]) (j := 0) f p_3 rfl rfl (by simp [Value.oneCell', S]) (by simp) (by decide) (cs' := #[.slice none 0 0, .int .i64 0]) (by kernel_rfl) fun w_4 p_4 _ f => Y f 1 fun _ f => eT (wp_ret (T_r (E_rv2 f rfl (Y10 (cs := [.slice none 0 0, .int .i64 0]) (ad := ⟨b_2, 0, none⟩) f (own_cells (p_4.ownCell 0 rfl) 0 rfl)) (Y11 (v := .int .i64 2) f) ?_))))
  obtain rfl := sI hF_2
  exact ⟨_, rfl, M1, (mR _), (p_4.dropN 2), ⟨[.slice none 0 0, .int .i64 0], rfl, (TB0.shut Sli.nil)⟩⟩
 ·have k_2 : ¬ (¬ (x_1 = 0)) := iff_f (not_iff dI) h_2
  refine wp_skip (T_n (RR (Z (v := .agg #[.slice A_1 d0.fL.length cap_1, .int .i64 d0.fMade]) f (Y33 (cs := [.slice A_1 d0.fL.length cap_1, .int .i64 d0.fMade]) rfl (ad := ⟨b_1, 0, none⟩) (own_cells (p_3.ownCell 1 rfl) 0 rfl)) fun _ f => Y f 1 fun _ f => ?_)))
  obtain ⟨x_2, hx_2, hF_4⟩ := bS hF_3
  refine Y18 f p_3 (store_at_ok n _ hG _ (⟨d0.fL, d0.fMade⟩ : TB0) (TB0.shut h_1) d1 x_2 hx_2) fun w_5 p_5 _ f => Y f 1 fun _ f => eT (R_seq (RR (Y f 2 fun _ f => eT (RcF f hF_4 (fun h_3 hF_5 => ?_) fun h_3 hF_6 => ?_))))
  ·have k_3 := dI.1 h_3
   refine RR (Y f 1 fun _ f => Y28 (vs := [.slice none 0 0, .int .i64 0]) (j := 0) f p_5 rfl rfl (by simp [Value.oneCell', S]) (by simp) (by decide) (cs' := #[.slice none 0 0, .int .i64 0]) (by kernel_rfl) fun w_6 p_6 _ f => Y f 1 fun _ f => eT (wp_ret (T_r (E_rv2 f rfl (Y10 (cs := [.slice none 0 0, .int .i64 0]) (ad := ⟨b_2, 0, none⟩) f (own_cells (p_6.ownCell 0 rfl) 0 rfl)) (Y11 (v := .int .i64 4) f) ?_))))
   obtain rfl := sI hF_5
   exact ⟨_, rfl, M1, (mR _), (p_6.dropN 2), ⟨[.slice none 0 0, .int .i64 0], rfl, (TB0.shut Sli.nil)⟩⟩
  ·have k_4 := iff_f dI h_3
   refine wp_skip (T_n (R_seq (R_drawT 10 p_5 (by kernel_rfl) (by kernel_rfl) fun w_7 p_7 => ST_eq (v := .pointer (some (⟨b_1, 0, none⟩))) f (by kernel_rfl) (by kernel_rfl) rfl rfl (by kernel_rfl) fun _ f => ST_eq (v := .slice A_1 d0.fL.length cap_1) f (by kernel_rfl) (by kernel_rfl) rfl rfl (Y32 (v := .slice A_1 d0.fL.length cap_1) rfl (ad := ⟨b_1, 0, none⟩) (p_7.ownCell 1 rfl 0)) fun _ f => ST_eq (v := .int .i64 x_2) f (by kernel_rfl) (by kernel_rfl) rfl rfl (by kernel_rfl) fun _ f => ST_eq (v := .int .i64 x_2) f (by kernel_rfl) (by kernel_rfl) rfl rfl (by kernel_rfl) fun _ f => ?_)))
   obtain ⟨g_1, hF_7⟩ := nS hF_6
   have h_4 : Sli M1 3 emb_TD0 (cutA A_1 3 0 x_2.toNat) (d0.fL.take x_2.toNat).length (d0.fL.take x_2.toNat) := Sli.full (cap := cap_1) h_1 (by omega)
   have hl_1 := Sli.len (cap := cap_1) h_1
   have he_1 : x_2.toNat = (d0.fL.take x_2.toNat).length := by rw [List.length_take]; omega
   refine ST_eq (v := .slice (cutA A_1 3 0 x_2.toNat) x_2.toNat x_2.toNat) f (by kernel_rfl) (by kernel_rfl) rfl rfl (Y34 rfl (A := A_1) (len := d0.fL.length) (cap := cap_1) (k := .i64) (k' := .i64) (b := x_2) (e := 52) (sz := 3) g_1.1 (by omega)) fun _ f => ?_
   have f := Frm.set f 21 (v := .slice (cutA A_1 3 0 x_2.toNat) x_2.toNat x_2.toNat) (v' := .slice (cutA A_1 3 0 x_2.toNat) (d0.fL.take x_2.toNat).length (d0.fL.take x_2.toNat).length) (by kernel_rfl) (by rw [← he_1])
   refine ST_eq (v := .pointer (some (⟨b_1, 0, none⟩))) f (by kernel_rfl) (by kernel_rfl) rfl rfl (by kernel_rfl) fun _ f => ST_eq (v := .slice A_1 d0.fL.length cap_1) f (by kernel_rfl) (by kernel_rfl) rfl rfl (Y32 (v := .slice A_1 d0.fL.length cap_1) rfl (ad := ⟨b_1, 0, none⟩) (p_7.ownCell 1 rfl 0)) fun _ f => ST_eq (v := .int .i64 x_2) f (by kernel_rfl) (by kernel_rfl) rfl rfl (by kernel_rfl) fun _ f => ?_
   obtain ⟨g_2, hF_8⟩ := nS hF_7
   refine ST_eq (v := .int .i64 (IntKind.wrap .i64 (x_2 + 1))) f (by kernel_rfl) (by kernel_rfl) rfl rfl (by kernel_rfl) fun _ f => ?_
   have f := f.st 25 (congrArg (Value.int .i64) (inR_wrap g_2))
   obtain ⟨g_3, hF_9⟩ := nS hF_8
   have h_5 : Sli M1 3 emb_TD0 (cutA A_1 3 (x_2 + 1).toNat cap_1) (cap_1 - (x_2 + 1).toNat) (d0.fL.drop (x_2 + 1).toNat) := Sli.cutFrom h_1 (by omega)
   refine ST_eq (v := .slice (cutA A_1 3 (x_2 + 1).toNat cap_1) (d0.fL.length - (x_2 + 1).toNat) (cap_1 - (x_2 + 1).toNat)) f (by kernel_rfl) (by kernel_rfl) rfl rfl (Y35 rfl (A := A_1) (len := d0.fL.length) (cap := cap_1) (k := .i64) (a := x_2 + 1) (e := 52) (sz := 3) g_3.1 g_3.2) fun _ f => ?_
   have f := Frm.set f 26 (v := .slice (cutA A_1 3 (x_2 + 1).toNat cap_1) (d0.fL.length - (x_2 + 1).toNat) (cap_1 - (x_2 + 1).toNat)) (v' := .slice (cutA A_1 3 (x_2 + 1).toNat cap_1) (d0.fL.drop (x_2 + 1).toNat).length (cap_1 - (x_2 + 1).toNat)) (by kernel_rfl) (by rw [List.length_drop])
   refine ST_end rfl ?_
   obtain ⟨g_4, hF_10⟩ := nS hF_9
   refine Y21 (e := 52) (bytes := 56) (z := .agg #[S [], S [], .slice none 0 0]) (f := emb_TD0) (xs := d0.fL.take x_2.toNat) (ys := d0.fL.drop (x_2 + 1).toNat) (c := (cap_1 - (x_2 + 1).toNat)) f p_7 (by decide) szd_TD0 h_4 h_5 rfl rfl rfl g_4 (by omega) fun A_2 cap_2 M_1 w_8 hM_1 p_8 h_6 _ f => Y f 1 fun _ f => Y27 f p_8 1 rfl rfl (b := b_1) (j := 0) (v := .slice A_2 ((d0.fL.take x_2.toNat) ++ (d0.fL.drop (x_2 + 1).toNat)).length cap_2) rfl (by exact rfl) (by simp) (by simp) ((Ent.obj b_2 (.cells #[.slice none 0 0, .int .i64 0] 24 (0, 0))) :: (Ent.obj b_1 (.cells #[.slice A_2 ((d0.fL.take x_2.toNat) ++ (d0.fL.drop (x_2 + 1).toNat)).length cap_2, .int .i64 d0.fMade] 24 (0, 0))) :: H) rfl fun w_9 p_9 _ f => eT (RR (Z (v := .agg #[.slice A_2 ((d0.fL.take x_2.toNat) ++ (d0.fL.drop (x_2 + 1).toNat)).length cap_2, .int .i64 d0.fMade]) f (Y33 (cs := [.slice A_2 ((d0.fL.take x_2.toNat) ++ (d0.fL.drop (x_2 + 1).toNat)).length cap_2, .int .i64 d0.fMade]) rfl (ad := ⟨b_1, 0, none⟩) (own_cells (p_9.ownCell 1 rfl) 0 rfl)) fun _ f => Y28 (vs := [.slice A_2 ((d0.fL.take x_2.toNat) ++ (d0.fL.drop (x_2 + 1).toNat)).length cap_2, .int .i64 d0.fMade]) (j := 0) f p_9 rfl rfl (by simp [Value.oneCell', S]) (by simp) (by decide) (cs' := #[.slice A_2 ((d0.fL.take x_2.toNat) ++ (d0.fL.drop (x_2 + 1).toNat)).length cap_2, .int .i64 d0.fMade]) (by kernel_rfl) fun w_10 p_10 _ f => Y f 1 fun _ f => eT (wp_ret (E_rv2 f rfl (Y10 (cs := [.slice A_2 ((d0.fL.take x_2.toNat) ++ (d0.fL.drop (x_2 + 1).toNat)).length cap_2, .int .i64 d0.fMade]) (ad := ⟨b_2, 0, none⟩) f (own_cells (p_10.ownCell 0 rfl) 0 rfl)) (Y11 (v := .int .i64 0) f) ?_))))
   obtain rfl := sI hF_10
   exact ⟨_, rfl, M_1, hM_1, (p_10.dropN 2), ⟨[.slice A_2 ((d0.fL.take x_2.toNat) ++ (d0.fL.drop (x_2 + 1).toNat)).length cap_2, .int .i64 d0.fMade], rfl, (TB0.shut h_6)⟩⟩
def ref10_Phys (n : Nat) (d0 : Int) : Option (List UInt8 × Int) :=
  ((bif (decide (d0 < 1)) then
      (some ((true)))
    else
      some ((decide ((1099511627776 : Int) < d0))) : Option Bool)).bind fun y_1 =>
  bif y_1 then
    (some ((([] : List UInt8), (2 : Int))))
  else
    (h_numTextR n d0).bind fun x_1 =>
    need ([112].length + x_1.1.length ≤ 9223372036854775807) <|
    some (([112] ++ x_1.1, (0 : Int)))
theorem ref10_Phys_ok (n : Nat) (M : Mem) (hG : GL M) (d0 : Int) (r : List UInt8 × Int) (hF : ref10_Phys n d0 = some r) : Ok Tryz.prog M 41 [.int .i64 d0] (fun _ v => v = .tuple #[S r.1, .int .i64 r.2]) := by
 unfold ref10_Phys at hF
 intro M1 hM0 w0 H w p0
 replace hG := GL.mono hM0 hG
 refine R_enter 19 Tryz.func41 rfl rfl (by simp) fun a0 f0 => RR (Y f0 2 fun _ f => eT (R_seq (R_seq ?_)))
 obtain ⟨j_1, hj_1, hF_1⟩ := bS hF
 refine R_mid (fun a_5 w_1 => ∃ y_1 : Bool, j_1 = y_1 ∧ ∃ M_1 : Mem, M1.le M_1 ∧ Frm 19 [(0, .int .i64 d0), (11, .bool y_1)] a_5 ∧ Hp w0 M_1 (H) w_1) ?_ ?_
 ·refine R_reg (Y f 3 fun _ f => ?_)
  rcases cE hj_1 with ⟨h_1, hF_2⟩ | ⟨h_1, hF_3⟩
  ·have k_1 := dI.1 h_1
   have f := f.st 8 (cB h_1)
   refine Y f 3 fun _ f => eT ?_
   exact ⟨(true), (sI hF_2).symm, M1, (mR _), f.kp, p0⟩
  ·have k_2 := iff_f dI h_1
   have f := f.st 8 (cB h_1)
   refine Y f 3 fun _ f => eT ?_
   exact ⟨(decide ((1099511627776 : Int) < d0)), (sI hF_3).symm, M1, (mR _), f.kp, p0⟩
 ·rintro a_5 w_1 ⟨y_1, hq_1, M_1, hM_1, f, p_1⟩
  subst j_1
  refine T_n (RcF f hF_1 (fun h_2 hF_4 => ?_) fun h_2 hF_5 => ?_)
  ·refine RR (Y f 2 fun _ f => eT (wp_ret (T_r (E_ret2 f rfl (by kernel_rfl : Vc.look _ 2 = some (S [])) (by kernel_rfl : Vc.look _ 3 = some (.int .i64 2)) ?_))))
   obtain rfl := sI hF_4
   exact ⟨_, rfl, M_1, hM_1, p_1, rfl⟩
  ·refine wp_skip (T_n (RR (Y f 1 fun _ f => ?_)))
   obtain ⟨x_1, hx_1, hF_6⟩ := bS hF_5
   refine Y18 f p_1 (h_numTextR_ok n _ d0 x_1 hx_1) fun w_2 p_2 _ f => Y f 5 fun _ f => eT (RR (Y f 1 fun _ f => ?_))
   obtain ⟨g_1, hF_7⟩ := nS hF_6
   refine Z f (Y29 rfl (l := [112]) (m := x_1.1) g_1) fun _ f => Y f 2 fun _ f => eT (wp_ret (E_ret2 f rfl (by kernel_rfl : Vc.look _ 2 = some (S ([112] ++ x_1.1))) (by kernel_rfl : Vc.look _ 3 = some (.int .i64 0)) ?_))
   obtain rfl := sI hF_7
   exact ⟨_, rfl, M_1, hM_1, p_2, rfl⟩
def ref10_Number (n : Nat) (d0 : List UInt8) : Option (Int × Bool) :=
  ((bif (decide ((d0.length : Int) < 2)) then
      (some ((true)))
    else
      bif (decide ((20 : Int) < (d0.length : Int))) then
        (some ((true)))
      else
        (getI d0 (0 : Int)).bind fun c_1 =>
        some ((!(decide (((c_1).toNat : Int) = 112)))) : Option Bool)).bind fun y_1 =>
  bif y_1 then
    (some (((0 : Int), (false))))
  else
    need (0 ≤ (1 : Int) ∧ (1 : Int) ≤ d0.length) <|
    (h_numReadR n (d0.drop (1 : Int).toNat)).bind fun x_1 =>
    bif (!(decide (x_1.2 = 0))) then
      (some (((0 : Int), (false))))
    else
      bif (decide (x_1.1 < 1)) then
        (some (((0 : Int), (false))))
      else
        bif (decide ((1099511627776 : Int) < x_1.1)) then
          (some (((0 : Int), (false))))
        else
          some ((x_1.1, (true)))
theorem ref10_Number_ok (n : Nat) (M : Mem) (hG : GL M) (d0 : List UInt8) (r : Int × Bool) (hF : ref10_Number n d0 = some r) : Ok Tryz.prog M 69 [S d0] (fun _ v => v = .tuple #[.int .i64 r.1, .bool r.2]) := by
 unfold ref10_Number at hF
 intro M1 hM0 w0 H w p0
 replace hG := GL.mono hM0 hG
 refine R_enter 36 Tryz.func69 rfl rfl (by simp) fun a0 f0 => RR (Y f0 2 fun _ f => eT (R_seq (R_seq ?_)))
 obtain ⟨j_1, hj_1, hF_1⟩ := bS hF
 refine R_mid (fun a_9 w_1 => ∃ y_1 : Bool, j_1 = y_1 ∧ ∃ M_1 : Mem, M1.le M_1 ∧ Frm 36 [(0, S d0), (18, .bool y_1)] a_9 ∧ Hp w0 M_1 (H) w_1) ?_ ?_
 ·refine R_reg (Y f 4 fun _ f => ?_)
  rcases cE hj_1 with ⟨h_1, hF_2⟩ | ⟨h_1, hF_3⟩
  ·have k_1 := dI.1 h_1
   have f := f.st 9 (cB h_1)
   refine Y f 9 fun _ f => eT ?_
   exact ⟨(true), (sI hF_2).symm, M1, (mR _), f.kp, p0⟩
  ·have k_2 := iff_f dI h_1
   have f := f.st 9 (cB h_1)
   refine Y f 5 fun _ f => ?_
   rcases cE hF_3 with ⟨h_2, hF_4⟩ | ⟨h_2, hF_5⟩
   ·have k_3 := dI.1 h_2
    have f := f.st 14 (cB h_2)
    refine Y f 4 fun _ f => eT ?_
    exact ⟨(true), (sI hF_4).symm, M1, (mR _), f.kp, p0⟩
   ·have k_4 := iff_f dI h_2
    have f := f.st 14 (cB h_2)
    refine Y f 1 fun _ f => ?_
    obtain ⟨c_1, hx_1, hF_6⟩ := bS hF_5
    refine Z f (Y37 rfl (l := d0) (k := .i64) (i := (0 : Int)) (getI_nn hx_1) (getI_lt hx_1)) fun _ f => ?_
    have f := Frm.set f 16 (v := .int .u8 ((d0.getD (0 : Int).toNat 0).toNat : Int)) (v' := .int .u8 ((c_1).toNat : Int)) (by kernel_rfl) (congrArg (fun c : UInt8 => Value.int .u8 ((c.toNat : Nat) : Int)) (getI_getD hx_1))
    refine Y f 2 fun _ f => eT ?_
    exact ⟨(!(decide (((c_1).toNat : Int) = 112))), (sI hF_6).symm, M1, (mR _), f.kp, p0⟩
 ·rintro a_9 w_1 ⟨y_1, hq_1, M_1, hM_1, f, p_1⟩
  subst j_1
  refine T_n (RcF f hF_1 (fun h_3 hF_7 => ?_) fun h_3 hF_8 => ?_)
  ·refine RR (Y f 2 fun _ f => eT (wp_ret (T_r (E_ret2 f rfl (by kernel_rfl : Vc.look _ 2 = some (.int .i64 0)) (by kernel_rfl : Vc.look _ 3 = some (.bool false)) ?_))))
   obtain rfl := sI hF_7
   exact ⟨_, rfl, M_1, hM_1, p_1, rfl⟩
  ·refine wp_skip (T_n (RR (Y f 1 fun _ f => ?_)))
   obtain ⟨g_1, hF_9⟩ := nS hF_8
   refine Z (v := S (d0.drop (1 : Int).toNat)) f (X_strFrom rfl (l := d0) (k := .i64) (a := (1 : Int)) (by kernel_rfl) (by kernel_rfl) (by kernel_rfl) g_1.1 g_1.2) fun _ f => ?_
   obtain ⟨x_1, hx_2, hF_10⟩ := bS hF_9
   refine Y18 f p_1 (h_numReadR_ok n _ (d0.drop (1 : Int).toNat) x_1 hx_2) fun w_2 p_2 _ f => Y f 5 fun _ f => eT (R_seq (RR (Y f 3 fun _ f => ?_)))
   rcases cE hF_10 with ⟨h_4, hF_11⟩ | ⟨h_4, hF_12⟩
   ·have k_7 : ¬ (x_1.2 = 0) := (not_iff dI).1 h_4
    have f := f.st 27 (cB h_4)
    refine Y f 7 fun _ f => eT (Y8 f (RR (Y f 2 fun _ f => eT (wp_ret (T_r (E_ret2 f rfl (by kernel_rfl : Vc.look _ 2 = some (.int .i64 0)) (by kernel_rfl : Vc.look _ 3 = some (.bool false)) ?_))))))
    obtain rfl := sI hF_11
    exact ⟨_, rfl, M_1, hM_1, p_2, rfl⟩
   ·have k_8 : ¬ (¬ (x_1.2 = 0)) := iff_f (not_iff dI) h_4
    have f := f.st 27 (cB h_4)
    refine Y f 4 fun _ f => ?_
    rcases cE hF_12 with ⟨h_5, hF_13⟩ | ⟨h_5, hF_14⟩
    ·have k_9 := dI.1 h_5
     have f := f.st 31 (cB h_5)
     refine Y f 3 fun _ f => eT (Y8 f (RR (Y f 2 fun _ f => eT (wp_ret (T_r (E_ret2 f rfl (by kernel_rfl : Vc.look _ 2 = some (.int .i64 0)) (by kernel_rfl : Vc.look _ 3 = some (.bool false)) ?_))))))
     obtain rfl := sI hF_13
     exact ⟨_, rfl, M_1, hM_1, p_2, rfl⟩
    ·have k_10 := iff_f dI h_5
     have f := f.st 31 (cB h_5)
     refine Y f 3 fun _ f => eT (RcF f hF_14 (fun h_6 hF_15 => ?_) fun h_6 hF_16 => ?_)
     ·have k_11 := dI.1 h_6
      refine RR (Y f 2 fun _ f => eT (wp_ret (T_r (E_ret2 f rfl (by kernel_rfl : Vc.look _ 2 = some (.int .i64 0)) (by kernel_rfl : Vc.look _ 3 = some (.bool false)) ?_))))
      obtain rfl := sI hF_15
      exact ⟨_, rfl, M_1, hM_1, p_2, rfl⟩
     ·have k_12 := iff_f dI h_6
      refine wp_skip (T_n (RR (Y f 3 fun _ f => eT (wp_ret (E_ret2 f rfl (by kernel_rfl : Vc.look _ 2 = some (.int .i64 x_1.1)) (by kernel_rfl : Vc.look _ 3 = some (.bool true)) ?_)))))
      obtain rfl := sI hF_16
      exact ⟨_, rfl, M_1, hM_1, p_2, rfl⟩
def ref10_known_s1 (n : Nat) (d0 : List TE0) (s_1 : Int) : Option (Lp Int (Sum Unit Unit)) :=
    bif (decide (s_1 < ((d0.length : Nat) : Int))) then
      ((getI d0 s_1).bind fun x_1 =>
      bif x_1.fUnknown then
        (some (.br (.inl ())))
      else
        need (inR .i64 (s_1 + 1)) <|
        some (.nx (s_1 + 1)))
    else
      some (.br (.inr ()))
def ref10_known (n : Nat) (d0 : List TE0) : Option Bool :=
  (loopF (ref10_known_s1 n d0) n (0 : Int)).bind fun b_1 =>
  (match b_1 with 
  | .inl y_1 => some ((false)) 
  | .inr y_2 => some ((true)))
theorem ref10_known_ok (n : Nat) (M : Mem) (hG : GL M) (A0 : Option Addr) (cap0 : Nat) (d0 : List TE0) (h0 : Sli M 8 emb_TE0 A0 cap0 d0) (r : Bool) (hF : ref10_known n d0 = some r) : Ok Tryz.prog M 40 [.slice A0 d0.length cap0] (fun _ v => v = .bool r) := by
 unfold ref10_known at hF
 intro M1 hM0 w0 H w p0
 replace hG := GL.mono hM0 hG
 replace h0 := h0.mono hM0
 refine R_enter 15 Tryz.func40 rfl rfl (by simp) fun a0 f0 => RR (Y f0 1 fun _ f => eT (R_seq (RR (Y f 1 fun _ f => eT (wp_block ?_)))))
 obtain ⟨b_1, hL_1, hF_1⟩ := bS hF
 refine wp_mono (Q := fun e a w => (e = .ret ∧ (∃ y_1 : Unit, b_1 = .inl y_1 ∧ ∃ M_2 : Mem, M1.le M_2 ∧ Frm 15 [(2, .bool false)] a ∧ Hp w0 M_2 (H) w)) ∨ (e = .exit 0 ∧ (∃ y_2 : Unit, b_1 = .inr y_2 ∧ ∃ M_3 : Mem, M1.le M_3 ∧ Frm 15 [] a ∧ Hp w0 M_3 (H) w))) (R_loop (n := 15) (w0 := w0) (M := M1) (fun (x : Nat × Int) => match x with | (m_1, s_1) => [(0, .slice A0 d0.length cap0), (3, .int .i64 s_1)]) (fun (x : Nat × Int) => match x with | (m_1, s_1) => (H)) (fun (x : Nat × Int) (MM : Mem) => match x with | (m_1, s_1) => loopF (ref10_known_s1 n d0) m_1 s_1 = some b_1) (fun (x : Nat × Int) => match x with | (m_1, s_1) => m_1) (n, (0 : Int)) (f.kp) p0 hL_1 ?_) ?_
 ·rintro ⟨m_1, s_1⟩ M_1 _ w_1 hM_1 I_1 f p_1
  have I_1L := I_1
  obtain ⟨m_2, r_1, rfl, hs_1, hn_1⟩ := loop_step I_1L
  unfold ref10_known_s1 at hs_1
  refine R_seq (RR (Y f 4 fun _ f => eT (RcF f hs_1 (fun h_1 hF_2 => ?_) fun h_1 hF_7 => ?_)))
  ·have k_1 := dI.1 h_1
   refine wp_skip (T_n (R_seq (wp_block (RR (Y f 2 fun _ f => ?_)))))
   obtain ⟨x_1, hx_1, hF_3⟩ := bS hF_2
   obtain ⟨ad_1, c_1, e_1, -, hr_1, hc_1⟩ := Sli.at_ (h0.mono hM_1) hx_1
   obtain ⟨A_1, cap_1, A_2, cap_2, rfl, h_2, h_3⟩ := TE0.opn hr_1
   refine Z f (Y31 e_1 rfl (len := d0.length) (cap := cap0) (k := .i64) (i := s_1) (e := 78) (sz := 8) (getI_nn hx_1) (getI_lt hx_1)) fun _ f => Y f 1 fun _ f => Y15 f p_1 hc_1 1 rfl fun _ f => eT (RcF f hF_3 (fun h_4 hF_4 => ?_) fun h_4 hF_5 => ?_)
   ·refine RR (Y f 1 fun _ f => eT (wp_ret (B_r (T_r (T_r ?_)))))
    obtain rfl := sI hF_4
    exact .inl ⟨rfl, (), (sI hn_1).symm, M_1, hM_1, f.kp, p_1⟩
   ·refine wp_skip (B_n (T_n (R_reg (Y f 1 fun _ f => ?_))))
    obtain ⟨g_1, hF_6⟩ := nS hF_5
    refine Y f 1 fun _ f => ?_
    have f := f.st 9 (congrArg (Value.int .i64) (inR_wrap g_1))
    refine Y f 1 fun _ f => eT ?_
    obtain rfl := sI hF_6
    exact ⟨⟨m_2, s_1 + 1⟩, Nat.lt_succ_self _, M_1, hM_1, hn_1, f.kp, p_1⟩
  ·have k_4 := iff_f dI h_1
   refine wp_exit (T_x (T_x ?_))
   obtain rfl := sI hF_7
   exact .inr ⟨rfl, (), (sI hn_1).symm, M_1, hM_1, f.kp, p_1⟩
 ·rintro _ _ w_4 (⟨rfl, y_1, rfl, M_2, hM_2, f, p_2⟩ | ⟨rfl, y_2, rfl, M_3, hM_3, f, p_3⟩)
  ·refine B_r (T_r (E_ret1 f rfl (by kernel_rfl : Vc.look _ 2 = some (.bool false)) ?_))
   obtain rfl := sI hF_1
   exact ⟨_, rfl, M_2, hM_2, p_2, rfl⟩
  ·refine B_x (T_n (RR (Y f 1 fun _ f => eT (wp_ret (E_ret1 f rfl (by kernel_rfl : Vc.look _ 2 = some (.bool true)) ?_)))))
   obtain rfl := sI hF_1
   exact ⟨_, rfl, M_3, hM_3, p_3, rfl⟩
def ref10_Check_s1 (n : Nat) (d0 : TA0) (s_1 : Int × Int) : Option (Lp (Int × Int) (Sum Unit Unit)) :=
    bif (decide (s_1.2 < ((d0.fL.length : Nat) : Int))) then
      ((getI d0.fL s_1.2).bind fun x_1 =>
      (ref10_Number n x_1.fPhys).bind fun x_2 =>
      ((bif !x_2.2 then
          (some ((true)))
        else
          bif (decide (x_2.1 ≤ s_1.1)) then
            (some ((true)))
          else
            bif (decide (d0.fMade < x_2.1)) then
              (some ((true)))
            else
              (getI d0.fL s_1.2).bind fun x_3 =>
              (getI d0.fL s_1.2).bind fun x_4 =>
              (ref09_Check n x_3.fType x_4.fProps).bind fun x_5 =>
              bif (!(decide (x_5 = 0))) then
                (some ((true)))
              else
                (getI d0.fL s_1.2).bind fun x_6 =>
                (ref10_known n x_6.fProps).bind fun x_7 =>
                some ((!x_7)) : Option Bool)).bind fun y_2 =>
      bif y_2 then
        (some (.br (.inl ())))
      else
        need (inR .i64 (s_1.2 + 1)) <|
        some (.nx (x_2.1, s_1.2 + 1)))
    else
      some (.br (.inr ()))
def ref10_Check (n : Nat) (d0 : TA0) : Option Int :=
  ((bif (decide (d0.fMade < 0)) then
      (some ((true)))
    else
      some ((decide ((1099511627776 : Int) < d0.fMade))) : Option Bool)).bind fun y_1 =>
  bif y_1 then
    (some ((2 : Int)))
  else
    (loopF (ref10_Check_s1 n d0) n ((0 : Int), (0 : Int))).bind fun b_2 =>
    (match b_2 with 
    | .inl y_3 => some ((2 : Int)) 
    | .inr y_4 => some ((0 : Int)))
theorem ref10_Check_ok (n : Nat) (M : Mem) (hG : GL M) (c0 : List Value) (d0 : TA0) (h0 : Rep M (emb_TA0 d0) c0) (r : Int) (hF : ref10_Check n d0 = some r) : Ok Tryz.prog M 39 [.agg c0.toArray] (fun _ v => v = .int .i64 r) := by
 unfold ref10_Check at hF
 intro M1 hM0 w0 H w p0
 replace hG := GL.mono hM0 hG
 replace h0 := Rep.mono hM0 _ _ h0
 obtain ⟨A_1, cap_1, rfl, h_1⟩ := TA0.opn h0
 refine R_enter 72 Tryz.func39 rfl rfl (by simp) fun a0 f0 => RR (Y13 (cs := #[.slice A_1 d0.fL.length cap_1, .int .i64 d0.fMade]) (T := 31) f0 p0 fun b_1 M_1 w_1 hM_1 hc_1 p_1 _ f => ?_)
 have hc_2 := fz_box hc_1
 refine Y f 1 fun _ f => eT (R_seq (R_seq ?_))
 obtain ⟨j_1, hj_1, hF_1⟩ := bS hF
 refine R_mid (fun a_10 w_2 => ∃ y_1 : Bool, j_1 = y_1 ∧ ∃ M_2 : Mem, M_1.le M_2 ∧ Frm 72 [(1, .pointer (some (⟨b_1, 0, none⟩))), (14, .bool y_1)] a_10 ∧ Hp w0 M_2 (H) w_2) ?_ ?_
 ·refine R_reg (Y f 1 fun _ f => Y15 f p_1 hc_2 1 rfl fun _ f => Y f 2 fun _ f => ?_)
  rcases cE hj_1 with ⟨h_2, hF_2⟩ | ⟨h_2, hF_3⟩
  ·have k_1 := dI.1 h_2
   have f := f.st 10 (cB h_2)
   refine Y f 4 fun _ f => eT ?_
   exact ⟨(true), (sI hF_2).symm, M_1, (mR _), f.kp, p_1⟩
  ·have k_2 := iff_f dI h_2
   have f := f.st 10 (cB h_2)
   refine Y f 1 fun _ f => Y15 f p_1 hc_2 1 rfl fun _ f => Y f 2 fun _ f => eT ?_
   exact ⟨(decide ((1099511627776 : Int) < d0.fMade)), (sI hF_3).symm, M_1, (mR _), f.kp, p_1⟩
 ·rintro a_10 w_2 ⟨y_1, hq_1, M_2, hM_2, f, p_2⟩
  subst j_1
  refine T_n (RcF f hF_1 (fun h_3 hF_4 => ?_) fun h_3 hF_5 => ?_)
  ·refine RR (Y f 1 fun _ f => eT (wp_ret (T_r (E_ret1 f rfl (by kernel_rfl : Vc.look _ 2 = some (.int .i64 2)) ?_))))
   obtain rfl := sI hF_4
   exact ⟨_, rfl, M_2, (hM_1.trans hM_2), p_2, rfl⟩
  ·refine wp_skip (T_n (RR (Y f 1 fun _ f => eT (R_seq (RR (Y f 1 fun _ f => eT (wp_block ?_)))))))
   obtain ⟨b_2, hL_1, hF_6⟩ := bS hF_5
   refine wp_mono (Q := fun e a w => (e = .ret ∧ (∃ y_3 : Unit, b_2 = .inl y_3 ∧ ∃ M_5 : Mem, M_2.le M_5 ∧ Frm 72 [(2, .int .i64 2)] a ∧ Hp w0 M_5 (H) w)) ∨ (e = .exit 0 ∧ (∃ y_4 : Unit, b_2 = .inr y_4 ∧ ∃ M_6 : Mem, M_2.le M_6 ∧ Frm 72 [] a ∧ Hp w0 M_6 (H) w))) (R_loop (n := 72) (w0 := w0) (M := M_2) (fun (x : Nat × (Int × Int)) => match x with | (m_1, s_1) => [(1, .pointer (some (⟨b_1, 0, none⟩))), (3, .int .i64 s_1.1), (4, .int .i64 s_1.2)]) (fun (x : Nat × (Int × Int)) => match x with | (m_1, s_1) => (H)) (fun (x : Nat × (Int × Int)) (MM : Mem) => match x with | (m_1, s_1) => loopF (ref10_Check_s1 n d0) m_1 s_1 = some b_2) (fun (x : Nat × (Int × Int)) => match x with | (m_1, s_1) => m_1) (n, ((0 : Int), (0 : Int))) (f.kp) p_2 hL_1 ?_) ?_
   ·rintro ⟨m_1, s_1⟩ M_3 _ w_3 hM_3 I_1 f p_3
    have I_1L := I_1
    obtain ⟨m_2, r_1, rfl, hs_1, hn_1⟩ := loop_step I_1L
    unfold ref10_Check_s1 at hs_1
    refine R_seq (RR (Y f 2 fun _ f => Y15 f p_3 (fzu (hM_2.trans hM_3) hc_2) 0 rfl fun _ f => Y f 2 fun _ f => eT (RcF f hs_1 (fun h_4 hF_7 => ?_) fun h_4 hF_27 => ?_)))
    ·have k_5 := dI.1 h_4
     refine wp_skip (T_n (R_seq (wp_block (RR (Y f 1 fun _ f => Y15 f p_3 (fzu (hM_2.trans hM_3) hc_2) 0 rfl fun _ f => Y f 1 fun _ f => ?_)))))
     obtain ⟨x_1, hx_1, hF_8⟩ := bS hF_7
     obtain ⟨ad_1, c_1, e_1, -, hr_1, hc_3⟩ := Sli.at_ (h_1.mono ((hM_1.trans hM_2).trans hM_3)) hx_1
     obtain ⟨A_2, cap_2, rfl, h_5⟩ := TD0.opn hr_1
     refine Z f (Y31 e_1 rfl (len := d0.fL.length) (cap := cap_1) (k := .i64) (i := s_1.2) (e := 52) (sz := 3) (getI_nn hx_1) (getI_lt hx_1)) fun _ f => Y f 1 fun _ f => Y15 f p_3 hc_3 0 rfl fun _ f => ?_
     obtain ⟨x_2, hx_2, hF_9⟩ := bS hF_8
     refine Y18 f p_3 (ref10_Number_ok n _ (GL.mono ((hM_1.trans hM_2).trans hM_3) hG) x_1.fPhys x_2 hx_2) fun w_4 p_4 _ f => Y f 5 fun _ f => eT (R_seq (R_seq ?_))
     obtain ⟨j_2, hj_2, hF_10⟩ := bS hF_9
     refine R_mid (fun a_57 w_12 => ∃ y_2 : Bool, j_2 = y_2 ∧ ∃ M_4 : Mem, M_3.le M_4 ∧ Frm 72 [(1, .pointer (some (⟨b_1, 0, none⟩))), (4, .int .i64 s_1.2), (5, .int .i64 x_2.1), (70, .bool y_2)] a_57 ∧ Hp w0 M_4 (H) w_12) ?_ ?_
     ·refine R_draw p_4 (by kernel_rfl) (by kernel_rfl) (Y5 default f 3 fun _ f => ?_)
      rcases cE hj_2 with ⟨h_6, hF_11⟩ | ⟨h_6, hF_12⟩
      ·have k_6 : (x_2.2) = false := by simpa using h_6
       have f := f.st 34 (cB h_6)
       refine Y5 default f 36 fun _ f => Q_end rfl ?_
       intro w_5 p_5
       refine T_n ?_
       exact ⟨(true), (sI hF_11).symm, M_3, (mR _), f.kp, p_5⟩
      ·have k_7 : (x_2.2) = true := by simpa using h_6
       have f := f.st 34 (cB h_6)
       refine Y5 default f 5 fun _ f => ?_
       rcases cE hF_12 with ⟨h_7, hF_13⟩ | ⟨h_7, hF_14⟩
       ·have k_8 := dI.1 h_7
        have f := f.st 39 (cB h_7)
        refine Y5 default f 31 fun _ f => Q_end rfl ?_
        intro w_6 p_6
        refine T_n ?_
        exact ⟨(true), (sI hF_13).symm, M_3, (mR _), f.kp, p_6⟩
       ·have k_9 := iff_f dI h_7
        have f := f.st 39 (cB h_7)
        refine Y5 default f 2 fun _ f => Y4 f (fzu (hM_2.trans hM_3) hc_2) 1 rfl fun _ f => Y5 default f 3 fun _ f => ?_
        rcases cE hF_14 with ⟨h_8, hF_15⟩ | ⟨h_8, hF_16⟩
        ·have k_10 := dI.1 h_8
         have f := f.st 45 (cB h_8)
         refine Y5 default f 25 fun _ f => Q_end rfl ?_
         intro w_7 p_7
         refine T_n ?_
         exact ⟨(true), (sI hF_15).symm, M_3, (mR _), f.kp, p_7⟩
        ·have k_11 := iff_f dI h_8
         have f := f.st 45 (cB h_8)
         refine Y5 default f 1 fun _ f => Y4 f (fzu (hM_2.trans hM_3) hc_2) 0 rfl fun _ f => Y5 default f 1 fun _ f => ?_
         obtain ⟨x_3, hx_3, hF_17⟩ := bS hF_16
         obtain ⟨ad_2, c_2, e_2, -, hr_2, hc_4⟩ := Sli.at_ (h_1.mono ((hM_1.trans hM_2).trans hM_3)) hx_3
         obtain ⟨A_3, cap_3, rfl, h_9⟩ := TD0.opn hr_2
         refine Y2 (v := .pointer (some (ad_2.add (s_1.2.toNat * 3)))) f (fun _ pq => Y31 e_2 rfl (len := d0.fL.length) (cap := cap_1) (k := .i64) (i := s_1.2) (e := 52) (sz := 3) (getI_nn hx_3) (getI_lt hx_3)) fun _ f => Y5 default f 1 fun _ f => Y4 f hc_4 1 rfl fun _ f => Y5 default f 1 fun _ f => Y4 f (fzu (hM_2.trans hM_3) hc_2) 0 rfl fun _ f => Y5 default f 1 fun _ f => ?_
         obtain ⟨x_4, hx_4, hF_18⟩ := bS hF_17
         obtain ⟨ad_3, c_3, e_3, -, hr_3, hc_5⟩ := Sli.at_ (h_1.mono ((hM_1.trans hM_2).trans hM_3)) hx_4
         obtain ⟨A_4, cap_4, rfl, h_10⟩ := TD0.opn hr_3
         refine Y2 (v := .pointer (some (ad_3.add (s_1.2.toNat * 3)))) f (fun _ pq => Y31 e_3 rfl (len := d0.fL.length) (cap := cap_1) (k := .i64) (i := s_1.2) (e := 52) (sz := 3) (getI_nn hx_4) (getI_lt hx_4)) fun _ f => Y5 default f 1 fun _ f => Y4 f hc_5 2 rfl fun _ f => ?_
         obtain ⟨x_5, hx_5, hF_19⟩ := bS hF_18
         refine Y3 f (ref09_Check_ok n _ (GL.mono ((hM_1.trans hM_2).trans hM_3) hG) x_3.fType A_4 cap_4 x_4.fProps h_10 x_5 hx_5) fun _ f => Y5 default f 3 fun _ f => ?_
         rcases cE hF_19 with ⟨h_11, hF_20⟩ | ⟨h_11, hF_21⟩
         ·have k_12 : ¬ (x_5 = 0) := (not_iff dI).1 h_11
          have f := f.st 61 (cB h_11)
          refine Y5 default f 9 fun _ f => Q_end rfl ?_
          intro w_9 p_9
          refine T_n ?_
          exact ⟨(true), (sI hF_20).symm, M_3, (mR _), f.kp, p_9⟩
         ·have k_13 : ¬ (¬ (x_5 = 0)) := iff_f (not_iff dI) h_11
          have f := f.st 61 (cB h_11)
          refine Y5 default f 1 fun _ f => Y4 f (fzu (hM_2.trans hM_3) hc_2) 0 rfl fun _ f => Y5 default f 1 fun _ f => ?_
          obtain ⟨x_6, hx_6, hF_22⟩ := bS hF_21
          obtain ⟨ad_4, c_4, e_4, -, hr_4, hc_6⟩ := Sli.at_ (h_1.mono ((hM_1.trans hM_2).trans hM_3)) hx_6
          obtain ⟨A_5, cap_5, rfl, h_12⟩ := TD0.opn hr_4
          refine Y2 (v := .pointer (some (ad_4.add (s_1.2.toNat * 3)))) f (fun _ pq => Y31 e_4 rfl (len := d0.fL.length) (cap := cap_1) (k := .i64) (i := s_1.2) (e := 52) (sz := 3) (getI_nn hx_6) (getI_lt hx_6)) fun _ f => Y5 default f 1 fun _ f => Y4 f hc_6 2 rfl fun _ f => ?_
          obtain ⟨x_7, hx_7, hF_23⟩ := bS hF_22
          refine Y3 f (ref10_known_ok n _ (GL.mono ((hM_1.trans hM_2).trans hM_3) hG) A_5 cap_5 x_6.fProps h_12 x_7 hx_7) fun _ f => Y5 default f 2 fun _ f => Q_end rfl ?_
          intro w_11 p_11
          refine T_n ?_
          exact ⟨(!x_7), (sI hF_23).symm, M_3, (mR _), f.kp, p_11⟩
     ·rintro a_57 w_12 ⟨y_2, hq_2, M_4, hM_4, f, p_12⟩
      subst j_2
      refine T_n (RcF f hF_10 (fun h_13 hF_24 => ?_) fun h_13 hF_25 => ?_)
      ·refine RR (Y f 1 fun _ f => eT (wp_ret (T_r (B_r (T_r (T_r ?_))))))
       obtain rfl := sI hF_24
       exact .inl ⟨rfl, (), (sI hn_1).symm, M_4, (hM_3.trans hM_4), f.kp, p_12⟩
      ·refine wp_skip (T_n (R_reg (Y f 2 fun _ f => W_end rfl (B_n (T_n (R_reg (Y f 1 fun _ f => ?_)))))))
       obtain ⟨g_1, hF_26⟩ := nS hF_25
       refine Y f 1 fun _ f => ?_
       have f := f.st 21 (congrArg (Value.int .i64) (inR_wrap g_1))
       refine Y f 1 fun _ f => eT ?_
       obtain rfl := sI hF_26
       exact ⟨⟨m_2, (x_2.1, s_1.2 + 1)⟩, Nat.lt_succ_self _, M_4, (hM_3.trans hM_4), hn_1, f.kp, p_12⟩
    ·have k_16 := iff_f dI h_4
     refine wp_exit (T_x (T_x ?_))
     obtain rfl := sI hF_27
     exact .inr ⟨rfl, (), (sI hn_1).symm, M_3, hM_3, f.kp, p_3⟩
   ·rintro _ _ w_15 (⟨rfl, y_3, rfl, M_5, hM_5, f, p_13⟩ | ⟨rfl, y_4, rfl, M_6, hM_6, f, p_14⟩)
    ·refine B_r (T_r (E_ret1 f rfl (by kernel_rfl : Vc.look _ 2 = some (.int .i64 2)) ?_))
     obtain rfl := sI hF_6
     exact ⟨_, rfl, M_5, ((hM_1.trans hM_2).trans hM_5), p_13, rfl⟩
    ·refine B_x (T_n (RR (Y f 1 fun _ f => eT (wp_ret (E_ret1 f rfl (by kernel_rfl : Vc.look _ 2 = some (.int .i64 0)) ?_)))))
     obtain rfl := sI hF_6
     exact ⟨_, rfl, M_6, ((hM_1.trans hM_2).trans hM_6), p_14, rfl⟩
def ref10_Get_s1 (n : Nat) (d0 : TA0) (d1 : List UInt8) (s_1 : Int × List UInt8 × List UInt8 × List TE0) : Option (Lp (Int × List UInt8 × List UInt8 × List TE0) (Sum (List UInt8 × List UInt8 × List TE0) (List UInt8 × List UInt8 × List TE0))) :=
    bif (decide (s_1.1 < ((d0.fL.length : Nat) : Int))) then
      ((getI d0.fL s_1.1).bind fun x_1 =>
      bif (decide (x_1.fPhys = d1)) then
        ((getI d0.fL s_1.1).bind fun x_2 =>
        some (.br (.inl (x_2.fPhys, x_2.fType, x_2.fProps))))
      else
        need (inR .i64 (s_1.1 + 1)) <|
        some (.nx (s_1.1 + 1, s_1.2.1, s_1.2.2.1, s_1.2.2.2)))
    else
      some (.br (.inr (s_1.2.1, s_1.2.2.1, s_1.2.2.2)))
def ref10_Get (n : Nat) (d0 : TA0) (d1 : List UInt8) : Option (TD0 × Bool) :=
  (loopF (ref10_Get_s1 n d0 d1) n ((0 : Int), ([] : List UInt8), ([] : List UInt8), ([] : List TE0))).bind fun b_3 =>
  (match b_3 with 
  | .inl y_1 => some (((⟨y_1.1, y_1.2.1, y_1.2.2⟩ : TD0), (true))) 
  | .inr y_2 => some ((z_TD0, (false))))
theorem ref10_Get_ok (n : Nat) (M : Mem) (hG : GL M) (c0 : List Value) (d0 : TA0) (h0 : Rep M (emb_TA0 d0) c0) (d1 : List UInt8) (r : TD0 × Bool) (hF : ref10_Get n d0 d1 = some r) : Ok Tryz.prog M 43 [.agg c0.toArray, S d1] (fun M' v => ∃ (c0 : List Value), v = .tuple #[.agg c0.toArray, .bool r.2] ∧ Rep M' (emb_TD0 r.1) c0) := by
 unfold ref10_Get at hF
 intro M1 hM0 w0 H w p0
 replace hG := GL.mono hM0 hG
 replace h0 := Rep.mono hM0 _ _ h0
 obtain ⟨A_1, cap_1, rfl, h_1⟩ := TA0.opn h0
 refine R_enter 28 Tryz.func43 rfl rfl (by simp) fun a0 f0 => RR (Y13 (cs := #[.slice A_1 d0.fL.length cap_1, .int .i64 d0.fMade]) (T := 31) f0 p0 fun b_1 M_1 w_1 hM_1 hc_1 p_1 _ f => ?_)
 have hc_2 := fz_box hc_1
 refine Y12 f p_1 (.cells #[S [], S [], .slice none 0 0] 52 (0, 0)) fun b_2 w_2 p_2 _ f => Y f 1 fun _ f => eT (R_seq (RR (Y f 1 fun _ f => eT (wp_block ?_))))
 obtain ⟨b_3, hL_1, hF_1⟩ := bS hF
 refine wp_mono (Q := fun e a w => (e = .ret ∧ (∃ y_1 : List UInt8 × List UInt8 × List TE0, b_3 = .inl y_1 ∧ ∃ M_3 : Mem, M_1.le M_3 ∧ ∃ (A_5 : Option Addr), ∃ (cap_5 : Nat), Sli M_3 8 emb_TE0 A_5 cap_5 y_1.2.2 ∧ Frm 28 [(4, .pointer (some (⟨b_2, 0, none⟩))), (5, .bool true)] a ∧ Hp w0 M_3 ((Ent.obj b_2 (.cells #[S y_1.1, S y_1.2.1, .slice A_5 y_1.2.2.length cap_5] 52 (0, 0))) :: H) w)) ∨ (e = .exit 0 ∧ (∃ y_2 : List UInt8 × List UInt8 × List TE0, b_3 = .inr y_2 ∧ ∃ M_4 : Mem, M_1.le M_4 ∧ ∃ (A_6 : Option Addr), ∃ (cap_6 : Nat), Sli M_4 8 emb_TE0 A_6 cap_6 y_2.2.2 ∧ Frm 28 [(4, .pointer (some (⟨b_2, 0, none⟩)))] a ∧ Hp w0 M_4 ((Ent.obj b_2 (.cells #[S y_2.1, S y_2.2.1, .slice A_6 y_2.2.2.length cap_6] 52 (0, 0))) :: H) w))) (R_loop (n := 28) (w0 := w0) (M := M_1) (fun (x : Nat × (Int × List UInt8 × List UInt8 × List TE0) × (Option Addr) × Nat) => match x with | (m_1, s_1, A_2, cap_2) => [(1, S d1), (2, .pointer (some (⟨b_1, 0, none⟩))), (4, .pointer (some (⟨b_2, 0, none⟩))), (6, .int .i64 s_1.1)]) (fun (x : Nat × (Int × List UInt8 × List UInt8 × List TE0) × (Option Addr) × Nat) => match x with | (m_1, s_1, A_2, cap_2) => ((Ent.obj b_2 (.cells #[S s_1.2.1, S s_1.2.2.1, .slice A_2 s_1.2.2.2.length cap_2] 52 (0, 0))) :: H)) (fun (x : Nat × (Int × List UInt8 × List UInt8 × List TE0) × (Option Addr) × Nat) (MM : Mem) => match x with | (m_1, s_1, A_2, cap_2) => loopF (ref10_Get_s1 n d0 d1) m_1 s_1 = some b_3 ∧ Sli MM 8 emb_TE0 A_2 cap_2 s_1.2.2.2) (fun (x : Nat × (Int × List UInt8 × List UInt8 × List TE0) × (Option Addr) × Nat) => match x with | (m_1, s_1, A_2, cap_2) => m_1) (n, ((0 : Int), ([] : List UInt8), ([] : List UInt8), ([] : List TE0)), none, 0) (f.kp) p_2 ⟨hL_1, Sli.nil⟩ ?_) ?_
 ·rintro ⟨m_1, s_1, A_2, cap_2⟩ M_2 _ w_3 hM_2 I_1 f p_3
  obtain ⟨I_1L, h_2⟩ := I_1
  obtain ⟨m_2, r_1, rfl, hs_1, hn_1⟩ := loop_step I_1L
  unfold ref10_Get_s1 at hs_1
  refine R_seq (RR (Y f 2 fun _ f => Y15 f p_3 (fzu hM_2 hc_2) 0 rfl fun _ f => Y f 2 fun _ f => eT (RcF f hs_1 (fun h_3 hF_2 => ?_) fun h_3 hF_8 => ?_)))
  ·have k_1 := dI.1 h_3
   refine wp_skip (T_n (R_seq (wp_block (RR (Y f 1 fun _ f => Y15 f p_3 (fzu hM_2 hc_2) 0 rfl fun _ f => Y f 1 fun _ f => ?_)))))
   obtain ⟨x_1, hx_1, hF_3⟩ := bS hF_2
   obtain ⟨ad_1, c_1, e_1, -, hr_1, hc_3⟩ := Sli.at_ (h_1.mono (hM_1.trans hM_2)) hx_1
   obtain ⟨A_3, cap_3, rfl, h_4⟩ := TD0.opn hr_1
   refine Z f (Y31 e_1 rfl (len := d0.fL.length) (cap := cap_1) (k := .i64) (i := s_1.1) (e := 52) (sz := 3) (getI_nn hx_1) (getI_lt hx_1)) fun _ f => Y f 1 fun _ f => Y15 f p_3 hc_3 0 rfl fun _ f => Y f 1 fun _ f => Z f (Y38 rfl (l := x_1.fPhys) (m := d1)) fun _ f => eT (RcF f hF_3 (fun h_5 hF_4 => ?_) fun h_5 hF_6 => ?_)
   ·have k_2 := dI.1 h_5
    refine RR (Y f 1 fun _ f => Y15 f p_3 (fzu hM_2 hc_2) 0 rfl fun _ f => Y f 1 fun _ f => ?_)
    obtain ⟨x_2, hx_2, hF_5⟩ := bS hF_4
    obtain ⟨ad_2, c_2, e_2, -, hr_2, hc_4⟩ := Sli.at_ (h_1.mono (hM_1.trans hM_2)) hx_2
    obtain ⟨A_4, cap_4, rfl, h_6⟩ := TD0.opn hr_2
    refine Z f (Y31 e_2 rfl (len := d0.fL.length) (cap := cap_1) (k := .i64) (i := s_1.1) (e := 52) (sz := 3) (getI_nn hx_2) (getI_lt hx_2)) fun _ f => Z (v := .agg #[S x_2.fPhys, S x_2.fType, .slice A_4 x_2.fProps.length cap_4]) f (Y33 (cs := [S x_2.fPhys, S x_2.fType, .slice A_4 x_2.fProps.length cap_4]) rfl (ad := ad_2.add (s_1.1.toNat * 3)) (fun j v h => p_3.cell (hc_4 j v h))) fun _ f => Y28 (vs := [S x_2.fPhys, S x_2.fType, .slice A_4 x_2.fProps.length cap_4]) (j := 0) f p_3 rfl rfl (by simp [Value.oneCell', S]) (by simp) (by decide) (cs' := #[S x_2.fPhys, S x_2.fType, .slice A_4 x_2.fProps.length cap_4]) (by kernel_rfl) fun w_4 p_4 _ f => Y f 1 fun _ f => eT (wp_ret (B_r (T_r (T_r ?_))))
    obtain rfl := sI hF_5
    exact .inl ⟨rfl, (x_2.fPhys, x_2.fType, x_2.fProps), (sI hn_1).symm, M_2, hM_2, A_4, cap_4, h_6, f.kp, p_4⟩
   ·have k_3 := iff_f dI h_5
    refine wp_skip (B_n (T_n (R_reg (Y f 1 fun _ f => ?_))))
    obtain ⟨g_1, hF_7⟩ := nS hF_6
    refine Y f 1 fun _ f => ?_
    have f := f.st 13 (congrArg (Value.int .i64) (inR_wrap g_1))
    refine Y f 1 fun _ f => eT ?_
    obtain rfl := sI hF_7
    exact ⟨⟨m_2, (s_1.1 + 1, s_1.2.1, s_1.2.2.1, s_1.2.2.2), A_2, cap_2⟩, Nat.lt_succ_self _, M_2, hM_2, ⟨hn_1, h_2⟩, f.kp, p_3⟩
  ·have k_4 := iff_f dI h_3
   refine wp_exit (T_x (T_x ?_))
   obtain rfl := sI hF_8
   exact .inr ⟨rfl, (s_1.2.1, s_1.2.2.1, s_1.2.2.2), (sI hn_1).symm, M_2, hM_2, A_2, cap_2, h_2, f.kp, p_3⟩
 ·rintro _ _ w_7 (⟨rfl, y_1, rfl, M_3, hM_3, A_5, cap_5, h_7, f, p_5⟩ | ⟨rfl, y_2, rfl, M_4, hM_4, A_6, cap_6, h_8, f, p_6⟩)
  ·refine B_r (T_r (E_rv2 f rfl (Y10 (cs := [S y_1.1, S y_1.2.1, .slice A_5 y_1.2.2.length cap_5]) (ad := ⟨b_2, 0, none⟩) f (own_cells (p_5.ownCell 0 rfl) 0 rfl)) (Y11 (v := .bool true) f) ?_))
   obtain rfl := sI hF_1
   exact ⟨_, rfl, M_3, (hM_1.trans hM_3), (p_5.dropN 1), ⟨[S y_1.1, S y_1.2.1, .slice A_5 y_1.2.2.length cap_5], rfl, (TD0.shut h_7)⟩⟩
  ·refine B_x (T_n (RR (Y f 1 fun _ f => Y28 (vs := [S [], S [], .slice none 0 0]) (j := 0) f p_6 rfl rfl (by simp [Value.oneCell', S]) (by simp) (by decide) (cs' := #[S [], S [], .slice none 0 0]) (by kernel_rfl) fun w_8 p_7 _ f => Y f 1 fun _ f => eT (wp_ret (E_rv2 f rfl (Y10 (cs := [S [], S [], .slice none 0 0]) (ad := ⟨b_2, 0, none⟩) f (own_cells (p_7.ownCell 0 rfl) 0 rfl)) (Y11 (v := .bool false) f) ?_)))))
   obtain rfl := sI hF_1
   exact ⟨_, rfl, M_4, (hM_1.trans hM_4), (p_7.dropN 1), ⟨[S [], S [], .slice none 0 0], rfl, (TD0.shut Sli.nil)⟩⟩
def ref10_Same_s1 (n : Nat) (d0 : TA0) (d1 : TA0) (s_1 : Int) : Option (Lp Int (Sum Unit Unit)) :=
    bif (decide (s_1 < ((d0.fL.length : Nat) : Int))) then
      ((getI d0.fL s_1).bind fun x_1 =>
      (getI d1.fL s_1).bind fun x_2 =>
      bif (!(decide (x_1.fPhys = x_2.fPhys))) then
        (some (.br (.inl ())))
      else
        (getI d0.fL s_1).bind fun x_3 =>
        (getI d1.fL s_1).bind fun x_4 =>
        bif (!(decide (x_3.fType = x_4.fType))) then
          (some (.br (.inl ())))
        else
          (getI d0.fL s_1).bind fun x_5 =>
          (getI d1.fL s_1).bind fun x_6 =>
          (ref09_Same n x_5.fProps x_6.fProps).bind fun x_7 =>
          bif !x_7 then
            (some (.br (.inl ())))
          else
            need (inR .i64 (s_1 + 1)) <|
            some (.nx (s_1 + 1)))
    else
      some (.br (.inr ()))
def ref10_Same (n : Nat) (d0 : TA0) (d1 : TA0) : Option Bool :=
  ((bif (!(decide (d0.fMade = d1.fMade))) then
      (some ((true)))
    else
      some ((!(decide (((d0.fL.length : Nat) : Int) = ((d1.fL.length : Nat) : Int))))) : Option Bool)).bind fun y_1 =>
  bif y_1 then
    (some ((false)))
  else
    (loopF (ref10_Same_s1 n d0 d1) n (0 : Int)).bind fun b_3 =>
    (match b_3 with 
    | .inl y_2 => some ((false)) 
    | .inr y_3 => some ((true)))
theorem ref10_Same_ok (n : Nat) (M : Mem) (hG : GL M) (c0 : List Value) (d0 : TA0) (h0 : Rep M (emb_TA0 d0) c0) (c1 : List Value) (d1 : TA0) (h1 : Rep M (emb_TA0 d1) c1) (r : Bool) (hF : ref10_Same n d0 d1 = some r) : Ok Tryz.prog M 44 [.agg c0.toArray, .agg c1.toArray] (fun _ v => v = .bool r) := by
 unfold ref10_Same at hF
 intro M1 hM0 w0 H w p0
 replace hG := GL.mono hM0 hG
 replace h0 := Rep.mono hM0 _ _ h0
 replace h1 := Rep.mono hM0 _ _ h1
 obtain ⟨A_1, cap_1, rfl, h_1⟩ := TA0.opn h0
 obtain ⟨A_2, cap_2, rfl, h_2⟩ := TA0.opn h1
 refine R_enter 71 Tryz.func44 rfl rfl (by simp) fun a0 f0 => RR (Y13 (cs := #[.slice A_1 d0.fL.length cap_1, .int .i64 d0.fMade]) (T := 31) f0 p0 fun b_1 M_1 w_1 hM_1 hc_1 p_1 _ f => ?_)
 have hc_2 := fz_box hc_1
 refine Y13 (cs := #[.slice A_2 d1.fL.length cap_2, .int .i64 d1.fMade]) (T := 31) f p_1 fun b_2 M_2 w_2 hM_2 hc_3 p_2 _ f => ?_
 have hc_4 := fz_box hc_3
 refine Y f 1 fun _ f => eT (R_seq (R_seq ?_))
 obtain ⟨j_1, hj_1, hF_1⟩ := bS hF
 refine R_mid (fun a_15 w_3 => ∃ y_1 : Bool, j_1 = y_1 ∧ ∃ M_3 : Mem, M_2.le M_3 ∧ Frm 71 [(2, .pointer (some (⟨b_1, 0, none⟩))), (3, .pointer (some (⟨b_2, 0, none⟩))), (19, .bool y_1)] a_15 ∧ Hp w0 M_3 (H) w_3) ?_ ?_
 ·refine R_reg (Y f 1 fun _ f => Y15 f p_2 (fzu hM_2 hc_2) 1 rfl fun _ f => Y f 1 fun _ f => Y15 f p_2 hc_4 1 rfl fun _ f => Y f 2 fun _ f => ?_)
  rcases cE hj_1 with ⟨h_3, hF_2⟩ | ⟨h_3, hF_3⟩
  ·have k_1 : ¬ (d0.fMade = d1.fMade) := (not_iff dI).1 h_3
   have f := f.st 11 (cB h_3)
   refine Y f 8 fun _ f => eT ?_
   exact ⟨(true), (sI hF_2).symm, M_2, (mR _), f.kp, p_2⟩
  ·have k_2 : ¬ (¬ (d0.fMade = d1.fMade)) := iff_f (not_iff dI) h_3
   have f := f.st 11 (cB h_3)
   refine Y f 1 fun _ f => Y15 f p_2 (fzu hM_2 hc_2) 0 rfl fun _ f => Y f 2 fun _ f => Y15 f p_2 hc_4 0 rfl fun _ f => Y f 3 fun _ f => eT ?_
   exact ⟨(!(decide (((d0.fL.length : Nat) : Int) = ((d1.fL.length : Nat) : Int)))), (sI hF_3).symm, M_2, (mR _), f.kp, p_2⟩
 ·rintro a_15 w_3 ⟨y_1, hq_1, M_3, hM_3, f, p_3⟩
  subst j_1
  refine T_n (RcF f hF_1 (fun h_4 hF_4 => ?_) fun h_4 hF_5 => ?_)
  ·refine RR (Y f 1 fun _ f => eT (wp_ret (T_r (E_ret1 f rfl (by kernel_rfl : Vc.look _ 4 = some (.bool false)) ?_))))
   obtain rfl := sI hF_4
   exact ⟨_, rfl, M_3, ((hM_1.trans hM_2).trans hM_3), p_3, rfl⟩
  ·refine wp_skip (T_n (R_seq (RR (Y f 1 fun _ f => eT (wp_block ?_)))))
   obtain ⟨b_3, hL_1, hF_6⟩ := bS hF_5
   refine wp_mono (Q := fun e a w => (e = .ret ∧ (∃ y_2 : Unit, b_3 = .inl y_2 ∧ ∃ M_5 : Mem, M_3.le M_5 ∧ Frm 71 [(4, .bool false)] a ∧ Hp w0 M_5 (H) w)) ∨ (e = .exit 0 ∧ (∃ y_3 : Unit, b_3 = .inr y_3 ∧ ∃ M_6 : Mem, M_3.le M_6 ∧ Frm 71 [] a ∧ Hp w0 M_6 (H) w))) (R_loop (n := 71) (w0 := w0) (M := M_3) (fun (x : Nat × Int) => match x with | (m_1, s_1) => [(2, .pointer (some (⟨b_1, 0, none⟩))), (3, .pointer (some (⟨b_2, 0, none⟩))), (5, .int .i64 s_1)]) (fun (x : Nat × Int) => match x with | (m_1, s_1) => (H)) (fun (x : Nat × Int) (MM : Mem) => match x with | (m_1, s_1) => loopF (ref10_Same_s1 n d0 d1) m_1 s_1 = some b_3) (fun (x : Nat × Int) => match x with | (m_1, s_1) => m_1) (n, (0 : Int)) (f.kp) p_3 hL_1 ?_) ?_
   ·rintro ⟨m_1, s_1⟩ M_4 _ w_4 hM_4 I_1 f p_4
    have I_1L := I_1
    obtain ⟨m_2, r_1, rfl, hs_1, hn_1⟩ := loop_step I_1L
    unfold ref10_Same_s1 at hs_1
    refine R_seq (RR (Y f 2 fun _ f => Y15 f p_4 (fzu ((hM_2.trans hM_3).trans hM_4) hc_2) 0 rfl fun _ f => Y f 2 fun _ f => eT (RcF f hs_1 (fun h_5 hF_7 => ?_) fun h_5 hF_22 => ?_)))
    ·have k_5 := dI.1 h_5
     refine wp_skip (T_n (R_seq (wp_block (R_seq (R_draw p_4 (by kernel_rfl) (by kernel_rfl) (Y5 default f 1 fun _ f => Y4 f (fzu ((hM_2.trans hM_3).trans hM_4) hc_2) 0 rfl fun _ f => Y5 default f 1 fun _ f => ?_))))))
     obtain ⟨x_1, hx_1, hF_8⟩ := bS hF_7
     obtain ⟨ad_1, c_1, e_1, -, hr_1, hc_5⟩ := Sli.at_ (h_1.mono (((hM_1.trans hM_2).trans hM_3).trans hM_4)) hx_1
     obtain ⟨A_3, cap_3, rfl, h_6⟩ := TD0.opn hr_1
     refine Y2 (v := .pointer (some (ad_1.add (s_1.toNat * 3)))) f (fun _ pq => Y31 e_1 rfl (len := d0.fL.length) (cap := cap_1) (k := .i64) (i := s_1) (e := 52) (sz := 3) (getI_nn hx_1) (getI_lt hx_1)) fun _ f => Y5 default f 1 fun _ f => Y4 f hc_5 0 rfl fun _ f => Y5 default f 1 fun _ f => Y4 f (fzu (hM_3.trans hM_4) hc_4) 0 rfl fun _ f => Y5 default f 1 fun _ f => ?_
     obtain ⟨x_2, hx_2, hF_9⟩ := bS hF_8
     obtain ⟨ad_2, c_2, e_2, -, hr_2, hc_6⟩ := Sli.at_ (h_2.mono (((hM_1.trans hM_2).trans hM_3).trans hM_4)) hx_2
     obtain ⟨A_4, cap_4, rfl, h_7⟩ := TD0.opn hr_2
     refine Y2 (v := .pointer (some (ad_2.add (s_1.toNat * 3)))) f (fun _ pq => Y31 e_2 rfl (len := d1.fL.length) (cap := cap_2) (k := .i64) (i := s_1) (e := 52) (sz := 3) (getI_nn hx_2) (getI_lt hx_2)) fun _ f => Y5 default f 1 fun _ f => Y4 f hc_6 0 rfl fun _ f => Y2 (v := .bool (!(decide (x_1.fPhys = x_2.fPhys)))) f (fun _ pq => Y39 rfl (l := x_1.fPhys) (m := x_2.fPhys)) fun _ f => Y5 default f 1 fun _ f => ?_
     rcases cE hF_9 with ⟨h_8, hF_10⟩ | ⟨h_8, hF_11⟩
     ·have k_6 : ¬ (x_1.fPhys = x_2.fPhys) := (not_iff dI).1 h_8
      have f := f.st 40 (cB h_8)
      refine Y5 default f 30 fun _ f => Q_end rfl ?_
      intro w_5 p_5
      refine T_n (Y8 f (RR (Y f 1 fun _ f => eT (wp_ret (B_r (T_r (T_r ?_)))))))
      obtain rfl := sI hF_10
      exact .inl ⟨rfl, (), (sI hn_1).symm, M_4, hM_4, f.kp, p_5⟩
     ·have k_7 : ¬ (¬ (x_1.fPhys = x_2.fPhys)) := iff_f (not_iff dI) h_8
      have f := f.st 40 (cB h_8)
      refine Y5 default f 1 fun _ f => Y4 f (fzu ((hM_2.trans hM_3).trans hM_4) hc_2) 0 rfl fun _ f => Y5 default f 1 fun _ f => ?_
      obtain ⟨x_3, hx_3, hF_12⟩ := bS hF_11
      obtain ⟨ad_3, c_3, e_3, -, hr_3, hc_7⟩ := Sli.at_ (h_1.mono (((hM_1.trans hM_2).trans hM_3).trans hM_4)) hx_3
      obtain ⟨A_5, cap_5, rfl, h_9⟩ := TD0.opn hr_3
      refine Y2 (v := .pointer (some (ad_3.add (s_1.toNat * 3)))) f (fun _ pq => Y31 e_3 rfl (len := d0.fL.length) (cap := cap_1) (k := .i64) (i := s_1) (e := 52) (sz := 3) (getI_nn hx_3) (getI_lt hx_3)) fun _ f => Y5 default f 1 fun _ f => Y4 f hc_7 1 rfl fun _ f => Y5 default f 1 fun _ f => Y4 f (fzu (hM_3.trans hM_4) hc_4) 0 rfl fun _ f => Y5 default f 1 fun _ f => ?_
      obtain ⟨x_4, hx_4, hF_13⟩ := bS hF_12
      obtain ⟨ad_4, c_4, e_4, -, hr_4, hc_8⟩ := Sli.at_ (h_2.mono (((hM_1.trans hM_2).trans hM_3).trans hM_4)) hx_4
      obtain ⟨A_6, cap_6, rfl, h_10⟩ := TD0.opn hr_4
      refine Y2 (v := .pointer (some (ad_4.add (s_1.toNat * 3)))) f (fun _ pq => Y31 e_4 rfl (len := d1.fL.length) (cap := cap_2) (k := .i64) (i := s_1) (e := 52) (sz := 3) (getI_nn hx_4) (getI_lt hx_4)) fun _ f => Y5 default f 1 fun _ f => Y4 f hc_8 1 rfl fun _ f => Y2 (v := .bool (!(decide (x_3.fType = x_4.fType)))) f (fun _ pq => Y39 rfl (l := x_3.fType) (m := x_4.fType)) fun _ f => Y5 default f 2 fun _ f => ?_
      rcases cE hF_13 with ⟨h_11, hF_14⟩ | ⟨h_11, hF_15⟩
      ·have k_8 : ¬ (x_3.fType = x_4.fType) := (not_iff dI).1 h_11
       have f := f.st 55 (cB h_11)
       refine Y5 default f 15 fun _ f => Q_end rfl ?_
       intro w_6 p_6
       refine T_n (Y8 f (RR (Y f 1 fun _ f => eT (wp_ret (B_r (T_r (T_r ?_)))))))
       obtain rfl := sI hF_14
       exact .inl ⟨rfl, (), (sI hn_1).symm, M_4, hM_4, f.kp, p_6⟩
      ·have k_9 : ¬ (¬ (x_3.fType = x_4.fType)) := iff_f (not_iff dI) h_11
       have f := f.st 55 (cB h_11)
       refine Y5 default f 1 fun _ f => Y4 f (fzu ((hM_2.trans hM_3).trans hM_4) hc_2) 0 rfl fun _ f => Y5 default f 1 fun _ f => ?_
       obtain ⟨x_5, hx_5, hF_16⟩ := bS hF_15
       obtain ⟨ad_5, c_5, e_5, -, hr_5, hc_9⟩ := Sli.at_ (h_1.mono (((hM_1.trans hM_2).trans hM_3).trans hM_4)) hx_5
       obtain ⟨A_7, cap_7, rfl, h_12⟩ := TD0.opn hr_5
       refine Y2 (v := .pointer (some (ad_5.add (s_1.toNat * 3)))) f (fun _ pq => Y31 e_5 rfl (len := d0.fL.length) (cap := cap_1) (k := .i64) (i := s_1) (e := 52) (sz := 3) (getI_nn hx_5) (getI_lt hx_5)) fun _ f => Y5 default f 1 fun _ f => Y4 f hc_9 2 rfl fun _ f => Y5 default f 1 fun _ f => Y4 f (fzu (hM_3.trans hM_4) hc_4) 0 rfl fun _ f => Y5 default f 1 fun _ f => ?_
       obtain ⟨x_6, hx_6, hF_17⟩ := bS hF_16
       obtain ⟨ad_6, c_6, e_6, -, hr_6, hc_10⟩ := Sli.at_ (h_2.mono (((hM_1.trans hM_2).trans hM_3).trans hM_4)) hx_6
       obtain ⟨A_8, cap_8, rfl, h_13⟩ := TD0.opn hr_6
       refine Y2 (v := .pointer (some (ad_6.add (s_1.toNat * 3)))) f (fun _ pq => Y31 e_6 rfl (len := d1.fL.length) (cap := cap_2) (k := .i64) (i := s_1) (e := 52) (sz := 3) (getI_nn hx_6) (getI_lt hx_6)) fun _ f => Y5 default f 1 fun _ f => Y4 f hc_10 2 rfl fun _ f => ?_
       obtain ⟨x_7, hx_7, hF_18⟩ := bS hF_17
       refine Y3 f (ref09_Same_ok n _ (GL.mono (((hM_1.trans hM_2).trans hM_3).trans hM_4) hG) A_7 cap_7 x_5.fProps h_12 A_8 cap_8 x_6.fProps h_13 x_7 hx_7) fun _ f => Y5 default f 2 fun _ f => Q_end rfl ?_
       intro w_8 p_8
       refine T_n (RcF f hF_18 (fun h_14 hF_19 => ?_) fun h_14 hF_20 => ?_)
       ·have k_10 : (x_7) = false := by simpa using h_14
        refine RR (Y f 1 fun _ f => eT (wp_ret (B_r (T_r (T_r ?_)))))
        obtain rfl := sI hF_19
        exact .inl ⟨rfl, (), (sI hn_1).symm, M_4, hM_4, f.kp, p_8⟩
       ·have k_11 : (x_7) = true := by simpa using h_14
        refine wp_skip (B_n (T_n (R_reg (Y f 1 fun _ f => ?_))))
        obtain ⟨g_1, hF_21⟩ := nS hF_20
        refine Y f 1 fun _ f => ?_
        have f := f.st 26 (congrArg (Value.int .i64) (inR_wrap g_1))
        refine Y f 1 fun _ f => eT ?_
        obtain rfl := sI hF_21
        exact ⟨⟨m_2, s_1 + 1⟩, Nat.lt_succ_self _, M_4, hM_4, hn_1, f.kp, p_8⟩
    ·have k_12 := iff_f dI h_5
     refine wp_exit (T_x (T_x ?_))
     obtain rfl := sI hF_22
     exact .inr ⟨rfl, (), (sI hn_1).symm, M_4, hM_4, f.kp, p_4⟩
   ·rintro _ _ w_11 (⟨rfl, y_2, rfl, M_5, hM_5, f, p_9⟩ | ⟨rfl, y_3, rfl, M_6, hM_6, f, p_10⟩)
    ·refine B_r (T_r (E_ret1 f rfl (by kernel_rfl : Vc.look _ 4 = some (.bool false)) ?_))
     obtain rfl := sI hF_6
     exact ⟨_, rfl, M_5, (((hM_1.trans hM_2).trans hM_3).trans hM_5), p_9, rfl⟩
    ·refine B_x (T_n (RR (Y f 1 fun _ f => eT (wp_ret (E_ret1 f rfl (by kernel_rfl : Vc.look _ 4 = some (.bool true)) ?_)))))
     obtain rfl := sI hF_6
     exact ⟨_, rfl, M_6, (((hM_1.trans hM_2).trans hM_3).trans hM_6), p_10, rfl⟩
def ref10_Create (n : Nat) (d0 : TA0) (d1 : List UInt8) (d2 : List TE0) : Option (TA0 × List UInt8 × Int) :=
  (ref10_Check n d0).bind fun x_1 =>
  bif (!(decide (x_1 = 0))) then
    (some ((z_TA0, ([] : List UInt8), (2 : Int))))
  else
    (ref09_Check n d1 d2).bind fun x_2 =>
    bif (!(decide (x_2 = 0))) then
      (some ((z_TA0, ([] : List UInt8), x_2)))
    else
      (ref10_known n d2).bind fun x_3 =>
      bif !x_3 then
        (some ((z_TA0, ([] : List UInt8), (91 : Int))))
      else
        bif (decide ((1099511627776 : Int) ≤ d0.fMade)) then
          (some ((z_TA0, ([] : List UInt8), (3 : Int))))
        else
          need (inR .i64 (d0.fMade + 1)) <|
          need ((([] : List TD0).length + d0.fL.length) * 56 ≤ 140737488355328) <|
          (ref10_Phys n (d0.fMade + 1)).bind fun x_4 =>
          need (((([] : List TD0) ++ d0.fL).length + 1) * 56 ≤ 140737488355328) <|
          some (((⟨(([] : List TD0) ++ d0.fL) ++ [(⟨x_4.1, d1, d2⟩ : TD0)], d0.fMade + 1⟩ : TA0), x_4.1, (0 : Int)))
theorem ref10_Create_ok (n : Nat) (M : Mem) (hG : GL M) (c0 : List Value) (d0 : TA0) (h0 : Rep M (emb_TA0 d0) c0) (d1 : List UInt8) (A2 : Option Addr) (cap2 : Nat) (d2 : List TE0) (h2 : Sli M 8 emb_TE0 A2 cap2 d2) (r : TA0 × List UInt8 × Int) (hF : ref10_Create n d0 d1 d2 = some r) : Ok Tryz.prog M 10 [.agg c0.toArray, S d1, .slice A2 d2.length cap2] (fun M' v => ∃ (c0 : List Value), v = .tuple #[.agg c0.toArray, S r.2.1, .int .i64 r.2.2] ∧ Rep M' (emb_TA0 r.1) c0) := by
 unfold ref10_Create at hF
 intro M1 hM0 w0 H w p0
 replace hG := GL.mono hM0 hG
 replace h0 := Rep.mono hM0 _ _ h0
 replace h2 := h2.mono hM0
 obtain ⟨A_1, cap_1, rfl, h_1⟩ := TA0.opn h0
 refine R_enter 59 Tryz.func10 rfl rfl (by simp) fun a0 f0 => RR (Y13 (cs := #[.slice A_1 d0.fL.length cap_1, .int .i64 d0.fMade]) (T := 31) f0 p0 fun b_1 M_1 w_1 hM_1 hc_1 p_1 _ f => ?_)
 have hc_2 := fz_box hc_1
 refine Y12 f p_1 (.cells #[.slice none 0 0, .int .i64 0] 31 (0, 0)) fun b_2 w_2 p_2 _ f => Y f 2 fun _ f => eT (R_seq (RR (Z (v := .agg #[.slice A_1 d0.fL.length cap_1, .int .i64 d0.fMade]) f (Y33 (cs := [.slice A_1 d0.fL.length cap_1, .int .i64 d0.fMade]) rfl (ad := ⟨b_1, 0, none⟩) (fun j v h => p_2.cell (hc_2 j v h))) fun _ f => ?_)))
 obtain ⟨x_1, hx_1, hF_1⟩ := bS hF
 refine Y18 f p_2 (ref10_Check_ok n _ (GL.mono hM_1 hG) _ d0 (TA0.shutx (x := d0) (h_1.mono hM_1)) x_1 hx_1) fun w_3 p_3 _ f => Y f 1 fun _ f => eT (RcF f hF_1 (fun h_2 hF_2 => ?_) fun h_2 hF_3 => ?_)
 ·have k_1 : ¬ (x_1 = 0) := (not_iff dI).1 h_2
  refine RR (Y f 1 fun _ f => Y28 (vs := [.slice none 0 0, .int .i64 0]) (j := 0) f p_3 rfl rfl (by simp [Value.oneCell', S]) (by simp) (by decide) (cs' := #[.slice none 0 0, .int .i64 0]) (by kernel_rfl) fun w_4 p_4 _ f => Y f 2 fun _ f => eT (wp_ret (T_r (E_rv3 f rfl (Y10 (cs := [.slice none 0 0, .int .i64 0]) (ad := ⟨b_2, 0, none⟩) f (own_cells (p_4.ownCell 0 rfl) 0 rfl)) (Y11 (v := S []) f) (Y11 (v := .int .i64 2) f) ?_))))
  obtain rfl := sI hF_2
  exact ⟨_, rfl, M_1, hM_1, (p_4.dropN 1), ⟨[.slice none 0 0, .int .i64 0], rfl, (TA0.shut Sli.nil)⟩⟩
 ·have k_2 : ¬ (¬ (x_1 = 0)) := iff_f (not_iff dI) h_2
  refine wp_skip (T_n (RR (Y f 2 fun _ f => ?_)))
  obtain ⟨x_2, hx_2, hF_4⟩ := bS hF_3
  refine Y18 f p_3 (ref09_Check_ok n _ (GL.mono hM_1 hG) d1 A2 cap2 d2 (h2.mono hM_1) x_2 hx_2) fun w_5 p_5 _ f => Y f 1 fun _ f => eT (R_seq (RR (Y f 2 fun _ f => eT (RcF f hF_4 (fun h_3 hF_5 => ?_) fun h_3 hF_6 => ?_))))
  ·have k_3 : ¬ (x_2 = 0) := (not_iff dI).1 h_3
   refine RR (Y f 2 fun _ f => Y28 (vs := [.slice none 0 0, .int .i64 0]) (j := 0) f p_5 rfl rfl (by simp [Value.oneCell', S]) (by simp) (by decide) (cs' := #[.slice none 0 0, .int .i64 0]) (by kernel_rfl) fun w_6 p_6 _ f => Y f 2 fun _ f => eT (wp_ret (T_r (E_rv3 f rfl (Y10 (cs := [.slice none 0 0, .int .i64 0]) (ad := ⟨b_2, 0, none⟩) f (own_cells (p_6.ownCell 0 rfl) 0 rfl)) (Y11 (v := S []) f) (Y11 (v := .int .i64 x_2) f) ?_))))
   obtain rfl := sI hF_5
   exact ⟨_, rfl, M_1, hM_1, (p_6.dropN 1), ⟨[.slice none 0 0, .int .i64 0], rfl, (TA0.shut Sli.nil)⟩⟩
  ·have k_4 : ¬ (¬ (x_2 = 0)) := iff_f (not_iff dI) h_3
   refine wp_skip (T_n (R_seq (RR (Y f 1 fun _ f => ?_))))
   obtain ⟨x_3, hx_3, hF_7⟩ := bS hF_6
   refine Y18 f p_5 (ref10_known_ok n _ (GL.mono hM_1 hG) A2 cap2 d2 (h2.mono hM_1) x_3 hx_3) fun w_7 p_7 _ f => Y f 1 fun _ f => eT (RcF f hF_7 (fun h_4 hF_8 => ?_) fun h_4 hF_9 => ?_)
   ·have k_5 : (x_3) = false := by simpa using h_4
    refine RR (Y f 1 fun _ f => Y28 (vs := [.slice none 0 0, .int .i64 0]) (j := 0) f p_7 rfl rfl (by simp [Value.oneCell', S]) (by simp) (by decide) (cs' := #[.slice none 0 0, .int .i64 0]) (by kernel_rfl) fun w_8 p_8 _ f => Y f 2 fun _ f => eT (wp_ret (T_r (E_rv3 f rfl (Y10 (cs := [.slice none 0 0, .int .i64 0]) (ad := ⟨b_2, 0, none⟩) f (own_cells (p_8.ownCell 0 rfl) 0 rfl)) (Y11 (v := S []) f) (Y11 (v := .int .i64 91) f) ?_))))
    obtain rfl := sI hF_8
    exact ⟨_, rfl, M_1, hM_1, (p_8.dropN 1), ⟨[.slice none 0 0, .int .i64 0], rfl, (TA0.shut Sli.nil)⟩⟩
   ·have k_6 : (x_3) = true := by simpa using h_4
    refine wp_skip (T_n (R_seq (RR (Y f 1 fun _ f => Y15 f p_7 hc_2 1 rfl fun _ f => Y f 1 fun _ f => eT (RcF f hF_9 (fun h_5 hF_10 => ?_) fun h_5 hF_11 => ?_)))))
    ·have k_7 := dI.1 h_5
     refine RR (Y f 1 fun _ f => Y28 (vs := [.slice none 0 0, .int .i64 0]) (j := 0) f p_7 rfl rfl (by simp [Value.oneCell', S]) (by simp) (by decide) (cs' := #[.slice none 0 0, .int .i64 0]) (by kernel_rfl) fun w_9 p_9 _ f => Y f 2 fun _ f => eT (wp_ret (T_r (E_rv3 f rfl (Y10 (cs := [.slice none 0 0, .int .i64 0]) (ad := ⟨b_2, 0, none⟩) f (own_cells (p_9.ownCell 0 rfl) 0 rfl)) (Y11 (v := S []) f) (Y11 (v := .int .i64 3) f) ?_))))
     obtain rfl := sI hF_10
     exact ⟨_, rfl, M_1, hM_1, (p_9.dropN 1), ⟨[.slice none 0 0, .int .i64 0], rfl, (TA0.shut Sli.nil)⟩⟩
    ·have k_8 := iff_f dI h_5
     refine wp_skip (T_n (RR (Y f 1 fun _ f => Y15 f p_7 hc_2 1 rfl fun _ f => ?_)))
     obtain ⟨g_1, hF_12⟩ := nS hF_11
     refine Y f 1 fun _ f => ?_
     have f := f.st 34 (congrArg (Value.int .i64) (inR_wrap g_1))
     refine Y f 1 fun _ f => Y12 f p_7 (.cells #[.slice none 0 0, .int .i64 0] 31 (0, 0)) fun b_3 w_10 p_10 _ f => Y28 (vs := [.slice none 0 0, .int .i64 (d0.fMade + 1)]) (j := 0) f p_10 rfl rfl (by simp [Value.oneCell', S]) (by simp) (by decide) (cs' := #[.slice none 0 0, .int .i64 (d0.fMade + 1)]) (by kernel_rfl) fun w_11 p_11 _ f => eT (RR (Y f 1 fun _ f => Z f (Y32 (v := .slice none 0 0) rfl (ad := ⟨b_3, 0, none⟩) (p_11.ownCell 0 rfl 0)) fun _ f => Y f 1 fun _ f => Y15 f p_11 hc_2 0 rfl fun _ f => ?_))
     obtain ⟨A_2, cap_2, hv_1⟩ : ∃ A cap, Value.slice none 0 0 = .slice A ([] : List TD0).length cap := ⟨none, 0, rfl⟩
     have p_12 : Hp w0 M_1 ((Ent.row 52 3 (.slice A_2 ([] : List TD0).length cap_2) ([] : List TD0).length []) :: (Ent.obj b_3 (.cells #[.slice none 0 0, .int .i64 (d0.fMade + 1)] 31 (0, 0))) :: (Ent.obj b_2 (.cells #[.slice none 0 0, .int .i64 0] 31 (0, 0))) :: H) w_11 := by rw [← hv_1]; exact p_11.nilRow 52 3
     have f := f.st 37 (hv_1)
     have hr_1 : RepSeq M_1 (([] : List TD0).map emb_TD0) [] := rfl
     obtain ⟨g_2, hF_13⟩ := nS hF_12
     refine Y24 (z := .agg #[S [], S [], .slice none 0 0]) (f := emb_TD0) (xs := ([] : List TD0)) (ys := d0.fL) (c := cap_1) f p_12 hr_1 (h_1.mono hM_1) rfl rfl rfl g_2 (by omega) fun A_3 cap_3 cs_1 w_12 p_13 hr_2 _ f => Y f 1 fun _ f => Y27 f p_13 1 rfl rfl (b := b_3) (j := 0) (v := .slice A_3 (([] : List TD0) ++ d0.fL).length cap_3) rfl (by exact rfl) (by simp) (by simp) ((Ent.row 52 3 (.slice A_3 (([] : List TD0) ++ d0.fL).length cap_3) (([] : List TD0) ++ d0.fL).length cs_1) :: (Ent.obj b_3 (.cells #[.slice A_3 (([] : List TD0) ++ d0.fL).length cap_3, .int .i64 (d0.fMade + 1)] 31 (0, 0))) :: (Ent.obj b_2 (.cells #[.slice none 0 0, .int .i64 0] 31 (0, 0))) :: H) rfl fun w_13 p_14 _ f => eT (RR (Y f 1 fun _ f => Z f (Y32 (v := .int .i64 (d0.fMade + 1)) rfl (ad := ⟨b_3, 1, none⟩) (p_14.ownCell 1 rfl 1)) fun _ f => ?_))
     obtain ⟨x_4, hx_4, hF_14⟩ := bS hF_13
     refine Y18 f p_14 (ref10_Phys_ok n _ (GL.mono hM_1 hG) (d0.fMade + 1) x_4 hx_4) fun w_14 p_15 _ f => Y f 5 fun _ f => eT (RR (Y f 1 fun _ f => Z f (Y32 (v := .slice A_3 (([] : List TD0) ++ d0.fL).length cap_3) rfl (ad := ⟨b_3, 0, none⟩) (p_15.ownCell 1 rfl 0)) fun _ f => Y f 4 fun _ f => V_allocS (k := 1) (c := 1) f p_15 (.cells #[S x_4.1, S d1, .slice A2 d2.length cap2] 52 (0, 0)) (by kernel_rfl) (fun _ => by kernel_rfl) fun b_4 w_15 p_16 _ f => ?_))
     have p_17 := p_16.pl [1]
     obtain ⟨g_3, hF_15⟩ := nS hF_14
     refine Y22 (z := .agg #[S [], S [], .slice none 0 0]) (f := emb_TD0) (xs := ([] : List TD0) ++ d0.fL) (ys := [(⟨x_4.1, d1, d2⟩ : TD0)]) (news := [S x_4.1, S d1, .slice A2 d2.length cap2]) (ad := ⟨b_4, 0, none⟩) (m := 1) (c := 1) f p_17 hr_2 (by exact ⟨_, _, rfl, TD0.shut (h2.mono hM_1), rfl⟩) rfl rfl rfl rfl (own_cells (p_17.ownCell 1 rfl) 0 rfl) (by exact g_3) (by have hg_ := g_3; first | omega | (simp only [List.length_cons, List.length_nil] at *; omega)) fun A_4 cap_4 cs_2 w_16 p_18 hr_3 _ f => ?_
     have p_19 := p_18.pl [1]
     have p_20 := p_19.drop
     refine Y f 1 fun _ f => Y27 f p_20 1 rfl rfl (b := b_3) (j := 0) (v := .slice A_4 ((([] : List TD0) ++ d0.fL) ++ [(⟨x_4.1, d1, d2⟩ : TD0)]).length cap_4) rfl (by exact rfl) (by simp) (by simp) ((Ent.row 52 3 (.slice A_4 ((([] : List TD0) ++ d0.fL) ++ [(⟨x_4.1, d1, d2⟩ : TD0)]).length cap_4) ((([] : List TD0) ++ d0.fL) ++ [(⟨x_4.1, d1, d2⟩ : TD0)]).length cs_2) :: (Ent.obj b_3 (.cells #[.slice A_4 ((([] : List TD0) ++ d0.fL) ++ [(⟨x_4.1, d1, d2⟩ : TD0)]).length cap_4, .int .i64 (d0.fMade + 1)] 31 (0, 0))) :: (Ent.obj b_2 (.cells #[.slice none 0 0, .int .i64 0] 31 (0, 0))) :: H) rfl fun w_17 p_21 _ f => eT (RR (Z (v := .agg #[.slice A_4 ((([] : List TD0) ++ d0.fL) ++ [(⟨x_4.1, d1, d2⟩ : TD0)]).length cap_4, .int .i64 (d0.fMade + 1)]) f (Y33 (cs := [.slice A_4 ((([] : List TD0) ++ d0.fL) ++ [(⟨x_4.1, d1, d2⟩ : TD0)]).length cap_4, .int .i64 (d0.fMade + 1)]) rfl (ad := ⟨b_3, 0, none⟩) (own_cells (p_21.ownCell 1 rfl) 0 rfl)) fun _ f => Y f 1 fun _ f => ?_))
     obtain ⟨A_5, cap_5, M_2, hv_2, hM_2, p_22, h_6⟩ := p_21.rowSli (f := emb_TD0) (xs := (([] : List TD0) ++ d0.fL) ++ [(⟨x_4.1, d1, d2⟩ : TD0)]) szd_TD0 hr_3
     have f := Frm.set f 57 (v := .agg #[.slice A_4 ((([] : List TD0) ++ d0.fL) ++ [(⟨x_4.1, d1, d2⟩ : TD0)]).length cap_4, .int .i64 (d0.fMade + 1)]) (v' := .agg #[.slice A_5 ((([] : List TD0) ++ d0.fL) ++ [(⟨x_4.1, d1, d2⟩ : TD0)]).length cap_5, .int .i64 (d0.fMade + 1)]) (by kernel_rfl) (by rw [hv_2])
     have p_23 : Hp w0 M_2 ((Ent.obj b_3 (.cells #[.slice A_5 ((([] : List TD0) ++ d0.fL) ++ [(⟨x_4.1, d1, d2⟩ : TD0)]).length cap_5, .int .i64 (d0.fMade + 1)] 31 (0, 0))) :: (Ent.obj b_2 (.cells #[.slice none 0 0, .int .i64 0] 31 (0, 0))) :: H) w_17 := by rw [hv_2] at p_22; exact p_22
     have p_24 := p_23.pl [1]
     refine Y28 (vs := [.slice A_5 ((([] : List TD0) ++ d0.fL) ++ [(⟨x_4.1, d1, d2⟩ : TD0)]).length cap_5, .int .i64 (d0.fMade + 1)]) (j := 0) f p_24 rfl rfl (by simp [Value.oneCell', S]) (by simp) (by decide) (cs' := #[.slice A_5 ((([] : List TD0) ++ d0.fL) ++ [(⟨x_4.1, d1, d2⟩ : TD0)]).length cap_5, .int .i64 (d0.fMade + 1)]) (by kernel_rfl) fun w_18 p_25 _ f => Y f 2 fun _ f => eT (wp_ret (E_rv3 f rfl (Y10 (cs := [.slice A_5 ((([] : List TD0) ++ d0.fL) ++ [(⟨x_4.1, d1, d2⟩ : TD0)]).length cap_5, .int .i64 (d0.fMade + 1)]) (ad := ⟨b_2, 0, none⟩) f (own_cells (p_25.ownCell 0 rfl) 0 rfl)) (Y11 (v := S x_4.1) f) (Y11 (v := .int .i64 0) f) ?_))
     obtain rfl := sI hF_15
     exact ⟨_, rfl, M_2, (hM_1.trans hM_2), (p_25.dropN 2), ⟨[.slice A_5 ((([] : List TD0) ++ d0.fL) ++ [(⟨x_4.1, d1, d2⟩ : TD0)]).length cap_5, .int .i64 (d0.fMade + 1)], rfl, (TA0.shut h_6)⟩⟩
def ref10_Update_s1 (n : Nat) (d0 : TA0) (d1 : List UInt8) (d2 : List TE0) (s_1 : Int × List TD0) : Option (Lp (Int × List TD0) (List TD0)) :=
    bif (decide (s_1.1 < ((d0.fL.length : Nat) : Int))) then
      ((getI d0.fL s_1.1).bind fun x_6 =>
      ((bif (decide (x_6.fPhys = d1)) then
          (some (d2))
        else
          some (x_6.fProps) : Option (List TE0))).bind fun y_2 =>
      need ((s_1.2.length + 1) * 56 ≤ 140737488355328) <|
      need (inR .i64 (s_1.1 + 1)) <|
      some (.nx (s_1.1 + 1, s_1.2 ++ [(⟨x_6.fPhys, x_6.fType, y_2⟩ : TD0)])))
    else
      some (.br s_1.2)
def ref10_Update (n : Nat) (d0 : TA0) (d1 : List UInt8) (d2 : List TE0) : Option (TA0 × Int) :=
  (ref10_Check n d0).bind fun x_1 =>
  bif (!(decide (x_1 = 0))) then
    (some ((z_TA0, (2 : Int))))
  else
    (ref10_Get n d0 d1).bind fun x_2 =>
    bif !x_2.2 then
      (some ((z_TA0, (4 : Int))))
    else
      (ref09_Check n x_2.1.fType d2).bind fun x_3 =>
      bif (!(decide (x_3 = 0))) then
        (some ((z_TA0, x_3)))
      else
        (ref09_Differ n x_2.1.fType x_2.1.fProps d2).bind fun x_4 =>
        (((ref10_known n d2).bind fun x_5 =>
          bif !x_5 then
            (some ((true)))
          else
            bif (!(decide (x_4.2 = 0))) then
              (some ((true)))
            else
              some ((decide (x_4.1 = 3))) : Option Bool)).bind fun y_1 =>
        bif y_1 then
          (some ((z_TA0, (91 : Int))))
        else
          (loopF (ref10_Update_s1 n d0 d1 d2) n ((0 : Int), ([] : List TD0))).bind fun y_3 =>
          some (((⟨y_3, d0.fMade⟩ : TA0), (0 : Int)))
theorem ref10_Update_ok (n : Nat) (M : Mem) (hG : GL M) (c0 : List Value) (d0 : TA0) (h0 : Rep M (emb_TA0 d0) c0) (d1 : List UInt8) (A2 : Option Addr) (cap2 : Nat) (d2 : List TE0) (h2 : Sli M 8 emb_TE0 A2 cap2 d2) (r : TA0 × Int) (hF : ref10_Update n d0 d1 d2 = some r) : Ok Tryz.prog M 13 [.agg c0.toArray, S d1, .slice A2 d2.length cap2] (fun M' v => ∃ (c0 : List Value), v = .tuple #[.agg c0.toArray, .int .i64 r.2] ∧ Rep M' (emb_TA0 r.1) c0) := by
 unfold ref10_Update at hF
 intro M1 hM0 w0 H w p0
 replace hG := GL.mono hM0 hG
 replace h0 := Rep.mono hM0 _ _ h0
 replace h2 := h2.mono hM0
 obtain ⟨A_1, cap_1, rfl, h_1⟩ := TA0.opn h0
 refine R_enter 85 Tryz.func13 rfl rfl (by simp) fun a0 f0 => RR (Y13 (cs := #[.slice A_1 d0.fL.length cap_1, .int .i64 d0.fMade]) (T := 31) f0 p0 fun b_1 M_1 w_1 hM_1 hc_1 p_1 _ f => ?_)
 have hc_2 := fz_box hc_1
 refine Y12 f p_1 (.cells #[.slice none 0 0, .int .i64 0] 31 (0, 0)) fun b_2 w_2 p_2 _ f => Y f 1 fun _ f => eT (R_seq (RR (Z (v := .agg #[.slice A_1 d0.fL.length cap_1, .int .i64 d0.fMade]) f (Y33 (cs := [.slice A_1 d0.fL.length cap_1, .int .i64 d0.fMade]) rfl (ad := ⟨b_1, 0, none⟩) (fun j v h => p_2.cell (hc_2 j v h))) fun _ f => ?_)))
 obtain ⟨x_1, hx_1, hF_1⟩ := bS hF
 refine Y18 f p_2 (ref10_Check_ok n _ (GL.mono hM_1 hG) _ d0 (TA0.shutx (x := d0) (h_1.mono hM_1)) x_1 hx_1) fun w_3 p_3 _ f => Y f 1 fun _ f => eT (RcF f hF_1 (fun h_2 hF_2 => ?_) fun h_2 hF_3 => ?_)
 ·have k_1 : ¬ (x_1 = 0) := (not_iff dI).1 h_2
  refine RR (Y f 1 fun _ f => Y28 (vs := [.slice none 0 0, .int .i64 0]) (j := 0) f p_3 rfl rfl (by simp [Value.oneCell', S]) (by simp) (by decide) (cs' := #[.slice none 0 0, .int .i64 0]) (by kernel_rfl) fun w_4 p_4 _ f => Y f 1 fun _ f => eT (wp_ret (T_r (E_rv2 f rfl (Y10 (cs := [.slice none 0 0, .int .i64 0]) (ad := ⟨b_2, 0, none⟩) f (own_cells (p_4.ownCell 0 rfl) 0 rfl)) (Y11 (v := .int .i64 2) f) ?_))))
  obtain rfl := sI hF_2
  exact ⟨_, rfl, M_1, hM_1, (p_4.dropN 1), ⟨[.slice none 0 0, .int .i64 0], rfl, (TA0.shut Sli.nil)⟩⟩
 ·have k_2 : ¬ (¬ (x_1 = 0)) := iff_f (not_iff dI) h_2
  refine wp_skip (T_n (RR (Z (v := .agg #[.slice A_1 d0.fL.length cap_1, .int .i64 d0.fMade]) f (Y33 (cs := [.slice A_1 d0.fL.length cap_1, .int .i64 d0.fMade]) rfl (ad := ⟨b_1, 0, none⟩) (fun j v h => p_3.cell (hc_2 j v h))) fun _ f => Y f 1 fun _ f => ?_)))
  obtain ⟨x_2, hx_2, hF_4⟩ := bS hF_3
  refine Y16 f p_3 (ref10_Get_ok n _ (GL.mono hM_1 hG) _ d0 (TA0.shutx (x := d0) (h_1.mono hM_1)) d1 x_2 hx_2) fun _ M_2 w_5 hM_2 p_5 q_1 _ f => ?_
  obtain ⟨c_1, rfl, hr_1⟩ := q_1
  obtain ⟨A_2, cap_2, rfl, h_3⟩ := TD0.opn hr_1
  refine Y f 3 fun _ f => Y12 f p_5 (.cells #[S [], S [], .slice none 0 0] 52 (0, 0)) fun b_3 w_6 p_6 _ f => Y28 (vs := [S x_2.1.fPhys, S x_2.1.fType, .slice A_2 x_2.1.fProps.length cap_2]) (j := 0) f p_6 rfl rfl (by simp [Value.oneCell', S]) (by simp) (by decide) (cs' := #[S x_2.1.fPhys, S x_2.1.fType, .slice A_2 x_2.1.fProps.length cap_2]) (by kernel_rfl) fun w_7 p_7 _ f => Y f 1 fun _ f => eT (R_seq (RR (Y f 2 fun _ f => eT (RcF f hF_4 (fun h_4 hF_5 => ?_) fun h_4 hF_6 => ?_))))
  ·have k_3 : (x_2.2) = false := by simpa using h_4
   refine RR (Y f 1 fun _ f => ?_)
   have p_8 := p_7.pl [1]
   refine Y28 (vs := [.slice none 0 0, .int .i64 0]) (j := 0) f p_8 rfl rfl (by simp [Value.oneCell', S]) (by simp) (by decide) (cs' := #[.slice none 0 0, .int .i64 0]) (by kernel_rfl) fun w_8 p_9 _ f => Y f 1 fun _ f => eT (wp_ret (T_r (E_rv2 f rfl (Y10 (cs := [.slice none 0 0, .int .i64 0]) (ad := ⟨b_2, 0, none⟩) f (own_cells (p_9.ownCell 0 rfl) 0 rfl)) (Y11 (v := .int .i64 4) f) ?_)))
   obtain rfl := sI hF_5
   exact ⟨_, rfl, M_2, (hM_1.trans hM_2), (p_9.dropN 2), ⟨[.slice none 0 0, .int .i64 0], rfl, (TA0.shut Sli.nil)⟩⟩
  ·have k_4 : (x_2.2) = true := by simpa using h_4
   refine wp_skip (T_n (RR (Y f 1 fun _ f => Z f (Y32 (v := S x_2.1.fType) rfl (ad := ⟨b_3, 1, none⟩) (p_7.ownCell 0 rfl 1)) fun _ f => Y f 1 fun _ f => ?_)))
   obtain ⟨x_3, hx_3, hF_7⟩ := bS hF_6
   refine Y18 f p_7 (ref09_Check_ok n _ (GL.mono (hM_1.trans hM_2) hG) x_2.1.fType A2 cap2 d2 (h2.mono (hM_1.trans hM_2)) x_3 hx_3) fun w_9 p_10 _ f => Y f 1 fun _ f => eT (R_seq (RR (Y f 2 fun _ f => eT (RcF f hF_7 (fun h_5 hF_8 => ?_) fun h_5 hF_9 => ?_))))
   ·have k_5 : ¬ (x_3 = 0) := (not_iff dI).1 h_5
    refine RR (Y f 2 fun _ f => ?_)
    have p_11 := p_10.pl [1]
    refine Y28 (vs := [.slice none 0 0, .int .i64 0]) (j := 0) f p_11 rfl rfl (by simp [Value.oneCell', S]) (by simp) (by decide) (cs' := #[.slice none 0 0, .int .i64 0]) (by kernel_rfl) fun w_10 p_12 _ f => Y f 1 fun _ f => eT (wp_ret (T_r (E_rv2 f rfl (Y10 (cs := [.slice none 0 0, .int .i64 0]) (ad := ⟨b_2, 0, none⟩) f (own_cells (p_12.ownCell 0 rfl) 0 rfl)) (Y11 (v := .int .i64 x_3) f) ?_)))
    obtain rfl := sI hF_8
    exact ⟨_, rfl, M_2, (hM_1.trans hM_2), (p_12.dropN 2), ⟨[.slice none 0 0, .int .i64 0], rfl, (TA0.shut Sli.nil)⟩⟩
   ·have k_6 : ¬ (¬ (x_3 = 0)) := iff_f (not_iff dI) h_5
    refine wp_skip (T_n (RR (Y f 1 fun _ f => Z f (Y32 (v := S x_2.1.fType) rfl (ad := ⟨b_3, 1, none⟩) (p_10.ownCell 0 rfl 1)) fun _ f => Y f 1 fun _ f => Z f (Y32 (v := .slice A_2 x_2.1.fProps.length cap_2) rfl (ad := ⟨b_3, 2, none⟩) (p_10.ownCell 0 rfl 2)) fun _ f => Y f 1 fun _ f => ?_)))
    obtain ⟨x_4, hx_4, hF_10⟩ := bS hF_9
    refine Y18 f p_10 (ref09_Differ_ok n _ (GL.mono (hM_1.trans hM_2) hG) x_2.1.fType A_2 cap_2 x_2.1.fProps h_3 A2 cap2 d2 (h2.mono (hM_1.trans hM_2)) x_4 hx_4) fun w_11 p_13 _ f => Y f 5 fun _ f => eT (R_seq (R_seq ?_))
    obtain ⟨j_1, hj_1, hF_11⟩ := bS hF_10
    refine R_mid (fun a_44 w_13 => ∃ y_1 : Bool, j_1 = y_1 ∧ ∃ M_3 : Mem, M_2.le M_3 ∧ Frm 85 [(1, S d1), (2, .slice A2 d2.length cap2), (3, .pointer (some (⟨b_1, 0, none⟩))), (6, .pointer (some (⟨b_2, 0, none⟩))), (55, .bool y_1)] a_44 ∧ Hp w0 M_3 ((Ent.obj b_3 (.cells #[S x_2.1.fPhys, S x_2.1.fType, .slice A_2 x_2.1.fProps.length cap_2] 52 (0, 0))) :: (Ent.obj b_2 (.cells #[.slice none 0 0, .int .i64 0] 31 (0, 0))) :: H) w_13) ?_ ?_
    ·refine R_reg (Y f 1 fun _ f => ?_)
     obtain ⟨x_5, hx_5, hF_12⟩ := bS hj_1
     refine Y18 f p_13 (ref10_known_ok n _ (GL.mono (hM_1.trans hM_2) hG) A2 cap2 d2 (h2.mono (hM_1.trans hM_2)) x_5 hx_5) fun w_12 p_14 _ f => Y f 2 fun _ f => ?_
     rcases cE hF_12 with ⟨h_6, hF_13⟩ | ⟨h_6, hF_14⟩
     ·have k_7 : (x_5) = false := by simpa using h_6
      have f := f.st 48 (cB h_6)
      refine Y f 7 fun _ f => eT ?_
      exact ⟨(true), (sI hF_13).symm, M_2, (mR _), f.kp, p_14⟩
     ·have k_8 : (x_5) = true := by simpa using h_6
      have f := f.st 48 (cB h_6)
      refine Y f 4 fun _ f => ?_
      rcases cE hF_14 with ⟨h_7, hF_15⟩ | ⟨h_7, hF_16⟩
      ·have k_9 : ¬ (x_4.2 = 0) := (not_iff dI).1 h_7
       have f := f.st 52 (cB h_7)
       refine Y f 3 fun _ f => eT ?_
       exact ⟨(true), (sI hF_15).symm, M_2, (mR _), f.kp, p_14⟩
      ·have k_10 : ¬ (¬ (x_4.2 = 0)) := iff_f (not_iff dI) h_7
       have f := f.st 52 (cB h_7)
       refine Y f 3 fun _ f => eT ?_
       exact ⟨(decide (x_4.1 = 3)), (sI hF_16).symm, M_2, (mR _), f.kp, p_14⟩
    ·rintro a_44 w_13 ⟨y_1, hq_1, M_3, hM_3, f, p_15⟩
     subst j_1
     refine T_n (RcF f hF_11 (fun h_8 hF_17 => ?_) fun h_8 hF_18 => ?_)
     ·refine RR (Y f 1 fun _ f => ?_)
      have p_16 := p_15.pl [1]
      refine Y28 (vs := [.slice none 0 0, .int .i64 0]) (j := 0) f p_16 rfl rfl (by simp [Value.oneCell', S]) (by simp) (by decide) (cs' := #[.slice none 0 0, .int .i64 0]) (by kernel_rfl) fun w_14 p_17 _ f => Y f 1 fun _ f => eT (wp_ret (T_r (E_rv2 f rfl (Y10 (cs := [.slice none 0 0, .int .i64 0]) (ad := ⟨b_2, 0, none⟩) f (own_cells (p_17.ownCell 0 rfl) 0 rfl)) (Y11 (v := .int .i64 91) f) ?_)))
      obtain rfl := sI hF_17
      exact ⟨_, rfl, M_3, ((hM_1.trans hM_2).trans hM_3), (p_17.dropN 2), ⟨[.slice none 0 0, .int .i64 0], rfl, (TA0.shut Sli.nil)⟩⟩
     ·refine wp_skip (T_n (RR (Y f 1 fun _ f => Y15 f p_15 (fzu (hM_2.trans hM_3) hc_2) 1 rfl fun _ f => Y f 1 fun _ f => Y12 f p_15 (.cells #[.slice none 0 0, .int .i64 0] 31 (0, 0)) fun b_4 w_15 p_18 _ f => Y28 (vs := [.slice none 0 0, .int .i64 d0.fMade]) (j := 0) f p_18 rfl rfl (by simp [Value.oneCell', S]) (by simp) (by decide) (cs' := #[.slice none 0 0, .int .i64 d0.fMade]) (by kernel_rfl) fun w_16 p_19 _ f => eT (R_seq (RR (Y f 1 fun _ f => eT (wp_block ?_)))))))
      obtain ⟨A_3, cap_3, hv_1⟩ : ∃ A cap, Value.slice none 0 0 = .slice A ([] : List TD0).length cap := ⟨none, 0, rfl⟩
      have p_20 : Hp w0 M_3 ((Ent.row 52 3 (.slice A_3 ([] : List TD0).length cap_3) ([] : List TD0).length []) :: (Ent.obj b_4 (.cells #[.slice A_3 ([] : List TD0).length cap_3, .int .i64 d0.fMade] 31 (0, 0))) :: (Ent.obj b_3 (.cells #[S x_2.1.fPhys, S x_2.1.fType, .slice A_2 x_2.1.fProps.length cap_2] 52 (0, 0))) :: (Ent.obj b_2 (.cells #[.slice none 0 0, .int .i64 0] 31 (0, 0))) :: H) w_16 := by rw [← hv_1]; exact p_19.nilRow 52 3
      have hr_2 : RepSeq M_3 (([] : List TD0).map emb_TD0) [] := rfl
      obtain ⟨b_5, hL_1, hF_19⟩ := bS hF_18
      refine wp_mono (Q := fun e a w => (e = .exit 0 ∧ (∃ y_3 : List TD0, b_5 = y_3 ∧ ∃ M_6 : Mem, M_3.le M_6 ∧ ∃ (A_8 : Option Addr), ∃ (cap_8 : Nat), ∃ (cs_3 : List Value), RepSeq M_6 (y_3.map emb_TD0) cs_3 ∧ Frm 85 [(6, .pointer (some (⟨b_2, 0, none⟩))), (12, .pointer (some (⟨b_4, 0, none⟩)))] a ∧ Hp w0 M_6 ((Ent.row 52 3 (.slice A_8 y_3.length cap_8) y_3.length cs_3) :: (Ent.obj b_4 (.cells #[.slice A_8 y_3.length cap_8, .int .i64 d0.fMade] 31 (0, 0))) :: (Ent.obj b_3 (.cells #[S x_2.1.fPhys, S x_2.1.fType, .slice A_2 x_2.1.fProps.length cap_2] 52 (0, 0))) :: (Ent.obj b_2 (.cells #[.slice none 0 0, .int .i64 0] 31 (0, 0))) :: H) w))) (R_loop (n := 85) (w0 := w0) (M := M_3) (fun (x : Nat × (Int × List TD0) × (Option Addr) × Nat × (List Value)) => match x with | (m_1, s_1, A_4, cap_4, cs_1) => [(1, S d1), (2, .slice A2 d2.length cap2), (3, .pointer (some (⟨b_1, 0, none⟩))), (6, .pointer (some (⟨b_2, 0, none⟩))), (12, .pointer (some (⟨b_4, 0, none⟩))), (13, .int .i64 s_1.1)]) (fun (x : Nat × (Int × List TD0) × (Option Addr) × Nat × (List Value)) => match x with | (m_1, s_1, A_4, cap_4, cs_1) => ((Ent.row 52 3 (.slice A_4 s_1.2.length cap_4) s_1.2.length cs_1) :: (Ent.obj b_4 (.cells #[.slice A_4 s_1.2.length cap_4, .int .i64 d0.fMade] 31 (0, 0))) :: (Ent.obj b_3 (.cells #[S x_2.1.fPhys, S x_2.1.fType, .slice A_2 x_2.1.fProps.length cap_2] 52 (0, 0))) :: (Ent.obj b_2 (.cells #[.slice none 0 0, .int .i64 0] 31 (0, 0))) :: H)) (fun (x : Nat × (Int × List TD0) × (Option Addr) × Nat × (List Value)) (MM : Mem) => match x with | (m_1, s_1, A_4, cap_4, cs_1) => loopF (ref10_Update_s1 n d0 d1 d2) m_1 s_1 = some b_5 ∧ RepSeq MM (s_1.2.map emb_TD0) cs_1) (fun (x : Nat × (Int × List TD0) × (Option Addr) × Nat × (List Value)) => match x with | (m_1, s_1, A_4, cap_4, cs_1) => m_1) (n, ((0 : Int), ([] : List TD0)), A_3, cap_3, []) (f.kp) p_20 ⟨hL_1, hr_2⟩ ?_) ?_
      ·rintro ⟨m_1, s_1, A_4, cap_4, cs_1⟩ M_4 _ w_17 hM_4 I_1 f p_21
       obtain ⟨I_1L, hr_3⟩ := I_1
       obtain ⟨m_2, r_1, rfl, hs_1, hn_1⟩ := loop_step I_1L
       unfold ref10_Update_s1 at hs_1
       refine R_seq (RR (Y f 2 fun _ f => Y15 f p_21 (fzu ((hM_2.trans hM_3).trans hM_4) hc_2) 0 rfl fun _ f => Y f 2 fun _ f => eT (RcF f hs_1 (fun h_9 hF_20 => ?_) fun h_9 hF_27 => ?_)))
       ·have k_13 := dI.1 h_9
        refine wp_skip (T_n (R_seq (wp_block (RR (Y f 1 fun _ f => Y15 f p_21 (fzu ((hM_2.trans hM_3).trans hM_4) hc_2) 0 rfl fun _ f => Y f 1 fun _ f => ?_)))))
        obtain ⟨x_6, hx_6, hF_21⟩ := bS hF_20
        obtain ⟨ad_1, c_2, e_1, -, hr_4, hc_3⟩ := Sli.at_ (h_1.mono (((hM_1.trans hM_2).trans hM_3).trans hM_4)) hx_6
        obtain ⟨A_5, cap_5, rfl, h_10⟩ := TD0.opn hr_4
        refine Z f (Y31 e_1 rfl (len := d0.fL.length) (cap := cap_1) (k := .i64) (i := s_1.1) (e := 52) (sz := 3) (getI_nn hx_6) (getI_lt hx_6)) fun _ f => Z (v := .agg #[S x_6.fPhys, S x_6.fType, .slice A_5 x_6.fProps.length cap_5]) f (Y33 (cs := [S x_6.fPhys, S x_6.fType, .slice A_5 x_6.fProps.length cap_5]) rfl (ad := ad_1.add (s_1.1.toNat * 3)) (fun j v h => p_21.cell (hc_3 j v h))) fun _ f => Y12 f p_21 (.cells #[S [], S [], .slice none 0 0] 52 (0, 0)) fun b_6 w_18 p_22 _ f => Y28 (vs := [S x_6.fPhys, S x_6.fType, .slice A_5 x_6.fProps.length cap_5]) (j := 0) f p_22 rfl rfl (by simp [Value.oneCell', S]) (by simp) (by decide) (cs' := #[S x_6.fPhys, S x_6.fType, .slice A_5 x_6.fProps.length cap_5]) (by kernel_rfl) fun w_19 p_23 _ f => eT (R_seq (RR (Y f 1 fun _ f => Z f (Y32 (v := S x_6.fPhys) rfl (ad := ⟨b_6, 0, none⟩) (p_23.ownCell 0 rfl 0)) fun _ f => Y f 1 fun _ f => Z f (Y38 rfl (l := x_6.fPhys) (m := d1)) fun _ f => eT ?_)))
        obtain ⟨j_2, hj_2, hF_22⟩ := bS hF_21
        refine R_mid (fun a_71 w_21 => ∃ y_2 : List TE0, j_2 = y_2 ∧ ∃ M_5 : Mem, M_4.le M_5 ∧ ∃ (A_6 : Option Addr), ∃ (cap_6 : Nat), Sli M_5 8 emb_TE0 A_6 cap_6 y_2 ∧ Frm 85 [(1, S d1), (2, .slice A2 d2.length cap2), (3, .pointer (some (⟨b_1, 0, none⟩))), (6, .pointer (some (⟨b_2, 0, none⟩))), (12, .pointer (some (⟨b_4, 0, none⟩))), (13, .int .i64 s_1.1), (14, .pointer (some (⟨b_6, 0, none⟩)))] a_71 ∧ Hp w0 M_5 ((Ent.obj b_6 (.cells #[S x_6.fPhys, S x_6.fType, .slice A_6 y_2.length cap_6] 52 (0, 0))) :: (Ent.row 52 3 (.slice A_4 s_1.2.length cap_4) s_1.2.length cs_1) :: (Ent.obj b_4 (.cells #[.slice A_4 s_1.2.length cap_4, .int .i64 d0.fMade] 31 (0, 0))) :: (Ent.obj b_3 (.cells #[S x_2.1.fPhys, S x_2.1.fType, .slice A_2 x_2.1.fProps.length cap_2] 52 (0, 0))) :: (Ent.obj b_2 (.cells #[.slice none 0 0, .int .i64 0] 31 (0, 0))) :: H) w_21) ?_ ?_
        ·refine RcF f hj_2 (fun h_11 hF_23 => ?_) fun h_11 hF_24 => ?_
         ·have k_14 := dI.1 h_11
          refine R_reg (Y f 2 fun _ f => Y27 f p_23 0 rfl rfl (b := b_6) (j := 2) (v := .slice A2 d2.length cap2) rfl (by exact rfl) (by simp) (by simp) ((Ent.obj b_6 (.cells #[S x_6.fPhys, S x_6.fType, .slice A2 d2.length cap2] 52 (0, 0))) :: (Ent.row 52 3 (.slice A_4 s_1.2.length cap_4) s_1.2.length cs_1) :: (Ent.obj b_4 (.cells #[.slice A_4 s_1.2.length cap_4, .int .i64 d0.fMade] 31 (0, 0))) :: (Ent.obj b_3 (.cells #[S x_2.1.fPhys, S x_2.1.fType, .slice A_2 x_2.1.fProps.length cap_2] 52 (0, 0))) :: (Ent.obj b_2 (.cells #[.slice none 0 0, .int .i64 0] 31 (0, 0))) :: H) rfl fun w_20 p_24 _ f => eT ?_)
          exact ⟨d2, (sI hF_23).symm, M_4, (mR _), A2, cap2, (h2.mono (((hM_1.trans hM_2).trans hM_3).trans hM_4)), f.kp, p_24⟩
         ·have k_15 := iff_f dI h_11
          refine wp_skip (T_n ?_)
          exact ⟨x_6.fProps, (sI hF_24).symm, M_4, (mR _), A_5, cap_5, h_10, f.kp, p_23⟩
        ·rintro a_71 w_21 ⟨y_2, hq_2, M_5, hM_5, A_6, cap_6, h_12, f, p_25⟩
         subst j_2
         refine T_n (R_reg (Y f 1 fun _ f => Z f (Y32 (v := .slice A_4 s_1.2.length cap_4) rfl (ad := ⟨b_4, 0, none⟩) (p_25.ownCell 2 rfl 0)) fun _ f => Z (v := .agg #[S x_6.fPhys, S x_6.fType, .slice A_6 y_2.length cap_6]) f (Y33 (cs := [S x_6.fPhys, S x_6.fType, .slice A_6 y_2.length cap_6]) rfl (ad := ⟨b_6, 0, none⟩) (own_cells (p_25.ownCell 0 rfl) 0 rfl)) fun _ f => V_allocS (k := 1) (c := 1) f p_25 (.cells #[S x_6.fPhys, S x_6.fType, .slice A_6 y_2.length cap_6] 52 (0, 0)) (by kernel_rfl) (fun _ => by kernel_rfl) fun b_7 w_22 p_26 _ f => ?_))
         have p_27 := p_26.pl [2]
         obtain ⟨g_1, hF_25⟩ := nS hF_22
         refine Y22 (z := .agg #[S [], S [], .slice none 0 0]) (f := emb_TD0) (xs := s_1.2) (ys := [(⟨x_6.fPhys, x_6.fType, y_2⟩ : TD0)]) (news := [S x_6.fPhys, S x_6.fType, .slice A_6 y_2.length cap_6]) (ad := ⟨b_7, 0, none⟩) (m := 1) (c := 1) f p_27 (RepSeq.mono hM_5 _ _ hr_3) (by exact ⟨_, _, rfl, TD0.shut h_12, rfl⟩) rfl rfl rfl rfl (own_cells (p_27.ownCell 1 rfl) 0 rfl) (by exact g_1) (by have hg_ := g_1; first | omega | (simp only [List.length_cons, List.length_nil] at *; omega)) fun A_7 cap_7 cs_2 w_23 p_28 hr_5 _ f => ?_
         have p_29 := p_28.pl [1]
         have p_30 := p_29.drop
         refine Y f 1 fun _ f => Y27 f p_30 2 rfl rfl (b := b_4) (j := 0) (v := .slice A_7 (s_1.2 ++ [(⟨x_6.fPhys, x_6.fType, y_2⟩ : TD0)]).length cap_7) rfl (by exact rfl) (by simp) (by simp) ((Ent.row 52 3 (.slice A_7 (s_1.2 ++ [(⟨x_6.fPhys, x_6.fType, y_2⟩ : TD0)]).length cap_7) (s_1.2 ++ [(⟨x_6.fPhys, x_6.fType, y_2⟩ : TD0)]).length cs_2) :: (Ent.obj b_6 (.cells #[S x_6.fPhys, S x_6.fType, .slice A_6 y_2.length cap_6] 52 (0, 0))) :: (Ent.obj b_4 (.cells #[.slice A_7 (s_1.2 ++ [(⟨x_6.fPhys, x_6.fType, y_2⟩ : TD0)]).length cap_7, .int .i64 d0.fMade] 31 (0, 0))) :: (Ent.obj b_3 (.cells #[S x_2.1.fPhys, S x_2.1.fType, .slice A_2 x_2.1.fProps.length cap_2] 52 (0, 0))) :: (Ent.obj b_2 (.cells #[.slice none 0 0, .int .i64 0] 31 (0, 0))) :: H) rfl fun w_24 p_31 _ f => W_end rfl (B_n (T_n (R_reg (Y f 1 fun _ f => ?_))))
         obtain ⟨g_2, hF_26⟩ := nS hF_25
         refine Y f 1 fun _ f => ?_
         have f := f.st 66 (congrArg (Value.int .i64) (inR_wrap g_2))
         refine Y f 1 fun _ f => W_end rfl ?_
         have p_37 := p_31.pl [4, 4, 4, 3, 4]
         refine T_n ?_
         obtain rfl := sI hF_26
         exact ⟨⟨m_2, (s_1.1 + 1, s_1.2 ++ [(⟨x_6.fPhys, x_6.fType, y_2⟩ : TD0)]), A_7, cap_7, cs_2⟩, Nat.lt_succ_self _, M_5, (hM_4.trans hM_5), ⟨hn_1, hr_5⟩, f.kp, (p_37.dropN 1)⟩
       ·have k_16 := iff_f dI h_9
        refine wp_exit (T_x (T_x ?_))
        obtain rfl := sI hF_27
        exact ⟨rfl, s_1.2, (sI hn_1).symm, M_4, hM_4, A_4, cap_4, cs_1, hr_3, f.kp, p_21⟩
      ·rintro _ _ w_26 ⟨rfl, y_3, hq_, M_6, hM_6, A_8, cap_8, cs_3, hr_6, f, p_32⟩
       subst b_5
       refine B_x (T_n (RR (Z (v := .agg #[.slice A_8 y_3.length cap_8, .int .i64 d0.fMade]) f (Y33 (cs := [.slice A_8 y_3.length cap_8, .int .i64 d0.fMade]) rfl (ad := ⟨b_4, 0, none⟩) (own_cells (p_32.ownCell 1 rfl) 0 rfl)) fun _ f => ?_)))
       obtain ⟨A_9, cap_9, M_7, hv_2, hM_7, p_38, h_13⟩ := p_32.rowSli (f := emb_TD0) (xs := y_3) szd_TD0 hr_6
       have f := Frm.set f 84 (v := .agg #[.slice A_8 y_3.length cap_8, .int .i64 d0.fMade]) (v' := .agg #[.slice A_9 y_3.length cap_9, .int .i64 d0.fMade]) (by kernel_rfl) (by rw [hv_2])
       have p_39 : Hp w0 M_7 ((Ent.obj b_4 (.cells #[.slice A_9 y_3.length cap_9, .int .i64 d0.fMade] 31 (0, 0))) :: (Ent.obj b_3 (.cells #[S x_2.1.fPhys, S x_2.1.fType, .slice A_2 x_2.1.fProps.length cap_2] 52 (0, 0))) :: (Ent.obj b_2 (.cells #[.slice none 0 0, .int .i64 0] 31 (0, 0))) :: H) w_26 := by rw [hv_2] at p_38; exact p_38
       have p_40 := p_39.pl [2]
       refine Y28 (vs := [.slice A_9 y_3.length cap_9, .int .i64 d0.fMade]) (j := 0) f p_40 rfl rfl (by simp [Value.oneCell', S]) (by simp) (by decide) (cs' := #[.slice A_9 y_3.length cap_9, .int .i64 d0.fMade]) (by kernel_rfl) fun w_27 p_41 _ f => Y f 1 fun _ f => eT (wp_ret (E_rv2 f rfl (Y10 (cs := [.slice A_9 y_3.length cap_9, .int .i64 d0.fMade]) (ad := ⟨b_2, 0, none⟩) f (own_cells (p_41.ownCell 0 rfl) 0 rfl)) (Y11 (v := .int .i64 0) f) ?_))
       obtain rfl := sI hF_19
       exact ⟨_, rfl, M_7, ((((hM_1.trans hM_2).trans hM_3).trans hM_6).trans hM_7), (p_41.dropN 3), ⟨[.slice A_9 y_3.length cap_9, .int .i64 d0.fMade], rfl, (TA0.shut h_13)⟩⟩
def ref10_Delete_s1 (n : Nat) (d0 : TA0) (d1 : List UInt8) (s_1 : Int × List TD0) : Option (Lp (Int × List TD0) (List TD0)) :=
    bif (decide (s_1.1 < ((d0.fL.length : Nat) : Int))) then
      ((getI d0.fL s_1.1).bind fun x_3 =>
      bif (!(decide (x_3.fPhys = d1))) then
        ((((getI d0.fL s_1.1).bind fun x_4 =>
          need ((s_1.2.length + 1) * 56 ≤ 140737488355328) <|
          some (s_1.2 ++ [(⟨x_4.fPhys, x_4.fType, x_4.fProps⟩ : TD0)]) : Option (List TD0))).bind fun y_1 =>
        need (inR .i64 (s_1.1 + 1)) <|
        some (.nx (s_1.1 + 1, y_1)))
      else
        need (inR .i64 (s_1.1 + 1)) <|
        some (.nx (s_1.1 + 1, s_1.2)))
    else
      some (.br s_1.2)
def ref10_Delete (n : Nat) (d0 : TA0) (d1 : List UInt8) : Option (TA0 × Int) :=
  (ref10_Check n d0).bind fun x_1 =>
  bif (!(decide (x_1 = 0))) then
    (some ((z_TA0, (2 : Int))))
  else
    (ref10_Get n d0 d1).bind fun x_2 =>
    bif !x_2.2 then
      (some ((z_TA0, (4 : Int))))
    else
      (loopF (ref10_Delete_s1 n d0 d1) n ((0 : Int), ([] : List TD0))).bind fun y_2 =>
      some (((⟨y_2, d0.fMade⟩ : TA0), (0 : Int)))
theorem ref10_Delete_ok (n : Nat) (M : Mem) (hG : GL M) (c0 : List Value) (d0 : TA0) (h0 : Rep M (emb_TA0 d0) c0) (d1 : List UInt8) (r : TA0 × Int) (hF : ref10_Delete n d0 d1 = some r) : Ok Tryz.prog M 15 [.agg c0.toArray, S d1] (fun M' v => ∃ (c0 : List Value), v = .tuple #[.agg c0.toArray, .int .i64 r.2] ∧ Rep M' (emb_TA0 r.1) c0) := by
 unfold ref10_Delete at hF
 intro M1 hM0 w0 H w p0
 replace hG := GL.mono hM0 hG
 replace h0 := Rep.mono hM0 _ _ h0
 obtain ⟨A_1, cap_1, rfl, h_1⟩ := TA0.opn h0
 refine R_enter 52 Tryz.func15 rfl rfl (by simp) fun a0 f0 => RR (Y13 (cs := #[.slice A_1 d0.fL.length cap_1, .int .i64 d0.fMade]) (T := 31) f0 p0 fun b_1 M_1 w_1 hM_1 hc_1 p_1 _ f => ?_)
 have hc_2 := fz_box hc_1
 refine Y12 f p_1 (.cells #[.slice none 0 0, .int .i64 0] 31 (0, 0)) fun b_2 w_2 p_2 _ f => Y f 1 fun _ f => eT (R_seq (RR (Z (v := .agg #[.slice A_1 d0.fL.length cap_1, .int .i64 d0.fMade]) f (Y33 (cs := [.slice A_1 d0.fL.length cap_1, .int .i64 d0.fMade]) rfl (ad := ⟨b_1, 0, none⟩) (fun j v h => p_2.cell (hc_2 j v h))) fun _ f => ?_)))
 obtain ⟨x_1, hx_1, hF_1⟩ := bS hF
 refine Y18 f p_2 (ref10_Check_ok n _ (GL.mono hM_1 hG) _ d0 (TA0.shutx (x := d0) (h_1.mono hM_1)) x_1 hx_1) fun w_3 p_3 _ f => Y f 1 fun _ f => eT (RcF f hF_1 (fun h_2 hF_2 => ?_) fun h_2 hF_3 => ?_)
 ·have k_1 : ¬ (x_1 = 0) := (not_iff dI).1 h_2
  refine RR (Y f 1 fun _ f => Y28 (vs := [.slice none 0 0, .int .i64 0]) (j := 0) f p_3 rfl rfl (by simp [Value.oneCell', S]) (by simp) (by decide) (cs' := #[.slice none 0 0, .int .i64 0]) (by kernel_rfl) fun w_4 p_4 _ f => Y f 1 fun _ f => eT (wp_ret (T_r (E_rv2 f rfl (Y10 (cs := [.slice none 0 0, .int .i64 0]) (ad := ⟨b_2, 0, none⟩) f (own_cells (p_4.ownCell 0 rfl) 0 rfl)) (Y11 (v := .int .i64 2) f) ?_))))
  obtain rfl := sI hF_2
  exact ⟨_, rfl, M_1, hM_1, (p_4.dropN 1), ⟨[.slice none 0 0, .int .i64 0], rfl, (TA0.shut Sli.nil)⟩⟩
 ·have k_2 : ¬ (¬ (x_1 = 0)) := iff_f (not_iff dI) h_2
  refine wp_skip (T_n (RR (Z (v := .agg #[.slice A_1 d0.fL.length cap_1, .int .i64 d0.fMade]) f (Y33 (cs := [.slice A_1 d0.fL.length cap_1, .int .i64 d0.fMade]) rfl (ad := ⟨b_1, 0, none⟩) (fun j v h => p_3.cell (hc_2 j v h))) fun _ f => Y f 1 fun _ f => ?_)))
  obtain ⟨x_2, hx_2, hF_4⟩ := bS hF_3
  refine Y16 f p_3 (ref10_Get_ok n _ (GL.mono hM_1 hG) _ d0 (TA0.shutx (x := d0) (h_1.mono hM_1)) d1 x_2 hx_2) fun _ M_2 w_5 hM_2 p_5 q_1 _ f => ?_
  obtain ⟨c_1, rfl, hr_1⟩ := q_1
  obtain ⟨A_2, cap_2, rfl, h_3⟩ := TD0.opn hr_1
  refine Y f 3 fun _ f => Y12 f p_5 (.cells #[S [], S [], .slice none 0 0] 52 (0, 0)) fun b_3 w_6 p_6 _ f => Y28 (vs := [S x_2.1.fPhys, S x_2.1.fType, .slice A_2 x_2.1.fProps.length cap_2]) (j := 0) f p_6 rfl rfl (by simp [Value.oneCell', S]) (by simp) (by decide) (cs' := #[S x_2.1.fPhys, S x_2.1.fType, .slice A_2 x_2.1.fProps.length cap_2]) (by kernel_rfl) fun w_7 p_7 _ f => Y f 1 fun _ f => eT (R_seq (RR (Y f 2 fun _ f => eT (RcF f hF_4 (fun h_4 hF_5 => ?_) fun h_4 hF_6 => ?_))))
  ·have k_3 : (x_2.2) = false := by simpa using h_4
   refine RR (Y f 1 fun _ f => ?_)
   have p_8 := p_7.pl [1]
   refine Y28 (vs := [.slice none 0 0, .int .i64 0]) (j := 0) f p_8 rfl rfl (by simp [Value.oneCell', S]) (by simp) (by decide) (cs' := #[.slice none 0 0, .int .i64 0]) (by kernel_rfl) fun w_8 p_9 _ f => Y f 1 fun _ f => eT (wp_ret (T_r (E_rv2 f rfl (Y10 (cs := [.slice none 0 0, .int .i64 0]) (ad := ⟨b_2, 0, none⟩) f (own_cells (p_9.ownCell 0 rfl) 0 rfl)) (Y11 (v := .int .i64 4) f) ?_)))
   obtain rfl := sI hF_5
   exact ⟨_, rfl, M_2, (hM_1.trans hM_2), (p_9.dropN 2), ⟨[.slice none 0 0, .int .i64 0], rfl, (TA0.shut Sli.nil)⟩⟩
  ·have k_4 : (x_2.2) = true := by simpa using h_4
   refine wp_skip (T_n (RR (Y f 1 fun _ f => Y15 f p_7 (fzu hM_2 hc_2) 1 rfl fun _ f => Y f 1 fun _ f => Y12 f p_7 (.cells #[.slice none 0 0, .int .i64 0] 31 (0, 0)) fun b_4 w_9 p_10 _ f => Y28 (vs := [.slice none 0 0, .int .i64 d0.fMade]) (j := 0) f p_10 rfl rfl (by simp [Value.oneCell', S]) (by simp) (by decide) (cs' := #[.slice none 0 0, .int .i64 d0.fMade]) (by kernel_rfl) fun w_10 p_11 _ f => eT (R_seq (RR (Y f 1 fun _ f => eT (wp_block ?_)))))))
   obtain ⟨A_3, cap_3, hv_1⟩ : ∃ A cap, Value.slice none 0 0 = .slice A ([] : List TD0).length cap := ⟨none, 0, rfl⟩
   have p_12 : Hp w0 M_2 ((Ent.row 52 3 (.slice A_3 ([] : List TD0).length cap_3) ([] : List TD0).length []) :: (Ent.obj b_4 (.cells #[.slice A_3 ([] : List TD0).length cap_3, .int .i64 d0.fMade] 31 (0, 0))) :: (Ent.obj b_3 (.cells #[S x_2.1.fPhys, S x_2.1.fType, .slice A_2 x_2.1.fProps.length cap_2] 52 (0, 0))) :: (Ent.obj b_2 (.cells #[.slice none 0 0, .int .i64 0] 31 (0, 0))) :: H) w_10 := by rw [← hv_1]; exact p_11.nilRow 52 3
   have hr_2 : RepSeq M_2 (([] : List TD0).map emb_TD0) [] := rfl
   obtain ⟨b_5, hL_1, hF_7⟩ := bS hF_6
   refine wp_mono (Q := fun e a w => (e = .exit 0 ∧ (∃ y_2 : List TD0, b_5 = y_2 ∧ ∃ M_5 : Mem, M_2.le M_5 ∧ ∃ (A_11 : Option Addr), ∃ (cap_11 : Nat), ∃ (cs_5 : List Value), RepSeq M_5 (y_2.map emb_TD0) cs_5 ∧ Frm 52 [(4, .pointer (some (⟨b_2, 0, none⟩))), (8, .pointer (some (⟨b_4, 0, none⟩)))] a ∧ Hp w0 M_5 ((Ent.row 52 3 (.slice A_11 y_2.length cap_11) y_2.length cs_5) :: (Ent.obj b_4 (.cells #[.slice A_11 y_2.length cap_11, .int .i64 d0.fMade] 31 (0, 0))) :: (Ent.obj b_3 (.cells #[S x_2.1.fPhys, S x_2.1.fType, .slice A_2 x_2.1.fProps.length cap_2] 52 (0, 0))) :: (Ent.obj b_2 (.cells #[.slice none 0 0, .int .i64 0] 31 (0, 0))) :: H) w))) (R_loop (n := 52) (w0 := w0) (M := M_2) (fun (x : Nat × (Int × List TD0) × (Option Addr) × Nat × (List Value)) => match x with | (m_1, s_1, A_4, cap_4, cs_1) => [(1, S d1), (2, .pointer (some (⟨b_1, 0, none⟩))), (4, .pointer (some (⟨b_2, 0, none⟩))), (8, .pointer (some (⟨b_4, 0, none⟩))), (9, .int .i64 s_1.1)]) (fun (x : Nat × (Int × List TD0) × (Option Addr) × Nat × (List Value)) => match x with | (m_1, s_1, A_4, cap_4, cs_1) => ((Ent.row 52 3 (.slice A_4 s_1.2.length cap_4) s_1.2.length cs_1) :: (Ent.obj b_4 (.cells #[.slice A_4 s_1.2.length cap_4, .int .i64 d0.fMade] 31 (0, 0))) :: (Ent.obj b_3 (.cells #[S x_2.1.fPhys, S x_2.1.fType, .slice A_2 x_2.1.fProps.length cap_2] 52 (0, 0))) :: (Ent.obj b_2 (.cells #[.slice none 0 0, .int .i64 0] 31 (0, 0))) :: H)) (fun (x : Nat × (Int × List TD0) × (Option Addr) × Nat × (List Value)) (MM : Mem) => match x with | (m_1, s_1, A_4, cap_4, cs_1) => loopF (ref10_Delete_s1 n d0 d1) m_1 s_1 = some b_5 ∧ RepSeq MM (s_1.2.map emb_TD0) cs_1) (fun (x : Nat × (Int × List TD0) × (Option Addr) × Nat × (List Value)) => match x with | (m_1, s_1, A_4, cap_4, cs_1) => m_1) (n, ((0 : Int), ([] : List TD0)), A_3, cap_3, []) (f.kp) p_12 ⟨hL_1, hr_2⟩ ?_) ?_
   ·rintro ⟨m_1, s_1, A_4, cap_4, cs_1⟩ M_3 _ w_11 hM_3 I_1 f p_13
    obtain ⟨I_1L, hr_3⟩ := I_1
    obtain ⟨m_2, r_1, rfl, hs_1, hn_1⟩ := loop_step I_1L
    unfold ref10_Delete_s1 at hs_1
    refine R_seq (RR (Y f 2 fun _ f => Y15 f p_13 (fzu (hM_2.trans hM_3) hc_2) 0 rfl fun _ f => Y f 2 fun _ f => eT (RcF f hs_1 (fun h_5 hF_8 => ?_) fun h_5 hF_17 => ?_)))
    ·have k_5 := dI.1 h_5
     refine wp_skip (T_n (R_seq (wp_block (RR (Y f 1 fun _ f => Y15 f p_13 (fzu (hM_2.trans hM_3) hc_2) 0 rfl fun _ f => Y f 1 fun _ f => ?_)))))
     obtain ⟨x_3, hx_3, hF_9⟩ := bS hF_8
     obtain ⟨ad_1, c_2, e_1, -, hr_4, hc_3⟩ := Sli.at_ (h_1.mono ((hM_1.trans hM_2).trans hM_3)) hx_3
     obtain ⟨A_5, cap_5, rfl, h_6⟩ := TD0.opn hr_4
     refine Z f (Y31 e_1 rfl (len := d0.fL.length) (cap := cap_1) (k := .i64) (i := s_1.1) (e := 52) (sz := 3) (getI_nn hx_3) (getI_lt hx_3)) fun _ f => Y f 1 fun _ f => Y15 f p_13 hc_3 0 rfl fun _ f => Y f 1 fun _ f => Z f (Y39 rfl (l := x_3.fPhys) (m := d1)) fun _ f => eT (RcF f hF_9 (fun h_7 hF_10 => ?_) fun h_7 hF_15 => ?_)
     ·have k_6 : ¬ (x_3.fPhys = d1) := (not_iff dI).1 h_7
      obtain ⟨j_1, hj_1, hF_11⟩ := bS hF_10
      refine R_mid (fun a_59 w_20 => ∃ y_1 : List TD0, j_1 = y_1 ∧ ∃ M_4 : Mem, M_3.le M_4 ∧ ∃ (A_10 : Option Addr), ∃ (cap_10 : Nat), ∃ (cs_4 : List Value), RepSeq M_4 (y_1.map emb_TD0) cs_4 ∧ Frm 52 [(1, S d1), (2, .pointer (some (⟨b_1, 0, none⟩))), (4, .pointer (some (⟨b_2, 0, none⟩))), (8, .pointer (some (⟨b_4, 0, none⟩))), (9, .int .i64 s_1.1)] a_59 ∧ Hp w0 M_4 ((Ent.row 52 3 (.slice A_10 y_1.length cap_10) y_1.length cs_4) :: (Ent.obj b_4 (.cells #[.slice A_10 y_1.length cap_10, .int .i64 d0.fMade] 31 (0, 0))) :: (Ent.obj b_3 (.cells #[S x_2.1.fPhys, S x_2.1.fType, .slice A_2 x_2.1.fProps.length cap_2] 52 (0, 0))) :: (Ent.obj b_2 (.cells #[.slice none 0 0, .int .i64 0] 31 (0, 0))) :: H) w_20) ?_ ?_
      ·obtain ⟨x_4, hx_4, hF_12⟩ := bS hj_1
       obtain ⟨g_1, hF_13⟩ := nS hF_12
       refine R_plan (ks := [9, 10]) (E := [Ent.row 52 3 (.slice A_4 s_1.2.length cap_4) s_1.2.length cs_1]) (Hr := ((Ent.obj b_4 (.cells #[.slice A_4 s_1.2.length cap_4, .int .i64 d0.fMade] 31 (0, 0))) :: (Ent.obj b_3 (.cells #[S x_2.1.fPhys, S x_2.1.fType, .slice A_2 x_2.1.fProps.length cap_2] 52 (0, 0))) :: (Ent.obj b_2 (.cells #[.slice none 0 0, .int .i64 0] 31 (0, 0))) :: H)) (.quiet 0 (.quiet 1 (.quiet 2 (.quiet 3 (.quiet 4 (.quiet 5 (.quiet 6 (.alt 7 (.alt 8 .done .none) .none)))))))) p_13 (by kernel_rfl) (by kernel_rfl) (by kernel_rfl) (Y1 (v := .pointer (some (⟨b_4, 0, none⟩))) rfl f rfl rfl (fun _ _ => by kernel_rfl) fun _ f => Y1 (v := .slice A_4 s_1.2.length cap_4) rfl f rfl rfl (fun _ pq => Y32 (v := .slice A_4 s_1.2.length cap_4) rfl (ad := ⟨b_4, 0, none⟩) (pq.ownCell 0 rfl 0)) fun _ f => Y1 (v := .pointer (some ((⟨b_1, 0, none⟩ : Addr).add 0))) rfl f rfl rfl (fun _ _ => by kernel_rfl) fun _ f => Y1 (v := .slice A_1 d0.fL.length cap_1) rfl f rfl rfl (fun _ pq => Y32 (v := .slice A_1 d0.fL.length cap_1) rfl (ad := (⟨b_1, 0, none⟩ : Addr).add 0) (pq.cell ((fzu (hM_2.trans hM_3) hc_2) 0 _ rfl))) fun _ f => Y1 (v := .int .i64 s_1.1) rfl f rfl rfl (fun _ _ => by kernel_rfl) fun _ f => ?_)
       obtain ⟨ad_3, c_4, e_3, -, hr_7, hc_5⟩ := Sli.at_ (h_1.mono ((hM_1.trans hM_2).trans hM_3)) hx_4
       obtain ⟨A_8, cap_8, rfl, h_9⟩ := TD0.opn hr_7
       refine Y1 (v := .pointer (some (ad_3.add (s_1.1.toNat * 3)))) rfl f rfl rfl (fun _ pq => Y31 e_3 rfl (len := d0.fL.length) (cap := cap_1) (k := .i64) (i := s_1.1) (e := 52) (sz := 3) (getI_nn hx_4) (getI_lt hx_4)) fun _ f => Y1 (v := .agg #[S x_4.fPhys, S x_4.fType, .slice A_8 x_4.fProps.length cap_8]) rfl f rfl rfl (fun _ pq => Y33 (cs := [S x_4.fPhys, S x_4.fType, .slice A_8 x_4.fProps.length cap_8]) rfl (ad := ad_3.add (s_1.1.toNat * 3)) (fun j v h => pq.cell (hc_5 j v h))) fun _ f => N_alt rfl (fun w_14 p_19 => ?_) ?_
       ·refine V_allocS (k := 1) (c := 1) f p_19 (.cells #[S x_4.fPhys, S x_4.fType, .slice A_8 x_4.fProps.length cap_8] 52 (0, 0)) (by kernel_rfl) (fun _ => by kernel_rfl) fun b_7 w_15 p_20 _ f => W_end rfl (N_goN 2 (mR _) p_20 rfl (N_alt rfl (fun w_16 p_21 => ?_) ?_))
        ·have p_22 := p_21.pl [1]
         refine Y22 (z := .agg #[S [], S [], .slice none 0 0]) (f := emb_TD0) (xs := s_1.2) (ys := [(⟨x_4.fPhys, x_4.fType, x_4.fProps⟩ : TD0)]) (news := [S x_4.fPhys, S x_4.fType, .slice A_8 x_4.fProps.length cap_8]) (ad := ⟨b_7, 0, none⟩) (m := 1) (c := 1) f p_22 hr_3 (by exact ⟨_, _, rfl, TD0.shut h_9, rfl⟩) rfl rfl rfl rfl (own_cells (p_22.ownCell 1 rfl) 0 rfl) (by exact g_1) (by have hg_ := g_1; first | omega | (simp only [List.length_cons, List.length_nil] at *; omega)) fun A_9 cap_9 cs_3 w_17 p_23 hr_8 _ f => ?_
         have p_24 := p_23.pl [1]
         have p_25 := p_24.drop
         refine W_end rfl (N_goN 1 (mR _) p_25 rfl (N_tail fun w_18 p_26 => Y f 1 fun _ f => Y27 f p_26 1 rfl rfl (b := b_4) (j := 0) (v := .slice A_9 (s_1.2 ++ [(⟨x_4.fPhys, x_4.fType, x_4.fProps⟩ : TD0)]).length cap_9) rfl (by exact rfl) (by simp) (by simp) ((Ent.row 52 3 (.slice A_9 (s_1.2 ++ [(⟨x_4.fPhys, x_4.fType, x_4.fProps⟩ : TD0)]).length cap_9) (s_1.2 ++ [(⟨x_4.fPhys, x_4.fType, x_4.fProps⟩ : TD0)]).length cs_3) :: (Ent.obj b_4 (.cells #[.slice A_9 (s_1.2 ++ [(⟨x_4.fPhys, x_4.fType, x_4.fProps⟩ : TD0)]).length cap_9, .int .i64 d0.fMade] 31 (0, 0))) :: (Ent.obj b_3 (.cells #[S x_2.1.fPhys, S x_2.1.fType, .slice A_2 x_2.1.fProps.length cap_2] 52 (0, 0))) :: (Ent.obj b_2 (.cells #[.slice none 0 0, .int .i64 0] 31 (0, 0))) :: H) rfl fun w_19 p_27 _ f => W_end rfl (N_te (T_n ?_))))
         exact ⟨s_1.2 ++ [(⟨x_4.fPhys, x_4.fType, x_4.fProps⟩ : TD0)], (sI hF_13).symm, M_3, (mR _), A_9, cap_9, cs_3, hr_8, f.kp, p_27⟩
        exact N_none
       exact N_none
      ·rintro a_59 w_20 ⟨y_1, hq_1, M_4, hM_4, A_10, cap_10, cs_4, hr_9, f, p_28⟩
       subst j_1
       refine B_n (T_n (R_reg (Y f 1 fun _ f => ?_)))
       obtain ⟨g_2, hF_14⟩ := nS hF_11
       refine Y f 1 fun _ f => ?_
       have f := f.st 32 (congrArg (Value.int .i64) (inR_wrap g_2))
       refine Y f 1 fun _ f => eT ?_
       obtain rfl := sI hF_14
       exact ⟨⟨m_2, (s_1.1 + 1, y_1), A_10, cap_10, cs_4⟩, Nat.lt_succ_self _, M_4, (hM_3.trans hM_4), ⟨hn_1, hr_9⟩, f.kp, p_28⟩
     ·have k_7 : ¬ (¬ (x_3.fPhys = d1)) := iff_f (not_iff dI) h_7
      refine wp_skip (B_n (T_n (R_reg (Y f 1 fun _ f => ?_))))
      obtain ⟨g_3, hF_16⟩ := nS hF_15
      refine Y f 1 fun _ f => ?_
      have f := f.st 32 (congrArg (Value.int .i64) (inR_wrap g_3))
      refine Y f 1 fun _ f => eT ?_
      obtain rfl := sI hF_16
      exact ⟨⟨m_2, (s_1.1 + 1, s_1.2), A_4, cap_4, cs_1⟩, Nat.lt_succ_self _, M_3, hM_3, ⟨hn_1, hr_3⟩, f.kp, p_13⟩
    ·have k_8 := iff_f dI h_5
     refine wp_exit (T_x (T_x ?_))
     obtain rfl := sI hF_17
     exact ⟨rfl, s_1.2, (sI hn_1).symm, M_3, hM_3, A_4, cap_4, cs_1, hr_3, f.kp, p_13⟩
   ·rintro _ _ w_22 ⟨rfl, y_2, hq_, M_5, hM_5, A_11, cap_11, cs_5, hr_10, f, p_29⟩
    subst b_5
    refine B_x (T_n (RR (Z (v := .agg #[.slice A_11 y_2.length cap_11, .int .i64 d0.fMade]) f (Y33 (cs := [.slice A_11 y_2.length cap_11, .int .i64 d0.fMade]) rfl (ad := ⟨b_4, 0, none⟩) (own_cells (p_29.ownCell 1 rfl) 0 rfl)) fun _ f => ?_)))
    obtain ⟨A_12, cap_12, M_6, hv_2, hM_6, p_30, h_10⟩ := p_29.rowSli (f := emb_TD0) (xs := y_2) szd_TD0 hr_10
    have f := Frm.set f 51 (v := .agg #[.slice A_11 y_2.length cap_11, .int .i64 d0.fMade]) (v' := .agg #[.slice A_12 y_2.length cap_12, .int .i64 d0.fMade]) (by kernel_rfl) (by rw [hv_2])
    have p_31 : Hp w0 M_6 ((Ent.obj b_4 (.cells #[.slice A_12 y_2.length cap_12, .int .i64 d0.fMade] 31 (0, 0))) :: (Ent.obj b_3 (.cells #[S x_2.1.fPhys, S x_2.1.fType, .slice A_2 x_2.1.fProps.length cap_2] 52 (0, 0))) :: (Ent.obj b_2 (.cells #[.slice none 0 0, .int .i64 0] 31 (0, 0))) :: H) w_22 := by rw [hv_2] at p_30; exact p_30
    have p_32 := p_31.pl [2]
    refine Y28 (vs := [.slice A_12 y_2.length cap_12, .int .i64 d0.fMade]) (j := 0) f p_32 rfl rfl (by simp [Value.oneCell', S]) (by simp) (by decide) (cs' := #[.slice A_12 y_2.length cap_12, .int .i64 d0.fMade]) (by kernel_rfl) fun w_23 p_33 _ f => Y f 1 fun _ f => eT (wp_ret (E_rv2 f rfl (Y10 (cs := [.slice A_12 y_2.length cap_12, .int .i64 d0.fMade]) (ad := ⟨b_2, 0, none⟩) f (own_cells (p_33.ownCell 0 rfl) 0 rfl)) (Y11 (v := .int .i64 0) f) ?_))
    obtain rfl := sI hF_7
    exact ⟨_, rfl, M_6, (((hM_1.trans hM_2).trans hM_5).trans hM_6), (p_33.dropN 3), ⟨[.slice A_12 y_2.length cap_12, .int .i64 d0.fMade], rfl, (TA0.shut h_10)⟩⟩
def ref10_Great_s1 (n : Nat) (d0 : TA0) (s_1 : Int) : Option (Lp Int (Sum Unit Unit)) :=
    ((bif (decide (s_1 < ((d0.fL.length : Nat) : Int))) then
        (some ((decide (s_1 ≤ 40))))
      else
        some ((false)) : Option Bool)).bind fun y_1 =>
    bif y_1 then
      ((getI d0.fL s_1).bind fun x_1 =>
      (ref09_Great n x_1.fProps).bind fun x_2 =>
      bif x_2 then
        (some (.br (.inl ())))
      else
        (getI d0.fL s_1).bind fun x_3 =>
        bif (decide ((200 : Int) < (x_3.fType.length : Int))) then
          (some (.br (.inl ())))
        else
          (getI d0.fL s_1).bind fun x_4 =>
          bif (decide ((200 : Int) < (x_4.fPhys.length : Int))) then
            (some (.br (.inl ())))
          else
            need (inR .i64 (s_1 + 1)) <|
            some (.nx (s_1 + 1)))
    else
      some (.br (.inr ()))
def ref10_Great (n : Nat) (d0 : TA0) : Option Bool :=
  (loopF (ref10_Great_s1 n d0) n (0 : Int)).bind fun b_2 =>
  (match b_2 with 
  | .inl y_2 => some ((true)) 
  | .inr y_3 => some ((decide ((40 : Int) < ((d0.fL.length : Nat) : Int)))))
theorem ref10_Great_ok (n : Nat) (M : Mem) (hG : GL M) (c0 : List Value) (d0 : TA0) (h0 : Rep M (emb_TA0 d0) c0) (r : Bool) (hF : ref10_Great n d0 = some r) : Ok Tryz.prog M 37 [.agg c0.toArray] (fun _ v => v = .bool r) := by
 unfold ref10_Great at hF
 intro M1 hM0 w0 H w p0
 replace hG := GL.mono hM0 hG
 replace h0 := Rep.mono hM0 _ _ h0
 obtain ⟨A_1, cap_1, rfl, h_1⟩ := TA0.opn h0
 refine R_enter 46 Tryz.func37 rfl rfl (by simp) fun a0 f0 => RR (Y13 (cs := #[.slice A_1 d0.fL.length cap_1, .int .i64 d0.fMade]) (T := 31) f0 p0 fun b_1 M_1 w_1 hM_1 hc_1 p_1 _ f => ?_)
 have hc_2 := fz_box hc_1
 refine Y f 1 fun _ f => eT (R_seq (RR (Y f 1 fun _ f => eT (wp_block ?_))))
 obtain ⟨b_2, hL_1, hF_1⟩ := bS hF
 refine wp_mono (Q := fun e a w => (e = .ret ∧ (∃ y_2 : Unit, b_2 = .inl y_2 ∧ ∃ M_4 : Mem, M_1.le M_4 ∧ Frm 46 [(2, .bool true)] a ∧ Hp w0 M_4 (H) w)) ∨ (e = .exit 0 ∧ (∃ y_3 : Unit, b_2 = .inr y_3 ∧ ∃ M_5 : Mem, M_1.le M_5 ∧ Frm 46 [(1, .pointer (some (⟨b_1, 0, none⟩)))] a ∧ Hp w0 M_5 (H) w))) (R_loop (n := 46) (w0 := w0) (M := M_1) (fun (x : Nat × Int) => match x with | (m_1, s_1) => [(1, .pointer (some (⟨b_1, 0, none⟩))), (3, .int .i64 s_1)]) (fun (x : Nat × Int) => match x with | (m_1, s_1) => (H)) (fun (x : Nat × Int) (MM : Mem) => match x with | (m_1, s_1) => loopF (ref10_Great_s1 n d0) m_1 s_1 = some b_2) (fun (x : Nat × Int) => match x with | (m_1, s_1) => m_1) (n, (0 : Int)) (f.kp) p_1 hL_1 ?_) ?_
 ·rintro ⟨m_1, s_1⟩ M_2 _ w_2 hM_2 I_1 f p_2
  have I_1L := I_1
  obtain ⟨m_2, r_1, rfl, hs_1, hn_1⟩ := loop_step I_1L
  unfold ref10_Great_s1 at hs_1
  refine R_seq (R_seq ?_)
  obtain ⟨j_1, hj_1, hF_2⟩ := bS hs_1
  refine R_mid (fun a_10 w_3 => ∃ y_1 : Bool, j_1 = y_1 ∧ ∃ M_3 : Mem, M_2.le M_3 ∧ Frm 46 [(1, .pointer (some (⟨b_1, 0, none⟩))), (3, .int .i64 s_1), (12, .bool y_1)] a_10 ∧ Hp w0 M_3 (H) w_3) ?_ ?_
  ·refine R_reg (Y f 2 fun _ f => Y15 f p_2 (fzu hM_2 hc_2) 0 rfl fun _ f => Y f 3 fun _ f => ?_)
   rcases cE hj_1 with ⟨h_2, hF_3⟩ | ⟨h_2, hF_4⟩
   ·have k_1 := dI.1 h_2
    have f := f.st 9 (cB h_2)
    refine Y f 3 fun _ f => eT ?_
    exact ⟨(decide (s_1 ≤ 40)), (sI hF_3).symm, M_2, (mR _), f.kp, p_2⟩
   ·have k_2 := iff_f dI h_2
    have f := f.st 9 (cB h_2)
    refine Y f 3 fun _ f => eT ?_
    exact ⟨(false), (sI hF_4).symm, M_2, (mR _), f.kp, p_2⟩
  ·rintro a_10 w_3 ⟨y_1, hq_1, M_3, hM_3, f, p_3⟩
   subst j_1
   refine T_n (RcF f hF_2 (fun h_3 hF_5 => ?_) fun h_3 hF_17 => ?_)
   ·refine wp_skip (T_n (R_seq (wp_block (RR (Y f 1 fun _ f => Y15 f p_3 (fzu (hM_2.trans hM_3) hc_2) 0 rfl fun _ f => Y f 1 fun _ f => ?_)))))
    obtain ⟨x_1, hx_1, hF_6⟩ := bS hF_5
    obtain ⟨ad_1, c_1, e_1, -, hr_1, hc_3⟩ := Sli.at_ (h_1.mono ((hM_1.trans hM_2).trans hM_3)) hx_1
    obtain ⟨A_2, cap_2, rfl, h_4⟩ := TD0.opn hr_1
    refine Z f (Y31 e_1 rfl (len := d0.fL.length) (cap := cap_1) (k := .i64) (i := s_1) (e := 52) (sz := 3) (getI_nn hx_1) (getI_lt hx_1)) fun _ f => Y f 1 fun _ f => Y15 f p_3 hc_3 2 rfl fun _ f => ?_
    obtain ⟨x_2, hx_2, hF_7⟩ := bS hF_6
    refine Y18 f p_3 (ref09_Great_ok n _ (GL.mono ((hM_1.trans hM_2).trans hM_3) hG) A_2 cap_2 x_1.fProps h_4 x_2 hx_2) fun w_4 p_4 _ f => Y f 1 fun _ f => ?_
    rcases cE hF_7 with ⟨h_5, hF_8⟩ | ⟨h_5, hF_9⟩
    ·have f := f.st 22 (cB h_5)
     refine Y f 19 fun _ f => eT (Y8 f (RR (Y f 1 fun _ f => eT (wp_ret (B_r (T_r (T_r ?_)))))))
     obtain rfl := sI hF_8
     exact .inl ⟨rfl, (), (sI hn_1).symm, M_3, (hM_2.trans hM_3), f.kp, p_4⟩
    ·have f := f.st 22 (cB h_5)
     refine Y f 1 fun _ f => Y15 f p_4 (fzu (hM_2.trans hM_3) hc_2) 0 rfl fun _ f => Y f 1 fun _ f => ?_
     obtain ⟨x_3, hx_3, hF_10⟩ := bS hF_9
     obtain ⟨ad_2, c_2, e_2, -, hr_2, hc_4⟩ := Sli.at_ (h_1.mono ((hM_1.trans hM_2).trans hM_3)) hx_3
     obtain ⟨A_3, cap_3, rfl, h_6⟩ := TD0.opn hr_2
     refine Z f (Y31 e_2 rfl (len := d0.fL.length) (cap := cap_1) (k := .i64) (i := s_1) (e := 52) (sz := 3) (getI_nn hx_3) (getI_lt hx_3)) fun _ f => Y f 1 fun _ f => Y15 f p_4 hc_4 1 rfl fun _ f => Y f 4 fun _ f => ?_
     rcases cE hF_10 with ⟨h_7, hF_11⟩ | ⟨h_7, hF_12⟩
     ·have k_6 := dI.1 h_7
      have f := f.st 32 (cB h_7)
      refine Y f 9 fun _ f => eT (Y8 f (RR (Y f 1 fun _ f => eT (wp_ret (B_r (T_r (T_r ?_)))))))
      obtain rfl := sI hF_11
      exact .inl ⟨rfl, (), (sI hn_1).symm, M_3, (hM_2.trans hM_3), f.kp, p_4⟩
     ·have k_7 := iff_f dI h_7
      have f := f.st 32 (cB h_7)
      refine Y f 1 fun _ f => Y15 f p_4 (fzu (hM_2.trans hM_3) hc_2) 0 rfl fun _ f => Y f 1 fun _ f => ?_
      obtain ⟨x_4, hx_4, hF_13⟩ := bS hF_12
      obtain ⟨ad_3, c_3, e_3, -, hr_3, hc_5⟩ := Sli.at_ (h_1.mono ((hM_1.trans hM_2).trans hM_3)) hx_4
      obtain ⟨A_4, cap_4, rfl, h_8⟩ := TD0.opn hr_3
      refine Z f (Y31 e_3 rfl (len := d0.fL.length) (cap := cap_1) (k := .i64) (i := s_1) (e := 52) (sz := 3) (getI_nn hx_4) (getI_lt hx_4)) fun _ f => Y f 1 fun _ f => Y15 f p_4 hc_5 0 rfl fun _ f => Y f 3 fun _ f => eT (RcF f hF_13 (fun h_9 hF_14 => ?_) fun h_9 hF_15 => ?_)
      ·have k_8 := dI.1 h_9
       refine RR (Y f 1 fun _ f => eT (wp_ret (B_r (T_r (T_r ?_)))))
       obtain rfl := sI hF_14
       exact .inl ⟨rfl, (), (sI hn_1).symm, M_3, (hM_2.trans hM_3), f.kp, p_4⟩
      ·have k_9 := iff_f dI h_9
       refine wp_skip (B_n (T_n (R_reg (Y f 1 fun _ f => ?_))))
       obtain ⟨g_1, hF_16⟩ := nS hF_15
       refine Y f 1 fun _ f => ?_
       have f := f.st 14 (congrArg (Value.int .i64) (inR_wrap g_1))
       refine Y f 1 fun _ f => eT ?_
       obtain rfl := sI hF_16
       exact ⟨⟨m_2, s_1 + 1⟩, Nat.lt_succ_self _, M_3, (hM_2.trans hM_3), hn_1, f.kp, p_4⟩
   ·refine wp_exit (T_x (T_x ?_))
    obtain rfl := sI hF_17
    exact .inr ⟨rfl, (), (sI hn_1).symm, M_3, (hM_2.trans hM_3), f.kp, p_3⟩
 ·rintro _ _ w_7 (⟨rfl, y_2, rfl, M_4, hM_4, f, p_5⟩ | ⟨rfl, y_3, rfl, M_5, hM_5, f, p_6⟩)
  ·refine B_r (T_r (E_ret1 f rfl (by kernel_rfl : Vc.look _ 2 = some (.bool true)) ?_))
   obtain rfl := sI hF_1
   exact ⟨_, rfl, M_4, (hM_1.trans hM_4), p_5, rfl⟩
  ·refine B_x (T_n (RR (Y f 1 fun _ f => Y15 f p_6 (fzu hM_5 hc_2) 0 rfl fun _ f => Y f 3 fun _ f => eT (wp_ret (E_ret1 f rfl (by kernel_rfl : Vc.look _ 2 = some (.bool (decide ((40 : Int) < ((d0.fL.length : Nat) : Int))))) ?_)))))
   obtain rfl := sI hF_1
   exact ⟨_, rfl, M_5, (hM_1.trans hM_5), p_6, rfl⟩
def law10_own (n : Nat) (d0 : TB0) : Option TA0 :=
  some ((⟨d0.fL, d0.fMade⟩ : TA0))
theorem law10_own_ok (n : Nat) (M : Mem) (hG : GL M) (c0 : List Value) (d0 : TB0) (h0 : Rep M (emb_TB0 d0) c0) (r : TA0) (hF : law10_own n d0 = some r) : Ok Tryz.prog M 11 [.agg c0.toArray] (fun M' v => ∃ (c0 : List Value), v = .agg c0.toArray ∧ Rep M' (emb_TA0 r) c0) := by
 unfold law10_own at hF
 intro M1 hM0 w0 H w p0
 replace hG := GL.mono hM0 hG
 replace h0 := Rep.mono hM0 _ _ h0
 obtain ⟨A_1, cap_1, rfl, h_1⟩ := TB0.opn h0
 refine R_enter 8 Tryz.func11 rfl rfl (by simp) fun a0 f0 => RR (Y13 (cs := #[.slice A_1 d0.fL.length cap_1, .int .i64 d0.fMade]) (T := 24) f0 p0 fun b_1 M_1 w_1 hM_1 hc_1 p_1 _ f => ?_)
 have hc_2 := fz_box hc_1
 refine Y12 f p_1 (.cells #[.slice none 0 0, .int .i64 0] 31 (0, 0)) fun b_2 w_2 p_2 _ f => eT (RR (Y f 1 fun _ f => Y15 f p_2 hc_2 0 rfl fun _ f => Y f 1 fun _ f => Y15 f p_2 hc_2 1 rfl fun _ f => Y f 1 fun _ f => Y28 (vs := [.slice A_1 d0.fL.length cap_1, .int .i64 d0.fMade]) (j := 0) f p_2 rfl rfl (by simp [Value.oneCell', S]) (by simp) (by decide) (cs' := #[.slice A_1 d0.fL.length cap_1, .int .i64 d0.fMade]) (by kernel_rfl) fun w_3 p_3 _ f => eT (wp_ret (E_rv1 f rfl (Y10 (cs := [.slice A_1 d0.fL.length cap_1, .int .i64 d0.fMade]) (ad := ⟨b_2, 0, none⟩) f (own_cells (p_3.ownCell 0 rfl) 0 rfl)) ?_))))
 obtain rfl := sI hF
 exact ⟨_, rfl, M_1, hM_1, (p_3.dropN 1), ⟨[.slice A_1 d0.fL.length cap_1, .int .i64 d0.fMade], rfl, (TA0.shut (h_1.mono hM_1))⟩⟩
def law10_Great (n : Nat) (d0 : TB0) (d1 : List TE0) (d2 : List UInt8) : Option Bool :=
  (law10_own n d0).bind fun x_1 =>
  (ref10_Great n x_1).bind fun x_2 =>
  bif x_2 then
    (some ((true)))
  else
    (ref09_Great n d1).bind fun x_3 =>
    bif x_3 then
      (some ((true)))
    else
      some ((decide ((400 : Int) < (d2.length : Int))))
theorem law10_Great_ok (n : Nat) (M : Mem) (hG : GL M) (c0 : List Value) (d0 : TB0) (h0 : Rep M (emb_TB0 d0) c0) (A1 : Option Addr) (cap1 : Nat) (d1 : List TE0) (h1 : Sli M 8 emb_TE0 A1 cap1 d1) (d2 : List UInt8) (r : Bool) (hF : law10_Great n d0 d1 d2 = some r) : Ok Tryz.prog M 7 [.agg c0.toArray, .slice A1 d1.length cap1, S d2] (fun _ v => v = .bool r) := by
 unfold law10_Great at hF
 intro M1 hM0 w0 H w p0
 replace hG := GL.mono hM0 hG
 replace h0 := Rep.mono hM0 _ _ h0
 replace h1 := h1.mono hM0
 obtain ⟨A_1, cap_1, rfl, h_1⟩ := TB0.opn h0
 refine R_enter 19 Tryz.func7 rfl rfl (by simp) fun a0 f0 => RR (Y13 (cs := #[.slice A_1 d0.fL.length cap_1, .int .i64 d0.fMade]) (T := 24) f0 p0 fun b_1 M_1 w_1 hM_1 hc_1 p_1 _ f => ?_)
 have hc_2 := fz_box hc_1
 refine Y f 1 fun _ f => eT (RR (Z (v := .agg #[.slice A_1 d0.fL.length cap_1, .int .i64 d0.fMade]) f (Y33 (cs := [.slice A_1 d0.fL.length cap_1, .int .i64 d0.fMade]) rfl (ad := ⟨b_1, 0, none⟩) (fun j v h => p_1.cell (hc_2 j v h))) fun _ f => ?_))
 obtain ⟨x_1, hx_1, hF_1⟩ := bS hF
 refine Y16 f p_1 (law10_own_ok n _ (GL.mono hM_1 hG) _ d0 (TB0.shutx (x := d0) (h_1.mono hM_1)) x_1 hx_1) fun _ M_2 w_2 hM_2 p_2 q_1 _ f => ?_
 obtain ⟨c_1, rfl, hr_1⟩ := q_1
 obtain ⟨A_2, cap_2, rfl, h_2⟩ := TA0.opn hr_1
 obtain ⟨x_2, hx_2, hF_2⟩ := bS hF_1
 refine Y18 f p_2 (ref10_Great_ok n _ (GL.mono (hM_1.trans hM_2) hG) _ x_1 (TA0.shutx (x := x_1) h_2) x_2 hx_2) fun w_3 p_3 _ f => Y f 1 fun _ f => ?_
 rcases cE hF_2 with ⟨h_3, hF_3⟩ | ⟨h_3, hF_4⟩
 ·have f := f.st 10 (cB h_3)
  refine Y f 9 fun _ f => eT (wp_ret (E_ret1 f rfl (by kernel_rfl : Vc.look _ 6 = some (.bool true)) ?_))
  obtain rfl := sI hF_3
  exact ⟨_, rfl, M_2, (hM_1.trans hM_2), p_3, rfl⟩
 ·have f := f.st 10 (cB h_3)
  refine Y f 1 fun _ f => ?_
  obtain ⟨x_3, hx_3, hF_5⟩ := bS hF_4
  refine Y18 f p_3 (ref09_Great_ok n _ (GL.mono (hM_1.trans hM_2) hG) A1 cap1 d1 (h1.mono (hM_1.trans hM_2)) x_3 hx_3) fun w_4 p_4 _ f => Y f 2 fun _ f => ?_
  rcases cE hF_5 with ⟨h_4, hF_6⟩ | ⟨h_4, hF_7⟩
  ·have f := f.st 14 (cB h_4)
   refine Y f 5 fun _ f => eT (wp_ret (E_ret1 f rfl (by kernel_rfl : Vc.look _ 6 = some (.bool true)) ?_))
   obtain rfl := sI hF_6
   exact ⟨_, rfl, M_2, (hM_1.trans hM_2), p_4, rfl⟩
  ·have f := f.st 14 (cB h_4)
   refine Y f 5 fun _ f => eT (wp_ret (E_ret1 f rfl (by kernel_rfl : Vc.look _ 6 = some (.bool (decide ((400 : Int) < (d2.length : Int))))) ?_))
   obtain rfl := sI hF_7
   exact ⟨_, rfl, M_2, (hM_1.trans hM_2), p_4, rfl⟩
def law10_same (n : Nat) (d0 : TB0) (d1 : TA0) : Option Bool :=
  (law10_own n d0).bind fun x_1 =>
  (ref10_Same n x_1 d1).bind fun x_2 =>
  some ((x_2))
theorem law10_same_ok (n : Nat) (M : Mem) (hG : GL M) (c0 : List Value) (d0 : TB0) (h0 : Rep M (emb_TB0 d0) c0) (c1 : List Value) (d1 : TA0) (h1 : Rep M (emb_TA0 d1) c1) (r : Bool) (hF : law10_same n d0 d1 = some r) : Ok Tryz.prog M 16 [.agg c0.toArray, .agg c1.toArray] (fun _ v => v = .bool r) := by
 unfold law10_same at hF
 intro M1 hM0 w0 H w p0
 replace hG := GL.mono hM0 hG
 replace h0 := Rep.mono hM0 _ _ h0
 replace h1 := Rep.mono hM0 _ _ h1
 obtain ⟨A_1, cap_1, rfl, h_1⟩ := TB0.opn h0
 obtain ⟨A_2, cap_2, rfl, h_2⟩ := TA0.opn h1
 refine R_enter 9 Tryz.func16 rfl rfl (by simp) fun a0 f0 => RR (Y13 (cs := #[.slice A_1 d0.fL.length cap_1, .int .i64 d0.fMade]) (T := 24) f0 p0 fun b_1 M_1 w_1 hM_1 hc_1 p_1 _ f => ?_)
 have hc_2 := fz_box hc_1
 refine Y13 (cs := #[.slice A_2 d1.fL.length cap_2, .int .i64 d1.fMade]) (T := 31) f p_1 fun b_2 M_2 w_2 hM_2 hc_3 p_2 _ f => ?_
 have hc_4 := fz_box hc_3
 refine Y f 1 fun _ f => eT (R_seq (R_mix (E := []) (Hr := (H)) [(0, true), (2, true), (1, false), (3, false), (4, true)] p_2 (by kernel_rfl) (by kernel_rfl) rfl (by kernel_rfl) (M_eq (v := .agg #[.slice A_1 d0.fL.length cap_1, .int .i64 d0.fMade]) f (by kernel_rfl) (by kernel_rfl) rfl rfl (fun _ pq => Y33 (cs := [.slice A_1 d0.fL.length cap_1, .int .i64 d0.fMade]) rfl (ad := ⟨b_1, 0, none⟩) (fun j v h => pq.cell ((fzu hM_2 hc_2) j v h))) fun _ f => M_eq (v := .agg #[.slice A_2 d1.fL.length cap_2, .int .i64 d1.fMade]) f (by kernel_rfl) (by kernel_rfl) rfl rfl (fun _ pq => Y33 (cs := [.slice A_2 d1.fL.length cap_2, .int .i64 d1.fMade]) rfl (ad := ⟨b_2, 0, none⟩) (fun j v h => pq.cell (hc_4 j v h))) fun _ f => M_fix (E := []) fun w_3 p_3 => ?_)))
 obtain ⟨x_1, hx_1, hF_1⟩ := bS hF
 refine Y16 f p_3 (law10_own_ok n _ (GL.mono (hM_1.trans hM_2) hG) _ d0 (TB0.shutx (x := d0) (h_1.mono (hM_1.trans hM_2))) x_1 hx_1) fun _ M_3 w_4 hM_3 p_4 q_1 _ f => ?_
 obtain ⟨c_1, rfl, hr_1⟩ := q_1
 obtain ⟨A_3, cap_3, rfl, h_3⟩ := TA0.opn hr_1
 refine W_end rfl (M_go (M1 := M_3) (E := []) hM_3 p_4 (M_fix (E := []) fun w_5 p_5 => ?_))
 obtain ⟨x_2, hx_2, hF_2⟩ := bS hF_1
 refine Y18 f p_5 (ref10_Same_ok n _ (GL.mono ((hM_1.trans hM_2).trans hM_3) hG) _ x_1 (TA0.shutx (x := x_1) h_3) _ d1 (TA0.shutx (x := d1) (h_2.mono ((hM_1.trans hM_2).trans hM_3))) x_2 hx_2) fun w_6 p_6 _ f => W_end rfl (M_go (M1 := M_3) (E := []) hM_3 p_6 (Y0 default f 1 fun _ f => M_end rfl fun w_7 p_7 => T_n (wp_ret (E_ret1 f rfl (by kernel_rfl : Vc.look _ 4 = some (.bool x_2)) ?_))))
 obtain rfl := sI hF_2
 exact ⟨_, rfl, M_3, ((hM_1.trans hM_2).trans hM_3), p_7, rfl⟩
def numR (d : List UInt8) : Int × Bool := if (Go.Num.read (d.drop 1)).2 = 0 ∧ 1 ≤ (Go.Num.read (d.drop 1)).1 ∧ (Go.Num.read (d.drop 1)).1 ≤ 1099511627776 then ((Go.Num.read (d.drop 1)).1, true) else (0, false)
def numV (d : List UInt8) : Int × Bool := if d = [] ∨ d.getD 0 0 ≠ 112 then (0, false) else numR d
def physV (m : Int) : List UInt8 := 112 :: (Go.Num.text m).1
theorem fits_most {m : Int} (h0 : 1 ≤ m) (h1 : m ≤ 1099511627776) : Go.Num.fitsB m = true := Go.Num.fitsB_iff.2 ⟨by omega, by omega⟩
theorem byte_eq (c : UInt8) : (!decide (((c).toNat : Int) = 112)) = decide (c ≠ 112) := by
 by_cases h : c = 112
 ·subst h; rfl
 ·have : ¬ ((c.toNat : Int) = 112) := fun e => h (UInt8.toNat_inj.1 (show c.toNat = 112 by omega))
  rw [decide_eq_false this, decide_eq_true h]; rfl
theorem num_tail {n : Nat} {d : List UInt8} {r : Int × Int} (hr : r = Go.Num.read (d.drop 1)) :
  (bif (!(decide (r.2 = 0))) then (some (((0 : Int), (false)))) else bif (decide (r.1 < 1)) then (some (((0 : Int), (false)))) else bif (decide ((1099511627776 : Int) < r.1)) then (some (((0 : Int), (false)))) else some ((r.1, (true))) : Option (Int × Bool)) = some (numR d) := by
 subst hr
 unfold numR
 by_cases h1 : (Go.Num.read (d.drop 1)).2 = 0
 ·rw [decide_eq_true h1, Bool.not_true, cF]
  by_cases h2 : (Go.Num.read (d.drop 1)).1 < 1
  ·rw [decide_eq_true h2, cT, if_neg (by omega)]
  ·rw [decide_eq_false h2, cF]
   by_cases h3 : (1099511627776 : Int) < (Go.Num.read (d.drop 1)).1
   ·rw [decide_eq_true h3, cT, if_neg (by omega)]
   ·rw [decide_eq_false h3, cF, if_pos ⟨h1, by omega, by omega⟩]
 ·rw [decide_eq_false h1, Bool.not_false, cT, if_neg (fun h => h1 h.1)]
theorem one_nat : (1 : Int).toNat = 1 := rfl
theorem number_run {n : Nat} {d : List UInt8} (hd : d.length ≤ 1000) : store_Number n d = some (numV d) := by
 unfold store_Number numV h_numRead
 cases d with
 | nil => rw [decide_eq_true rfl, cT, bnd, cT, if_pos (.inl rfl)]
 | cons c d =>
  have hg : getI (c :: d) (0 : Int) = some c := rfl
  rw [decide_eq_false (by simp), cF, hg, bnd, bnd, byte_eq]
  by_cases hc : c = 112
  ·rw [decide_eq_false (fun h => h hc), cF, need_t (by simp only [List.length_cons] at *; omega), need_t (by rw [List.length_drop]; omega), bnd, if_neg (by simp [hc]), one_nat]
   exact num_tail (n := n) rfl
  ·rw [decide_eq_true hc, cT, if_pos (.inr hc)]
theorem read_len {s : List UInt8} (h : (Go.Num.read s).2 = 0) (h0 : 1 ≤ (Go.Num.read s).1) (h1 : (Go.Num.read s).1 ≤ 1099511627776) : 1 ≤ s.length ∧ s.length ≤ 17 := by
 have h2 := Go.Num.text_read h
 have h3 := Go.Num.text_len (fits_most h0 h1)
 rw [h2] at h3
 refine ⟨?_, h3⟩
 rcases Nat.eq_zero_or_pos s.length with e | e
 ·have : s = [] := List.length_eq_zero_iff.1 e
  subst this
  exact absurd h (by decide)
 ·exact e
theorem numberR_run {n : Nat} {d : List UInt8} (hd : d.length ≤ 1000) : ref10_Number n d = some (numV d) := by
 unfold ref10_Number numV h_numReadR
 cases d with
 | nil => rw [decide_eq_true (by simp), cT, bnd, cT, if_pos (.inl rfl)]
 | cons c d =>
  have hbad : ¬ (1 ≤ d.length ∧ d.length ≤ 17) → numR (c :: d) = (0, false) := fun hl => by
   unfold numR
   have e : (c :: d).drop 1 = d := rfl
   rw [e, if_neg (fun h => hl (read_len h.1 h.2.1 h.2.2))]
  have hg : getI (c :: d) (0 : Int) = some c := rfl
  by_cases h2 : ((c :: d).length : Int) < 2
  ·rw [decide_eq_true h2, cT, bnd, cT]
   simp only [List.length_cons] at h2
   split
   ·rfl
   ·rw [hbad (by omega)]
  ·rw [decide_eq_false h2, cF]
   by_cases h3 : (20 : Int) < ((c :: d).length : Int)
   ·rw [decide_eq_true h3, cT, bnd, cT]
    simp only [List.length_cons] at h3
    split
    ·rfl
    ·rw [hbad (by omega)]
   ·rw [decide_eq_false h3, cF, hg, bnd, bnd, byte_eq]
    by_cases hc : c = 112
    ·rw [decide_eq_false (fun h => h hc), cF, need_t (by simp only [List.length_cons] at *; omega), need_t (by rw [List.length_drop]; omega), bnd, if_neg (by simp [hc]), one_nat]
     exact num_tail (n := n) rfl
    ·rw [decide_eq_true hc, cT, if_pos (.inr hc)]
theorem Phys_run {n : Nat} {m : Int} (h0 : 1 ≤ m) (h1 : m ≤ 1099511627776) : store_Phys n m = some (physV m, 0) := by
 unfold store_Phys h_numText physV
 have hl := Go.Num.text_len (fits_most h0 h1)
 rw [decide_eq_false (by omega), cF, bnd, decide_eq_false (by omega), cF, bnd, need_t (by simp only [List.length_cons, List.length_nil]; omega), (Go.Num.text_zero m).2 (fits_most h0 h1)]
 rfl
theorem PhysR_run {n : Nat} {m : Int} (h0 : 1 ≤ m) (h1 : m ≤ 1099511627776) : ref10_Phys n m = some (physV m, 0) := by
 unfold ref10_Phys h_numTextR physV
 have hl := Go.Num.text_len (fits_most h0 h1)
 rw [decide_eq_false (by omega), cF, bnd, decide_eq_false (by omega), cF, bnd, need_t (by simp only [List.length_cons, List.length_nil]; omega)]
 rfl
theorem phys_len {m : Int} (h0 : 1 ≤ m) (h1 : m ≤ 1099511627776) : (physV m).length ≤ 18 := by
 unfold physV
 have hl := Go.Num.text_len (fits_most h0 h1)
 rw [List.length_cons]; omega
def knownV (l : List TE0) : Bool := !l.any (·.fUnknown)
theorem known_run {n : Nat} (hn : 6000 < n) {l : List TE0} (hl : l.length ≤ 60) : store_known n l = some (knownV l) := by
 unfold store_known store_find knownV
 obtain ⟨b, hb, hp⟩ := index_any (n := n) z_TE0 (·.fUnknown) l (step := store_find_s1 n l) (fun k hk => by
  unfold store_find_s1 store_known_1
  rw [decide_eq_true (by omega), cT, getI_at z_TE0 hk, bnd, bnd]
  cases (l.getD k z_TE0).fUnknown with
  | false => rw [cF, need_i (by omega) (by omega)]; rfl
  | true => rw [cT]; rfl) (by
  unfold store_find_s1
  rw [decide_eq_false (by omega), cF]) (by omega)
 rw [hb, bnd]
 cases b with
 | inl i =>
  obtain ⟨h0, h1⟩ := hp
  dsimp only
  rw [bnd, h1, decide_eq_false (by omega)]; rfl
 | inr u =>
  have h1 : l.any (·.fUnknown) = false := hp
  dsimp only
  rw [bnd, h1]; rfl
theorem knownR_run {n : Nat} (hn : 6000 < n) {l : List TE0} (hl : l.length ≤ 60) : ref10_known n l = some (knownV l) := by
 unfold ref10_known knownV
 have := loop_any (n := n) (step := ref10_known_s1 n l) (fun k => (l.getD k z_TE0).fUnknown) l.length (.inl ()) (.inr ()) (fun k hk => by
  unfold ref10_known_s1
  rw [decide_eq_true (by omega), cT, getI_at z_TE0 hk, bnd, need_i (by omega) (by omega)]
  cases (l.getD k z_TE0).fUnknown <;> rfl) (by
  unfold ref10_known_s1
  rw [decide_eq_false (by omega), cF]) (by omega)
 rw [this, bnd, any_range z_TE0 (·.fUnknown)]
 cases l.any (·.fUnknown) <;> rfl
structure GoodT (x : TD0) : Prop where
  few : x.fProps.length ≤ 60
  fine : ∀ g ∈ x.fProps, Fine g.fV
  short : x.fPhys.length ≤ 1000
structure GoodL (L : List TD0) : Prop where
  few : L.length ≤ 200
  each : ∀ x ∈ L, GoodT x
def okT (x : TD0) (last : Int) : Bool := (numV x.fPhys).2 && (decide (last < (numV x.fPhys).1) && (decide (checkG x.fType x.fProps = 0) && knownV x.fProps))
def scanS : List TD0 → Int → Option Int
  | [], last => some last
  | x :: r, last => bif okT x last then scanS r (numV x.fPhys).1 else none
theorem scanS_app : ∀ (l m : List TD0) (z : Int), scanS (l ++ m) z = (scanS l z).bind (scanS m)
 | [], m, z => rfl
 | x :: l, m, z => by
  rw [List.cons_append, scanS, scanS]
  cases okT x z with
  | true => rw [cT, cT, scanS_app l m]
  | false => rfl
theorem okT_spec {x : TD0} {z : Int} (h : okT x z = true) : (numV x.fPhys).2 = true ∧ z < (numV x.fPhys).1 ∧ checkG x.fType x.fProps = 0 ∧ knownV x.fProps = true := by
 unfold okT at h
 simp only [Bool.and_eq_true, decide_eq_true_eq] at h
 exact ⟨h.1, h.2.1, h.2.2.1, h.2.2.2⟩
theorem scanS_le : ∀ {l : List TD0} {z y : Int}, scanS l z = some y → z ≤ y
 | [], z, y, h => by cases h; omega
 | x :: l, z, y, h => by
  rw [scanS] at h
  cases hk : okT x z with
  | false => rw [hk] at h; cases h
  | true =>
   rw [hk, cT] at h
   have := scanS_le h
   have := (okT_spec hk).2.1
   omega
theorem scanS_mem : ∀ {l : List TD0} {z y : Int}, scanS l z = some y → ∀ x ∈ l, (numV x.fPhys).2 = true ∧ z < (numV x.fPhys).1 ∧ (numV x.fPhys).1 ≤ y ∧ checkG x.fType x.fProps = 0 ∧ knownV x.fProps = true
 | [], z, y, h, x, hx => by cases hx
 | w :: l, z, y, h, x, hx => by
  rw [scanS] at h
  cases hk : okT w z with
  | false => rw [hk] at h; cases h
  | true =>
   rw [hk, cT] at h
   obtain ⟨h1, h2, h3, h4⟩ := okT_spec hk
   rcases List.mem_cons.1 hx with rfl | hx
   ·exact ⟨h1, h2, scanS_le h, h3, h4⟩
   ·obtain ⟨k1, k2, k3, k4⟩ := scanS_mem h x hx
    exact ⟨k1, by omega, k3, k4⟩
theorem scanS_nodup : ∀ {l : List TD0} {z y : Int}, scanS l z = some y → (l.map (·.fPhys)).Nodup
 | [], z, y, h => by simp
 | w :: l, z, y, h => by
  rw [scanS] at h
  cases hk : okT w z with
  | false => rw [hk] at h; cases h
  | true =>
   rw [hk, cT] at h
   rw [List.map_cons, List.nodup_cons]
   refine ⟨fun hm => ?_, scanS_nodup h⟩
   obtain ⟨x, hx, e⟩ := List.mem_map.1 hm
   have := (scanS_mem h x hx).2.1
   rw [e] at this; omega
def checkS (L : List TD0) (made : Int) : Int := match scanS L 0 with
  | none => 2
  | some last => if made < last ∨ 1099511627776 < made then 2 else 0
theorem checkS_zero {L : List TD0} {made : Int} (h : checkS L made = 0) : ∃ last, scanS L 0 = some last ∧ 0 ≤ last ∧ last ≤ made ∧ made ≤ 1099511627776 := by
 unfold checkS at h
 cases hs : scanS L 0 with
 | none => rw [hs] at h; cases h
 | some last =>
  rw [hs] at h
  dsimp only at h
  by_cases h1 : made < last ∨ 1099511627776 < made
  ·rw [if_pos h1] at h; cases h
  ·exact ⟨last, rfl, scanS_le hs, by omega, by omega⟩
theorem checkS_of {L : List TD0} {made last : Int} (h : scanS L 0 = some last) (h1 : last ≤ made) (h2 : made ≤ 1099511627776) : checkS L made = 0 := by
 unfold checkS
 rw [h]
 dsimp only
 rw [if_neg (by omega)]
theorem checkS_two {L : List TD0} {made : Int} (h : checkS L made ≠ 0) : checkS L made = 2 := by
 unfold checkS at h ⊢
 cases hs : scanS L 0 with
 | none => rfl
 | some last =>
  rw [hs] at h
  dsimp only at h ⊢
  by_cases h1 : made < last ∨ 1099511627776 < made
  ·rw [if_pos h1]
  ·rw [if_neg h1] at h; exact absurd rfl h
theorem evS (s : TB0) : (⟨s.fL, s.fMade⟩ : TB0) = s := by cases s; rfl
theorem getT {L : List TD0} {k : Nat} (hk : k < L.length) : L.getD k z_TD0 = L[k] := by simp [List.getD, hk]
theorem scan_step {L : List TD0} {k : Nat} (hk : k < L.length) {z : Int} (h : scanS (L.take k) 0 = some z) : scanS (L.take (k + 1)) 0 = bif okT L[k] z then some (numV L[k].fPhys).1 else none := by
 rw [List.take_add_one, List.getElem?_eq_getElem hk, Option.toList_some, scanS_app, h, bnd]
 rfl
theorem scan_fail {L : List TD0} {k : Nat} (h : scanS (L.take k) 0 = none) : scanS L 0 = none := by
 have := scanS_app (L.take k) (L.drop k) 0
 rw [List.take_append_drop, h] at this
 exact this
theorem Check_run {n : Nat} (hn : 6000 < n) {s : TB0} (hg : GoodL s.fL) : store_Check n s = some (checkS s.fL s.fMade) := by
 unfold store_Check checkS
 obtain ⟨b, hb, hp⟩ := loop_inv (n := n) (step := store_Check_s1 n s) (s0 := ((0 : Int), (0 : Int))) (fun k q => q.2 = (k : Int) ∧ scanS (s.fL.take k) 0 = some q.1)
  (fun b => match b with | .inl _ => scanS s.fL 0 = none | .inr y => scanS s.fL 0 = some y) s.fL.length ⟨rfl, rfl⟩ (fun k q hk hI => by
   obtain ⟨last, i⟩ := q
   obtain ⟨e, hs⟩ := hI
   dsimp only at e hs
   subst e
   have gt := hg.each _ (List.getElem_mem hk)
   have hst := scan_step hk hs
   unfold store_Check_s1
   dsimp only
   rw [decide_eq_true (by have := hg.few; omega), cT, getI_at z_TD0 hk, bnd, getT hk, number_run gt.short, bnd]
   have hbad : okT s.fL[k] last = false → scanS s.fL 0 = none := fun h => scan_fail (k := k + 1) (by rw [hst, h]; rfl)
   cases h1 : (numV s.fL[k].fPhys).2 with
   | false => exact .inr ⟨_, by rw [Bool.not_false, cT], hbad (by unfold okT; rw [h1]; rfl)⟩
   | true =>
    rw [Bool.not_true, cF]
    by_cases h2 : (numV s.fL[k].fPhys).1 ≤ last
    ·exact .inr ⟨_, by rw [decide_eq_true h2, cT], hbad (by unfold okT; rw [decide_eq_false (by omega)]; simp)⟩
    ·rw [decide_eq_false h2, cF, schemaCheck_run hn _ gt.few gt.fine, bnd]
     by_cases h3 : checkG s.fL[k].fType s.fL[k].fProps = 0
     ·rw [decide_eq_true h3, Bool.not_true, cF, known_run hn gt.few, bnd]
      cases h4 : knownV s.fL[k].fProps with
      | false => exact .inr ⟨_, by rw [Bool.not_false, cT], hbad (by unfold okT; rw [h4]; simp)⟩
      | true =>
       refine .inl ⟨_, by rw [Bool.not_true, cF, need_i (by have := hg.few; omega) (by have := hg.few; omega)], ?_, ?_⟩
       ·dsimp only; omega
       ·rw [hst]
        have : okT s.fL[k] last = true := by
         unfold okT
         rw [h1, decide_eq_true (by omega), decide_eq_true h3, h4]; rfl
        rw [this, cT]
     ·exact .inr ⟨_, by rw [decide_eq_false h3, Bool.not_false, cT], hbad (by unfold okT; rw [decide_eq_false h3]; simp)⟩) (fun q hI => by
   obtain ⟨last, i⟩ := q
   obtain ⟨e, hs⟩ := hI
   dsimp only at e hs
   subst e
   rw [List.take_length] at hs
   unfold store_Check_s1
   dsimp only
   rw [decide_eq_false (by omega), cF]
   exact ⟨_, rfl, hs⟩) (by have := hg.few; omega)
 rw [hb, bnd]
 cases b with
 | inl u =>
  have hp' : scanS s.fL 0 = none := hp
  rw [hp']
 | inr y =>
  have hp' : scanS s.fL 0 = some y := hp
  rw [hp']
  dsimp only
  by_cases h1 : s.fMade < y
  ·rw [decide_eq_true h1, cT, if_pos (.inl h1)]
  ·rw [decide_eq_false h1, cF]
   by_cases h2 : (1099511627776 : Int) < s.fMade
   ·rw [decide_eq_true h2, cT, if_pos (.inr h2)]
   ·rw [decide_eq_false h2, cF, if_neg (by omega)]
theorem CheckR_run {n : Nat} (hn : 6000 < n) {s : TA0} (hg : GoodL s.fL) : ref10_Check n s = some (checkS s.fL s.fMade) := by
  unfold ref10_Check
  by_cases m0 : s.fMade < 0
  · have : checkS s.fL s.fMade = 2 := by
      unfold checkS
      cases hs : scanS s.fL 0 with
      | none => rfl
      | some y => dsimp only; rw [if_pos (.inl (by have := scanS_le hs; omega))]
    rw [decide_eq_true m0, cT, bnd, cT, this]
  · rw [decide_eq_false m0, cF, bnd]
    by_cases m1 : (1099511627776 : Int) < s.fMade
    · have : checkS s.fL s.fMade = 2 := by
        unfold checkS
        cases hs : scanS s.fL 0 with
        | none => rfl
        | some y => dsimp only; rw [if_pos (.inr m1)]
      rw [decide_eq_true m1, cT, this]
    · rw [decide_eq_false m1, cF]
      obtain ⟨b, hb, hp⟩ := loop_inv (n := n) (step := ref10_Check_s1 n s) (s0 := ((0 : Int), (0 : Int))) (fun k q => q.2 = (k : Int) ∧ scanS (s.fL.take k) 0 = some q.1 ∧ q.1 ≤ s.fMade)
        (fun b => match b with | .inl _ => checkS s.fL s.fMade = 2 | .inr _ => checkS s.fL s.fMade = 0) s.fL.length ⟨rfl, rfl, by dsimp only; omega⟩ (fun k q hk hI => by
          obtain ⟨last, i⟩ := q
          obtain ⟨e, hs, hle⟩ := hI
          dsimp only at e hs hle
          subst e
          have gt := hg.each _ (List.getElem_mem hk)
          have hst := scan_step hk hs
          unfold ref10_Check_s1
          dsimp only
          rw [decide_eq_true (by have := hg.few; omega), cT, getI_at z_TD0 hk, bnd, getT hk, numberR_run gt.short, bnd]
          have hbad : okT s.fL[k] last = false → checkS s.fL s.fMade = 2 := fun h => by
            have : scanS s.fL 0 = none := scan_fail (k := k + 1) (by rw [hst, h]; rfl)
            unfold checkS; rw [this]
          cases h1 : (numV s.fL[k].fPhys).2 with
          | false => exact .inr ⟨_, by rw [Bool.not_false, cT, bnd, cT], hbad (by unfold okT; rw [h1]; rfl)⟩
          | true =>
            rw [Bool.not_true, cF]
            by_cases h2 : (numV s.fL[k].fPhys).1 ≤ last
            · exact .inr ⟨_, by rw [decide_eq_true h2, cT, bnd, cT], hbad (by unfold okT; rw [decide_eq_false (by omega)]; simp)⟩
            · rw [decide_eq_false h2, cF]
              by_cases h5 : s.fMade < (numV s.fL[k].fPhys).1
              · refine .inr ⟨_, by rw [decide_eq_true h5, cT, bnd, cT], ?_⟩
                cases hok : okT s.fL[k] last with
                | false => exact hbad hok
                | true =>
                  unfold checkS
                  cases hs2 : scanS s.fL 0 with
                  | none => rfl
                  | some y =>
                    dsimp only
                    have := (scanS_mem hs2 _ (List.getElem_mem hk)).2.2.1
                    rw [if_pos (.inl (by omega))]
              · rw [decide_eq_false h5, cF, bnd, bnd, Check_ref hn _ gt.few gt.fine, bnd]
                by_cases h3 : checkG s.fL[k].fType s.fL[k].fProps = 0
                · rw [decide_eq_true h3, Bool.not_true, cF, bnd, knownR_run hn gt.few, bnd]
                  cases h4 : knownV s.fL[k].fProps with
                  | false => exact .inr ⟨_, by rw [Bool.not_false, bnd, cT], hbad (by unfold okT; rw [h4]; simp)⟩
                  | true =>
                    refine .inl ⟨_, by rw [Bool.not_true, bnd, cF, need_i (by have := hg.few; omega) (by have := hg.few; omega)], ?_, ?_, ?_⟩
                    · dsimp only; omega
                    · rw [hst]
                      have : okT s.fL[k] last = true := by
                        unfold okT
                        rw [h1, decide_eq_true (by omega), decide_eq_true h3, h4]; rfl
                      rw [this, cT]
                    · dsimp only; omega
                · exact .inr ⟨_, by rw [decide_eq_false h3, Bool.not_false, cT, bnd, cT], hbad (by unfold okT; rw [decide_eq_false h3]; simp)⟩) (fun q hI => by
          obtain ⟨last, i⟩ := q
          obtain ⟨e, hs, hle⟩ := hI
          dsimp only at e hs hle
          subst e
          rw [List.take_length] at hs
          unfold ref10_Check_s1
          dsimp only
          rw [decide_eq_false (by omega), cF]
          exact ⟨_, rfl, checkS_of hs hle (by omega)⟩) (by have := hg.few; omega)
      rw [hb, bnd]
      cases b with
      | inl u => have hp' : checkS s.fL s.fMade = 2 := hp
                 rw [hp']
      | inr u => have hp' : checkS s.fL s.fMade = 0 := hp
                 rw [hp']
end Go.Proofs.YtalifkcchfkgmaaGreatDoor
end

section
namespace Go.Proofs.YtalifkcchfkgmaaGreatDoor
open Go Go.Vc Go.RowKit
end Go.Proofs.YtalifkcchfkgmaaGreatDoor
end

section
namespace Go.Proofs.YtalifkcchfkgmaaGreatDoor
open Go Go.Vc Go.RowKit
def law10_wakes (n : Nat) : Option Bool :=
  (store_Create n z_TB0 [68, 105, 115, 107] [(⟨[83, 105, 122, 101], (false), (⟨(2 : Int), (false), (1 : Int), ([] : List UInt8), ([] : List TC0), ([] : List (List UInt8))⟩ : TC0)⟩ : TE0)]).bind fun x_1 =>
  (store_Delete n x_1.1 [112, 49]).bind fun x_2 =>
  (store_Create n x_2.1 [78, 101, 116] ([] : List TE0)).bind fun x_3 =>
  bif (decide (x_1.2.2 = 0)) then
    (bif (decide (x_1.2.1 = [112, 49])) then
      (bif (decide (x_2.2 = 0)) then
        (bif (decide (x_3.2.2 = 0)) then
          (bif (decide (x_3.2.1 = [112, 50])) then
            (bif (decide (((x_3.1.fL.length : Nat) : Int) = 1)) then
              ((getI x_3.1.fL (0 : Int)).bind fun x_4 =>
              bif (decide (x_4.fType = [78, 101, 116])) then
                (some ((decide (x_3.1.fMade = 2))))
              else
                some ((false)))
            else
              some ((false)))
          else
            some ((false)))
        else
          some ((false)))
      else
        some ((false)))
    else
      some ((false)))
  else
    some ((false))
theorem law10_wakes_ok (n : Nat) (M : Mem) (hG : GL M) (r : Bool) (hF : law10_wakes n = some r) : Ok Tryz.prog M 8 [] (fun _ v => v = .bool r) := by
 unfold law10_wakes at hF
 intro M1 hM0 w0 H w p0
 replace hG := GL.mono hM0 hG
 refine R_enter 66 Tryz.func8 rfl rfl (by simp) fun a0 f0 => RR (Y f0 1 fun _ f => eT (RR (Y f 3 fun _ f => V_allocS (k := 1) (c := 1) f p0 (.cells #[S [83, 105, 122, 101], .bool false, .int .i8 2, .bool false, .int .i64 1, S [], .slice none 0 0, .slice none 0 0] 78 (0, 0)) (by kernel_rfl) (fun _ => by kernel_rfl) fun b_1 w_1 p_1 _ f => ?_)))
 have hr_1 : RepSeq M1 ([(⟨[83, 105, 122, 101], (false), (⟨(2 : Int), (false), (1 : Int), ([] : List UInt8), ([] : List TC0), ([] : List (List UInt8))⟩ : TC0)⟩ : TE0)].map emb_TE0) [S [83, 105, 122, 101], .bool false, .int .i8 2, .bool false, .int .i64 1, S [], .slice none 0 0, .slice none 0 0] := ⟨_, _, rfl, TE0.shut Sli.nil Sli.nil, rfl⟩
 have p_2 : Hp w0 M1 ((Ent.row 78 8 (.slice (some ⟨b_1, 0, none⟩) 1 1) [(⟨[83, 105, 122, 101], (false), (⟨(2 : Int), (false), (1 : Int), ([] : List UInt8), ([] : List TC0), ([] : List (List UInt8))⟩ : TC0)⟩ : TE0)].length [S [83, 105, 122, 101], .bool false, .int .i8 2, .bool false, .int .i64 1, S [], .slice none 0 0, .slice none 0 0]) :: H) w_1 := p_1.objRow (n := 1) (cap := 1) (size := 8) (by decide) (by decide) rfl rfl rfl
 obtain ⟨A_1, cap_1, M_1, hv_1, hM_1, p_3, h_1⟩ := p_2.rowSli (f := emb_TE0) (xs := [(⟨[83, 105, 122, 101], (false), (⟨(2 : Int), (false), (1 : Int), ([] : List UInt8), ([] : List TC0), ([] : List (List UInt8))⟩ : TC0)⟩ : TE0)]) szd_TE0 hr_1
 have f := f.st 13 (hv_1)
 obtain ⟨x_1, hx_1, hF_1⟩ := bS hF
 refine Y16 f p_3 (store_Create_ok n _ (GL.mono hM_1 hG) _ z_TB0 (TB0.shut Sli.nil) [68, 105, 115, 107] A_1 cap_1 [(⟨[83, 105, 122, 101], (false), (⟨(2 : Int), (false), (1 : Int), ([] : List UInt8), ([] : List TC0), ([] : List (List UInt8))⟩ : TC0)⟩ : TE0)] h_1 x_1 hx_1) fun _ M_2 w_2 hM_2 p_4 q_1 _ f => ?_
 obtain ⟨c_1, rfl, hr_2⟩ := q_1
 obtain ⟨A_2, cap_2, rfl, h_2⟩ := TB0.opn hr_2
 refine Y f 4 fun _ f => Y12 f p_4 (.cells #[.slice none 0 0, .int .i64 0] 24 (0, 0)) fun b_2 w_3 p_5 _ f => Y28 (vs := [.slice A_2 x_1.1.fL.length cap_2, .int .i64 x_1.1.fMade]) (j := 0) f p_5 rfl rfl (by simp [Value.oneCell', S]) (by simp) (by decide) (cs' := #[.slice A_2 x_1.1.fL.length cap_2, .int .i64 x_1.1.fMade]) (by kernel_rfl) fun w_4 p_6 _ f => Y f 2 fun _ f => eT (RR (Z (v := .agg #[.slice A_2 x_1.1.fL.length cap_2, .int .i64 x_1.1.fMade]) f (Y33 (cs := [.slice A_2 x_1.1.fL.length cap_2, .int .i64 x_1.1.fMade]) rfl (ad := ⟨b_2, 0, none⟩) (own_cells (p_6.ownCell 0 rfl) 0 rfl)) fun _ f => ?_))
 obtain ⟨x_2, hx_2, hF_2⟩ := bS hF_1
 refine Y16 f p_6 (store_Delete_ok n _ (GL.mono (hM_1.trans hM_2) hG) _ x_1.1 (TB0.shutx (x := x_1.1) h_2) [112, 49] x_2 hx_2) fun _ M_3 w_5 hM_3 p_7 q_2 _ f => ?_
 obtain ⟨c_2, rfl, hr_3⟩ := q_2
 obtain ⟨A_3, cap_3, rfl, h_3⟩ := TB0.opn hr_3
 refine Y f 3 fun _ f => Y12 f p_7 (.cells #[.slice none 0 0, .int .i64 0] 24 (0, 0)) fun b_3 w_6 p_8 _ f => Y28 (vs := [.slice A_3 x_2.1.fL.length cap_3, .int .i64 x_2.1.fMade]) (j := 0) f p_8 rfl rfl (by simp [Value.oneCell', S]) (by simp) (by decide) (cs' := #[.slice A_3 x_2.1.fL.length cap_3, .int .i64 x_2.1.fMade]) (by kernel_rfl) fun w_7 p_9 _ f => Y f 1 fun _ f => eT (RR (Z (v := .agg #[.slice A_3 x_2.1.fL.length cap_3, .int .i64 x_2.1.fMade]) f (Y33 (cs := [.slice A_3 x_2.1.fL.length cap_3, .int .i64 x_2.1.fMade]) rfl (ad := ⟨b_3, 0, none⟩) (own_cells (p_9.ownCell 0 rfl) 0 rfl)) fun _ f => ?_))
 obtain ⟨x_3, hx_3, hF_3⟩ := bS hF_2
 refine Y16 f p_9 (store_Create_ok n _ (GL.mono ((hM_1.trans hM_2).trans hM_3) hG) _ x_2.1 (TB0.shutx (x := x_2.1) h_3) [78, 101, 116] none 0 ([] : List TE0) Sli.nil x_3 hx_3) fun _ M_4 w_8 hM_4 p_10 q_3 _ f => ?_
 obtain ⟨c_3, rfl, hr_4⟩ := q_3
 obtain ⟨A_4, cap_4, rfl, h_4⟩ := TB0.opn hr_4
 refine Y f 4 fun _ f => Y12 f p_10 (.cells #[.slice none 0 0, .int .i64 0] 24 (0, 0)) fun b_4 w_9 p_11 _ f => Y28 (vs := [.slice A_4 x_3.1.fL.length cap_4, .int .i64 x_3.1.fMade]) (j := 0) f p_11 rfl rfl (by simp [Value.oneCell', S]) (by simp) (by decide) (cs' := #[.slice A_4 x_3.1.fL.length cap_4, .int .i64 x_3.1.fMade]) (by kernel_rfl) fun w_10 p_12 _ f => Y f 2 fun _ f => eT (RR (Y f 3 fun _ f => ?_))
 rcases cE hF_3 with ⟨h_5, hF_4⟩ | ⟨h_5, hF_18⟩
 ·have k_1 := dI.1 h_5
  have f := f.st 31 (cB h_5)
  refine Y f 1 fun _ f => Z f (Y38 rfl (l := x_1.2.1) (m := [112, 49])) fun _ f => Y f 2 fun _ f => ?_
  rcases cE hF_4 with ⟨h_6, hF_5⟩ | ⟨h_6, hF_17⟩
  ·have k_2 := dI.1 h_6
   have f := f.st 35 (cB h_6)
   refine Y f 4 fun _ f => ?_
   rcases cE hF_5 with ⟨h_7, hF_6⟩ | ⟨h_7, hF_16⟩
   ·have k_3 := dI.1 h_7
    have f := f.st 39 (cB h_7)
    refine Y f 4 fun _ f => ?_
    rcases cE hF_6 with ⟨h_8, hF_7⟩ | ⟨h_8, hF_15⟩
    ·have k_4 := dI.1 h_8
     have f := f.st 43 (cB h_8)
     refine Y f 1 fun _ f => Z f (Y38 rfl (l := x_3.2.1) (m := [112, 50])) fun _ f => Y f 2 fun _ f => ?_
     rcases cE hF_7 with ⟨h_9, hF_8⟩ | ⟨h_9, hF_14⟩
     ·have k_5 := dI.1 h_9
      have f := f.st 47 (cB h_9)
      refine Y f 1 fun _ f => Z f (Y32 (v := .slice A_4 x_3.1.fL.length cap_4) rfl (ad := ⟨b_4, 0, none⟩) (p_12.ownCell 0 rfl 0)) fun _ f => Y f 4 fun _ f => ?_
      rcases cE hF_8 with ⟨h_10, hF_9⟩ | ⟨h_10, hF_13⟩
      ·have k_6 := dI.1 h_10
       have f := f.st 53 (cB h_10)
       refine Y f 1 fun _ f => Z f (Y32 (v := .slice A_4 x_3.1.fL.length cap_4) rfl (ad := ⟨b_4, 0, none⟩) (p_12.ownCell 0 rfl 0)) fun _ f => ?_
       obtain ⟨x_4, hx_4, hF_10⟩ := bS hF_9
       obtain ⟨ad_1, c_4, e_1, -, hr_5, hc_1⟩ := Sli.at_ h_4 hx_4
       obtain ⟨A_5, cap_5, rfl, h_11⟩ := TD0.opn hr_5
       refine Z f (Y31 e_1 rfl (len := x_3.1.fL.length) (cap := cap_4) (k := .i64) (i := (0 : Int)) (e := 52) (sz := 3) (getI_nn hx_4) (getI_lt hx_4)) fun _ f => Y f 1 fun _ f => Y15 f p_12 hc_1 1 rfl fun _ f => Z f (Y38 rfl (l := x_4.fType) (m := [78, 101, 116])) fun _ f => Y f 2 fun _ f => ?_
       rcases cE hF_10 with ⟨h_12, hF_11⟩ | ⟨h_12, hF_12⟩
       ·have k_7 := dI.1 h_12
        have f := f.st 61 (cB h_12)
        refine Y f 1 fun _ f => Z f (Y32 (v := .int .i64 x_3.1.fMade) rfl (ad := ⟨b_4, 1, none⟩) (p_12.ownCell 0 rfl 1)) fun _ f => Y f 3 fun _ f => eT (wp_ret (E_ret1 f rfl (by kernel_rfl : Vc.look _ 0 = some (.bool (decide (x_3.1.fMade = 2)))) ?_))
        obtain rfl := sI hF_11
        exact ⟨_, rfl, M_4, (((hM_1.trans hM_2).trans hM_3).trans hM_4), (p_12.dropN 3), rfl⟩
       ·have k_8 := iff_f dI h_12
        have f := f.st 61 (cB h_12)
        refine Y f 5 fun _ f => eT (wp_ret (E_ret1 f rfl (by kernel_rfl : Vc.look _ 0 = some (.bool false)) ?_))
        obtain rfl := sI hF_12
        exact ⟨_, rfl, M_4, (((hM_1.trans hM_2).trans hM_3).trans hM_4), (p_12.dropN 3), rfl⟩
      ·have k_9 := iff_f dI h_10
       have f := f.st 53 (cB h_10)
       refine Y f 13 fun _ f => eT (wp_ret (E_ret1 f rfl (by kernel_rfl : Vc.look _ 0 = some (.bool false)) ?_))
       obtain rfl := sI hF_13
       exact ⟨_, rfl, M_4, (((hM_1.trans hM_2).trans hM_3).trans hM_4), (p_12.dropN 3), rfl⟩
     ·have k_10 := iff_f dI h_9
      have f := f.st 47 (cB h_9)
      refine Y f 19 fun _ f => eT (wp_ret (E_ret1 f rfl (by kernel_rfl : Vc.look _ 0 = some (.bool false)) ?_))
      obtain rfl := sI hF_14
      exact ⟨_, rfl, M_4, (((hM_1.trans hM_2).trans hM_3).trans hM_4), (p_12.dropN 3), rfl⟩
    ·have k_11 := iff_f dI h_8
     have f := f.st 43 (cB h_8)
     refine Y f 23 fun _ f => eT (wp_ret (E_ret1 f rfl (by kernel_rfl : Vc.look _ 0 = some (.bool false)) ?_))
     obtain rfl := sI hF_15
     exact ⟨_, rfl, M_4, (((hM_1.trans hM_2).trans hM_3).trans hM_4), (p_12.dropN 3), rfl⟩
   ·have k_12 := iff_f dI h_7
    have f := f.st 39 (cB h_7)
    refine Y f 27 fun _ f => eT (wp_ret (E_ret1 f rfl (by kernel_rfl : Vc.look _ 0 = some (.bool false)) ?_))
    obtain rfl := sI hF_16
    exact ⟨_, rfl, M_4, (((hM_1.trans hM_2).trans hM_3).trans hM_4), (p_12.dropN 3), rfl⟩
  ·have k_13 := iff_f dI h_6
   have f := f.st 35 (cB h_6)
   refine Y f 31 fun _ f => eT (wp_ret (E_ret1 f rfl (by kernel_rfl : Vc.look _ 0 = some (.bool false)) ?_))
   obtain rfl := sI hF_17
   exact ⟨_, rfl, M_4, (((hM_1.trans hM_2).trans hM_3).trans hM_4), (p_12.dropN 3), rfl⟩
 ·have k_14 := iff_f dI h_5
  have f := f.st 31 (cB h_5)
  refine Y f 35 fun _ f => eT (wp_ret (E_ret1 f rfl (by kernel_rfl : Vc.look _ 0 = some (.bool false)) ?_))
  obtain rfl := sI hF_18
  exact ⟨_, rfl, M_4, (((hM_1.trans hM_2).trans hM_3).trans hM_4), (p_12.dropN 3), rfl⟩
set_option maxRecDepth 100000 in
theorem wakes10 : law10_wakes 10000 = some true := by decide +kernel
theorem wakes10b : ((law10_wakes 10000).bind fun x => some x) = some true := by rw [wakes10, bnd]
def placeT (phys : List UInt8) (L : List TD0) : Option Nat := placeV phys (L.map (·.fPhys))
def findT (L : List TD0) (phys : List UInt8) : Option TD0 := (placeT phys L).map fun k => L.getD k z_TD0
theorem placeT_lt {phys : List UInt8} {L : List TD0} {k : Nat} (h : placeT phys L = some k) : k < L.length := by
 have := place_lt h
 simpa using this
theorem placeT_at {phys : List UInt8} {L : List TD0} {k : Nat} (h : placeT phys L = some k) : (L.getD k z_TD0).fPhys = phys := by
 have h1 := (place_some h).1
 have hk := placeT_lt h
 rw [getT hk]
 simpa [hk] using h1
theorem at_run {n : Nat} (hn : 6000 < n) {s : TB0} (hl : s.fL.length ≤ 200) (phys : List UInt8) : store_at n s phys = some (match placeT phys s.fL with | some i => (i : Int) | none => -1) := by
 unfold store_at store_find_2
 obtain ⟨b, hb, hp⟩ := loop_inv (n := n) (step := store_find_2_s1 n s.fL phys) (s0 := (0 : Int)) (fun k q => q = (k : Int) ∧ ∀ j, j < k → (s.fL.map (·.fPhys))[j]? ≠ some phys)
  (fun b => match b with | .inl i => ∃ k, i = ((k : Nat) : Int) ∧ placeT phys s.fL = some k | .inr _ => placeT phys s.fL = none) s.fL.length ⟨rfl, fun j hj => absurd hj (by omega)⟩ (fun k q hk hI => by
   obtain ⟨rfl, hf⟩ := hI
   unfold store_find_2_s1 store_at_1
   rw [decide_eq_true (by omega), cT, getI_at z_TD0 hk, bnd, bnd, getT hk]
   by_cases hp : s.fL[k].fPhys = phys
   ·exact .inr ⟨.inl ((k : Nat) : Int), by rw [decide_eq_true hp, cT], k, rfl, place_first (by simp [hk, hp]) hf⟩
   ·refine .inl ⟨_, by rw [decide_eq_false hp, cF, need_i (by omega) (by omega)], by omega, fun j hj => ?_⟩
    by_cases e : j = k
    ·subst e
     simp [hk, hp]
    ·exact hf j (by omega)) (fun q hI => by
   obtain ⟨rfl, hf⟩ := hI
   unfold store_find_2_s1
   rw [decide_eq_false (by omega), cF]
   refine ⟨_, rfl, ?_⟩
   dsimp only
   cases h : placeT phys s.fL with
   | none => rfl
   | some k => exact absurd (place_some h).1 (hf k (placeT_lt h))) (by omega)
 rw [hb, bnd]
 cases b with
 | inl i =>
  obtain ⟨k, rfl, h⟩ := hp
  rw [h]; rfl
 | inr u =>
  have h : placeT phys s.fL = none := hp
  rw [h]; rfl
theorem find_place (phys : List UInt8) : ∀ L : List TD0, L.find? (fun x => decide (x.fPhys = phys)) = findT L phys
 | [] => rfl
 | x :: L => by
  unfold findT placeT
  rw [List.find?_cons, List.map_cons, placeV]
  by_cases h : x.fPhys = phys
  ·rw [if_pos h, decide_eq_true h]; rfl
  ·rw [if_neg h, decide_eq_false h]
   have := find_place phys L
   unfold findT placeT at this
   rw [this, Option.map_map]
   congr 1
theorem GetR_run10 {n : Nat} (hn : 6000 < n) {s : TA0} (hl : s.fL.length ≤ 200) (phys : List UInt8) : ref10_Get n s phys = some ((findT s.fL phys).getD z_TD0, (findT s.fL phys).isSome) := by
 unfold ref10_Get
 have := loop_run (n := n) (step := ref10_Get_s1 n s phys) (fun k => ((k : Int), ([] : List UInt8), ([] : List UInt8), ([] : List TE0)))
  (fun k => if decide ((s.fL.getD k z_TD0).fPhys = phys) = true then some (.inl ((s.fL.getD k z_TD0).fPhys, (s.fL.getD k z_TD0).fType, (s.fL.getD k z_TD0).fProps)) else none) s.fL.length (.inr ([], [], [])) (fun k hk => by
  unfold ref10_Get_s1
  dsimp only
  rw [decide_eq_true (by omega), cT, getI_at z_TD0 hk, bnd, bnd, need_i (by omega) (by omega)]
  by_cases hp : (s.fL.getD k z_TD0).fPhys = phys
  ·rw [decide_eq_true hp, cT, if_pos rfl]
  ·rw [decide_eq_false hp, cF, if_neg (by decide)]; rfl) (by
  unfold ref10_Get_s1
  dsimp only
  rw [decide_eq_false (by omega), cF]) (by omega)
 have e0 : (((0 : Nat) : Int), ([] : List UInt8), ([] : List UInt8), ([] : List TE0)) = ((0 : Int), ([] : List UInt8), ([] : List UInt8), ([] : List TE0)) := rfl
 rw [e0] at this
 have e := range_first z_TD0 (fun x => decide (x.fPhys = phys)) (fun x => (Sum.inl (x.fPhys, x.fType, x.fProps) : Sum (List UInt8 × List UInt8 × List TE0) (List UInt8 × List UInt8 × List TE0))) s.fL
 rw [this, bnd, e, find_place]
 cases findT s.fL phys with
 | none => rfl
 | some x => cases x; rfl
def updT (L : List TD0) (phys : List UInt8) (props : List TE0) : List TD0 := L.map fun y => if y.fPhys = phys then ⟨y.fPhys, y.fType, props⟩ else y
def delT (L : List TD0) (phys : List UInt8) : List TD0 := L.filter fun y => !decide (y.fPhys = phys)
theorem upd_none {L : List TD0} {phys : List UInt8} {props : List TE0} (h : phys ∉ L.map (·.fPhys)) : updT L phys props = L := by
 unfold updT
 have : ∀ y ∈ L, (if y.fPhys = phys then (⟨y.fPhys, y.fType, props⟩ : TD0) else y) = id y := fun y hy => by
  rw [if_neg (fun e => h (List.mem_map.2 ⟨y, hy, e⟩))]; rfl
 rw [List.map_congr_left this, List.map_id]
theorem del_none {L : List TD0} {phys : List UInt8} (h : phys ∉ L.map (·.fPhys)) : delT L phys = L := by
 unfold delT
 exact List.filter_eq_self.2 fun y hy => by rw [decide_eq_false (fun e => h (List.mem_map.2 ⟨y, hy, e⟩))]; rfl
theorem place_upd {phys : List UInt8} {props : List TE0} : ∀ {L : List TD0} {k : Nat}, (L.map (·.fPhys)).Nodup → placeT phys L = some k →
  (L.take k ++ [(⟨(L.getD k z_TD0).fPhys, (L.getD k z_TD0).fType, props⟩ : TD0)]) ++ L.drop (k + 1) = updT L phys props ∧ L.take k ++ L.drop (k + 1) = delT L phys
 | [], k, _, h => by cases h
 | x :: L, k, hd, h => by
  rw [List.map_cons, List.nodup_cons] at hd
  unfold placeT at h
  rw [List.map_cons, placeV] at h
  by_cases hx : x.fPhys = phys
  ·rw [if_pos hx] at h
   obtain rfl := Option.some.inj h
   have hno : phys ∉ L.map (·.fPhys) := hx ▸ hd.1
   have e1 := upd_none (props := props) hno
   have e2 := del_none hno
   refine ⟨?_, ?_⟩
   ·unfold updT at e1 ⊢
    rw [List.map_cons, if_pos hx, e1]; rfl
   ·unfold delT at e2 ⊢
    rw [List.filter_cons_of_neg (by simp [hx]), e2]; rfl
  ·rw [if_neg hx] at h
   obtain ⟨j, hj, rfl⟩ := Option.map_eq_some_iff.1 h
   obtain ⟨e1, e2⟩ := place_upd (props := props) hd.2 hj
   refine ⟨?_, ?_⟩
   ·have : updT (x :: L) phys props = x :: updT L phys props := by
     unfold updT; rw [List.map_cons, if_neg hx]
    rw [this, ← e1]; rfl
   ·have : delT (x :: L) phys = x :: delT L phys := by
     unfold delT; rw [List.filter_cons_of_pos (by simp [hx])]
    rw [this, ← e2]; rfl
theorem findT_some {L : List TD0} {phys : List UInt8} {x : TD0} (h : findT L phys = some x) : x ∈ L ∧ x.fPhys = phys ∧ ∃ k, placeT phys L = some k ∧ L.getD k z_TD0 = x := by
 unfold findT at h
 obtain ⟨k, hk, rfl⟩ := Option.map_eq_some_iff.1 h
 refine ⟨?_, placeT_at hk, k, hk, rfl⟩
 rw [getT (placeT_lt hk)]
 exact List.getElem_mem _
theorem findT_none {L : List TD0} {phys : List UInt8} (h : findT L phys = none) : placeT phys L = none ∧ phys ∉ L.map (·.fPhys) := by
 unfold findT at h
 have := Option.map_eq_none_iff.1 h
 exact ⟨this, place_none this⟩
def ownS (s : TB0) : TA0 := ⟨s.fL, s.fMade⟩
def createS (s : TB0) (kind : List UInt8) (props : List TE0) : TB0 × List UInt8 × Int :=
  if checkS s.fL s.fMade ≠ 0 then (z_TB0, [], 2) else if checkG kind props ≠ 0 then (z_TB0, [], checkG kind props) else if knownV props = false then (z_TB0, [], 91) else
  if s.fMade = 1099511627776 then (z_TB0, [], 3) else (⟨s.fL ++ [⟨physV (s.fMade + 1), kind, props⟩], s.fMade + 1⟩, physV (s.fMade + 1), 0)
def badU (x : TD0) (props : List TE0) : Bool := !knownV props || (!decide ((differV x.fType x.fProps props).2 = 0) || decide ((differV x.fType x.fProps props).1 = 3))
def updateS (s : TB0) (phys : List UInt8) (props : List TE0) : TB0 × Int :=
  if checkS s.fL s.fMade ≠ 0 then (z_TB0, 2) else match findT s.fL phys with
  | none => (z_TB0, 4)
  | some x => if checkG x.fType props ≠ 0 then (z_TB0, checkG x.fType props) else if badU x props = true then (z_TB0, 91) else (⟨updT s.fL phys props, s.fMade⟩, 0)
def deleteS (s : TB0) (phys : List UInt8) : TB0 × Int :=
  if checkS s.fL s.fMade ≠ 0 then (z_TB0, 2) else match findT s.fL phys with
  | none => (z_TB0, 4)
  | some x => (⟨delT s.fL phys, s.fMade⟩, 0)
structure GoodP (l : List TE0) : Prop where
  few : l.length ≤ 60
  fine : ∀ g ∈ l, Fine g.fV
theorem Create_run {n : Nat} (hn : 6000 < n) {s : TB0} (hg : GoodL s.fL) (kind : List UInt8) {props : List TE0} (hp : GoodP props) : store_Create n s kind props = some (createS s kind props) := by
 unfold store_Create createS
 rw [evS, Check_run hn hg, bnd]
 by_cases h1 : checkS s.fL s.fMade = 0
 ·obtain ⟨last, hs, hl0, hl1, hl2⟩ := checkS_zero h1
  rw [decide_eq_true h1, cT, schemaCheck_run hn kind hp.few hp.fine, bnd, bnd, if_neg (fun h => h h1)]
  by_cases h2 : checkG kind props = 0
  ·rw [decide_eq_true h2, Bool.not_true, cF, known_run hn hp.few, bnd, if_neg (fun h => h h2)]
   cases h3 : knownV props with
   | false => rw [Bool.not_false, cT, if_pos rfl]
   | true =>
    rw [Bool.not_true, cF, if_neg (by decide)]
    by_cases h4 : s.fMade = 1099511627776
    ·rw [decide_eq_true h4, cT, if_pos h4]
    ·have hf := hg.few
     rw [decide_eq_false h4, cF, if_neg h4, need_t (inR_mk.2 ⟨by omega, by omega⟩), Phys_run (by omega) (by omega), bnd, need_t (by omega), need_t (by rw [List.length_take]; omega)]
     have e : s.fL.take (((s.fL.length : Nat) : Int)).toNat = s.fL := by rw [Int.toNat_natCast, List.take_length]
     rw [e]
  ·rw [decide_eq_false h2, Bool.not_false, cT, if_pos h2]
 ·rw [decide_eq_false h1, cF, bnd, decide_eq_false h1, Bool.not_false, cT, if_pos h1, checkS_two h1]
theorem CreateR_run {n : Nat} (hn : 6000 < n) {s : TB0} (hg : GoodL s.fL) (kind : List UInt8) {props : List TE0} (hp : GoodP props) : ref10_Create n (ownS s) kind props = some (ownS (createS s kind props).1, (createS s kind props).2.1, (createS s kind props).2.2) := by
 unfold ref10_Create createS
 rw [CheckR_run hn (s := ownS s) hg, bnd]
 have e1 : checkS (ownS s).fL (ownS s).fMade = checkS s.fL s.fMade := rfl
 rw [e1]
 by_cases h1 : checkS s.fL s.fMade = 0
 ·obtain ⟨last, hs, hl0, hl1, hl2⟩ := checkS_zero h1
  rw [decide_eq_true h1, Bool.not_true, cF, Check_ref hn kind hp.few hp.fine, bnd, if_neg (fun h => h h1)]
  by_cases h2 : checkG kind props = 0
  ·rw [decide_eq_true h2, Bool.not_true, cF, knownR_run hn hp.few, bnd, if_neg (fun h => h h2)]
   cases h3 : knownV props with
   | false => rw [Bool.not_false, cT, if_pos rfl]; rfl
   | true =>
    rw [Bool.not_true, cF, if_neg (by decide)]
    have em : (ownS s).fMade = s.fMade := rfl
    have el : (ownS s).fL = s.fL := rfl
    rw [em, el]
    by_cases h4 : s.fMade = 1099511627776
    ·rw [decide_eq_true (by omega), cT, if_pos h4]; rfl
    ·have hf := hg.few
     rw [decide_eq_false (by omega), cF, if_neg h4, need_t (inR_mk.2 ⟨by omega, by omega⟩), need_t (by simp only [List.length_nil]; omega), PhysR_run (by omega) (by omega), bnd, List.nil_append, need_t (by omega)]
     rfl
  ·rw [decide_eq_false h2, Bool.not_false, cT, if_pos h2]; rfl
 ·rw [decide_eq_false h1, Bool.not_false, cT, if_pos h1]; rfl
theorem bad_run {n : Nat} {kn : Bool} {d : Int × Int} (x : TD0) {props : List TE0} (hk : kn = knownV props) (hd : d = differV x.fType x.fProps props) :
  (bif !kn then (some ((true))) else bif (!(decide (d.2 = 0))) then (some ((true))) else some ((decide (d.1 = 3))) : Option Bool) = some (badU x props) := by
 subst hk; subst hd
 unfold badU
 cases knownV props <;> cases decide ((differV x.fType x.fProps props).2 = 0) <;> rfl
theorem Update_run {n : Nat} (hn : 6000 < n) {s : TB0} (hg : GoodL s.fL) (phys : List UInt8) {props : List TE0} (hp : GoodP props) : store_Update n s phys props = some (updateS s phys props) := by
 unfold store_Update updateS
 have hf := hg.few
 rw [evS, Check_run hn hg, bnd]
 by_cases h1 : checkS s.fL s.fMade = 0
 ·obtain ⟨last, hs, hl0, hl1, hl2⟩ := checkS_zero h1
  rw [decide_eq_true h1, Bool.not_true, cF, at_run hn hf, bnd, if_neg (fun h => h h1)]
  cases hfd : findT s.fL phys with
  | none => rw [(findT_none hfd).1]; rfl
  | some x =>
   obtain ⟨hm, hph, k, hk, hx⟩ := findT_some hfd
   have hkl := placeT_lt hk
   have gx := hg.each _ hm
   rw [hk]
   dsimp only
   rw [decide_eq_false (by omega), cF, getI_at z_TD0 hkl, bnd, hx, schemaCheck_run hn _ hp.few hp.fine, bnd]
   by_cases h2 : checkG x.fType props = 0
   ·rw [decide_eq_true h2, Bool.not_true, cF, if_neg (fun h => h h2), Differ_run hn _ gx.few hp.few gx.fine hp.fine, bnd, known_run hn hp.few, bnd, bad_run (n := n) x rfl rfl, bnd]
    cases badU x props with
    | true => rw [cT, if_pos rfl]
    | false =>
     have e1 : ((k : Nat) : Int).toNat = k := Int.toNat_natCast k
     have e2 : (((k : Nat) : Int) + 1).toNat = k + 1 := by omega
     obtain ⟨pu, _⟩ := place_upd (props := props) (scanS_nodup hs) hk
     rw [hx] at pu
     rw [cF, if_neg (by decide), e1, e2, need_t ⟨by omega, by omega⟩, need_i (by omega) (by omega), need_t ⟨by omega, by omega⟩, need_t (by rw [List.length_take]; omega), need_t (by simp only [List.length_append, List.length_take, List.length_cons, List.length_nil, List.length_drop]; omega), pu, bnd]
   ·rw [decide_eq_false h2, Bool.not_false, cT, if_pos h2]
 ·rw [decide_eq_false h1, Bool.not_false, cT, if_pos h1]
theorem updR_loop {n : Nat} (hn : 6000 < n) {s : TA0} (hl : s.fL.length ≤ 200) (phys : List UInt8) (props : List TE0) : loopF (ref10_Update_s1 n s phys props) n (0, []) = some (updT s.fL phys props) := by
 have := loop_all (n := n) (step := ref10_Update_s1 n s phys props) (fun k => ((k : Int), updT (s.fL.take k) phys props)) s.fL.length (updT s.fL phys props) (fun k hk => by
  unfold ref10_Update_s1
  dsimp only
  have hx : s.fL[k]? = some s.fL[k] := List.getElem?_eq_getElem hk
  have hlen : (updT (s.fL.take k) phys props).length ≤ 200 := by unfold updT; rw [List.length_map, List.length_take]; omega
  rw [decide_eq_true (by omega), cT, getI_at z_TD0 hk, bnd, getT hk]
  have e : updT (s.fL.take (k + 1)) phys props = updT (s.fL.take k) phys props ++ [if s.fL[k].fPhys = phys then ⟨s.fL[k].fPhys, s.fL[k].fType, props⟩ else s.fL[k]] := by
   unfold updT
   rw [List.take_add_one, hx, Option.toList_some, List.map_append]; rfl
  rw [e]
  by_cases hp : s.fL[k].fPhys = phys
  ·rw [decide_eq_true hp, cT, bnd, need_t (by omega), need_i (by omega) (by omega), if_pos hp]; rfl
  ·rw [decide_eq_false hp, cF, bnd, need_t (by omega), need_i (by omega) (by omega), if_neg hp]; rfl) (by
  unfold ref10_Update_s1
  dsimp only
  rw [decide_eq_false (by omega), cF, List.take_length]) (by omega)
 exact this
theorem UpdateR_run {n : Nat} (hn : 6000 < n) {s : TB0} (hg : GoodL s.fL) (phys : List UInt8) {props : List TE0} (hp : GoodP props) : ref10_Update n (ownS s) phys props = some (ownS (updateS s phys props).1, (updateS s phys props).2) := by
 unfold ref10_Update updateS
 have hf := hg.few
 rw [CheckR_run hn (s := ownS s) hg, bnd]
 have e1 : checkS (ownS s).fL (ownS s).fMade = checkS s.fL s.fMade := rfl
 have el : (ownS s).fL = s.fL := rfl
 rw [e1]
 by_cases h1 : checkS s.fL s.fMade = 0
 ·rw [decide_eq_true h1, Bool.not_true, cF, GetR_run10 hn (s := ownS s) hf, bnd, if_neg (fun h => h h1), el]
  cases hfd : findT s.fL phys with
  | none => rfl
  | some x =>
   obtain ⟨hm, hph, k, hk, hx⟩ := findT_some hfd
   have gx := hg.each _ hm
   dsimp only [Option.isSome_some, Option.getD_some]
   rw [Bool.not_true, cF, Check_ref hn _ hp.few hp.fine, bnd]
   by_cases h2 : checkG x.fType props = 0
   ·rw [decide_eq_true h2, Bool.not_true, cF, if_neg (fun h => h h2), Differ_ref hn _ gx.few hp.few gx.fine hp.fine, bnd, knownR_run hn hp.few, bnd, bad_run (n := n) x rfl rfl, bnd]
    cases badU x props with
    | true => rw [cT, if_pos rfl]; rfl
    | false =>
     rw [cF, if_neg (by decide), updR_loop hn (s := ownS s) hf, bnd]; rfl
   ·rw [decide_eq_false h2, Bool.not_false, cT, if_pos h2]; rfl
 ·rw [decide_eq_false h1, Bool.not_false, cT, if_pos h1]; rfl
theorem Delete_run {n : Nat} (hn : 6000 < n) {s : TB0} (hg : GoodL s.fL) (phys : List UInt8) : store_Delete n s phys = some (deleteS s phys) := by
 unfold store_Delete deleteS
 have hf := hg.few
 rw [evS, Check_run hn hg, bnd]
 by_cases h1 : checkS s.fL s.fMade = 0
 ·obtain ⟨last, hs, hl0, hl1, hl2⟩ := checkS_zero h1
  rw [decide_eq_true h1, Bool.not_true, cF, at_run hn hf, bnd, if_neg (fun h => h h1)]
  cases hfd : findT s.fL phys with
  | none => rw [(findT_none hfd).1]; rfl
  | some x =>
   obtain ⟨hm, hph, k, hk, hx⟩ := findT_some hfd
   have hkl := placeT_lt hk
   rw [hk]
   dsimp only
   have e1 : ((k : Nat) : Int).toNat = k := Int.toNat_natCast k
   have e2 : (((k : Nat) : Int) + 1).toNat = k + 1 := by omega
   obtain ⟨_, pd⟩ := place_upd (props := []) (scanS_nodup hs) hk
   rw [decide_eq_false (by omega), cF, e1, e2, need_t ⟨by omega, by omega⟩, need_i (by omega) (by omega), need_t ⟨by omega, by omega⟩, need_t (by simp only [List.length_take, List.length_drop]; omega), pd]
 ·rw [decide_eq_false h1, Bool.not_false, cT, if_pos h1]
theorem delR_loop {n : Nat} (hn : 6000 < n) {s : TA0} (hl : s.fL.length ≤ 200) (phys : List UInt8) : loopF (ref10_Delete_s1 n s phys) n (0, []) = some (delT s.fL phys) := by
 have := loop_all (n := n) (step := ref10_Delete_s1 n s phys) (fun k => ((k : Int), delT (s.fL.take k) phys)) s.fL.length (delT s.fL phys) (fun k hk => by
  unfold ref10_Delete_s1
  dsimp only
  have hx : s.fL[k]? = some s.fL[k] := List.getElem?_eq_getElem hk
  have hlen : (delT (s.fL.take k) phys).length ≤ 200 := by
   unfold delT
   have := List.length_filter_le (fun y : TD0 => !decide (y.fPhys = phys)) (s.fL.take k)
   rw [List.length_take] at this; omega
  rw [decide_eq_true (by omega), cT, getI_at z_TD0 hk, bnd, bnd, getT hk, need_i (by omega) (by omega), need_t (by omega), bnd, need_i (by omega) (by omega)]
  have e : delT (s.fL.take (k + 1)) phys = delT (s.fL.take k) phys ++ (if s.fL[k].fPhys = phys then [] else [s.fL[k]]) := by
   unfold delT
   rw [List.take_add_one, hx, Option.toList_some, List.filter_append]
   by_cases hp : s.fL[k].fPhys = phys
   ·rw [if_pos hp, List.filter_cons_of_neg (by simp [hp])]; rfl
   ·rw [if_neg hp, List.filter_cons_of_pos (by simp [hp])]; rfl
  rw [e]
  by_cases hp : s.fL[k].fPhys = phys
  ·rw [decide_eq_true hp, Bool.not_true, cF, if_pos hp, List.append_nil]; rfl
  ·rw [decide_eq_false hp, Bool.not_false, cT, if_neg hp]; rfl) (by
  unfold ref10_Delete_s1
  dsimp only
  rw [decide_eq_false (by omega), cF, List.take_length]) (by omega)
 exact this
theorem DeleteR_run {n : Nat} (hn : 6000 < n) {s : TB0} (hg : GoodL s.fL) (phys : List UInt8) : ref10_Delete n (ownS s) phys = some (ownS (deleteS s phys).1, (deleteS s phys).2) := by
 unfold ref10_Delete deleteS
 have hf := hg.few
 rw [CheckR_run hn (s := ownS s) hg, bnd]
 have e1 : checkS (ownS s).fL (ownS s).fMade = checkS s.fL s.fMade := rfl
 have el : (ownS s).fL = s.fL := rfl
 rw [e1]
 by_cases h1 : checkS s.fL s.fMade = 0
 ·rw [decide_eq_true h1, Bool.not_true, cF, GetR_run10 hn (s := ownS s) hf, bnd, if_neg (fun h => h h1), el]
  cases hfd : findT s.fL phys with
  | none => rfl
  | some x =>
   dsimp only [Option.isSome_some]
   rw [Bool.not_true, cF, delR_loop hn (s := ownS s) hf, bnd]; rfl
 ·rw [decide_eq_false h1, Bool.not_false, cT, if_pos h1]; rfl
theorem sameG_self (x : TE0) : sameG x x = true := by
 unfold sameG
 rw [decide_eq_true rfl, decide_eq_true rfl, beq_self_eq_true, Bool.or_true]; rfl
theorem same_self9 {l : List TE0} : (decide (l.length = l.length) && !((List.range l.length).any fun k => !sameG (l.getD k z_TE0) (l.getD k z_TE0))) = true := by
 rw [decide_eq_true rfl, Bool.true_and]
 have : ((List.range l.length).any fun k => !sameG (l.getD k z_TE0) (l.getD k z_TE0)) = false := by
  rw [List.any_eq_false]; intro k _; rw [sameG_self]; simp
 rw [this]; rfl
theorem SameR_self {n : Nat} (hn : 6000 < n) {l : List TE0} (hp : GoodP l) : ref09_Same n l l = some true := by
 rw [Same_ref hn hp.few hp.fine hp.fine, same_self9]
theorem GoodT.props {x : TD0} (h : GoodT x) : GoodP x.fProps := ⟨h.few, h.fine⟩
theorem Same10_self {n : Nat} (hn : 6000 < n) {s : TA0} (hg : GoodL s.fL) : ref10_Same n s s = some true := by
 unfold ref10_Same
 have hf := hg.few
 rw [decide_eq_true rfl, Bool.not_true, cF, decide_eq_true rfl, Bool.not_true, bnd, cF]
 have := loop_all (n := n) (step := ref10_Same_s1 n s s) (fun k => (k : Int)) s.fL.length (.inr ()) (fun k hk => by
  unfold ref10_Same_s1
  rw [decide_eq_true (by omega), cT, getI_at z_TD0 hk, bnd, bnd, decide_eq_true rfl, Bool.not_true, cF, bnd, bnd, decide_eq_true rfl, Bool.not_true, cF, bnd, bnd, getT hk, SameR_self hn (hg.each _ (List.getElem_mem hk)).props, bnd, Bool.not_true, cF, need_i (by omega) (by omega)]
  rfl) (by
  unfold ref10_Same_s1
  rw [decide_eq_false (by omega), cF]) (by omega)
 have e0 : ((0 : Nat) : Int) = 0 := rfl
 rw [e0] at this
 rw [this, bnd]
theorem same10_own {n : Nat} (hn : 6000 < n) {s : TB0} (hg : GoodL s.fL) : law10_same n s (ownS s) = some true := by
 unfold law10_same law10_own
 rw [bnd]
 have e : (⟨s.fL, s.fMade⟩ : TA0) = ownS s := rfl
 rw [e, Same10_self hn (s := ownS s) hg, bnd]
theorem good_z : GoodL z_TB0.fL := ⟨by decide, fun x hx => by cases hx⟩
theorem good_create {s : TB0} (hg : GoodL s.fL) (hl : s.fL.length < 200) (kind : List UInt8) {props : List TE0} (hp : GoodP props) : GoodL (createS s kind props).1.fL := by
 unfold createS
 by_cases h1 : checkS s.fL s.fMade = 0
 ·obtain ⟨last, hs, hl0, hl1, hl2⟩ := checkS_zero h1
  rw [if_neg (fun h => h h1)]
  split
  ·exact good_z
  ·split
   ·exact good_z
   ·split
    ·exact good_z
    ·refine ⟨by simp only [List.length_append, List.length_cons, List.length_nil]; omega, fun x hx => ?_⟩
     rcases List.mem_append.1 hx with h | h
     ·exact hg.each x h
     ·rw [List.mem_singleton.1 h]
      exact ⟨hp.few, hp.fine, by have := phys_len (m := s.fMade + 1) (by omega) (by omega); show (physV (s.fMade + 1)).length ≤ 1000; omega⟩
 ·rw [if_pos h1]; exact good_z
theorem good_upd {L : List TD0} (hg : GoodL L) (phys : List UInt8) {props : List TE0} (hp : GoodP props) : GoodL (updT L phys props) := by
 refine ⟨by unfold updT; rw [List.length_map]; exact hg.few, fun x hx => ?_⟩
 unfold updT at hx
 obtain ⟨y, hy, rfl⟩ := List.mem_map.1 hx
 have gy := hg.each y hy
 split
 ·exact ⟨hp.few, hp.fine, gy.short⟩
 ·exact gy
theorem good_del {L : List TD0} (hg : GoodL L) (phys : List UInt8) : GoodL (delT L phys) := by
 unfold delT
 refine ⟨by have := List.length_filter_le (fun y : TD0 => !decide (y.fPhys = phys)) L; have := hg.few; omega, fun x hx => hg.each x (List.mem_filter.1 hx).1⟩
theorem good_update {s : TB0} (hg : GoodL s.fL) (phys : List UInt8) {props : List TE0} (hp : GoodP props) : GoodL (updateS s phys props).1.fL := by
 unfold updateS
 split
 ·exact good_z
 ·split
  ·exact good_z
  ·split
   ·exact good_z
   ·split
    ·exact good_z
    ·exact good_upd hg phys hp
theorem good_delete {s : TB0} (hg : GoodL s.fL) (phys : List UInt8) : GoodL (deleteS s phys).1.fL := by
 unfold deleteS
 split
 ·exact good_z
 ·split
  ·exact good_z
  ·exact good_del hg phys
theorem great10 {n : Nat} (hn : 6000 < n) (s : TA0) : ∃ g, ref10_Great n s = some g ∧ (g = false → GoodL s.fL ∧ s.fL.length ≤ 40) := by
 unfold ref10_Great
 obtain ⟨b, hb, hp⟩ := loop_inv (n := n) (step := ref10_Great_s1 n s) (s0 := (0 : Int)) (fun k q => q = (k : Int) ∧ ∀ x ∈ s.fL.take k, GoodT x)
  (fun b => match b with | .inl _ => True | .inr _ => ∀ x ∈ s.fL.take (min s.fL.length 41), GoodT x) (min s.fL.length 41) ⟨rfl, by simp⟩ (fun k q hk hI => by
   obtain ⟨rfl, hf⟩ := hI
   have hk1 : k < s.fL.length := by omega
   have hx : s.fL[k]? = some s.fL[k] := List.getElem?_eq_getElem hk1
   unfold ref10_Great_s1
   rw [decide_eq_true (by omega), cT, decide_eq_true (by omega), bnd, cT, getI_at z_TD0 hk1]
   simp only [bnd]
   rw [getT hk1]
   obtain ⟨g, hg1, hg2⟩ := great9 hn s.fL[k].fProps
   rw [hg1, bnd]
   cases g with
   | true => exact .inr ⟨_, cT _ _, trivial⟩
   | false =>
    obtain ⟨h1, h2⟩ := hg2 rfl
    rw [cF]
    by_cases h3 : (200 : Int) < (s.fL[k].fType.length : Int)
    ·exact .inr ⟨_, by rw [decide_eq_true h3, cT], trivial⟩
    ·rw [decide_eq_false h3, cF]
     by_cases h4 : (200 : Int) < (s.fL[k].fPhys.length : Int)
     ·exact .inr ⟨_, by rw [decide_eq_true h4, cT], trivial⟩
     ·refine .inl ⟨_, by rw [decide_eq_false h4, cF, need_i (by omega) (by omega)], by omega, fun y hy => ?_⟩
      rcases (mem_take_succ hx y).1 hy with h | h
      ·exact hf y h
      ·rw [h]; exact ⟨h1, fun g hg => (h2 g hg).2, by omega⟩) (fun q hI => by
   obtain ⟨rfl, hf⟩ := hI
   unfold ref10_Great_s1
   by_cases h : s.fL.length < 41
   ·rw [decide_eq_false (by omega), cF, bnd, cF]
    exact ⟨_, rfl, hf⟩
   ·rcases Nat.lt_or_ge 41 s.fL.length with h' | h'
    ·rw [decide_eq_true (by omega), cT, decide_eq_false (by omega), bnd, cF]
     exact ⟨_, rfl, hf⟩
    ·rw [decide_eq_false (by omega), cF, bnd, cF]
     exact ⟨_, rfl, hf⟩) (by omega)
 rw [hb, bnd]
 cases b with
 | inl u => exact ⟨true, rfl, fun h => by cases h⟩
 | inr u =>
  refine ⟨_, rfl, fun h => ?_⟩
  have hl : s.fL.length ≤ 40 := by
   have := of_decide_eq_false h
   omega
  refine ⟨⟨by omega, fun x hx => hp x ?_⟩, hl⟩
  have : min s.fL.length 41 = s.fL.length := by omega
  rw [this, List.take_length]; exact hx
theorem Great_run10 {n : Nat} (hn : 6000 < n) (s : TB0) (props : List TE0) (word : List UInt8) : ∃ g, law10_Great n s props word = some g ∧ (g = false → GoodL s.fL ∧ s.fL.length ≤ 40 ∧ GoodP props) := by
 unfold law10_Great law10_own
 obtain ⟨g, hg1, hg2⟩ := great10 hn (⟨s.fL, s.fMade⟩ : TA0)
 rw [bnd, hg1, bnd]
 cases g with
 | true => exact ⟨true, by rw [cT], fun h => by cases h⟩
 | false =>
  obtain ⟨k1, k2⟩ := hg2 rfl
  obtain ⟨q, hq1, hq2⟩ := great9 hn props
  rw [cF, hq1, bnd]
  cases q with
  | true => exact ⟨true, by rw [cT], fun h => by cases h⟩
  | false =>
   obtain ⟨k3, k4⟩ := hq2 rfl
   exact ⟨_, by rw [cF], fun _ => ⟨k1, k2, k3, fun g hg => (k4 g hg).2⟩⟩
def law10_StoreDoes (n : Nat) (d0 : TB0) (d1 : List UInt8) (d2 : List UInt8) (d3 : List TE0) : Option Bool :=
  (((law10_Great n d0 d3 d1).bind fun x_1 =>
    bif x_1 then
      (some ((true)))
    else
      some ((decide ((400 : Int) < (d2.length : Int)))) : Option Bool)).bind fun y_1 =>
  bif y_1 then
    ((law10_wakes n).bind fun x_2 =>
    some ((x_2)))
  else
    (store_Create n d0 d1 d3).bind fun x_3 =>
    (law10_own n d0).bind fun x_4 =>
    (ref10_Create n x_4 d1 d3).bind fun x_5 =>
    (store_Update n d0 d2 d3).bind fun x_6 =>
    (law10_own n d0).bind fun x_7 =>
    (ref10_Update n x_7 d2 d3).bind fun x_8 =>
    (store_Delete n d0 d2).bind fun x_9 =>
    (law10_own n d0).bind fun x_10 =>
    (ref10_Delete n x_10 d2).bind fun x_11 =>
    (law10_same n x_3.1 x_5.1).bind fun x_12 =>
    bif x_12 then
      (bif (decide (x_3.2.1 = x_5.2.1)) then
        (bif (decide (x_3.2.2 = x_5.2.2)) then
          ((law10_same n x_6.1 x_8.1).bind fun x_13 =>
          bif x_13 then
            (bif (decide (x_6.2 = x_8.2)) then
              ((law10_same n x_9.1 x_11.1).bind fun x_14 =>
              bif x_14 then
                (bif (decide (x_9.2 = x_11.2)) then
                  ((law10_wakes n).bind fun x_15 =>
                  some ((x_15)))
                else
                  some ((false)))
              else
                some ((false)))
            else
              some ((false)))
          else
            some ((false)))
        else
          some ((false)))
      else
        some ((false)))
    else
      some ((false))
theorem law10_StoreDoes_ok (n : Nat) (M : Mem) (hG : GL M) (c0 : List Value) (d0 : TB0) (h0 : Rep M (emb_TB0 d0) c0) (d1 : List UInt8) (d2 : List UInt8) (A3 : Option Addr) (cap3 : Nat) (d3 : List TE0) (h3 : Sli M 8 emb_TE0 A3 cap3 d3) (r : Bool) (hF : law10_StoreDoes n d0 d1 d2 d3 = some r) : Ok Tryz.prog M 3 [.agg c0.toArray, S d1, S d2, .slice A3 d3.length cap3] (fun _ v => v = .bool r) := by
 unfold law10_StoreDoes at hF
 intro M1 hM0 w0 H w p0
 replace hG := GL.mono hM0 hG
 replace h0 := Rep.mono hM0 _ _ h0
 replace h3 := h3.mono hM0
 obtain ⟨A_1, cap_1, rfl, h_1⟩ := TB0.opn h0
 refine R_enter 114 Tryz.func3 rfl rfl (by simp) fun a0 f0 => RR (Y13 (cs := #[.slice A_1 d0.fL.length cap_1, .int .i64 d0.fMade]) (T := 24) f0 p0 fun b_1 M_1 w_1 hM_1 hc_1 p_1 _ f => ?_)
 have hc_2 := fz_box hc_1
 refine Y f 1 fun _ f => eT (R_seq (R_seq ?_))
 obtain ⟨j_1, hj_1, hF_1⟩ := bS hF
 refine R_mid (fun a_9 w_3 => ∃ y_1 : Bool, j_1 = y_1 ∧ ∃ M_2 : Mem, M_1.le M_2 ∧ Frm 114 [(1, S d1), (2, S d2), (3, .slice A3 d3.length cap3), (4, .pointer (some (⟨b_1, 0, none⟩))), (31, .bool y_1)] a_9 ∧ Hp w0 M_2 (H) w_3) ?_ ?_
 ·refine R_reg (Z (v := .agg #[.slice A_1 d0.fL.length cap_1, .int .i64 d0.fMade]) f (Y33 (cs := [.slice A_1 d0.fL.length cap_1, .int .i64 d0.fMade]) rfl (ad := ⟨b_1, 0, none⟩) (fun j v h => p_1.cell (hc_2 j v h))) fun _ f => Y f 2 fun _ f => ?_)
  obtain ⟨x_1, hx_1, hF_2⟩ := bS hj_1
  refine Y18 f p_1 (law10_Great_ok n _ (GL.mono hM_1 hG) _ d0 (TB0.shutx (x := d0) (h_1.mono hM_1)) A3 cap3 d3 (h3.mono hM_1) d1 x_1 hx_1) fun w_2 p_2 _ f => Y f 1 fun _ f => ?_
  rcases cE hF_2 with ⟨h_2, hF_3⟩ | ⟨h_2, hF_4⟩
  ·have f := f.st 27 (cB h_2)
   refine Y f 4 fun _ f => eT ?_
   exact ⟨(true), (sI hF_3).symm, M_1, (mR _), f.kp, p_2⟩
  ·have f := f.st 27 (cB h_2)
   refine Y f 4 fun _ f => eT ?_
   exact ⟨(decide ((400 : Int) < (d2.length : Int))), (sI hF_4).symm, M_1, (mR _), f.kp, p_2⟩
 ·rintro a_9 w_3 ⟨y_1, hq_1, M_2, hM_2, f, p_3⟩
  subst j_1
  refine T_n (RcF f hF_1 (fun h_3 hF_5 => ?_) fun h_3 hF_7 => ?_)
  ·refine RR ?_
   obtain ⟨x_2, hx_2, hF_6⟩ := bS hF_5
   refine Y18 f p_3 (law10_wakes_ok n _ (GL.mono (hM_1.trans hM_2) hG) x_2 hx_2) fun w_4 p_4 _ f => Y f 1 fun _ f => eT (wp_ret (T_r (E_ret1 f rfl (by kernel_rfl : Vc.look _ 8 = some (.bool x_2)) ?_)))
   obtain rfl := sI hF_6
   exact ⟨_, rfl, M_2, (hM_1.trans hM_2), p_4, rfl⟩
  ·refine wp_skip (T_n (RR (Z (v := .agg #[.slice A_1 d0.fL.length cap_1, .int .i64 d0.fMade]) f (Y33 (cs := [.slice A_1 d0.fL.length cap_1, .int .i64 d0.fMade]) rfl (ad := ⟨b_1, 0, none⟩) (fun j v h => p_3.cell ((fzu hM_2 hc_2) j v h))) fun _ f => Y f 2 fun _ f => ?_)))
   obtain ⟨x_3, hx_3, hF_8⟩ := bS hF_7
   refine Y16 f p_3 (store_Create_ok n _ (GL.mono (hM_1.trans hM_2) hG) _ d0 (TB0.shutx (x := d0) (h_1.mono (hM_1.trans hM_2))) d1 A3 cap3 d3 (h3.mono (hM_1.trans hM_2)) x_3 hx_3) fun _ M_3 w_5 hM_3 p_5 q_1 _ f => ?_
   obtain ⟨c_1, rfl, hr_1⟩ := q_1
   obtain ⟨A_2, cap_2, rfl, h_4⟩ := TB0.opn hr_1
   refine Y f 4 fun _ f => Y12 f p_5 (.cells #[.slice none 0 0, .int .i64 0] 24 (0, 0)) fun b_2 w_6 p_6 _ f => Y28 (vs := [.slice A_2 x_3.1.fL.length cap_2, .int .i64 x_3.1.fMade]) (j := 0) f p_6 rfl rfl (by simp [Value.oneCell', S]) (by simp) (by decide) (cs' := #[.slice A_2 x_3.1.fL.length cap_2, .int .i64 x_3.1.fMade]) (by kernel_rfl) fun w_7 p_7 _ f => Y f 2 fun _ f => eT (RR (Z (v := .agg #[.slice A_1 d0.fL.length cap_1, .int .i64 d0.fMade]) f (Y33 (cs := [.slice A_1 d0.fL.length cap_1, .int .i64 d0.fMade]) rfl (ad := ⟨b_1, 0, none⟩) (fun j v h => p_7.cell ((fzu (hM_2.trans hM_3) hc_2) j v h))) fun _ f => ?_))
   obtain ⟨x_4, hx_4, hF_9⟩ := bS hF_8
   refine Y16 f p_7 (law10_own_ok n _ (GL.mono ((hM_1.trans hM_2).trans hM_3) hG) _ d0 (TB0.shutx (x := d0) (h_1.mono ((hM_1.trans hM_2).trans hM_3))) x_4 hx_4) fun _ M_4 w_8 hM_4 p_8 q_2 _ f => ?_
   obtain ⟨c_2, rfl, hr_2⟩ := q_2
   obtain ⟨A_3, cap_3, rfl, h_5⟩ := TA0.opn hr_2
   refine Y f 2 fun _ f => ?_
   obtain ⟨x_5, hx_5, hF_10⟩ := bS hF_9
   refine Y16 f p_8 (ref10_Create_ok n _ (GL.mono (((hM_1.trans hM_2).trans hM_3).trans hM_4) hG) _ x_4 (TA0.shutx (x := x_4) h_5) d1 A3 cap3 d3 (h3.mono (((hM_1.trans hM_2).trans hM_3).trans hM_4)) x_5 hx_5) fun _ M_5 w_9 hM_5 p_9 q_3 _ f => ?_
   obtain ⟨c_3, rfl, hr_3⟩ := q_3
   obtain ⟨A_4, cap_4, rfl, h_6⟩ := TA0.opn hr_3
   refine Y f 4 fun _ f => Y12 f p_9 (.cells #[.slice none 0 0, .int .i64 0] 31 (0, 0)) fun b_3 w_10 p_10 _ f => Y28 (vs := [.slice A_4 x_5.1.fL.length cap_4, .int .i64 x_5.1.fMade]) (j := 0) f p_10 rfl rfl (by simp [Value.oneCell', S]) (by simp) (by decide) (cs' := #[.slice A_4 x_5.1.fL.length cap_4, .int .i64 x_5.1.fMade]) (by kernel_rfl) fun w_11 p_11 _ f => Y f 2 fun _ f => eT (RR (Z (v := .agg #[.slice A_1 d0.fL.length cap_1, .int .i64 d0.fMade]) f (Y33 (cs := [.slice A_1 d0.fL.length cap_1, .int .i64 d0.fMade]) rfl (ad := ⟨b_1, 0, none⟩) (fun j v h => p_11.cell ((fzu (((hM_2.trans hM_3).trans hM_4).trans hM_5) hc_2) j v h))) fun _ f => Y f 2 fun _ f => ?_))
   obtain ⟨x_6, hx_6, hF_11⟩ := bS hF_10
   refine Y16 f p_11 (store_Update_ok n _ (GL.mono ((((hM_1.trans hM_2).trans hM_3).trans hM_4).trans hM_5) hG) _ d0 (TB0.shutx (x := d0) (h_1.mono ((((hM_1.trans hM_2).trans hM_3).trans hM_4).trans hM_5))) d2 A3 cap3 d3 (h3.mono ((((hM_1.trans hM_2).trans hM_3).trans hM_4).trans hM_5)) x_6 hx_6) fun _ M_6 w_12 hM_6 p_12 q_4 _ f => ?_
   obtain ⟨c_4, rfl, hr_4⟩ := q_4
   obtain ⟨A_5, cap_5, rfl, h_7⟩ := TB0.opn hr_4
   refine Y f 3 fun _ f => Y12 f p_12 (.cells #[.slice none 0 0, .int .i64 0] 24 (0, 0)) fun b_4 w_13 p_13 _ f => Y28 (vs := [.slice A_5 x_6.1.fL.length cap_5, .int .i64 x_6.1.fMade]) (j := 0) f p_13 rfl rfl (by simp [Value.oneCell', S]) (by simp) (by decide) (cs' := #[.slice A_5 x_6.1.fL.length cap_5, .int .i64 x_6.1.fMade]) (by kernel_rfl) fun w_14 p_14 _ f => Y f 1 fun _ f => eT (RR (Z (v := .agg #[.slice A_1 d0.fL.length cap_1, .int .i64 d0.fMade]) f (Y33 (cs := [.slice A_1 d0.fL.length cap_1, .int .i64 d0.fMade]) rfl (ad := ⟨b_1, 0, none⟩) (fun j v h => p_14.cell ((fzu ((((hM_2.trans hM_3).trans hM_4).trans hM_5).trans hM_6) hc_2) j v h))) fun _ f => ?_))
   obtain ⟨x_7, hx_7, hF_12⟩ := bS hF_11
   refine Y16 f p_14 (law10_own_ok n _ (GL.mono (((((hM_1.trans hM_2).trans hM_3).trans hM_4).trans hM_5).trans hM_6) hG) _ d0 (TB0.shutx (x := d0) (h_1.mono (((((hM_1.trans hM_2).trans hM_3).trans hM_4).trans hM_5).trans hM_6))) x_7 hx_7) fun _ M_7 w_15 hM_7 p_15 q_5 _ f => ?_
   obtain ⟨c_5, rfl, hr_5⟩ := q_5
   obtain ⟨A_6, cap_6, rfl, h_8⟩ := TA0.opn hr_5
   refine Y f 2 fun _ f => ?_
   obtain ⟨x_8, hx_8, hF_13⟩ := bS hF_12
   refine Y16 f p_15 (ref10_Update_ok n _ (GL.mono ((((((hM_1.trans hM_2).trans hM_3).trans hM_4).trans hM_5).trans hM_6).trans hM_7) hG) _ x_7 (TA0.shutx (x := x_7) h_8) d2 A3 cap3 d3 (h3.mono ((((((hM_1.trans hM_2).trans hM_3).trans hM_4).trans hM_5).trans hM_6).trans hM_7)) x_8 hx_8) fun _ M_8 w_16 hM_8 p_16 q_6 _ f => ?_
   obtain ⟨c_6, rfl, hr_6⟩ := q_6
   obtain ⟨A_7, cap_7, rfl, h_9⟩ := TA0.opn hr_6
   refine Y f 3 fun _ f => Y12 f p_16 (.cells #[.slice none 0 0, .int .i64 0] 31 (0, 0)) fun b_5 w_17 p_17 _ f => Y28 (vs := [.slice A_7 x_8.1.fL.length cap_7, .int .i64 x_8.1.fMade]) (j := 0) f p_17 rfl rfl (by simp [Value.oneCell', S]) (by simp) (by decide) (cs' := #[.slice A_7 x_8.1.fL.length cap_7, .int .i64 x_8.1.fMade]) (by kernel_rfl) fun w_18 p_18 _ f => Y f 1 fun _ f => eT (RR (Z (v := .agg #[.slice A_1 d0.fL.length cap_1, .int .i64 d0.fMade]) f (Y33 (cs := [.slice A_1 d0.fL.length cap_1, .int .i64 d0.fMade]) rfl (ad := ⟨b_1, 0, none⟩) (fun j v h => p_18.cell ((fzu ((((((hM_2.trans hM_3).trans hM_4).trans hM_5).trans hM_6).trans hM_7).trans hM_8) hc_2) j v h))) fun _ f => Y f 1 fun _ f => ?_))
   obtain ⟨x_9, hx_9, hF_14⟩ := bS hF_13
   refine Y16 f p_18 (store_Delete_ok n _ (GL.mono (((((((hM_1.trans hM_2).trans hM_3).trans hM_4).trans hM_5).trans hM_6).trans hM_7).trans hM_8) hG) _ d0 (TB0.shutx (x := d0) (h_1.mono (((((((hM_1.trans hM_2).trans hM_3).trans hM_4).trans hM_5).trans hM_6).trans hM_7).trans hM_8))) d2 x_9 hx_9) fun _ M_9 w_19 hM_9 p_19 q_7 _ f => ?_
   obtain ⟨c_7, rfl, hr_7⟩ := q_7
   obtain ⟨A_8, cap_8, rfl, h_10⟩ := TB0.opn hr_7
   refine Y f 3 fun _ f => Y12 f p_19 (.cells #[.slice none 0 0, .int .i64 0] 24 (0, 0)) fun b_6 w_20 p_20 _ f => Y28 (vs := [.slice A_8 x_9.1.fL.length cap_8, .int .i64 x_9.1.fMade]) (j := 0) f p_20 rfl rfl (by simp [Value.oneCell', S]) (by simp) (by decide) (cs' := #[.slice A_8 x_9.1.fL.length cap_8, .int .i64 x_9.1.fMade]) (by kernel_rfl) fun w_21 p_21 _ f => Y f 1 fun _ f => eT (RR (Z (v := .agg #[.slice A_1 d0.fL.length cap_1, .int .i64 d0.fMade]) f (Y33 (cs := [.slice A_1 d0.fL.length cap_1, .int .i64 d0.fMade]) rfl (ad := ⟨b_1, 0, none⟩) (fun j v h => p_21.cell ((fzu (((((((hM_2.trans hM_3).trans hM_4).trans hM_5).trans hM_6).trans hM_7).trans hM_8).trans hM_9) hc_2) j v h))) fun _ f => ?_))
   obtain ⟨x_10, hx_10, hF_15⟩ := bS hF_14
   refine Y16 f p_21 (law10_own_ok n _ (GL.mono ((((((((hM_1.trans hM_2).trans hM_3).trans hM_4).trans hM_5).trans hM_6).trans hM_7).trans hM_8).trans hM_9) hG) _ d0 (TB0.shutx (x := d0) (h_1.mono ((((((((hM_1.trans hM_2).trans hM_3).trans hM_4).trans hM_5).trans hM_6).trans hM_7).trans hM_8).trans hM_9))) x_10 hx_10) fun _ M_10 w_22 hM_10 p_22 q_8 _ f => ?_
   obtain ⟨c_8, rfl, hr_8⟩ := q_8
   obtain ⟨A_9, cap_9, rfl, h_11⟩ := TA0.opn hr_8
   refine Y f 1 fun _ f => ?_
   obtain ⟨x_11, hx_11, hF_16⟩ := bS hF_15
   refine Y16 f p_22 (ref10_Delete_ok n _ (GL.mono (((((((((hM_1.trans hM_2).trans hM_3).trans hM_4).trans hM_5).trans hM_6).trans hM_7).trans hM_8).trans hM_9).trans hM_10) hG) _ x_10 (TA0.shutx (x := x_10) h_11) d2 x_11 hx_11) fun _ M_11 w_23 hM_11 p_23 q_9 _ f => ?_
   obtain ⟨c_9, rfl, hr_9⟩ := q_9
   obtain ⟨A_10, cap_10, rfl, h_12⟩ := TA0.opn hr_9
   refine Y f 3 fun _ f => Y12 f p_23 (.cells #[.slice none 0 0, .int .i64 0] 31 (0, 0)) fun b_7 w_24 p_24 _ f => Y28 (vs := [.slice A_10 x_11.1.fL.length cap_10, .int .i64 x_11.1.fMade]) (j := 0) f p_24 rfl rfl (by simp [Value.oneCell', S]) (by simp) (by decide) (cs' := #[.slice A_10 x_11.1.fL.length cap_10, .int .i64 x_11.1.fMade]) (by kernel_rfl) fun w_25 p_25 _ f => Y f 1 fun _ f => eT (RR (Z (v := .agg #[.slice A_2 x_3.1.fL.length cap_2, .int .i64 x_3.1.fMade]) f (Y33 (cs := [.slice A_2 x_3.1.fL.length cap_2, .int .i64 x_3.1.fMade]) rfl (ad := ⟨b_2, 0, none⟩) (own_cells (p_25.ownCell 5 rfl) 0 rfl)) fun _ f => Z (v := .agg #[.slice A_4 x_5.1.fL.length cap_4, .int .i64 x_5.1.fMade]) f (Y33 (cs := [.slice A_4 x_5.1.fL.length cap_4, .int .i64 x_5.1.fMade]) rfl (ad := ⟨b_3, 0, none⟩) (own_cells (p_25.ownCell 4 rfl) 0 rfl)) fun _ f => ?_))
   obtain ⟨x_12, hx_12, hF_17⟩ := bS hF_16
   refine Y18 f p_25 (law10_same_ok n _ (GL.mono ((((((((((hM_1.trans hM_2).trans hM_3).trans hM_4).trans hM_5).trans hM_6).trans hM_7).trans hM_8).trans hM_9).trans hM_10).trans hM_11) hG) _ x_3.1 (TB0.shutx (x := x_3.1) (h_4.mono (((((((hM_4.trans hM_5).trans hM_6).trans hM_7).trans hM_8).trans hM_9).trans hM_10).trans hM_11))) _ x_5.1 (TA0.shutx (x := x_5.1) (h_6.mono (((((hM_6.trans hM_7).trans hM_8).trans hM_9).trans hM_10).trans hM_11))) x_12 hx_12) fun w_26 p_26 _ f => Y f 1 fun _ f => ?_
   rcases cE hF_17 with ⟨h_13, hF_18⟩ | ⟨h_13, hF_34⟩
   ·have f := f.st 81 (cB h_13)
    refine Y f 2 fun _ f => Z f (Y38 rfl (l := x_3.2.1) (m := x_5.2.1)) fun _ f => Y f 2 fun _ f => ?_
    rcases cE hF_18 with ⟨h_14, hF_19⟩ | ⟨h_14, hF_33⟩
    ·have k_6 := dI.1 h_14
     have f := f.st 86 (cB h_14)
     refine Y f 5 fun _ f => ?_
     rcases cE hF_19 with ⟨h_15, hF_20⟩ | ⟨h_15, hF_32⟩
     ·have k_7 := dI.1 h_15
      have f := f.st 91 (cB h_15)
      refine Z (v := .agg #[.slice A_5 x_6.1.fL.length cap_5, .int .i64 x_6.1.fMade]) f (Y33 (cs := [.slice A_5 x_6.1.fL.length cap_5, .int .i64 x_6.1.fMade]) rfl (ad := ⟨b_4, 0, none⟩) (own_cells (p_26.ownCell 3 rfl) 0 rfl)) fun _ f => Z (v := .agg #[.slice A_7 x_8.1.fL.length cap_7, .int .i64 x_8.1.fMade]) f (Y33 (cs := [.slice A_7 x_8.1.fL.length cap_7, .int .i64 x_8.1.fMade]) rfl (ad := ⟨b_5, 0, none⟩) (own_cells (p_26.ownCell 2 rfl) 0 rfl)) fun _ f => ?_
      obtain ⟨x_13, hx_13, hF_21⟩ := bS hF_20
      refine Y18 f p_26 (law10_same_ok n _ (GL.mono ((((((((((hM_1.trans hM_2).trans hM_3).trans hM_4).trans hM_5).trans hM_6).trans hM_7).trans hM_8).trans hM_9).trans hM_10).trans hM_11) hG) _ x_6.1 (TB0.shutx (x := x_6.1) (h_7.mono ((((hM_7.trans hM_8).trans hM_9).trans hM_10).trans hM_11))) _ x_8.1 (TA0.shutx (x := x_8.1) (h_9.mono ((hM_9.trans hM_10).trans hM_11))) x_13 hx_13) fun w_27 p_27 _ f => Y f 2 fun _ f => ?_
      rcases cE hF_21 with ⟨h_16, hF_22⟩ | ⟨h_16, hF_31⟩
      ·have f := f.st 96 (cB h_16)
       refine Y f 5 fun _ f => ?_
       rcases cE hF_22 with ⟨h_17, hF_23⟩ | ⟨h_17, hF_30⟩
       ·have k_9 := dI.1 h_17
        have f := f.st 101 (cB h_17)
        refine Z (v := .agg #[.slice A_8 x_9.1.fL.length cap_8, .int .i64 x_9.1.fMade]) f (Y33 (cs := [.slice A_8 x_9.1.fL.length cap_8, .int .i64 x_9.1.fMade]) rfl (ad := ⟨b_6, 0, none⟩) (own_cells (p_27.ownCell 1 rfl) 0 rfl)) fun _ f => Z (v := .agg #[.slice A_10 x_11.1.fL.length cap_10, .int .i64 x_11.1.fMade]) f (Y33 (cs := [.slice A_10 x_11.1.fL.length cap_10, .int .i64 x_11.1.fMade]) rfl (ad := ⟨b_7, 0, none⟩) (own_cells (p_27.ownCell 0 rfl) 0 rfl)) fun _ f => ?_
        obtain ⟨x_14, hx_14, hF_24⟩ := bS hF_23
        refine Y18 f p_27 (law10_same_ok n _ (GL.mono ((((((((((hM_1.trans hM_2).trans hM_3).trans hM_4).trans hM_5).trans hM_6).trans hM_7).trans hM_8).trans hM_9).trans hM_10).trans hM_11) hG) _ x_9.1 (TB0.shutx (x := x_9.1) (h_10.mono (hM_10.trans hM_11))) _ x_11.1 (TA0.shutx (x := x_11.1) h_12) x_14 hx_14) fun w_28 p_28 _ f => Y f 2 fun _ f => ?_
        rcases cE hF_24 with ⟨h_18, hF_25⟩ | ⟨h_18, hF_29⟩
        ·have f := f.st 106 (cB h_18)
         refine Y f 5 fun _ f => ?_
         rcases cE hF_25 with ⟨h_19, hF_26⟩ | ⟨h_19, hF_28⟩
         ·have k_11 := dI.1 h_19
          have f := f.st 111 (cB h_19)
          obtain ⟨x_15, hx_15, hF_27⟩ := bS hF_26
          refine Y18 f p_28 (law10_wakes_ok n _ (GL.mono ((((((((((hM_1.trans hM_2).trans hM_3).trans hM_4).trans hM_5).trans hM_6).trans hM_7).trans hM_8).trans hM_9).trans hM_10).trans hM_11) hG) x_15 hx_15) fun w_29 p_29 _ f => Y f 2 fun _ f => eT (wp_ret (E_ret1 f rfl (by kernel_rfl : Vc.look _ 8 = some (.bool x_15)) ?_))
          obtain rfl := sI hF_27
          exact ⟨_, rfl, M_11, ((((((((((hM_1.trans hM_2).trans hM_3).trans hM_4).trans hM_5).trans hM_6).trans hM_7).trans hM_8).trans hM_9).trans hM_10).trans hM_11), (p_29.dropN 6), rfl⟩
         ·have k_12 := iff_f dI h_19
          have f := f.st 111 (cB h_19)
          refine Y f 3 fun _ f => eT (wp_ret (E_ret1 f rfl (by kernel_rfl : Vc.look _ 8 = some (.bool false)) ?_))
          obtain rfl := sI hF_28
          exact ⟨_, rfl, M_11, ((((((((((hM_1.trans hM_2).trans hM_3).trans hM_4).trans hM_5).trans hM_6).trans hM_7).trans hM_8).trans hM_9).trans hM_10).trans hM_11), (p_28.dropN 6), rfl⟩
        ·have f := f.st 106 (cB h_18)
         refine Y f 8 fun _ f => eT (wp_ret (E_ret1 f rfl (by kernel_rfl : Vc.look _ 8 = some (.bool false)) ?_))
         obtain rfl := sI hF_29
         exact ⟨_, rfl, M_11, ((((((((((hM_1.trans hM_2).trans hM_3).trans hM_4).trans hM_5).trans hM_6).trans hM_7).trans hM_8).trans hM_9).trans hM_10).trans hM_11), (p_28.dropN 6), rfl⟩
       ·have k_14 := iff_f dI h_17
        have f := f.st 101 (cB h_17)
        refine Y f 13 fun _ f => eT (wp_ret (E_ret1 f rfl (by kernel_rfl : Vc.look _ 8 = some (.bool false)) ?_))
        obtain rfl := sI hF_30
        exact ⟨_, rfl, M_11, ((((((((((hM_1.trans hM_2).trans hM_3).trans hM_4).trans hM_5).trans hM_6).trans hM_7).trans hM_8).trans hM_9).trans hM_10).trans hM_11), (p_27.dropN 6), rfl⟩
      ·have f := f.st 96 (cB h_16)
       refine Y f 18 fun _ f => eT (wp_ret (E_ret1 f rfl (by kernel_rfl : Vc.look _ 8 = some (.bool false)) ?_))
       obtain rfl := sI hF_31
       exact ⟨_, rfl, M_11, ((((((((((hM_1.trans hM_2).trans hM_3).trans hM_4).trans hM_5).trans hM_6).trans hM_7).trans hM_8).trans hM_9).trans hM_10).trans hM_11), (p_27.dropN 6), rfl⟩
     ·have k_16 := iff_f dI h_15
      have f := f.st 91 (cB h_15)
      refine Y f 23 fun _ f => eT (wp_ret (E_ret1 f rfl (by kernel_rfl : Vc.look _ 8 = some (.bool false)) ?_))
      obtain rfl := sI hF_32
      exact ⟨_, rfl, M_11, ((((((((((hM_1.trans hM_2).trans hM_3).trans hM_4).trans hM_5).trans hM_6).trans hM_7).trans hM_8).trans hM_9).trans hM_10).trans hM_11), (p_26.dropN 6), rfl⟩
    ·have k_17 := iff_f dI h_14
     have f := f.st 86 (cB h_14)
     refine Y f 28 fun _ f => eT (wp_ret (E_ret1 f rfl (by kernel_rfl : Vc.look _ 8 = some (.bool false)) ?_))
     obtain rfl := sI hF_33
     exact ⟨_, rfl, M_11, ((((((((((hM_1.trans hM_2).trans hM_3).trans hM_4).trans hM_5).trans hM_6).trans hM_7).trans hM_8).trans hM_9).trans hM_10).trans hM_11), (p_26.dropN 6), rfl⟩
   ·have f := f.st 81 (cB h_13)
    refine Y f 33 fun _ f => eT (wp_ret (E_ret1 f rfl (by kernel_rfl : Vc.look _ 8 = some (.bool false)) ?_))
    obtain rfl := sI hF_34
    exact ⟨_, rfl, M_11, ((((((((((hM_1.trans hM_2).trans hM_3).trans hM_4).trans hM_5).trans hM_6).trans hM_7).trans hM_8).trans hM_9).trans hM_10).trans hM_11), (p_26.dropN 6), rfl⟩
theorem storeDoes_true (s : TB0) (kind phys : List UInt8) (props : List TE0) : law10_StoreDoes 10000 s kind phys props = some true := by
 unfold law10_StoreDoes
 obtain ⟨g, hg1, hg2⟩ := Great_run10 (n := 10000) (by omega) s props kind
 rw [hg1, bnd]
 cases g with
 | true => rw [cT, bnd, cT, wakes10b]
 | false =>
  obtain ⟨hg, hl, hp⟩ := hg2 rfl
  rw [cF, bnd]
  by_cases h4 : (400 : Int) < (phys.length : Int)
  ·rw [decide_eq_true h4, cT, wakes10b]
  have eo : law10_own 10000 s = some (ownS s) := rfl
  have hc := good_create hg (by omega) kind hp
  have hu := good_update hg phys hp
  have hd := good_delete hg phys
  rw [decide_eq_false h4, cF, Create_run (by omega) hg kind hp, bnd, eo, bnd, CreateR_run (by omega) hg kind hp, bnd, Update_run (by omega) hg phys hp, bnd, bnd, UpdateR_run (by omega) hg phys hp, bnd, Delete_run (by omega) hg phys, bnd, bnd, DeleteR_run (by omega) hg phys, bnd]
  dsimp only
  rw [same10_own (by omega) hc, bnd, cT, decide_eq_true rfl, cT, decide_eq_true rfl, cT, same10_own (by omega) hu, bnd, cT, decide_eq_true rfl, cT, same10_own (by omega) hd, bnd, cT, decide_eq_true rfl, cT, wakes10b]
end Go.Proofs.YtalifkcchfkgmaaGreatDoor
end

section
namespace Go.Vc
open Go
mutual
def dsz : Dat → Nat
  | .int _ _ => 1
  | .bool _ => 1
  | .str l => l.length + 1
  | .list _ ds => dszs ds + 1
  | .struct ds => dszs ds + 1
def dszs : List Dat → Nat
  | [] => 0
  | d :: ds => dsz d + dszs ds
end
theorem dszs_app : ∀ (a b : List Dat), dszs (a ++ b) = dszs a + dszs b
 | [], b => by simp [dszs]
 | d :: a, b => by simp only [List.cons_append, dszs, dszs_app a b]; omega
theorem le_sum : ∀ {l : List Nat} {x : Nat}, x ∈ l → x ≤ l.sum
 | y :: l, x, h => by
  rcases List.mem_cons.1 h with rfl | h
  ·simp
  ·have := le_sum h; simp only [List.sum_cons]; omega
section
variable {H : Type}
structure BulkOk (B : DataW H → Nat) : Prop where
  one : ∀ d, 1 ≤ B d
  str : ∀ l, B (.lit (.string l)) = l.length + 1
  slice : ∀ e s, (e.map B).sum + 1 ≤ B (.slice e s)
  agg : ∀ e, (e.map B).sum + 1 ≤ B (.agg e)
variable {enc : TypeId × Value → H} {P : Program} {w : World} {t : TypeId} {α : Type} {f : α → Dat} {m : Nat} {B : DataW H → Nat}
def OpnAt (enc : TypeId × Value → H) (P : Program) (w : World) (t : TypeId) {α : Type} (f : α → Dat) (B : DataW H → Nat) (m : Nat) : Prop :=
  ∀ cs x, DataW.trod enc P w 0 (fun _ => true) true m t cs = some x → ∃ a, Rep (Mem.of w) (f a) cs ∧ Vld (f a) ∧ dsz (f a) ≤ B x.1
theorem OpnAt.zero : OpnAt enc P w t f B 0 := fun cs x h => by simp [DataW.trod] at h
theorem opa_int {k : IntKind} (hB : BulkOk B) (ht : P.underlying t = some (.int k)) : OpnAt enc P w t (Dat.int k) B m := fun cs x h => by
 obtain ⟨a, rfl, _, hw⟩ := DataW.trod_int ht h
 exact ⟨a, rfl, hw, hB.one _⟩
theorem opa_bool (hB : BulkOk B) (ht : P.underlying t = some .bool) : OpnAt enc P w t Dat.bool B m := fun cs x h => by
 obtain ⟨a, rfl, _⟩ := DataW.trod_bool ht h
 exact ⟨a, rfl, trivial, hB.one _⟩
theorem opa_str (hB : BulkOk B) (ht : P.underlying t = some .string) : OpnAt enc P w t Dat.str B m := fun cs x h => by
 obtain ⟨s, rfl, hx, hw⟩ := DataW.trod_string ht h
 refine ⟨s.data.toList, (by show [Value.string s] = _; rw [S_eta]), by show s.data.toList.length ≤ maxLen; simpa using hw, ?_⟩
 rw [hx]
 show s.data.toList.length + 1 ≤ B (.lit (.string s.data.toList))
 rw [hB.str]
 exact Nat.le_refl _
theorem opa_slice {e : TypeId} {sz : Nat} (hB : BulkOk B) (ht : P.underlying t = some (.slice e)) (hsz : P.cellsOf e = sz) (h : OpnAt enc P w e f B m) : OpnAt enc P w t (eL sz f) B (m + 1) := fun cs x hx => by
 rcases DataW.trod_slice ht hx with ⟨rfl, hx⟩ | ⟨ad, len, cap, elems, rest, n', hn', rfl, hxe, _, hlc, hcm, hel, hat, _⟩
 ·refine ⟨[], Sli.rep (Sli.nil (sz := sz) (f := f)), by simp [Vld, eL, VldAll], ?_⟩
  have := hB.one x.1
  simpa [eL, dsz, dszs] using this
 ·obtain rfl : n' = m := by omega
  have key : ∀ k, k ≤ len → ∃ xs : List α, xs.length = k ∧ RepArr (Mem.of w) sz (xs.map f) ad ∧ (∀ x ∈ xs, Vld (f x)) ∧ dszs (xs.map f) ≤ ((elems.take k).map fun x => B x.1).sum := by
   intro k
   induction k with
   | zero => intro _; exact ⟨[], rfl, trivial, fun x hx => (by cases hx), by simp [dszs]⟩
   | succ k ih =>
    intro hk
    obtain ⟨xs, h1, h2, h3, h3b⟩ := ih (by omega)
    have hk' : k < elems.length := by omega
    have := hat k (by omega)
    rw [List.getElem?_eq_getElem hk'] at this
    obtain ⟨cs', g1, g2⟩ := Option.bind_eq_some_iff.1 this
    obtain ⟨a, g3, g4, g4b⟩ := h cs' _ g2
    obtain ⟨g5, g6⟩ := cells_of g1
    rw [hsz] at g5 g6
    refine ⟨xs ++ [a], by simp [h1], ?_, fun x hx => ?_, ?_⟩
    ·rw [List.map_append]
     have app : ∀ (ds : List Dat) (ad : Addr), RepArr (Mem.of w) sz ds ad → RepArr (Mem.of w) sz [f a] (ad.add (ds.length * sz)) → RepArr (Mem.of w) sz (ds ++ [f a]) ad := by
      intro ds
      induction ds with
      | nil => intro ad _ hh; simpa [Addr.add] using hh
      | cons d ds ih =>
       intro ad h1 h2
       refine ⟨h1.1, ih _ h1.2 ?_⟩
       rw [add_of_add]
       rw [List.length_cons, show (ds.length + 1) * sz = sz + ds.length * sz by rw [Nat.add_mul]; omega] at h2
       exact h2
     refine app _ _ h2 ⟨⟨cs', g5, g3, ?_⟩, trivial⟩
     rw [List.length_map, h1]
     exact g6
    ·rcases List.mem_append.1 hx with hx | hx
     ·exact h3 x hx
     ·simp at hx; subst hx; exact g4
    ·rw [List.map_append, dszs_app, List.take_add_one, List.getElem?_eq_getElem hk', List.map_append, List.sum_append]
     simp only [List.map_cons, List.map_nil, dszs, Option.toList_some, List.sum_cons, List.sum_nil]
     omega
  obtain ⟨xs, h1, h2, h3, h3b⟩ := key len (Nat.le_refl _)
  subst h1
  refine ⟨xs, Sli.rep ⟨hlc, fun e => (by cases e), .inr ⟨ad, rfl, h2⟩⟩, ?_, ?_⟩
  ·refine ⟨by rw [List.length_map]; omega, VldAll.mk fun d hd => ?_⟩
   obtain ⟨x, hx, rfl⟩ := List.mem_map.1 hd
   exact h3 x hx
  ·rw [hxe]
   show dszs (xs.map f) + 1 ≤ _
   have := hB.slice (elems.map (·.1)) (rest.map (·.1))
   rw [← hel, List.take_length] at h3b
   rw [List.map_map] at this
   have e : (elems.map (B ∘ fun x => x.1)) = elems.map fun x => B x.1 := rfl
   rw [e] at this
   show _ ≤ B (.slice (elems.map (·.1)) (rest.map (·.1)))
   omega
theorem opa_slice0 {e : TypeId} {sz : Nat} (hB : BulkOk B) (ht : P.underlying t = some (.slice e)) (hsz : P.cellsOf e = sz) (h : ∀ k, k < m → OpnAt enc P w e f B k) : OpnAt enc P w t (eL sz f) B m := by
 cases m with
 | zero => exact OpnAt.zero
 | succ m => exact opa_slice hB ht hsz (h m (Nat.lt_succ_self m))
theorem OpnAt.arg (h : ∀ n, OpnAt enc P w t f B n) {v : Value} {d : DataW H} {ps : List MemPlace} (ht : DataW.Trod enc P w 0 (fun _ => true) true t v d ps) : ∃ a, Rep (Mem.of w) (f a) v.cells.toList ∧ Vld (f a) ∧ dsz (f a) ≤ B d := by
 obtain ⟨fuel, hf⟩ := ht
 exact h fuel _ _ hf
theorem OpnAt.slice_arg {e : TypeId} {sz : Nat} (hB : BulkOk B) (hu : P.underlying t = some (.slice e)) (hsz : P.cellsOf e = sz) (h : ∀ n, OpnAt enc P w e f B n) {v : Value} {d : DataW H} {ps : List MemPlace} (hv : ∃ A len cap, v = .slice A len cap) (ht : DataW.Trod enc P w 0 (fun _ => true) true t v d ps) :
  ∃ A cap xs, v = .slice A xs.length cap ∧ Sli (Mem.of w) sz f A cap xs ∧ Vld (eL sz f xs) ∧ dsz (eL sz f xs) ≤ B d := by
 obtain ⟨A, len, cap, rfl⟩ := hv
 obtain ⟨xs, h1, h2⟩ := OpnAt.arg (f := eL sz f) (fun n => opa_slice0 hB hu hsz fun k _ => h k) ht
 obtain ⟨A', cap', e, hs⟩ := Rep.sli h1
 simp only [Value.cells] at e
 have e' : Value.slice A len cap = Value.slice A' xs.length cap' := by simpa using e
 cases e'
 exact ⟨A, cap, xs, rfl, hs, h2⟩
theorem OpnAt.struct_arg (h : ∀ n, OpnAt enc P w t f B n) {v : Value} {d : DataW H} {ps : List MemPlace} (hv : ∃ cs : Array Value, v = .agg cs) (ht : DataW.Trod enc P w 0 (fun _ => true) true t v d ps) :
  ∃ (c : List Value) (a : α), v = .agg c.toArray ∧ Rep (Mem.of w) (f a) c ∧ Vld (f a) ∧ dsz (f a) ≤ B d := by
 obtain ⟨cs, rfl⟩ := hv
 obtain ⟨a, h1, h2⟩ := OpnAt.arg h ht
 exact ⟨cs.toList, a, by simp, h1, h2⟩
end
end Go.Vc
end

section
namespace Go.Proofs.YtalifkcchfkgmaaGreatDoor
open Go Go.Vc Go.RowKit
theorem opa_TC0 {H : Type} {enc : TypeId × Value → H} {w : World} {B : DataW H → Nat} (hB : BulkOk B) : ∀ m, OpnAt enc Tryz.prog w 76 emb_TC0 B m := by
 intro m
 induction m using Nat.strongRecOn with
 | ind m ih =>
 intro cs x h
 obtain ⟨xs, n, rfl, rfl, hlen, hxl, hf⟩ := DataW.trod_struct Tryz.underlying76 h
 have hct : Tryz.prog.cellsOf 76 = 6 := by kernel_rfl
 rw [hct] at hlen
 obtain ⟨x0, x1, x2, x3, x4, x5, rfl⟩ : ∃ x0 x1 x2 x3 x4 x5, xs = [x0, x1, x2, x3, x4, x5] := by
  match xs, hxl with
  | [x0, x1, x2, x3, x4, x5], _ => exact ⟨x0, x1, x2, x3, x4, x5, rfl⟩
 have f0 : DataW.trod enc Tryz.prog w 0 (fun _ => true) true n 62 ((cs.drop 0).take (Tryz.prog.cellsOf 62)) = some x0 := hf 0 _ rfl
 rw [show Tryz.prog.cellsOf 62 = 1 by kernel_rfl] at f0
 obtain ⟨a0, r0, v0, b0⟩ := (fun _ => opa_int hB Tryz.underlying62) n _ _ f0
 have f1 : DataW.trod enc Tryz.prog w 0 (fun _ => true) true n 4 ((cs.drop 1).take (Tryz.prog.cellsOf 4)) = some x1 := hf 1 _ rfl
 rw [show Tryz.prog.cellsOf 4 = 1 by kernel_rfl] at f1
 obtain ⟨a1, r1, v1, b1⟩ := (fun _ => opa_bool hB Tryz.underlying4) n _ _ f1
 have f2 : DataW.trod enc Tryz.prog w 0 (fun _ => true) true n 3 ((cs.drop 2).take (Tryz.prog.cellsOf 3)) = some x2 := hf 2 _ rfl
 rw [show Tryz.prog.cellsOf 3 = 1 by kernel_rfl] at f2
 obtain ⟨a2, r2, v2, b2⟩ := (fun _ => opa_int hB Tryz.underlying3) n _ _ f2
 have f3 : DataW.trod enc Tryz.prog w 0 (fun _ => true) true n 9 ((cs.drop 3).take (Tryz.prog.cellsOf 9)) = some x3 := hf 3 _ rfl
 rw [show Tryz.prog.cellsOf 9 = 1 by kernel_rfl] at f3
 obtain ⟨a3, r3, v3, b3⟩ := (fun _ => opa_str hB Tryz.underlying9) n _ _ f3
 have f4 : DataW.trod enc Tryz.prog w 0 (fun _ => true) true n 73 ((cs.drop 4).take (Tryz.prog.cellsOf 73)) = some x4 := hf 4 _ rfl
 rw [show Tryz.prog.cellsOf 73 = 1 by kernel_rfl] at f4
 obtain ⟨a4, r4, v4, b4⟩ := (opa_slice0 (m := n) (e := 76) (sz := 6) hB Tryz.underlying73 (by kernel_rfl) (fun k hk => ih k (by omega))) _ _ f4
 have f5 : DataW.trod enc Tryz.prog w 0 (fun _ => true) true n 74 ((cs.drop 5).take (Tryz.prog.cellsOf 74)) = some x5 := hf 5 _ rfl
 rw [show Tryz.prog.cellsOf 74 = 1 by kernel_rfl] at f5
 obtain ⟨a5, r5, v5, b5⟩ := (opa_slice0 (m := n) (e := 9) (sz := 1) hB Tryz.underlying74 (by kernel_rfl) (fun k _ => (fun _ => opa_str hB Tryz.underlying9) k)) _ _ f5
 refine ⟨⟨a0, a1, a2, a3, a4, a5⟩, ?_, ?_, ?_⟩
 ·rw [emb_TC0_eq]
  have hcs : RepSeq (Mem.of w) _ (cs.drop 0) := (RepSeq.cut (k := 1) r0 (by rw [List.drop_drop]; exact (RepSeq.cut (k := 1) r1 (by rw [List.drop_drop]; exact (RepSeq.cut (k := 1) r2 (by rw [List.drop_drop]; exact (RepSeq.cut (k := 1) r3 (by rw [List.drop_drop]; exact (RepSeq.cut (k := 1) r4 (by rw [List.drop_drop]; exact (RepSeq.cut (k := 1) r5 (by rw [List.drop_drop]; exact (show RepSeq (Mem.of w) [] (cs.drop 6) from List.drop_eq_nil_of_le (by omega))))))))))))))
  exact hcs
 ·rw [emb_TC0_eq]; exact ⟨v0, ⟨v1, ⟨v2, ⟨v3, ⟨v4, ⟨v5, trivial⟩⟩⟩⟩⟩⟩
 ·rw [emb_TC0_eq]
  have := hB.agg ([x0, x1, x2, x3, x4, x5].map (·.1))
  simp only [List.map_cons, List.map_nil, List.sum_cons, List.sum_nil] at this ⊢
  simp only [dsz, dszs] at *
  omega
theorem opa_TE0 {H : Type} {enc : TypeId × Value → H} {w : World} {B : DataW H → Nat} (hB : BulkOk B) : ∀ m, OpnAt enc Tryz.prog w 78 emb_TE0 B m := by
 intro m
 induction m using Nat.strongRecOn with
 | ind m ih =>
 intro cs x h
 obtain ⟨xs, n, rfl, rfl, hlen, hxl, hf⟩ := DataW.trod_struct Tryz.underlying78 h
 have hct : Tryz.prog.cellsOf 78 = 8 := by kernel_rfl
 rw [hct] at hlen
 obtain ⟨x0, x1, x2, rfl⟩ : ∃ x0 x1 x2, xs = [x0, x1, x2] := by
  match xs, hxl with
  | [x0, x1, x2], _ => exact ⟨x0, x1, x2, rfl⟩
 have f0 : DataW.trod enc Tryz.prog w 0 (fun _ => true) true n 9 ((cs.drop 0).take (Tryz.prog.cellsOf 9)) = some x0 := hf 0 _ rfl
 rw [show Tryz.prog.cellsOf 9 = 1 by kernel_rfl] at f0
 obtain ⟨a0, r0, v0, b0⟩ := (fun _ => opa_str hB Tryz.underlying9) n _ _ f0
 have f1 : DataW.trod enc Tryz.prog w 0 (fun _ => true) true n 4 ((cs.drop 1).take (Tryz.prog.cellsOf 4)) = some x1 := hf 1 _ rfl
 rw [show Tryz.prog.cellsOf 4 = 1 by kernel_rfl] at f1
 obtain ⟨a1, r1, v1, b1⟩ := (fun _ => opa_bool hB Tryz.underlying4) n _ _ f1
 have f2 : DataW.trod enc Tryz.prog w 0 (fun _ => true) true n 76 ((cs.drop 2).take (Tryz.prog.cellsOf 76)) = some x2 := hf 2 _ rfl
 rw [show Tryz.prog.cellsOf 76 = 6 by kernel_rfl] at f2
 obtain ⟨a2, r2, v2, b2⟩ := (opa_TC0 hB) n _ _ f2
 refine ⟨⟨a0, a1, a2⟩, ?_, ?_, ?_⟩
 ·rw [emb_TE0_eq]
  have hcs : RepSeq (Mem.of w) _ (cs.drop 0) := (RepSeq.cut (k := 1) r0 (by rw [List.drop_drop]; exact (RepSeq.cut (k := 1) r1 (by rw [List.drop_drop]; exact (RepSeq.cut (k := 6) r2 (by rw [List.drop_drop]; exact (show RepSeq (Mem.of w) [] (cs.drop 8) from List.drop_eq_nil_of_le (by omega))))))))
  exact hcs
 ·rw [emb_TE0_eq]; exact ⟨v0, ⟨v1, ⟨v2, trivial⟩⟩⟩
 ·rw [emb_TE0_eq]
  have := hB.agg ([x0, x1, x2].map (·.1))
  simp only [List.map_cons, List.map_nil, List.sum_cons, List.sum_nil] at this ⊢
  simp only [dsz, dszs] at *
  omega
theorem opa_TD0 {H : Type} {enc : TypeId × Value → H} {w : World} {B : DataW H → Nat} (hB : BulkOk B) : ∀ m, OpnAt enc Tryz.prog w 52 emb_TD0 B m := by
 intro m
 induction m using Nat.strongRecOn with
 | ind m ih =>
 intro cs x h
 obtain ⟨xs, n, rfl, rfl, hlen, hxl, hf⟩ := DataW.trod_struct Tryz.underlying52 h
 have hct : Tryz.prog.cellsOf 52 = 3 := by kernel_rfl
 rw [hct] at hlen
 obtain ⟨x0, x1, x2, rfl⟩ : ∃ x0 x1 x2, xs = [x0, x1, x2] := by
  match xs, hxl with
  | [x0, x1, x2], _ => exact ⟨x0, x1, x2, rfl⟩
 have f0 : DataW.trod enc Tryz.prog w 0 (fun _ => true) true n 9 ((cs.drop 0).take (Tryz.prog.cellsOf 9)) = some x0 := hf 0 _ rfl
 rw [show Tryz.prog.cellsOf 9 = 1 by kernel_rfl] at f0
 obtain ⟨a0, r0, v0, b0⟩ := (fun _ => opa_str hB Tryz.underlying9) n _ _ f0
 have f1 : DataW.trod enc Tryz.prog w 0 (fun _ => true) true n 9 ((cs.drop 1).take (Tryz.prog.cellsOf 9)) = some x1 := hf 1 _ rfl
 rw [show Tryz.prog.cellsOf 9 = 1 by kernel_rfl] at f1
 obtain ⟨a1, r1, v1, b1⟩ := (fun _ => opa_str hB Tryz.underlying9) n _ _ f1
 have f2 : DataW.trod enc Tryz.prog w 0 (fun _ => true) true n 25 ((cs.drop 2).take (Tryz.prog.cellsOf 25)) = some x2 := hf 2 _ rfl
 rw [show Tryz.prog.cellsOf 25 = 1 by kernel_rfl] at f2
 obtain ⟨a2, r2, v2, b2⟩ := (fun m => opa_slice0 (e := 78) (sz := 8) hB Tryz.underlying25 (by kernel_rfl) (fun k _ => (opa_TE0 hB) k)) n _ _ f2
 refine ⟨⟨a0, a1, a2⟩, ?_, ?_, ?_⟩
 ·rw [emb_TD0_eq]
  have hcs : RepSeq (Mem.of w) _ (cs.drop 0) := (RepSeq.cut (k := 1) r0 (by rw [List.drop_drop]; exact (RepSeq.cut (k := 1) r1 (by rw [List.drop_drop]; exact (RepSeq.cut (k := 1) r2 (by rw [List.drop_drop]; exact (show RepSeq (Mem.of w) [] (cs.drop 3) from List.drop_eq_nil_of_le (by omega))))))))
  exact hcs
 ·rw [emb_TD0_eq]; exact ⟨v0, ⟨v1, ⟨v2, trivial⟩⟩⟩
 ·rw [emb_TD0_eq]
  have := hB.agg ([x0, x1, x2].map (·.1))
  simp only [List.map_cons, List.map_nil, List.sum_cons, List.sum_nil] at this ⊢
  simp only [dsz, dszs] at *
  omega
theorem opa_TA0 {H : Type} {enc : TypeId × Value → H} {w : World} {B : DataW H → Nat} (hB : BulkOk B) : ∀ m, OpnAt enc Tryz.prog w 31 emb_TA0 B m := by
 intro m
 induction m using Nat.strongRecOn with
 | ind m ih =>
 intro cs x h
 obtain ⟨xs, n, rfl, rfl, hlen, hxl, hf⟩ := DataW.trod_struct Tryz.underlying31 h
 have hct : Tryz.prog.cellsOf 31 = 2 := by kernel_rfl
 rw [hct] at hlen
 obtain ⟨x0, x1, rfl⟩ : ∃ x0 x1, xs = [x0, x1] := by
  match xs, hxl with
  | [x0, x1], _ => exact ⟨x0, x1, rfl⟩
 have f0 : DataW.trod enc Tryz.prog w 0 (fun _ => true) true n 22 ((cs.drop 0).take (Tryz.prog.cellsOf 22)) = some x0 := hf 0 _ rfl
 rw [show Tryz.prog.cellsOf 22 = 1 by kernel_rfl] at f0
 obtain ⟨a0, r0, v0, b0⟩ := (fun m => opa_slice0 (e := 52) (sz := 3) hB Tryz.underlying22 (by kernel_rfl) (fun k _ => (opa_TD0 hB) k)) n _ _ f0
 have f1 : DataW.trod enc Tryz.prog w 0 (fun _ => true) true n 3 ((cs.drop 1).take (Tryz.prog.cellsOf 3)) = some x1 := hf 1 _ rfl
 rw [show Tryz.prog.cellsOf 3 = 1 by kernel_rfl] at f1
 obtain ⟨a1, r1, v1, b1⟩ := (fun _ => opa_int hB Tryz.underlying3) n _ _ f1
 refine ⟨⟨a0, a1⟩, ?_, ?_, ?_⟩
 ·rw [emb_TA0_eq]
  have hcs : RepSeq (Mem.of w) _ (cs.drop 0) := (RepSeq.cut (k := 1) r0 (by rw [List.drop_drop]; exact (RepSeq.cut (k := 1) r1 (by rw [List.drop_drop]; exact (show RepSeq (Mem.of w) [] (cs.drop 2) from List.drop_eq_nil_of_le (by omega))))))
  exact hcs
 ·rw [emb_TA0_eq]; exact ⟨v0, ⟨v1, trivial⟩⟩
 ·rw [emb_TA0_eq]
  have := hB.agg ([x0, x1].map (·.1))
  simp only [List.map_cons, List.map_nil, List.sum_cons, List.sum_nil] at this ⊢
  simp only [dsz, dszs] at *
  omega
theorem opa_TB0 {H : Type} {enc : TypeId × Value → H} {w : World} {B : DataW H → Nat} (hB : BulkOk B) : ∀ m, OpnAt enc Tryz.prog w 24 emb_TB0 B m := by
 intro m
 induction m using Nat.strongRecOn with
 | ind m ih =>
 intro cs x h
 obtain ⟨xs, n, rfl, rfl, hlen, hxl, hf⟩ := DataW.trod_struct Tryz.underlying24 h
 have hct : Tryz.prog.cellsOf 24 = 2 := by kernel_rfl
 rw [hct] at hlen
 obtain ⟨x0, x1, rfl⟩ : ∃ x0 x1, xs = [x0, x1] := by
  match xs, hxl with
  | [x0, x1], _ => exact ⟨x0, x1, rfl⟩
 have f0 : DataW.trod enc Tryz.prog w 0 (fun _ => true) true n 22 ((cs.drop 0).take (Tryz.prog.cellsOf 22)) = some x0 := hf 0 _ rfl
 rw [show Tryz.prog.cellsOf 22 = 1 by kernel_rfl] at f0
 obtain ⟨a0, r0, v0, b0⟩ := (fun m => opa_slice0 (e := 52) (sz := 3) hB Tryz.underlying22 (by kernel_rfl) (fun k _ => (opa_TD0 hB) k)) n _ _ f0
 have f1 : DataW.trod enc Tryz.prog w 0 (fun _ => true) true n 3 ((cs.drop 1).take (Tryz.prog.cellsOf 3)) = some x1 := hf 1 _ rfl
 rw [show Tryz.prog.cellsOf 3 = 1 by kernel_rfl] at f1
 obtain ⟨a1, r1, v1, b1⟩ := (fun _ => opa_int hB Tryz.underlying3) n _ _ f1
 refine ⟨⟨a0, a1⟩, ?_, ?_, ?_⟩
 ·rw [emb_TB0_eq]
  have hcs : RepSeq (Mem.of w) _ (cs.drop 0) := (RepSeq.cut (k := 1) r0 (by rw [List.drop_drop]; exact (RepSeq.cut (k := 1) r1 (by rw [List.drop_drop]; exact (show RepSeq (Mem.of w) [] (cs.drop 2) from List.drop_eq_nil_of_le (by omega))))))
  exact hcs
 ·rw [emb_TB0_eq]; exact ⟨v0, ⟨v1, trivial⟩⟩
 ·rw [emb_TB0_eq]
  have := hB.agg ([x0, x1].map (·.1))
  simp only [List.map_cons, List.map_nil, List.sum_cons, List.sum_nil] at this ⊢
  simp only [dsz, dszs] at *
  omega
theorem bulk_all {H : Type} (l : List (DataW H)) : Rows.uptoBulkAll l = (l.map Rows.uptoBulk).sum := by
 induction l with
 | nil => simp [Rows.uptoBulkAll]
 | cons x l ih => simp only [Rows.uptoBulkAll, List.map_cons, List.sum_cons, ih]
theorem bulk_ok {H : Type} : BulkOk (H := H) Rows.uptoBulk where
 one d := by
  cases d with
  | lit l => cases l <;> simp [Rows.uptoBulk]
  | nil => simp [Rows.uptoBulk]
  | ptr d => simp [Rows.uptoBulk]
  | slice elems spare => simp [Rows.uptoBulk]
  | agg parts => simp [Rows.uptoBulk]
  | iface t d => simp [Rows.uptoBulk]
  | map entries => simp [Rows.uptoBulk]
  | held h => simp [Rows.uptoBulk]
 str l := by simp [Rows.uptoBulk]
 slice e s := by
  simp only [Rows.uptoBulk]
  rw [bulk_all e]
  omega
 agg e := by
  simp only [Rows.uptoBulk]
  rw [bulk_all e]
  exact Nat.le_refl _
theorem bulk_one {H : Type} {d : DataW H} {l : List (DataW H)} (h : Rows.uptoSmall H l = true) (hd : d ∈ l) : Rows.uptoBulk d ≤ 1048576 := by
 unfold Rows.uptoSmall at h
 have h := of_decide_eq_true h
 rw [bulk_all] at h
 have := le_sum (List.mem_map_of_mem (f := Rows.uptoBulk) hd)
 omega
end Go.Proofs.YtalifkcchfkgmaaGreatDoor
end
