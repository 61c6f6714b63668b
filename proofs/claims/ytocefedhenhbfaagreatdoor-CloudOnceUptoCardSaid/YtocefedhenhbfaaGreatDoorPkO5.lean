/-
  Texts of this claim, packed (what nothing names is left out): T2, StoreP1, StoreP2, C1, C2. Own work, partly printed by own programs. No condition.
-/
import Derived.Test.YtocefedhenhbfaaGreatDoorPkO4
set_option linter.unusedVariables false
set_option linter.unusedSimpArgs false
set_option maxHeartbeats 2000000
namespace Go.Proofs.YtocefedhenhbfaaGreatDoor
open Go Go.Vc Go.RowKit
def store_Check_s1 (n : Nat) (d0 : TB0) (s_1 : Int × Int) : Option (Lp (Int × Int) (Sum Unit Int)) :=
    bif (decide (s_1.2 < ((d0.fL.length : Nat) : Int))) then
      ((getI d0.fL s_1.2).bind fun x_1 =>
      (store_Number n x_1.fPhys).bind fun x_2 =>
      bif !x_2.2 then
        (some (.br (.inl ())))
      else
        bif (decide (x_2.1 ≤ s_1.1)) then
          (some (.br (.inl ())))
        else
          (schema_Check n x_1.fType x_1.fProps).bind fun x_3 =>
          bif (!(decide (x_3 = 0))) then
            (some (.br (.inl ())))
          else
            (store_known n x_1.fProps).bind fun x_4 =>
            bif !x_4 then
              (some (.br (.inl ())))
            else
              need (inR .i64 (s_1.2 + 1)) <|
              some (.nx (x_2.1, s_1.2 + 1)))
    else
      some (.br (.inr s_1.1))
def store_Check (n : Nat) (d0 : TB0) : Option Int :=
  (loopF (store_Check_s1 n d0) n ((0 : Int), (0 : Int))).bind fun b_2 =>
  (match b_2 with 
  | .inl y_1 => some ((2 : Int)) 
  | .inr y_2 => bif (decide (d0.fMade < y_2)) then
      (some ((2 : Int)))
    else
      bif (decide ((1099511627776 : Int) < d0.fMade)) then
        (some ((2 : Int)))
      else
        some ((0 : Int)))
set_option maxRecDepth 20000 in
theorem store_Check_ok (n : Nat) (M : Mem) (hG : GL M) (c0 : List Value) (d0 : TB0) (h0 : Rep M (emb_TB0 d0) c0) (r : Int) (hF : store_Check n d0 = some r) : Ok Tryz.prog M 86 [.agg c0.toArray] (fun _ v => v = .int .i64 r) := by
 unfold store_Check at hF
 intro M1 hM0 w0 H w p0
 replace hG := GL.mono hM0 hG
 replace h0 := Rep.mono hM0 _ _ h0
 obtain ⟨A_1, cap_1, rfl, h_1⟩ := TB0.opn h0
 refine R_enter 53 Tryz.func86 rfl rfl (by simp) fun a0 f0 => RR (Y13 (cs := #[.slice A_1 d0.fL.length cap_1, .int .i64 d0.fMade]) (T := 80) f0 p0 fun b_1 M_1 w_1 hM_1 hc_1 p_1 _ f => ?_)
 have hc_2 := fz_box hc_1
 refine Y f 1 fun _ f => eT (RR (Y f 1 fun _ f => eT (R_seq (RR (Y f 1 fun _ f => Y15 f p_1 hc_2 0 rfl fun _ f => Y f 2 fun _ f => eT (wp_block ?_))))))
 obtain ⟨b_2, hL_1, hF_1⟩ := bS hF
 refine wp_mono (Q := fun e a w => (e = .ret ∧ (∃ y_1 : Unit, b_2 = .inl y_1 ∧ ∃ M_3 : Mem, M_1.le M_3 ∧ Frm 53 [(2, .int .i64 2)] a ∧ Hp w0 M_3 (H) w)) ∨ (e = .exit 0 ∧ (∃ y_2 : Int, b_2 = .inr y_2 ∧ ∃ M_4 : Mem, M_1.le M_4 ∧ Frm 53 [(1, .pointer (some (⟨b_1, 0, none⟩))), (3, .int .i64 y_2)] a ∧ Hp w0 M_4 (H) w))) (R_loop (n := 53) (w0 := w0) (M := M_1) (fun (x : Nat × (Int × Int)) => match x with | (m_1, s_1) => [(1, .pointer (some (⟨b_1, 0, none⟩))), (3, .int .i64 s_1.1), (9, .slice A_1 d0.fL.length cap_1), (10, .int .i64 ((d0.fL.length : Nat) : Int)), (11, .int .i64 s_1.2)]) (fun (x : Nat × (Int × Int)) => match x with | (m_1, s_1) => (H)) (fun (x : Nat × (Int × Int)) (MM : Mem) => match x with | (m_1, s_1) => loopF (store_Check_s1 n d0) m_1 s_1 = some b_2) (fun (x : Nat × (Int × Int)) => match x with | (m_1, s_1) => m_1) (n, ((0 : Int), (0 : Int))) (f.kp) p_1 hL_1 ?_) ?_
 ·rintro ⟨m_1, s_1⟩ M_2 _ w_2 hM_2 I_1 f p_2
  have I_1L := I_1
  obtain ⟨m_2, r_1, rfl, hs_1, hn_1⟩ := loop_step I_1L
  unfold store_Check_s1 at hs_1
  refine RR (Y f 1 fun _ f => eT (R_seq (RcF f hs_1 (fun h_2 hF_2 => ?_) fun h_2 hF_16 => ?_)))
  ·have k_1 := dI.1 h_2
   refine wp_skip (T_n (R_seq (wp_block (RR ?_))))
   obtain ⟨x_1, hx_1, hF_3⟩ := bS hF_2
   obtain ⟨ad_1, c_1, e_1, -, hr_1, hc_3⟩ := Sli.at_ (h_1.mono (hM_1.trans hM_2)) hx_1
   obtain ⟨A_2, cap_2, rfl, h_3⟩ := TD0.opn hr_1
   refine Z f (Y32 e_1 rfl (len := d0.fL.length) (cap := cap_1) (k := .i64) (i := s_1.2) (e := 54) (sz := 3) (getI_nn hx_1) (getI_lt hx_1)) fun _ f => Z (v := .agg #[S x_1.fPhys, S x_1.fType, .slice A_2 x_1.fProps.length cap_2]) f (Y34 (cs := [S x_1.fPhys, S x_1.fType, .slice A_2 x_1.fProps.length cap_2]) rfl (ad := ad_1.add (s_1.2.toNat * 3)) (fun j v h => p_2.cell (hc_3 j v h))) fun _ f => Y12 f p_2 (.cells #[S [], S [], .slice none 0 0] 54 (0, 0)) fun b_3 w_3 p_3 _ f => Y28 (vs := [S x_1.fPhys, S x_1.fType, .slice A_2 x_1.fProps.length cap_2]) (j := 0) f p_3 rfl rfl (by simp [Value.oneCell', S]) (by simp) (by decide) (cs' := #[S x_1.fPhys, S x_1.fType, .slice A_2 x_1.fProps.length cap_2]) (by kernel_rfl) fun w_4 p_4 _ f => eT (RR (Y f 1 fun _ f => Z f (Y33 (v := S x_1.fPhys) rfl (ad := ⟨b_3, 0, none⟩) (p_4.ownCell 0 rfl 0)) fun _ f => ?_))
   obtain ⟨x_2, hx_2, hF_4⟩ := bS hF_3
   refine Y18 f p_4 (store_Number_ok n _ (GL.mono (hM_1.trans hM_2) hG) x_1.fPhys x_2 hx_2) fun w_5 p_5 _ f => Y f 5 fun _ f => eT (R_seq (RR (Y f 3 fun _ f => ?_)))
   rcases cE hF_4 with ⟨h_4, hF_5⟩ | ⟨h_4, hF_6⟩
   ·have k_2 : (x_2.2) = false := by simpa using h_4
    have f := f.st 23 (cB h_4)
    refine Y f 18 fun _ f => eT (Y8 f (RR (Y f 1 fun _ f => eT (wp_ret (T_r (B_r (T_r (T_r ?_))))))))
    obtain rfl := sI hF_5
    exact .inl ⟨rfl, (), (sI hn_1).symm, M_2, hM_2, f.kp, (p_5.dropN 1)⟩
   ·have k_3 : (x_2.2) = true := by simpa using h_4
    have f := f.st 23 (cB h_4)
    refine Y f 5 fun _ f => ?_
    rcases cE hF_6 with ⟨h_5, hF_7⟩ | ⟨h_5, hF_8⟩
    ·have k_4 := dI.1 h_5
     have f := f.st 28 (cB h_5)
     refine Y f 13 fun _ f => eT (Y8 f (RR (Y f 1 fun _ f => eT (wp_ret (T_r (B_r (T_r (T_r ?_))))))))
     obtain rfl := sI hF_7
     exact .inl ⟨rfl, (), (sI hn_1).symm, M_2, hM_2, f.kp, (p_5.dropN 1)⟩
    ·have k_5 := iff_f dI h_5
     have f := f.st 28 (cB h_5)
     refine Y f 1 fun _ f => Z f (Y33 (v := S x_1.fType) rfl (ad := ⟨b_3, 1, none⟩) (p_5.ownCell 0 rfl 1)) fun _ f => Y f 1 fun _ f => Z f (Y33 (v := .slice A_2 x_1.fProps.length cap_2) rfl (ad := ⟨b_3, 2, none⟩) (p_5.ownCell 0 rfl 2)) fun _ f => ?_
     obtain ⟨x_3, hx_3, hF_9⟩ := bS hF_8
     refine Y18 f p_5 (schema_Check_ok n _ (GL.mono (hM_1.trans hM_2) hG) x_1.fType A_2 cap_2 x_1.fProps h_3 x_3 hx_3) fun w_6 p_6 _ f => Y f 3 fun _ f => ?_
     rcases cE hF_9 with ⟨h_6, hF_10⟩ | ⟨h_6, hF_11⟩
     ·have k_6 : ¬ (x_3 = 0) := (not_iff dI).1 h_6
      have f := f.st 36 (cB h_6)
      refine Y f 5 fun _ f => eT (Y8 f (RR (Y f 1 fun _ f => eT (wp_ret (T_r (B_r (T_r (T_r ?_))))))))
      obtain rfl := sI hF_10
      exact .inl ⟨rfl, (), (sI hn_1).symm, M_2, hM_2, f.kp, (p_6.dropN 1)⟩
     ·have k_7 : ¬ (¬ (x_3 = 0)) := iff_f (not_iff dI) h_6
      have f := f.st 36 (cB h_6)
      refine Y f 1 fun _ f => Z f (Y33 (v := .slice A_2 x_1.fProps.length cap_2) rfl (ad := ⟨b_3, 2, none⟩) (p_6.ownCell 0 rfl 2)) fun _ f => ?_
      obtain ⟨x_4, hx_4, hF_12⟩ := bS hF_11
      refine Y18 f p_6 (store_known_ok n _ (GL.mono (hM_1.trans hM_2) hG) A_2 cap_2 x_1.fProps h_3 x_4 hx_4) fun w_7 p_7 _ f => Y f 2 fun _ f => eT (RcF f hF_12 (fun h_7 hF_13 => ?_) fun h_7 hF_14 => ?_)
      ·have k_8 : (x_4) = false := by simpa using h_7
       refine RR (Y f 1 fun _ f => eT (wp_ret (T_r (B_r (T_r (T_r ?_))))))
       obtain rfl := sI hF_13
       exact .inl ⟨rfl, (), (sI hn_1).symm, M_2, hM_2, f.kp, (p_7.dropN 1)⟩
      ·have k_9 : (x_4) = true := by simpa using h_7
       refine wp_skip (T_n (R_reg (Y f 2 fun _ f => W_end rfl (B_n (T_n (R_reg ?_))))))
       obtain ⟨g_1, hF_15⟩ := nS hF_14
       refine Y f 1 fun _ f => ?_
       have f := f.st 43 (congrArg (Value.int .i64) (inR_wrap g_1))
       refine Y f 1 fun _ f => eT ?_
       obtain rfl := sI hF_15
       exact ⟨⟨m_2, (x_2.1, s_1.2 + 1)⟩, Nat.lt_succ_self _, M_2, hM_2, hn_1, f.kp, (p_7.dropN 1)⟩
  ·have k_10 := iff_f dI h_2
   refine wp_exit (T_x (T_x ?_))
   obtain rfl := sI hF_16
   exact .inr ⟨rfl, s_1.1, (sI hn_1).symm, M_2, hM_2, f.kp, p_2⟩
 ·rintro _ _ w_10 (⟨rfl, y_1, rfl, M_3, hM_3, f, p_8⟩ | ⟨rfl, y_2, rfl, M_4, hM_4, f, p_9⟩)
  ·refine B_r (T_r (E_ret1 f rfl (by kernel_rfl : Vc.look _ 2 = some (.int .i64 2)) ?_))
   obtain rfl := sI hF_1
   exact ⟨_, rfl, M_3, (hM_1.trans hM_3), p_8, rfl⟩
  ·refine B_x (T_n (R_seq (RR (Y f 1 fun _ f => Y15 f p_9 (fzu hM_4 hc_2) 1 rfl fun _ f => Y f 3 fun _ f => ?_))))
   rcases cE hF_1 with ⟨h_8, hF_17⟩ | ⟨h_8, hF_18⟩
   ·have k_11 := dI.1 h_8
    have f := f.st 48 (cB h_8)
    refine Y f 4 fun _ f => eT (Y8 f (RR (Y f 1 fun _ f => eT (wp_ret (T_r (E_ret1 f rfl (by kernel_rfl : Vc.look _ 2 = some (.int .i64 2)) ?_))))))
    obtain rfl := sI hF_17
    exact ⟨_, rfl, M_4, (hM_1.trans hM_4), p_9, rfl⟩
   ·have k_12 := iff_f dI h_8
    have f := f.st 48 (cB h_8)
    refine Y f 1 fun _ f => Y15 f p_9 (fzu hM_4 hc_2) 1 rfl fun _ f => Y f 2 fun _ f => eT (RcF f hF_18 (fun h_9 hF_19 => ?_) fun h_9 hF_20 => ?_)
    ·have k_13 := dI.1 h_9
     refine RR (Y f 1 fun _ f => eT (wp_ret (T_r (E_ret1 f rfl (by kernel_rfl : Vc.look _ 2 = some (.int .i64 2)) ?_))))
     obtain rfl := sI hF_19
     exact ⟨_, rfl, M_4, (hM_1.trans hM_4), p_9, rfl⟩
    ·have k_14 := iff_f dI h_9
     refine wp_skip (T_n (RR (Y f 1 fun _ f => eT (wp_ret (E_ret1 f rfl (by kernel_rfl : Vc.look _ 2 = some (.int .i64 0)) ?_)))))
     obtain rfl := sI hF_20
     exact ⟨_, rfl, M_4, (hM_1.trans hM_4), p_9, rfl⟩
def store_at_1 (n : Nat) (d0 : TD0) (d1 : List UInt8) : Option Bool :=
  some ((decide (d0.fPhys = d1)))
theorem store_at_1_ok (n : Nat) (M : Mem) (hG : GL M) (c0 : List Value) (d0 : TD0) (h0 : Rep M (emb_TD0 d0) c0) (ad1 : Addr) (c1 : List Value) (d1 : List UInt8) (h1 : Rep M (Dat.str d1) c1) (q1 : ∀ j v, c1[j]? = some v → M.cell? (ad1.add j) = some v) (r : Bool) (hF : store_at_1 n d0 d1 = some r) : Ok Tryz.prog M 111 [.agg c0.toArray, .pointer (some ad1)] (fun _ v => v = .bool r) := by
 unfold store_at_1 at hF
 intro M1 hM0 w0 H w p0
 replace hG := GL.mono hM0 hG
 replace h0 := Rep.mono hM0 _ _ h0
 replace h1 := Rep.mono hM0 _ _ h1
 replace q1 := fun j v h => hM0.cell (q1 j v h)
 obtain ⟨A_1, cap_1, rfl, h_1⟩ := TD0.opn h0
 obtain rfl : c1 = [S d1] := h1
 refine R_enter 8 Tryz.func111 rfl rfl (by simp) fun a0 f0 => RR (Y13 (cs := #[S d0.fPhys, S d0.fType, .slice A_1 d0.fProps.length cap_1]) (T := 54) f0 p0 fun b_1 M_1 w_1 hM_1 hc_1 p_1 _ f => ?_)
 have hc_2 := fz_box hc_1
 refine Y f 1 fun _ f => eT (RR (Y f 1 fun _ f => Y15 f p_1 hc_2 0 rfl fun _ f => Y15 f p_1 (fzu hM_1 q1) 0 rfl fun _ f => Z f (Y40 rfl (l := d0.fPhys) (m := d1)) fun _ f => Y f 1 fun _ f => eT (wp_ret (E_ret1 f rfl (by kernel_rfl : Vc.look _ 3 = some (.bool (decide (d0.fPhys = d1)))) ?_))))
 obtain rfl := sI hF
 exact ⟨_, rfl, M_1, hM_1, p_1, rfl⟩
def store_find_2_s1 (n : Nat) (d0 : List TD0) (d1_0 : List UInt8) (s_1 : Int) : Option (Lp Int (Sum Int Unit)) :=
    bif (decide (s_1 < ((d0.length : Nat) : Int))) then
      ((getI d0 s_1).bind fun x_1 =>
      (store_at_1 n x_1 d1_0).bind fun x_2 =>
      bif x_2 then
        (some (.br (.inl s_1)))
      else
        need (inR .i64 (s_1 + 1)) <|
        some (.nx (s_1 + 1)))
    else
      some (.br (.inr ()))
def store_find_2 (n : Nat) (d0 : List TD0) (d1_0 : List UInt8) : Option Int :=
  (loopF (store_find_2_s1 n d0 d1_0) n (0 : Int)).bind fun b_1 =>
  (match b_1 with 
  | .inl y_1 => some (y_1) 
  | .inr y_2 => some ((-1 : Int)))
theorem store_find_2_ok (n : Nat) (M : Mem) (hG : GL M) (A0 : Option Addr) (cap0 : Nat) (d0 : List TD0) (h0 : Sli M 3 emb_TD0 A0 cap0 d0) (ad1_0 : Addr) (c1_0 : List Value) (d1_0 : List UInt8) (h1_0 : Rep M (Dat.str d1_0) c1_0) (q1_0 : ∀ j v, c1_0[j]? = some v → M.cell? (ad1_0.add j) = some v) (r : Int) (hF : store_find_2 n d0 d1_0 = some r) : Ok Tryz.prog M 110 [.slice A0 d0.length cap0, .func (.func 111) #[] #[.pointer (some ad1_0)]] (fun _ v => v = .int .i64 r) := by
 unfold store_find_2 at hF
 intro M1 hM0 w0 H w p0
 replace hG := GL.mono hM0 hG
 replace h0 := h0.mono hM0
 replace h1_0 := Rep.mono hM0 _ _ h1_0
 replace q1_0 := fun j v h => hM0.cell (q1_0 j v h)
 obtain rfl : c1_0 = [S d1_0] := h1_0
 refine R_enter 19 Tryz.func110 rfl rfl (by simp) fun a0 f0 => RR (Y f0 1 fun _ f => eT (R_seq (RR (Y f 3 fun _ f => eT (wp_block ?_)))))
 obtain ⟨b_1, hL_1, hF_1⟩ := bS hF
 refine wp_mono (Q := fun e a w => (e = .ret ∧ (∃ y_1 : Int, b_1 = .inl y_1 ∧ ∃ M_2 : Mem, M1.le M_2 ∧ Frm 19 [(4, .int .i64 y_1)] a ∧ Hp w0 M_2 (H) w)) ∨ (e = .exit 0 ∧ (∃ y_2 : Unit, b_1 = .inr y_2 ∧ ∃ M_3 : Mem, M1.le M_3 ∧ Frm 19 [] a ∧ Hp w0 M_3 (H) w))) (R_loop (n := 19) (w0 := w0) (M := M1) (fun (x : Nat × Int) => match x with | (m_1, s_1) => [(1, .func (.func 111) #[] #[.pointer (some ad1_0)]), (7, .slice A0 d0.length cap0), (8, .int .i64 ((d0.length : Nat) : Int)), (9, .int .i64 s_1)]) (fun (x : Nat × Int) => match x with | (m_1, s_1) => (H)) (fun (x : Nat × Int) (MM : Mem) => match x with | (m_1, s_1) => loopF (store_find_2_s1 n d0 d1_0) m_1 s_1 = some b_1) (fun (x : Nat × Int) => match x with | (m_1, s_1) => m_1) (n, (0 : Int)) (f.kp) p0 hL_1 ?_) ?_
 ·rintro ⟨m_1, s_1⟩ M_1 _ w_1 hM_1 I_1 f p_1
  have I_1L := I_1
  obtain ⟨m_2, r_1, rfl, hs_1, hn_1⟩ := loop_step I_1L
  unfold store_find_2_s1 at hs_1
  refine RR (Y f 1 fun _ f => eT (R_seq (RcF f hs_1 (fun h_1 hF_2 => ?_) fun h_1 hF_8 => ?_)))
  ·have k_1 := dI.1 h_1
   refine wp_skip (T_n (R_seq (wp_block (RR (Y f 1 fun _ f => ?_)))))
   obtain ⟨x_1, hx_1, hF_3⟩ := bS hF_2
   obtain ⟨ad_1, c_1, e_1, -, hr_1, hc_1⟩ := Sli.at_ (h0.mono hM_1) hx_1
   obtain ⟨A_1, cap_1, rfl, h_2⟩ := TD0.opn hr_1
   refine Z f (Y32 e_1 rfl (len := d0.length) (cap := cap0) (k := .i64) (i := s_1) (e := 54) (sz := 3) (getI_nn hx_1) (getI_lt hx_1)) fun _ f => Z (v := .agg #[S x_1.fPhys, S x_1.fType, .slice A_1 x_1.fProps.length cap_1]) f (Y34 (cs := [S x_1.fPhys, S x_1.fType, .slice A_1 x_1.fProps.length cap_1]) rfl (ad := ad_1.add (s_1.toNat * 3)) (fun j v h => p_1.cell (hc_1 j v h))) fun _ f => Y12 f p_1 (.cells #[S [], S [], .slice none 0 0] 54 (0, 0)) fun b_2 w_2 p_2 _ f => Y f 1 fun _ f => Y28 (vs := [S x_1.fPhys, S x_1.fType, .slice A_1 x_1.fProps.length cap_1]) (j := 0) f p_2 rfl rfl (by simp [Value.oneCell', S]) (by simp) (by decide) (cs' := #[S x_1.fPhys, S x_1.fType, .slice A_1 x_1.fProps.length cap_1]) (by kernel_rfl) fun w_3 p_3 _ f => eT (RR (Y f 1 fun _ f => Z (v := .agg #[S x_1.fPhys, S x_1.fType, .slice A_1 x_1.fProps.length cap_1]) f (Y34 (cs := [S x_1.fPhys, S x_1.fType, .slice A_1 x_1.fProps.length cap_1]) rfl (ad := ⟨b_2, 0, none⟩) (own_cells (p_3.ownCell 0 rfl) 0 rfl)) fun _ f => ?_))
   obtain ⟨x_2, hx_2, hF_4⟩ := bS hF_3
   refine Y18 f p_3 (store_at_1_ok n _ (GL.mono hM_1 hG) _ x_1 (TD0.shutx (x := x_1) h_2) ad1_0 [S d1_0] d1_0 (rfl) (fz_at ((fzu hM_1 q1_0)) 0 rfl) x_2 hx_2) fun w_4 p_4 _ f => eT (RcF f hF_4 (fun h_3 hF_5 => ?_) fun h_3 hF_6 => ?_)
   ·refine RR (Y f 2 fun _ f => eT (wp_ret (B_r (T_r (T_r ?_)))))
    obtain rfl := sI hF_5
    exact .inl ⟨rfl, s_1, (sI hn_1).symm, M_1, hM_1, f.kp, (p_4.dropN 1)⟩
   ·refine wp_skip (B_n (T_n (R_reg ?_)))
    obtain ⟨g_1, hF_7⟩ := nS hF_6
    refine Y f 1 fun _ f => ?_
    have f := f.st 18 (congrArg (Value.int .i64) (inR_wrap g_1))
    refine Y f 1 fun _ f => eT ?_
    obtain rfl := sI hF_7
    exact ⟨⟨m_2, s_1 + 1⟩, Nat.lt_succ_self _, M_1, hM_1, hn_1, f.kp, (p_4.dropN 1)⟩
  ·have k_4 := iff_f dI h_1
   refine wp_exit (T_x (T_x ?_))
   obtain rfl := sI hF_8
   exact .inr ⟨rfl, (), (sI hn_1).symm, M_1, hM_1, f.kp, p_1⟩
 ·rintro _ _ w_7 (⟨rfl, y_1, rfl, M_2, hM_2, f, p_5⟩ | ⟨rfl, y_2, rfl, M_3, hM_3, f, p_6⟩)
  ·refine B_r (T_r (E_ret1 f rfl (by kernel_rfl : Vc.look _ 4 = some (.int .i64 y_1)) ?_))
   obtain rfl := sI hF_1
   exact ⟨_, rfl, M_2, hM_2, p_5, rfl⟩
  ·refine B_x (T_n (RR (Y f 1 fun _ f => eT (wp_ret (E_ret1 f rfl (by kernel_rfl : Vc.look _ 4 = some (.int .i64 (-1))) ?_)))))
   obtain rfl := sI hF_1
   exact ⟨_, rfl, M_3, hM_3, p_6, rfl⟩
def store_at (n : Nat) (d0 : TB0) (d1 : List UInt8) : Option Int :=
  (store_find_2 n d0.fL d1).bind fun x_1 =>
  some (x_1)
theorem store_at_ok (n : Nat) (M : Mem) (hG : GL M) (c0 : List Value) (d0 : TB0) (h0 : Rep M (emb_TB0 d0) c0) (d1 : List UInt8) (r : Int) (hF : store_at n d0 d1 = some r) : Ok Tryz.prog M 89 [.agg c0.toArray, S d1] (fun _ v => v = .int .i64 r) := by
 unfold store_at at hF
 intro M1 hM0 w0 H w p0
 replace hG := GL.mono hM0 hG
 replace h0 := Rep.mono hM0 _ _ h0
 obtain ⟨A_1, cap_1, rfl, h_1⟩ := TB0.opn h0
 refine R_enter 9 Tryz.func89 rfl rfl (by simp) fun a0 f0 => RR (Y13 (cs := #[.slice A_1 d0.fL.length cap_1, .int .i64 d0.fMade]) (T := 80) f0 p0 fun b_1 M_1 w_1 hM_1 hc_1 p_1 _ f => ?_)
 have hc_2 := fz_box hc_1
 refine Y13 (cs := #[S d1]) (T := 9) f p_1 fun b_2 M_2 w_2 hM_2 hc_3 p_2 _ f => ?_
 have hc_4 := fz_box hc_3
 refine Y f 1 fun _ f => eT (RR (Y f 1 fun _ f => Y15 f p_2 (fzu hM_2 hc_2) 0 rfl fun _ f => Y f 1 fun _ f => ?_))
 obtain ⟨x_1, hx_1, hF_1⟩ := bS hF
 refine Y18 f p_2 (store_find_2_ok n _ (GL.mono (hM_1.trans hM_2) hG) A_1 cap_1 d0.fL (h_1.mono (hM_1.trans hM_2)) (⟨b_2, 0, none⟩) [S d1] d1 (rfl) (fz_at (hc_4) 0 rfl) x_1 hx_1) fun w_3 p_3 _ f => Y f 1 fun _ f => eT (wp_ret (E_ret1 f rfl (by kernel_rfl : Vc.look _ 4 = some (.int .i64 x_1)) ?_))
 obtain rfl := sI hF_1
 exact ⟨_, rfl, M_2, (hM_1.trans hM_2), p_3, rfl⟩
def store_Create (n : Nat) (d0 : TB0) (d1 : List UInt8) (d2 : List TF0) : Option (TB0 × List UInt8 × Int) :=
  (store_Check n (⟨d0.fL, d0.fMade⟩ : TB0)).bind fun x_1 =>
  ((bif (decide (x_1 = 0)) then
      ((schema_Check n d1 d2).bind fun x_2 =>
      some (x_2))
    else
      some (x_1) : Option Int)).bind fun y_1 =>
  bif (!(decide (y_1 = 0))) then
    (some ((z_TB0, ([] : List UInt8), y_1)))
  else
    (store_known n d2).bind fun x_3 =>
    bif !x_3 then
      (some ((z_TB0, ([] : List UInt8), (91 : Int))))
    else
      bif (decide (d0.fMade = 1099511627776)) then
        (some ((z_TB0, ([] : List UInt8), (3 : Int))))
      else
        need (inR .i64 (d0.fMade + 1)) <|
        (store_Phys n (d0.fMade + 1)).bind fun x_4 =>
        need (0 ≤ ((d0.fL.length : Nat) : Int) ∧ ((d0.fL.length : Nat) : Int) ≤ (d0.fL.length : Int)) <|
        need (((d0.fL.take ((d0.fL.length : Nat) : Int).toNat).length + 1) * 56 ≤ 140737488355328) <|
        some (((⟨(d0.fL.take ((d0.fL.length : Nat) : Int).toNat) ++ [(⟨x_4.1, d1, d2⟩ : TD0)], d0.fMade + 1⟩ : TB0), x_4.1, (0 : Int)))
set_option maxRecDepth 20000 in
theorem store_Create_ok (n : Nat) (M : Mem) (hG : GL M) (c0 : List Value) (d0 : TB0) (h0 : Rep M (emb_TB0 d0) c0) (d1 : List UInt8) (A2 : Option Addr) (cap2 : Nat) (d2 : List TF0) (h2 : Sli M 8 emb_TF0 A2 cap2 d2) (r : TB0 × List UInt8 × Int) (hF : store_Create n d0 d1 d2 = some r) : Ok Tryz.prog M 62 [.agg c0.toArray, S d1, .slice A2 d2.length cap2] (fun M' v => ∃ (c0 : List Value), v = .tuple #[.agg c0.toArray, S r.2.1, .int .i64 r.2.2] ∧ Rep M' (emb_TB0 r.1) c0) := by
 unfold store_Create at hF
 intro M1 hM0 w0 H w p0
 replace hG := GL.mono hM0 hG
 replace h0 := Rep.mono hM0 _ _ h0
 replace h2 := h2.mono hM0
 obtain ⟨A_1, cap_1, rfl, h_1⟩ := TB0.opn h0
 refine R_enter 62 Tryz.func62 rfl rfl (by simp) fun a0 f0 => RR (Y12 f0 p0 (.cells #[.slice A_1 d0.fL.length cap_1, .int .i64 d0.fMade] 80 (0, 0)) fun b_1 w_1 p_1 _ f => Y12 f p_1 (.cells #[.slice none 0 0, .int .i64 0] 80 (0, 0)) fun b_2 w_2 p_2 _ f => Y f 2 fun _ f => eT (RR (Z (v := .agg #[.slice A_1 d0.fL.length cap_1, .int .i64 d0.fMade]) f (Y34 (cs := [.slice A_1 d0.fL.length cap_1, .int .i64 d0.fMade]) rfl (ad := ⟨b_1, 0, none⟩) (own_cells (p_2.ownCell 1 rfl) 0 rfl)) fun _ f => ?_)))
 obtain ⟨x_1, hx_1, hF_1⟩ := bS hF
 refine Y18 f p_2 (store_Check_ok n _ hG _ (⟨d0.fL, d0.fMade⟩ : TB0) (TB0.shut h_1) x_1 hx_1) fun w_3 p_3 _ f => Y f 1 fun _ f => eT (R_seq (RR (Y f 2 fun _ f => eT ?_)))
 obtain ⟨j_1, hj_1, hF_2⟩ := bS hF_1
 refine R_mid (fun a_11 w_5 => ∃ y_1 : Int, j_1 = y_1 ∧ ∃ M_1 : Mem, M1.le M_1 ∧ Frm 62 [(1, S d1), (2, .slice A2 d2.length cap2), (3, .pointer (some (⟨b_1, 0, none⟩))), (6, .pointer (some (⟨b_2, 0, none⟩))), (9, .int .i64 y_1)] a_11 ∧ Hp w0 M_1 ((Ent.obj b_2 (.cells #[.slice none 0 0, .int .i64 0] 80 (0, 0))) :: (Ent.obj b_1 (.cells #[.slice A_1 d0.fL.length cap_1, .int .i64 d0.fMade] 80 (0, 0))) :: H) w_5) ?_ ?_
 ·refine RcF f hj_1 (fun h_2 hF_3 => ?_) fun h_2 hF_5 => ?_
  ·have k_1 := dI.1 h_2
   refine R_reg (Y f 2 fun _ f => ?_)
   obtain ⟨x_2, hx_2, hF_4⟩ := bS hF_3
   refine Y18 f p_3 (schema_Check_ok n _ hG d1 A2 cap2 d2 h2 x_2 hx_2) fun w_4 p_4 _ f => Y f 1 fun _ f => eT ?_
   exact ⟨x_2, (sI hF_4).symm, M1, (mR _), f.kp, p_4⟩
  ·have k_2 := iff_f dI h_2
   refine wp_skip (T_n ?_)
   exact ⟨x_1, (sI hF_5).symm, M1, (mR _), f.kp, p_3⟩
 ·rintro a_11 w_5 ⟨y_1, hq_1, M_1, hM_1, f, p_5⟩
  subst j_1
  refine T_n (R_seq (wp_block (RR (Y f 3 fun _ f => eT (RcF f hF_2 (fun h_3 hF_6 => ?_) fun h_3 hF_7 => ?_)))))
  ·have k_3 : ¬ (y_1 = 0) := (not_iff dI).1 h_3
   refine RR (Y f 2 fun _ f => Y28 (vs := [.slice none 0 0, .int .i64 0]) (j := 0) f p_5 rfl rfl (by simp [Value.oneCell', S]) (by simp) (by decide) (cs' := #[.slice none 0 0, .int .i64 0]) (by kernel_rfl) fun w_6 p_6 _ f => Y f 2 fun _ f => eT (wp_ret (B_r (T_r (E_rv3 f rfl (Y10 (cs := [.slice none 0 0, .int .i64 0]) (ad := ⟨b_2, 0, none⟩) f (own_cells (p_6.ownCell 0 rfl) 0 rfl)) (Y11 (v := S []) f) (Y11 (v := .int .i64 y_1) f) ?_)))))
   obtain rfl := sI hF_6
   exact ⟨_, rfl, M_1, hM_1, (p_6.dropN 2), ⟨[.slice none 0 0, .int .i64 0], rfl, (TB0.shut Sli.nil)⟩⟩
  ·have k_4 : ¬ (¬ (y_1 = 0)) := iff_f (not_iff dI) h_3
   refine RR (Y f 1 fun _ f => ?_)
   obtain ⟨x_3, hx_3, hF_8⟩ := bS hF_7
   refine Y18 f p_5 (store_known_ok n _ (GL.mono hM_1 hG) A2 cap2 d2 (h2.mono hM_1) x_3 hx_3) fun w_7 p_7 _ f => Y f 2 fun _ f => eT (RcF f hF_8 (fun h_4 hF_9 => ?_) fun h_4 hF_10 => ?_)
   ·have k_5 : (x_3) = false := by simpa using h_4
    refine RR (Y f 1 fun _ f => Y28 (vs := [.slice none 0 0, .int .i64 0]) (j := 0) f p_7 rfl rfl (by simp [Value.oneCell', S]) (by simp) (by decide) (cs' := #[.slice none 0 0, .int .i64 0]) (by kernel_rfl) fun w_8 p_8 _ f => Y f 2 fun _ f => eT (wp_ret (B_r (T_r (E_rv3 f rfl (Y10 (cs := [.slice none 0 0, .int .i64 0]) (ad := ⟨b_2, 0, none⟩) f (own_cells (p_8.ownCell 0 rfl) 0 rfl)) (Y11 (v := S []) f) (Y11 (v := .int .i64 91) f) ?_)))))
    obtain rfl := sI hF_9
    exact ⟨_, rfl, M_1, hM_1, (p_8.dropN 2), ⟨[.slice none 0 0, .int .i64 0], rfl, (TB0.shut Sli.nil)⟩⟩
   ·have k_6 : (x_3) = true := by simpa using h_4
    refine RR (Y f 1 fun _ f => Z f (Y33 (v := .int .i64 d0.fMade) rfl (ad := ⟨b_1, 1, none⟩) (p_7.ownCell 1 rfl 1)) fun _ f => Y f 2 fun _ f => eT (RcF f hF_10 (fun h_5 hF_11 => ?_) fun h_5 hF_12 => ?_))
    ·have k_7 := dI.1 h_5
     refine RR (Y f 1 fun _ f => Y28 (vs := [.slice none 0 0, .int .i64 0]) (j := 0) f p_7 rfl rfl (by simp [Value.oneCell', S]) (by simp) (by decide) (cs' := #[.slice none 0 0, .int .i64 0]) (by kernel_rfl) fun w_9 p_9 _ f => Y f 2 fun _ f => eT (wp_ret (B_r (T_r (E_rv3 f rfl (Y10 (cs := [.slice none 0 0, .int .i64 0]) (ad := ⟨b_2, 0, none⟩) f (own_cells (p_9.ownCell 0 rfl) 0 rfl)) (Y11 (v := S []) f) (Y11 (v := .int .i64 3) f) ?_)))))
     obtain rfl := sI hF_11
     exact ⟨_, rfl, M_1, hM_1, (p_9.dropN 2), ⟨[.slice none 0 0, .int .i64 0], rfl, (TB0.shut Sli.nil)⟩⟩
    ·have k_8 := iff_f dI h_5
     refine wp_skip (B_n (T_n (RR (Y f 1 fun _ f => Z f (Y33 (v := .slice A_1 d0.fL.length cap_1) rfl (ad := ⟨b_1, 0, none⟩) (p_7.ownCell 1 rfl 0)) fun _ f => Y f 2 fun _ f => eT (RR (Y f 1 fun _ f => Z f (Y33 (v := .int .i64 d0.fMade) rfl (ad := ⟨b_1, 1, none⟩) (p_7.ownCell 1 rfl 1)) fun _ f => ?_))))))
     obtain ⟨g_1, hF_13⟩ := nS hF_12
     refine Y f 1 fun _ f => ?_
     have f := f.st 40 (congrArg (Value.int .i64) (inR_wrap g_1))
     refine Y f 1 fun _ f => Y27 f p_7 1 rfl rfl (b := b_1) (j := 1) (v := .int .i64 (d0.fMade + 1)) rfl (by exact rfl) (by simp) (by simp) ((Ent.obj b_2 (.cells #[.slice none 0 0, .int .i64 0] 80 (0, 0))) :: (Ent.obj b_1 (.cells #[.slice A_1 d0.fL.length cap_1, .int .i64 (d0.fMade + 1)] 80 (0, 0))) :: H) rfl fun w_10 p_10 _ f => eT (RR (Y f 1 fun _ f => Z f (Y33 (v := .int .i64 (d0.fMade + 1)) rfl (ad := ⟨b_1, 1, none⟩) (p_10.ownCell 1 rfl 1)) fun _ f => ?_))
     obtain ⟨x_4, hx_4, hF_14⟩ := bS hF_13
     refine Y18 f p_10 (store_Phys_ok n _ (GL.mono hM_1 hG) (d0.fMade + 1) x_4 hx_4) fun w_11 p_11 _ f => Y f 5 fun _ f => eT (RR (Y f 1 fun _ f => Z f (Y33 (v := .slice A_1 d0.fL.length cap_1) rfl (ad := ⟨b_1, 0, none⟩) (p_11.ownCell 1 rfl 0)) fun _ f => Y f 2 fun _ f => ?_))
     obtain ⟨g_2, hF_15⟩ := nS hF_14
     have h_6 : Sli M_1 3 emb_TD0 (cutA A_1 3 0 ((d0.fL.length : Nat) : Int).toNat) (d0.fL.take ((d0.fL.length : Nat) : Int).toNat).length (d0.fL.take ((d0.fL.length : Nat) : Int).toNat) := Sli.full (cap := cap_1) (h_1.mono hM_1) (by omega)
     have hl_1 := Sli.len (cap := cap_1) (h_1.mono hM_1)
     have he_1 : ((d0.fL.length : Nat) : Int).toNat = (d0.fL.take ((d0.fL.length : Nat) : Int).toNat).length := by rw [List.length_take]; omega
     refine Z (v := .slice (cutA A_1 3 0 ((d0.fL.length : Nat) : Int).toNat) ((d0.fL.length : Nat) : Int).toNat ((d0.fL.length : Nat) : Int).toNat) f (Y36 rfl (A := A_1) (len := d0.fL.length) (cap := cap_1) (k := .i64) (k' := .i64) (b := ((d0.fL.length : Nat) : Int)) (e := 54) (sz := 3) g_2.1 (by omega)) fun _ f => ?_
     have f := Frm.set f 52 (v := .slice (cutA A_1 3 0 ((d0.fL.length : Nat) : Int).toNat) ((d0.fL.length : Nat) : Int).toNat ((d0.fL.length : Nat) : Int).toNat) (v' := .slice (cutA A_1 3 0 ((d0.fL.length : Nat) : Int).toNat) (d0.fL.take ((d0.fL.length : Nat) : Int).toNat).length (d0.fL.take ((d0.fL.length : Nat) : Int).toNat).length) (by kernel_rfl) (by rw [← he_1])
     refine Y f 4 fun _ f => V_allocS (k := 1) (c := 1) f p_11 (.cells #[S x_4.1, S d1, .slice A2 d2.length cap2] 54 (0, 0)) (by kernel_rfl) (fun _ => by kernel_rfl) fun b_3 w_12 p_12 _ f => ?_
     obtain ⟨g_3, hF_16⟩ := nS hF_15
     refine Y20 (e := 54) (bytes := 56) (z := .agg #[S [], S [], .slice none 0 0]) (f := emb_TD0) (xs := d0.fL.take ((d0.fL.length : Nat) : Int).toNat) (ys := [(⟨x_4.1, d1, d2⟩ : TD0)]) (news := [S x_4.1, S d1, .slice A2 d2.length cap2]) (ad := ⟨b_3, 0, none⟩) (m := 1) (c := 1) f p_12 (by decide) (by decide) h_6 (by exact ⟨_, _, rfl, TD0.shut (h2.mono hM_1), rfl⟩) rfl rfl rfl rfl (own_cells (p_12.ownCell 0 rfl) 0 rfl) g_3 (by have hg_ := g_3; omega) fun A_2 cap_2 cs_1 w_13 p_13 hr_1 _ f => ?_
     have p_14 := p_13.pl [1]
     have p_15 := p_14.drop
     refine Y f 1 fun _ f => Y27 f p_15 2 rfl rfl (b := b_1) (j := 0) (v := .slice A_2 ((d0.fL.take ((d0.fL.length : Nat) : Int).toNat) ++ [(⟨x_4.1, d1, d2⟩ : TD0)]).length cap_2) rfl (by exact rfl) (by simp) (by simp) ((Ent.row 54 3 (.slice A_2 ((d0.fL.take ((d0.fL.length : Nat) : Int).toNat) ++ [(⟨x_4.1, d1, d2⟩ : TD0)]).length cap_2) ((d0.fL.take ((d0.fL.length : Nat) : Int).toNat) ++ [(⟨x_4.1, d1, d2⟩ : TD0)]).length cs_1) :: (Ent.obj b_2 (.cells #[.slice none 0 0, .int .i64 0] 80 (0, 0))) :: (Ent.obj b_1 (.cells #[.slice A_2 ((d0.fL.take ((d0.fL.length : Nat) : Int).toNat) ++ [(⟨x_4.1, d1, d2⟩ : TD0)]).length cap_2, .int .i64 (d0.fMade + 1)] 80 (0, 0))) :: H) rfl fun w_14 p_16 _ f => eT (RR (Z (v := .agg #[.slice A_2 ((d0.fL.take ((d0.fL.length : Nat) : Int).toNat) ++ [(⟨x_4.1, d1, d2⟩ : TD0)]).length cap_2, .int .i64 (d0.fMade + 1)]) f (Y34 (cs := [.slice A_2 ((d0.fL.take ((d0.fL.length : Nat) : Int).toNat) ++ [(⟨x_4.1, d1, d2⟩ : TD0)]).length cap_2, .int .i64 (d0.fMade + 1)]) rfl (ad := ⟨b_1, 0, none⟩) (own_cells (p_16.ownCell 2 rfl) 0 rfl)) fun _ f => Y f 1 fun _ f => ?_))
     obtain ⟨A_3, cap_3, M_2, hv_1, hM_2, p_17, h_7⟩ := p_16.rowSli (f := emb_TD0) (xs := (d0.fL.take ((d0.fL.length : Nat) : Int).toNat) ++ [(⟨x_4.1, d1, d2⟩ : TD0)]) szd_TD0 hr_1
     have f := Frm.set f 60 (v := .agg #[.slice A_2 ((d0.fL.take ((d0.fL.length : Nat) : Int).toNat) ++ [(⟨x_4.1, d1, d2⟩ : TD0)]).length cap_2, .int .i64 (d0.fMade + 1)]) (v' := .agg #[.slice A_3 ((d0.fL.take ((d0.fL.length : Nat) : Int).toNat) ++ [(⟨x_4.1, d1, d2⟩ : TD0)]).length cap_3, .int .i64 (d0.fMade + 1)]) (by kernel_rfl) (by rw [hv_1])
     have p_18 : Hp w0 M_2 ((Ent.obj b_2 (.cells #[.slice none 0 0, .int .i64 0] 80 (0, 0))) :: (Ent.obj b_1 (.cells #[.slice A_3 ((d0.fL.take ((d0.fL.length : Nat) : Int).toNat) ++ [(⟨x_4.1, d1, d2⟩ : TD0)]).length cap_3, .int .i64 (d0.fMade + 1)] 80 (0, 0))) :: H) w_14 := by rw [hv_1] at p_17; exact p_17
     refine Y28 (vs := [.slice A_3 ((d0.fL.take ((d0.fL.length : Nat) : Int).toNat) ++ [(⟨x_4.1, d1, d2⟩ : TD0)]).length cap_3, .int .i64 (d0.fMade + 1)]) (j := 0) f p_18 rfl rfl (by simp [Value.oneCell', S]) (by simp) (by decide) (cs' := #[.slice A_3 ((d0.fL.take ((d0.fL.length : Nat) : Int).toNat) ++ [(⟨x_4.1, d1, d2⟩ : TD0)]).length cap_3, .int .i64 (d0.fMade + 1)]) (by kernel_rfl) fun w_15 p_19 _ f => Y f 2 fun _ f => eT (wp_ret (E_rv3 f rfl (Y10 (cs := [.slice A_3 ((d0.fL.take ((d0.fL.length : Nat) : Int).toNat) ++ [(⟨x_4.1, d1, d2⟩ : TD0)]).length cap_3, .int .i64 (d0.fMade + 1)]) (ad := ⟨b_2, 0, none⟩) f (own_cells (p_19.ownCell 0 rfl) 0 rfl)) (Y11 (v := S x_4.1) f) (Y11 (v := .int .i64 0) f) ?_))
     obtain rfl := sI hF_16
     exact ⟨_, rfl, M_2, (hM_1.trans hM_2), (p_19.dropN 2), ⟨[.slice A_3 ((d0.fL.take ((d0.fL.length : Nat) : Int).toNat) ++ [(⟨x_4.1, d1, d2⟩ : TD0)]).length cap_3, .int .i64 (d0.fMade + 1)], rfl, (TB0.shut h_7)⟩⟩
def store_Update (n : Nat) (d0 : TB0) (d1 : List UInt8) (d2 : List TF0) : Option (TB0 × Int) :=
  (store_Check n (⟨d0.fL, d0.fMade⟩ : TB0)).bind fun x_1 =>
  bif (!(decide (x_1 = 0))) then
    (some ((z_TB0, (2 : Int))))
  else
    (store_at n (⟨d0.fL, d0.fMade⟩ : TB0) d1).bind fun x_2 =>
    bif (decide (x_2 < 0)) then
      (some ((z_TB0, (4 : Int))))
    else
      (getI d0.fL x_2).bind fun x_3 =>
      (schema_Check n x_3.fType d2).bind fun x_4 =>
      bif (!(decide (x_4 = 0))) then
        (some ((z_TB0, x_4)))
      else
        (schema_Differ n x_3.fType x_3.fProps d2).bind fun x_5 =>
        (((store_known n d2).bind fun x_6 =>
          bif !x_6 then
            (some ((true)))
          else
            bif (!(decide (x_5.2 = 0))) then
              (some ((true)))
            else
              some ((decide (x_5.1 = 3))) : Option Bool)).bind fun y_1 =>
        bif y_1 then
          (some ((z_TB0, (91 : Int))))
        else
          ((need (0 ≤ x_2 ∧ x_2 ≤ (d0.fL.length : Int)) <|
            need (inR .i64 (x_2 + 1)) <|
            need (0 ≤ (x_2 + 1) ∧ (x_2 + 1) ≤ (d0.fL.length : Int)) <|
            need (((d0.fL.take x_2.toNat).length + 1) * 56 ≤ 140737488355328) <|
            need ((((d0.fL.take x_2.toNat) ++ [(⟨x_3.fPhys, x_3.fType, d2⟩ : TD0)]).length + (d0.fL.drop (x_2 + 1).toNat).length) * 56 ≤ 140737488355328) <|
            some (((d0.fL.take x_2.toNat) ++ [(⟨x_3.fPhys, x_3.fType, d2⟩ : TD0)]) ++ (d0.fL.drop (x_2 + 1).toNat)) : Option (List TD0))).bind fun y_2 =>
          some (((⟨y_2, d0.fMade⟩ : TB0), (0 : Int)))
set_option maxRecDepth 20000 in
theorem store_Update_ok (n : Nat) (M : Mem) (hG : GL M) (c0 : List Value) (d0 : TB0) (h0 : Rep M (emb_TB0 d0) c0) (d1 : List UInt8) (A2 : Option Addr) (cap2 : Nat) (d2 : List TF0) (h2 : Sli M 8 emb_TF0 A2 cap2 d2) (r : TB0 × Int) (hF : store_Update n d0 d1 d2 = some r) : Ok Tryz.prog M 63 [.agg c0.toArray, S d1, .slice A2 d2.length cap2] (fun M' v => ∃ (c0 : List Value), v = .tuple #[.agg c0.toArray, .int .i64 r.2] ∧ Rep M' (emb_TB0 r.1) c0) := by
 unfold store_Update at hF
 intro M1 hM0 w0 H w p0
 replace hG := GL.mono hM0 hG
 replace h0 := Rep.mono hM0 _ _ h0
 replace h2 := h2.mono hM0
 obtain ⟨A_1, cap_1, rfl, h_1⟩ := TB0.opn h0
 refine R_enter 75 Tryz.func63 rfl rfl (by simp) fun a0 f0 => RR (Y12 f0 p0 (.cells #[.slice A_1 d0.fL.length cap_1, .int .i64 d0.fMade] 80 (0, 0)) fun b_1 w_1 p_1 _ f => Y12 f p_1 (.cells #[.slice none 0 0, .int .i64 0] 80 (0, 0)) fun b_2 w_2 p_2 _ f => Y f 1 fun _ f => eT (R_seq (RR (Z (v := .agg #[.slice A_1 d0.fL.length cap_1, .int .i64 d0.fMade]) f (Y34 (cs := [.slice A_1 d0.fL.length cap_1, .int .i64 d0.fMade]) rfl (ad := ⟨b_1, 0, none⟩) (own_cells (p_2.ownCell 1 rfl) 0 rfl)) fun _ f => ?_))))
 obtain ⟨x_1, hx_1, hF_1⟩ := bS hF
 refine Y18 f p_2 (store_Check_ok n _ hG _ (⟨d0.fL, d0.fMade⟩ : TB0) (TB0.shut h_1) x_1 hx_1) fun w_3 p_3 _ f => Y f 1 fun _ f => eT (RcF f hF_1 (fun h_2 hF_2 => ?_) fun h_2 hF_3 => ?_)
 ·have k_1 : ¬ (x_1 = 0) := (not_iff dI).1 h_2
  refine RR (Y f 1 fun _ f => Y28 (vs := [.slice none 0 0, .int .i64 0]) (j := 0) f p_3 rfl rfl (by simp [Value.oneCell', S]) (by simp) (by decide) (cs' := #[.slice none 0 0, .int .i64 0]) (by kernel_rfl) fun w_4 p_4 _ f => Y f 1 fun _ f => eT (wp_ret (T_r (E_rv2 f rfl (Y10 (cs := [.slice none 0 0, .int .i64 0]) (ad := ⟨b_2, 0, none⟩) f (own_cells (p_4.ownCell 0 rfl) 0 rfl)) (Y11 (v := .int .i64 2) f) ?_))))
  obtain rfl := sI hF_2
  exact ⟨_, rfl, M1, (mR _), (p_4.dropN 2), ⟨[.slice none 0 0, .int .i64 0], rfl, (TB0.shut Sli.nil)⟩⟩
 ·have k_2 : ¬ (¬ (x_1 = 0)) := iff_f (not_iff dI) h_2
  refine wp_skip (T_n (RR (Z (v := .agg #[.slice A_1 d0.fL.length cap_1, .int .i64 d0.fMade]) f (Y34 (cs := [.slice A_1 d0.fL.length cap_1, .int .i64 d0.fMade]) rfl (ad := ⟨b_1, 0, none⟩) (own_cells (p_3.ownCell 1 rfl) 0 rfl)) fun _ f => Y f 1 fun _ f => ?_)))
  obtain ⟨x_2, hx_2, hF_4⟩ := bS hF_3
  refine Y18 f p_3 (store_at_ok n _ hG _ (⟨d0.fL, d0.fMade⟩ : TB0) (TB0.shut h_1) d1 x_2 hx_2) fun w_5 p_5 _ f => Y f 1 fun _ f => eT (R_seq (RR (Y f 2 fun _ f => eT (RcF f hF_4 (fun h_3 hF_5 => ?_) fun h_3 hF_6 => ?_))))
  ·have k_3 := dI.1 h_3
   refine RR (Y f 1 fun _ f => Y28 (vs := [.slice none 0 0, .int .i64 0]) (j := 0) f p_5 rfl rfl (by simp [Value.oneCell', S]) (by simp) (by decide) (cs' := #[.slice none 0 0, .int .i64 0]) (by kernel_rfl) fun w_6 p_6 _ f => Y f 1 fun _ f => eT (wp_ret (T_r (E_rv2 f rfl (Y10 (cs := [.slice none 0 0, .int .i64 0]) (ad := ⟨b_2, 0, none⟩) f (own_cells (p_6.ownCell 0 rfl) 0 rfl)) (Y11 (v := .int .i64 4) f) ?_))))
   obtain rfl := sI hF_5
   exact ⟨_, rfl, M1, (mR _), (p_6.dropN 2), ⟨[.slice none 0 0, .int .i64 0], rfl, (TB0.shut Sli.nil)⟩⟩
  ·have k_4 := iff_f dI h_3
   refine wp_skip (T_n (RR (Y f 1 fun _ f => Z f (Y33 (v := .slice A_1 d0.fL.length cap_1) rfl (ad := ⟨b_1, 0, none⟩) (p_5.ownCell 1 rfl 0)) fun _ f => Y f 1 fun _ f => ?_)))
   obtain ⟨x_3, hx_3, hF_7⟩ := bS hF_6
   obtain ⟨ad_1, c_1, e_1, -, hr_1, hc_1⟩ := Sli.at_ h_1 hx_3
   obtain ⟨A_2, cap_2, rfl, h_4⟩ := TD0.opn hr_1
   refine Z f (Y32 e_1 rfl (len := d0.fL.length) (cap := cap_1) (k := .i64) (i := x_2) (e := 54) (sz := 3) (getI_nn hx_3) (getI_lt hx_3)) fun _ f => Z (v := .agg #[S x_3.fPhys, S x_3.fType, .slice A_2 x_3.fProps.length cap_2]) f (Y34 (cs := [S x_3.fPhys, S x_3.fType, .slice A_2 x_3.fProps.length cap_2]) rfl (ad := ad_1.add (x_2.toNat * 3)) (fun j v h => p_5.cell (hc_1 j v h))) fun _ f => Y12 f p_5 (.cells #[S [], S [], .slice none 0 0] 54 (0, 0)) fun b_3 w_7 p_7 _ f => Y28 (vs := [S x_3.fPhys, S x_3.fType, .slice A_2 x_3.fProps.length cap_2]) (j := 0) f p_7 rfl rfl (by simp [Value.oneCell', S]) (by simp) (by decide) (cs' := #[S x_3.fPhys, S x_3.fType, .slice A_2 x_3.fProps.length cap_2]) (by kernel_rfl) fun w_8 p_8 _ f => eT (R_seq (RR (Y f 1 fun _ f => Z f (Y33 (v := S x_3.fType) rfl (ad := ⟨b_3, 1, none⟩) (p_8.ownCell 0 rfl 1)) fun _ f => Y f 1 fun _ f => ?_)))
   obtain ⟨x_4, hx_4, hF_8⟩ := bS hF_7
   refine Y18 f p_8 (schema_Check_ok n _ hG x_3.fType A2 cap2 d2 h2 x_4 hx_4) fun w_9 p_9 _ f => Y f 1 fun _ f => eT (RR (Y f 2 fun _ f => eT (RcF f hF_8 (fun h_5 hF_9 => ?_) fun h_5 hF_10 => ?_)))
   ·have k_5 : ¬ (x_4 = 0) := (not_iff dI).1 h_5
    refine RR (Y f 2 fun _ f => ?_)
    have p_10 := p_9.pl [1]
    refine Y28 (vs := [.slice none 0 0, .int .i64 0]) (j := 0) f p_10 rfl rfl (by simp [Value.oneCell', S]) (by simp) (by decide) (cs' := #[.slice none 0 0, .int .i64 0]) (by kernel_rfl) fun w_10 p_11 _ f => Y f 1 fun _ f => eT (wp_ret (T_r (E_rv2 f rfl (Y10 (cs := [.slice none 0 0, .int .i64 0]) (ad := ⟨b_2, 0, none⟩) f (own_cells (p_11.ownCell 0 rfl) 0 rfl)) (Y11 (v := .int .i64 x_4) f) ?_)))
    obtain rfl := sI hF_9
    exact ⟨_, rfl, M1, (mR _), (p_11.dropN 3), ⟨[.slice none 0 0, .int .i64 0], rfl, (TB0.shut Sli.nil)⟩⟩
   ·have k_6 : ¬ (¬ (x_4 = 0)) := iff_f (not_iff dI) h_5
    refine wp_skip (T_n (RR (Y f 1 fun _ f => Z f (Y33 (v := S x_3.fType) rfl (ad := ⟨b_3, 1, none⟩) (p_9.ownCell 0 rfl 1)) fun _ f => Y f 1 fun _ f => Z f (Y33 (v := .slice A_2 x_3.fProps.length cap_2) rfl (ad := ⟨b_3, 2, none⟩) (p_9.ownCell 0 rfl 2)) fun _ f => Y f 1 fun _ f => ?_)))
    obtain ⟨x_5, hx_5, hF_11⟩ := bS hF_10
    refine Y18 f p_9 (schema_Differ_ok n _ hG x_3.fType A_2 cap_2 x_3.fProps h_4 A2 cap2 d2 h2 x_5 hx_5) fun w_11 p_12 _ f => Y f 5 fun _ f => eT (R_seq (R_seq ?_))
    obtain ⟨j_1, hj_1, hF_12⟩ := bS hF_11
    refine R_mid (fun a_48 w_13 => ∃ y_1 : Bool, j_1 = y_1 ∧ ∃ M_1 : Mem, M1.le M_1 ∧ Frm 75 [(2, .slice A2 d2.length cap2), (3, .pointer (some (⟨b_1, 0, none⟩))), (6, .pointer (some (⟨b_2, 0, none⟩))), (8, .int .i64 x_2), (9, .pointer (some (⟨b_3, 0, none⟩))), (55, .bool y_1)] a_48 ∧ Hp w0 M_1 ((Ent.obj b_3 (.cells #[S x_3.fPhys, S x_3.fType, .slice A_2 x_3.fProps.length cap_2] 54 (0, 0))) :: (Ent.obj b_2 (.cells #[.slice none 0 0, .int .i64 0] 80 (0, 0))) :: (Ent.obj b_1 (.cells #[.slice A_1 d0.fL.length cap_1, .int .i64 d0.fMade] 80 (0, 0))) :: H) w_13) ?_ ?_
    ·refine R_reg (Y f 1 fun _ f => ?_)
     obtain ⟨x_6, hx_6, hF_13⟩ := bS hj_1
     refine Y18 f p_12 (store_known_ok n _ hG A2 cap2 d2 h2 x_6 hx_6) fun w_12 p_13 _ f => Y f 2 fun _ f => ?_
     rcases cE hF_13 with ⟨h_6, hF_14⟩ | ⟨h_6, hF_15⟩
     ·have k_7 : (x_6) = false := by simpa using h_6
      have f := f.st 48 (cB h_6)
      refine Y f 7 fun _ f => eT ?_
      exact ⟨(true), (sI hF_14).symm, M1, (mR _), f.kp, p_13⟩
     ·have k_8 : (x_6) = true := by simpa using h_6
      have f := f.st 48 (cB h_6)
      refine Y f 4 fun _ f => ?_
      rcases cE hF_15 with ⟨h_7, hF_16⟩ | ⟨h_7, hF_17⟩
      ·have k_9 : ¬ (x_5.2 = 0) := (not_iff dI).1 h_7
       have f := f.st 52 (cB h_7)
       refine Y f 3 fun _ f => eT ?_
       exact ⟨(true), (sI hF_16).symm, M1, (mR _), f.kp, p_13⟩
      ·have k_10 : ¬ (¬ (x_5.2 = 0)) := iff_f (not_iff dI) h_7
       have f := f.st 52 (cB h_7)
       refine Y f 3 fun _ f => eT ?_
       exact ⟨(decide (x_5.1 = 3)), (sI hF_17).symm, M1, (mR _), f.kp, p_13⟩
    ·rintro a_48 w_13 ⟨y_1, hq_1, M_1, hM_1, f, p_14⟩
     subst j_1
     refine T_n (RcF f hF_12 (fun h_8 hF_18 => ?_) fun h_8 hF_19 => ?_)
     ·refine RR (Y f 1 fun _ f => ?_)
      have p_15 := p_14.pl [1]
      refine Y28 (vs := [.slice none 0 0, .int .i64 0]) (j := 0) f p_15 rfl rfl (by simp [Value.oneCell', S]) (by simp) (by decide) (cs' := #[.slice none 0 0, .int .i64 0]) (by kernel_rfl) fun w_14 p_16 _ f => Y f 1 fun _ f => eT (wp_ret (T_r (E_rv2 f rfl (Y10 (cs := [.slice none 0 0, .int .i64 0]) (ad := ⟨b_2, 0, none⟩) f (own_cells (p_16.ownCell 0 rfl) 0 rfl)) (Y11 (v := .int .i64 91) f) ?_)))
      obtain rfl := sI hF_18
      exact ⟨_, rfl, M_1, hM_1, (p_16.dropN 3), ⟨[.slice none 0 0, .int .i64 0], rfl, (TB0.shut Sli.nil)⟩⟩
     ·refine wp_skip (T_n (RR (Y f 2 fun _ f => Y27 f p_14 0 rfl rfl (b := b_3) (j := 2) (v := .slice A2 d2.length cap2) rfl (by exact rfl) (by simp) (by simp) ((Ent.obj b_3 (.cells #[S x_3.fPhys, S x_3.fType, .slice A2 d2.length cap2] 54 (0, 0))) :: (Ent.obj b_2 (.cells #[.slice none 0 0, .int .i64 0] 80 (0, 0))) :: (Ent.obj b_1 (.cells #[.slice A_1 d0.fL.length cap_1, .int .i64 d0.fMade] 80 (0, 0))) :: H) rfl fun w_15 p_17 _ f => eT (R_seq ?_))))
      obtain ⟨j_2, hj_2, hF_20⟩ := bS hF_19
      refine R_mid (fun a_83 w_27 => ∃ y_2 : List TD0, j_2 = y_2 ∧ ∃ M_2 : Mem, M_1.le M_2 ∧ ∃ (A_7 : Option Addr), ∃ (cap_7 : Nat), ∃ (cs_5 : List Value), RepSeq M_2 (y_2.map emb_TD0) cs_5 ∧ Frm 75 [(3, .pointer (some (⟨b_1, 0, none⟩))), (6, .pointer (some (⟨b_2, 0, none⟩)))] a_83 ∧ Hp w0 M_2 ((Ent.row 54 3 (.slice A_7 y_2.length cap_7) y_2.length cs_5) :: (Ent.obj b_3 (.cells #[S x_3.fPhys, S x_3.fType, .slice A2 d2.length cap2] 54 (0, 0))) :: (Ent.obj b_2 (.cells #[.slice none 0 0, .int .i64 0] 80 (0, 0))) :: (Ent.obj b_1 (.cells #[.slice A_7 y_2.length cap_7, .int .i64 d0.fMade] 80 (0, 0))) :: H) w_27) ?_ ?_
      ·obtain ⟨g_1, hF_21⟩ := nS hj_2
       obtain ⟨g_2, hF_22⟩ := nS hF_21
       obtain ⟨g_3, hF_23⟩ := nS hF_22
       obtain ⟨g_4, hF_24⟩ := nS hF_23
       obtain ⟨g_5, hF_25⟩ := nS hF_24
       refine R_plan (ks := [14, 15]) (E := []) (Hr := ((Ent.obj b_3 (.cells #[S x_3.fPhys, S x_3.fType, .slice A2 d2.length cap2] 54 (0, 0))) :: (Ent.obj b_2 (.cells #[.slice none 0 0, .int .i64 0] 80 (0, 0))) :: (Ent.obj b_1 (.cells #[.slice A_1 d0.fL.length cap_1, .int .i64 d0.fMade] 80 (0, 0))) :: H)) (.quiet 0 (.quiet 1 (.quiet 2 (.quiet 3 (.quiet 4 (.quiet 5 (.quiet 8 (.quiet 9 (.quiet 10 (.quiet 11 (.quiet 12 (.alt 6 (.alt 7 (.alt 13 .done .none) .none) .none)))))))))))) p_17 (by kernel_rfl) (by kernel_rfl) (by kernel_rfl) (Y1 (v := .pointer (some (⟨b_1, 0, none⟩))) rfl f rfl rfl (fun _ _ => by kernel_rfl) fun _ f => Y1 (v := .slice A_1 d0.fL.length cap_1) rfl f rfl rfl (fun _ pq => Y33 (v := .slice A_1 d0.fL.length cap_1) rfl (ad := ⟨b_1, 0, none⟩) (pq.ownCell 2 rfl 0)) fun _ f => Y1 (v := .int .i64 x_2) rfl f rfl rfl (fun _ _ => by kernel_rfl) fun _ f => Y1 (v := .int .i64 x_2) rfl f rfl rfl (fun _ _ => by kernel_rfl) fun _ f => ?_)
       have h_11 : Sli M_1 3 emb_TD0 (cutA A_1 3 0 x_2.toNat) (d0.fL.take x_2.toNat).length (d0.fL.take x_2.toNat) := Sli.full (cap := cap_1) (h_1.mono hM_1) (by omega)
       have hl_3 := Sli.len (cap := cap_1) (h_1.mono hM_1)
       have he_2 : x_2.toNat = (d0.fL.take x_2.toNat).length := by rw [List.length_take]; omega
       refine Y1 (v := .slice (cutA A_1 3 0 x_2.toNat) x_2.toNat x_2.toNat) rfl f rfl rfl (fun _ pq => Y36 rfl (A := A_1) (len := d0.fL.length) (cap := cap_1) (k := .i64) (k' := .i64) (b := x_2) (e := 54) (sz := 3) g_1.1 (by omega)) fun _ f => ?_
       have f := Frm.set f 63 (v := .slice (cutA A_1 3 0 x_2.toNat) x_2.toNat x_2.toNat) (v' := .slice (cutA A_1 3 0 x_2.toNat) (d0.fL.take x_2.toNat).length (d0.fL.take x_2.toNat).length) (by kernel_rfl) (by rw [← he_2])
       refine Y1 (v := .agg #[S x_3.fPhys, S x_3.fType, .slice A2 d2.length cap2]) rfl f rfl rfl (fun _ pq => Y34 (cs := [S x_3.fPhys, S x_3.fType, .slice A2 d2.length cap2]) rfl (ad := ⟨b_3, 0, none⟩) (own_cells (pq.ownCell 0 rfl) 0 rfl)) fun _ f => Y1 (v := .pointer (some (⟨b_1, 0, none⟩))) rfl f rfl rfl (fun _ _ => by kernel_rfl) fun _ f => Y1 (v := .slice A_1 d0.fL.length cap_1) rfl f rfl rfl (fun _ pq => Y33 (v := .slice A_1 d0.fL.length cap_1) rfl (ad := ⟨b_1, 0, none⟩) (pq.ownCell 2 rfl 0)) fun _ f => Y1 (v := .int .i64 x_2) rfl f rfl rfl (fun _ _ => by kernel_rfl) fun _ f => Y1 (v := .int .i64 (IntKind.wrap .i64 (x_2 + 1))) rfl f rfl rfl (fun _ pq => by kernel_rfl) fun _ f => ?_
       have f := f.st 70 (congrArg (Value.int .i64) (inR_wrap g_2))
       have h_12 : Sli M_1 3 emb_TD0 (cutA A_1 3 (x_2 + 1).toNat cap_1) (cap_1 - (x_2 + 1).toNat) (d0.fL.drop (x_2 + 1).toNat) := Sli.cutFrom (h_1.mono hM_1) (by omega)
       refine Y1 (v := .slice (cutA A_1 3 (x_2 + 1).toNat cap_1) (d0.fL.length - (x_2 + 1).toNat) (cap_1 - (x_2 + 1).toNat)) rfl f rfl rfl (fun _ pq => Y37 rfl (A := A_1) (len := d0.fL.length) (cap := cap_1) (k := .i64) (a := x_2 + 1) (e := 54) (sz := 3) g_3.1 g_3.2) fun _ f => ?_
       have f := Frm.set f 71 (v := .slice (cutA A_1 3 (x_2 + 1).toNat cap_1) (d0.fL.length - (x_2 + 1).toNat) (cap_1 - (x_2 + 1).toNat)) (v' := .slice (cutA A_1 3 (x_2 + 1).toNat cap_1) (d0.fL.drop (x_2 + 1).toNat).length (cap_1 - (x_2 + 1).toNat)) (by kernel_rfl) (by rw [List.length_drop])
       refine N_alt rfl (fun w_19 p_23 => ?_) ?_
       ·refine V_allocS (k := 1) (c := 1) f p_23 (.cells #[S x_3.fPhys, S x_3.fType, .slice A2 d2.length cap2] 54 (0, 0)) (by kernel_rfl) (fun _ => by kernel_rfl) fun b_5 w_20 p_24 _ f => W_end rfl (N_goN 1 (mR _) p_24 rfl (N_alt rfl (fun w_21 p_25 => ?_) ?_))
        ·refine Y20 (e := 54) (bytes := 56) (z := .agg #[S [], S [], .slice none 0 0]) (f := emb_TD0) (xs := d0.fL.take x_2.toNat) (ys := [(⟨x_3.fPhys, x_3.fType, d2⟩ : TD0)]) (news := [S x_3.fPhys, S x_3.fType, .slice A2 d2.length cap2]) (ad := ⟨b_5, 0, none⟩) (m := 1) (c := 1) f p_25 (by decide) (by decide) h_11 (by exact ⟨_, _, rfl, TD0.shut (h2.mono hM_1), rfl⟩) rfl rfl rfl rfl (own_cells (p_25.ownCell 0 rfl) 0 rfl) g_4 (by have hg_ := g_4; omega) fun A_5 cap_5 cs_3 w_22 p_26 hr_4 _ f => ?_
         have p_27 := p_26.pl [1]
         have p_28 := p_27.drop
         refine W_end rfl (N_goN 1 (mR _) p_28 rfl (N_alt rfl (fun w_23 p_29 => ?_) ?_))
         ·refine Y24 (z := .agg #[S [], S [], .slice none 0 0]) (f := emb_TD0) (xs := (d0.fL.take x_2.toNat) ++ [(⟨x_3.fPhys, x_3.fType, d2⟩ : TD0)]) (ys := d0.fL.drop (x_2 + 1).toNat) (c := (cap_1 - (x_2 + 1).toNat)) f p_29 hr_4 h_12 rfl rfl rfl g_5 (by omega) fun A_6 cap_6 cs_4 w_24 p_30 hr_5 _ f => W_end rfl (N_goN 1 (mR _) p_30 rfl (N_tail fun w_25 p_31 => Y f 1 fun _ f => Y27 f p_31 3 rfl rfl (b := b_1) (j := 0) (v := .slice A_6 (((d0.fL.take x_2.toNat) ++ [(⟨x_3.fPhys, x_3.fType, d2⟩ : TD0)]) ++ (d0.fL.drop (x_2 + 1).toNat)).length cap_6) rfl (by exact rfl) (by simp) (by simp) ((Ent.row 54 3 (.slice A_6 (((d0.fL.take x_2.toNat) ++ [(⟨x_3.fPhys, x_3.fType, d2⟩ : TD0)]) ++ (d0.fL.drop (x_2 + 1).toNat)).length cap_6) (((d0.fL.take x_2.toNat) ++ [(⟨x_3.fPhys, x_3.fType, d2⟩ : TD0)]) ++ (d0.fL.drop (x_2 + 1).toNat)).length cs_4) :: (Ent.obj b_3 (.cells #[S x_3.fPhys, S x_3.fType, .slice A2 d2.length cap2] 54 (0, 0))) :: (Ent.obj b_2 (.cells #[.slice none 0 0, .int .i64 0] 80 (0, 0))) :: (Ent.obj b_1 (.cells #[.slice A_6 (((d0.fL.take x_2.toNat) ++ [(⟨x_3.fPhys, x_3.fType, d2⟩ : TD0)]) ++ (d0.fL.drop (x_2 + 1).toNat)).length cap_6, .int .i64 d0.fMade] 80 (0, 0))) :: H) rfl fun w_26 p_32 _ f => W_end rfl (N_te (T_n ?_))))
          exact ⟨((d0.fL.take x_2.toNat) ++ [(⟨x_3.fPhys, x_3.fType, d2⟩ : TD0)]) ++ (d0.fL.drop (x_2 + 1).toNat), (sI hF_25).symm, M_1, (mR _), A_6, cap_6, cs_4, hr_5, f.kp, p_32⟩
         exact N_none
        exact N_none
       exact N_none
      ·rintro a_83 w_27 ⟨y_2, hq_2, M_2, hM_2, A_7, cap_7, cs_5, hr_6, f, p_33⟩
       subst j_2
       refine T_n (RR (Z (v := .agg #[.slice A_7 y_2.length cap_7, .int .i64 d0.fMade]) f (Y34 (cs := [.slice A_7 y_2.length cap_7, .int .i64 d0.fMade]) rfl (ad := ⟨b_1, 0, none⟩) (own_cells (p_33.ownCell 3 rfl) 0 rfl)) fun _ f => ?_))
       obtain ⟨A_8, cap_8, M_3, hv_1, hM_3, p_34, h_13⟩ := p_33.rowSli (f := emb_TD0) (xs := y_2) szd_TD0 hr_6
       have f := Frm.set f 74 (v := .agg #[.slice A_7 y_2.length cap_7, .int .i64 d0.fMade]) (v' := .agg #[.slice A_8 y_2.length cap_8, .int .i64 d0.fMade]) (by kernel_rfl) (by rw [hv_1])
       have p_35 : Hp w0 M_3 ((Ent.obj b_3 (.cells #[S x_3.fPhys, S x_3.fType, .slice A2 d2.length cap2] 54 (0, 0))) :: (Ent.obj b_2 (.cells #[.slice none 0 0, .int .i64 0] 80 (0, 0))) :: (Ent.obj b_1 (.cells #[.slice A_8 y_2.length cap_8, .int .i64 d0.fMade] 80 (0, 0))) :: H) w_27 := by rw [hv_1] at p_34; exact p_34
       have p_36 := p_35.pl [1]
       refine Y28 (vs := [.slice A_8 y_2.length cap_8, .int .i64 d0.fMade]) (j := 0) f p_36 rfl rfl (by simp [Value.oneCell', S]) (by simp) (by decide) (cs' := #[.slice A_8 y_2.length cap_8, .int .i64 d0.fMade]) (by kernel_rfl) fun w_28 p_37 _ f => Y f 1 fun _ f => eT (wp_ret (E_rv2 f rfl (Y10 (cs := [.slice A_8 y_2.length cap_8, .int .i64 d0.fMade]) (ad := ⟨b_2, 0, none⟩) f (own_cells (p_37.ownCell 0 rfl) 0 rfl)) (Y11 (v := .int .i64 0) f) ?_))
       obtain rfl := sI hF_20
       exact ⟨_, rfl, M_3, ((hM_1.trans hM_2).trans hM_3), (p_37.dropN 3), ⟨[.slice A_8 y_2.length cap_8, .int .i64 d0.fMade], rfl, (TB0.shut h_13)⟩⟩
def store_Delete (n : Nat) (d0 : TB0) (d1 : List UInt8) : Option (TB0 × Int) :=
  (store_Check n (⟨d0.fL, d0.fMade⟩ : TB0)).bind fun x_1 =>
  bif (!(decide (x_1 = 0))) then
    (some ((z_TB0, (2 : Int))))
  else
    (store_at n (⟨d0.fL, d0.fMade⟩ : TB0) d1).bind fun x_2 =>
    bif (decide (x_2 < 0)) then
      (some ((z_TB0, (4 : Int))))
    else
      need (0 ≤ x_2 ∧ x_2 ≤ (d0.fL.length : Int)) <|
      need (inR .i64 (x_2 + 1)) <|
      need (0 ≤ (x_2 + 1) ∧ (x_2 + 1) ≤ (d0.fL.length : Int)) <|
      need (((d0.fL.take x_2.toNat).length + (d0.fL.drop (x_2 + 1).toNat).length) * 56 ≤ 140737488355328) <|
      some (((⟨(d0.fL.take x_2.toNat) ++ (d0.fL.drop (x_2 + 1).toNat), d0.fMade⟩ : TB0), (0 : Int)))
set_option maxRecDepth 20000 in
theorem store_Delete_ok (n : Nat) (M : Mem) (hG : GL M) (c0 : List Value) (d0 : TB0) (h0 : Rep M (emb_TB0 d0) c0) (d1 : List UInt8) (r : TB0 × Int) (hF : store_Delete n d0 d1 = some r) : Ok Tryz.prog M 64 [.agg c0.toArray, S d1] (fun M' v => ∃ (c0 : List Value), v = .tuple #[.agg c0.toArray, .int .i64 r.2] ∧ Rep M' (emb_TB0 r.1) c0) := by
 unfold store_Delete at hF
 intro M1 hM0 w0 H w p0
 replace hG := GL.mono hM0 hG
 replace h0 := Rep.mono hM0 _ _ h0
 obtain ⟨A_1, cap_1, rfl, h_1⟩ := TB0.opn h0
 refine R_enter 30 Tryz.func64 rfl rfl (by simp) fun a0 f0 => RR (Y12 f0 p0 (.cells #[.slice A_1 d0.fL.length cap_1, .int .i64 d0.fMade] 80 (0, 0)) fun b_1 w_1 p_1 _ f => Y12 f p_1 (.cells #[.slice none 0 0, .int .i64 0] 80 (0, 0)) fun b_2 w_2 p_2 _ f => Y f 1 fun _ f => eT (R_seq (RR (Z (v := .agg #[.slice A_1 d0.fL.length cap_1, .int .i64 d0.fMade]) f (Y34 (cs := [.slice A_1 d0.fL.length cap_1, .int .i64 d0.fMade]) rfl (ad := ⟨b_1, 0, none⟩) (own_cells (p_2.ownCell 1 rfl) 0 rfl)) fun _ f => ?_))))
 obtain ⟨x_1, hx_1, hF_1⟩ := bS hF
 refine Y18 f p_2 (store_Check_ok n _ hG _ (⟨d0.fL, d0.fMade⟩ : TB0) (TB0.shut h_1) x_1 hx_1) fun w_3 p_3 _ f => Y f 1 fun _ f => eT (RcF f hF_1 (fun h_2 hF_2 => ?_) fun h_2 hF_3 => ?_)
 ·have k_1 : ¬ (x_1 = 0) := (not_iff dI).1 h_2
  refine RR (Y f 1 fun _ f => Y28 (vs := [.slice none 0 0, .int .i64 0]) (j := 0) f p_3 rfl rfl (by simp [Value.oneCell', S]) (by simp) (by decide) (cs' := #[.slice none 0 0, .int .i64 0]) (by kernel_rfl) fun w_4 p_4 _ f => Y f 1 fun _ f => eT (wp_ret (T_r (E_rv2 f rfl (Y10 (cs := [.slice none 0 0, .int .i64 0]) (ad := ⟨b_2, 0, none⟩) f (own_cells (p_4.ownCell 0 rfl) 0 rfl)) (Y11 (v := .int .i64 2) f) ?_))))
  obtain rfl := sI hF_2
  exact ⟨_, rfl, M1, (mR _), (p_4.dropN 2), ⟨[.slice none 0 0, .int .i64 0], rfl, (TB0.shut Sli.nil)⟩⟩
 ·have k_2 : ¬ (¬ (x_1 = 0)) := iff_f (not_iff dI) h_2
  refine wp_skip (T_n (RR (Z (v := .agg #[.slice A_1 d0.fL.length cap_1, .int .i64 d0.fMade]) f (Y34 (cs := [.slice A_1 d0.fL.length cap_1, .int .i64 d0.fMade]) rfl (ad := ⟨b_1, 0, none⟩) (own_cells (p_3.ownCell 1 rfl) 0 rfl)) fun _ f => Y f 1 fun _ f => ?_)))
  obtain ⟨x_2, hx_2, hF_4⟩ := bS hF_3
  refine Y18 f p_3 (store_at_ok n _ hG _ (⟨d0.fL, d0.fMade⟩ : TB0) (TB0.shut h_1) d1 x_2 hx_2) fun w_5 p_5 _ f => Y f 1 fun _ f => eT (R_seq (RR (Y f 2 fun _ f => eT (RcF f hF_4 (fun h_3 hF_5 => ?_) fun h_3 hF_6 => ?_))))
  ·have k_3 := dI.1 h_3
   refine RR (Y f 1 fun _ f => Y28 (vs := [.slice none 0 0, .int .i64 0]) (j := 0) f p_5 rfl rfl (by simp [Value.oneCell', S]) (by simp) (by decide) (cs' := #[.slice none 0 0, .int .i64 0]) (by kernel_rfl) fun w_6 p_6 _ f => Y f 1 fun _ f => eT (wp_ret (T_r (E_rv2 f rfl (Y10 (cs := [.slice none 0 0, .int .i64 0]) (ad := ⟨b_2, 0, none⟩) f (own_cells (p_6.ownCell 0 rfl) 0 rfl)) (Y11 (v := .int .i64 4) f) ?_))))
   obtain rfl := sI hF_5
   exact ⟨_, rfl, M1, (mR _), (p_6.dropN 2), ⟨[.slice none 0 0, .int .i64 0], rfl, (TB0.shut Sli.nil)⟩⟩
  ·have k_4 := iff_f dI h_3
   refine wp_skip (T_n (R_seq (R_drawT 10 p_5 (by kernel_rfl) (by kernel_rfl) fun w_7 p_7 => ST_eq (v := .pointer (some (⟨b_1, 0, none⟩))) f (by kernel_rfl) (by kernel_rfl) rfl rfl (by kernel_rfl) fun _ f => ST_eq (v := .slice A_1 d0.fL.length cap_1) f (by kernel_rfl) (by kernel_rfl) rfl rfl (Y33 (v := .slice A_1 d0.fL.length cap_1) rfl (ad := ⟨b_1, 0, none⟩) (p_7.ownCell 1 rfl 0)) fun _ f => ST_eq (v := .int .i64 x_2) f (by kernel_rfl) (by kernel_rfl) rfl rfl (by kernel_rfl) fun _ f => ST_eq (v := .int .i64 x_2) f (by kernel_rfl) (by kernel_rfl) rfl rfl (by kernel_rfl) fun _ f => ?_)))
   obtain ⟨g_1, hF_7⟩ := nS hF_6
   have h_4 : Sli M1 3 emb_TD0 (cutA A_1 3 0 x_2.toNat) (d0.fL.take x_2.toNat).length (d0.fL.take x_2.toNat) := Sli.full (cap := cap_1) h_1 (by omega)
   have hl_1 := Sli.len (cap := cap_1) h_1
   have he_1 : x_2.toNat = (d0.fL.take x_2.toNat).length := by rw [List.length_take]; omega
   refine ST_eq (v := .slice (cutA A_1 3 0 x_2.toNat) x_2.toNat x_2.toNat) f (by kernel_rfl) (by kernel_rfl) rfl rfl (Y36 rfl (A := A_1) (len := d0.fL.length) (cap := cap_1) (k := .i64) (k' := .i64) (b := x_2) (e := 54) (sz := 3) g_1.1 (by omega)) fun _ f => ?_
   have f := Frm.set f 21 (v := .slice (cutA A_1 3 0 x_2.toNat) x_2.toNat x_2.toNat) (v' := .slice (cutA A_1 3 0 x_2.toNat) (d0.fL.take x_2.toNat).length (d0.fL.take x_2.toNat).length) (by kernel_rfl) (by rw [← he_1])
   refine ST_eq (v := .pointer (some (⟨b_1, 0, none⟩))) f (by kernel_rfl) (by kernel_rfl) rfl rfl (by kernel_rfl) fun _ f => ST_eq (v := .slice A_1 d0.fL.length cap_1) f (by kernel_rfl) (by kernel_rfl) rfl rfl (Y33 (v := .slice A_1 d0.fL.length cap_1) rfl (ad := ⟨b_1, 0, none⟩) (p_7.ownCell 1 rfl 0)) fun _ f => ST_eq (v := .int .i64 x_2) f (by kernel_rfl) (by kernel_rfl) rfl rfl (by kernel_rfl) fun _ f => ?_
   obtain ⟨g_2, hF_8⟩ := nS hF_7
   refine ST_eq (v := .int .i64 (IntKind.wrap .i64 (x_2 + 1))) f (by kernel_rfl) (by kernel_rfl) rfl rfl (by kernel_rfl) fun _ f => ?_
   have f := f.st 25 (congrArg (Value.int .i64) (inR_wrap g_2))
   obtain ⟨g_3, hF_9⟩ := nS hF_8
   have h_5 : Sli M1 3 emb_TD0 (cutA A_1 3 (x_2 + 1).toNat cap_1) (cap_1 - (x_2 + 1).toNat) (d0.fL.drop (x_2 + 1).toNat) := Sli.cutFrom h_1 (by omega)
   refine ST_eq (v := .slice (cutA A_1 3 (x_2 + 1).toNat cap_1) (d0.fL.length - (x_2 + 1).toNat) (cap_1 - (x_2 + 1).toNat)) f (by kernel_rfl) (by kernel_rfl) rfl rfl (Y37 rfl (A := A_1) (len := d0.fL.length) (cap := cap_1) (k := .i64) (a := x_2 + 1) (e := 54) (sz := 3) g_3.1 g_3.2) fun _ f => ?_
   have f := Frm.set f 26 (v := .slice (cutA A_1 3 (x_2 + 1).toNat cap_1) (d0.fL.length - (x_2 + 1).toNat) (cap_1 - (x_2 + 1).toNat)) (v' := .slice (cutA A_1 3 (x_2 + 1).toNat cap_1) (d0.fL.drop (x_2 + 1).toNat).length (cap_1 - (x_2 + 1).toNat)) (by kernel_rfl) (by rw [List.length_drop])
   refine ST_end rfl ?_
   obtain ⟨g_4, hF_10⟩ := nS hF_9
   refine Y21 (e := 54) (bytes := 56) (z := .agg #[S [], S [], .slice none 0 0]) (f := emb_TD0) (xs := d0.fL.take x_2.toNat) (ys := d0.fL.drop (x_2 + 1).toNat) (c := (cap_1 - (x_2 + 1).toNat)) f p_7 (by decide) szd_TD0 h_4 h_5 rfl rfl rfl g_4 (by omega) fun A_2 cap_2 M_1 w_8 hM_1 p_8 h_6 _ f => Y f 1 fun _ f => Y27 f p_8 1 rfl rfl (b := b_1) (j := 0) (v := .slice A_2 ((d0.fL.take x_2.toNat) ++ (d0.fL.drop (x_2 + 1).toNat)).length cap_2) rfl (by exact rfl) (by simp) (by simp) ((Ent.obj b_2 (.cells #[.slice none 0 0, .int .i64 0] 80 (0, 0))) :: (Ent.obj b_1 (.cells #[.slice A_2 ((d0.fL.take x_2.toNat) ++ (d0.fL.drop (x_2 + 1).toNat)).length cap_2, .int .i64 d0.fMade] 80 (0, 0))) :: H) rfl fun w_9 p_9 _ f => eT (RR (Z (v := .agg #[.slice A_2 ((d0.fL.take x_2.toNat) ++ (d0.fL.drop (x_2 + 1).toNat)).length cap_2, .int .i64 d0.fMade]) f (Y34 (cs := [.slice A_2 ((d0.fL.take x_2.toNat) ++ (d0.fL.drop (x_2 + 1).toNat)).length cap_2, .int .i64 d0.fMade]) rfl (ad := ⟨b_1, 0, none⟩) (own_cells (p_9.ownCell 1 rfl) 0 rfl)) fun _ f => Y28 (vs := [.slice A_2 ((d0.fL.take x_2.toNat) ++ (d0.fL.drop (x_2 + 1).toNat)).length cap_2, .int .i64 d0.fMade]) (j := 0) f p_9 rfl rfl (by simp [Value.oneCell', S]) (by simp) (by decide) (cs' := #[.slice A_2 ((d0.fL.take x_2.toNat) ++ (d0.fL.drop (x_2 + 1).toNat)).length cap_2, .int .i64 d0.fMade]) (by kernel_rfl) fun w_10 p_10 _ f => Y f 1 fun _ f => eT (wp_ret (E_rv2 f rfl (Y10 (cs := [.slice A_2 ((d0.fL.take x_2.toNat) ++ (d0.fL.drop (x_2 + 1).toNat)).length cap_2, .int .i64 d0.fMade]) (ad := ⟨b_2, 0, none⟩) f (own_cells (p_10.ownCell 0 rfl) 0 rfl)) (Y11 (v := .int .i64 0) f) ?_))))
   obtain rfl := sI hF_10
   exact ⟨_, rfl, M_1, hM_1, (p_10.dropN 2), ⟨[.slice A_2 ((d0.fL.take x_2.toNat) ++ (d0.fL.drop (x_2 + 1).toNat)).length cap_2, .int .i64 d0.fMade], rfl, (TB0.shut h_6)⟩⟩
def numR (d : List UInt8) : Int × Bool := if (Go.Num.read (d.drop 1)).2 = 0 ∧ 1 ≤ (Go.Num.read (d.drop 1)).1 ∧ (Go.Num.read (d.drop 1)).1 ≤ 1099511627776 then ((Go.Num.read (d.drop 1)).1, true) else (0, false)
def numV (d : List UInt8) : Int × Bool := if d = [] ∨ d.getD 0 0 ≠ 112 then (0, false) else numR d
def physV (m : Int) : List UInt8 := 112 :: (Go.Num.text m).1
theorem fits_most {m : Int} (h0 : 1 ≤ m) (h1 : m ≤ 1099511627776) : Go.Num.fitsB m = true := Go.Num.fitsB_iff.2 ⟨by omega, by omega⟩
theorem byte_eq (c : UInt8) : (!decide (((c).toNat : Int) = 112)) = decide (c ≠ 112) := by
 by_cases h : c = 112
 ·subst h; rfl
 ·have : ¬ ((c.toNat : Int) = 112) := fun e => h (UInt8.toNat_inj.1 (show c.toNat = 112 by omega))
  rw [decide_eq_false this, decide_eq_true h]; rfl
theorem num_tail {n : Nat} {d : List UInt8} {r : Int × Int} (hr : r = Go.Num.read (d.drop 1)) :
  (bif (!(decide (r.2 = 0))) then (some (((0 : Int), (false)))) else bif (decide (r.1 < 1)) then (some (((0 : Int), (false)))) else bif (decide ((1099511627776 : Int) < r.1)) then (some (((0 : Int), (false)))) else some ((r.1, (true))) : Option (Int × Bool)) = some (numR d) := by
 subst hr
 unfold numR
 by_cases h1 : (Go.Num.read (d.drop 1)).2 = 0
 ·rw [decide_eq_true h1, Bool.not_true, cF]
  by_cases h2 : (Go.Num.read (d.drop 1)).1 < 1
  ·rw [decide_eq_true h2, cT, if_neg (by omega)]
  ·rw [decide_eq_false h2, cF]
   by_cases h3 : (1099511627776 : Int) < (Go.Num.read (d.drop 1)).1
   ·rw [decide_eq_true h3, cT, if_neg (by omega)]
   ·rw [decide_eq_false h3, cF, if_pos ⟨h1, by omega, by omega⟩]
 ·rw [decide_eq_false h1, Bool.not_false, cT, if_neg (fun h => h1 h.1)]
theorem one_nat : (1 : Int).toNat = 1 := rfl
theorem number_run {n : Nat} {d : List UInt8} (hd : d.length ≤ 1000) : store_Number n d = some (numV d) := by
 unfold store_Number numV h_numRead
 cases d with
 | nil => rw [decide_eq_true rfl, cT, bnd, cT, if_pos (.inl rfl)]
 | cons c d =>
  have hg : getI (c :: d) (0 : Int) = some c := rfl
  rw [decide_eq_false (by simp), cF, hg, bnd, bnd, byte_eq]
  by_cases hc : c = 112
  ·rw [decide_eq_false (fun h => h hc), cF, need_t (by simp only [List.length_cons] at *; omega), need_t (by rw [List.length_drop]; omega), bnd, if_neg (by simp [hc]), one_nat]
   exact num_tail (n := n) rfl
  ·rw [decide_eq_true hc, cT, if_pos (.inr hc)]
theorem Phys_run {n : Nat} {m : Int} (h0 : 1 ≤ m) (h1 : m ≤ 1099511627776) : store_Phys n m = some (physV m, 0) := by
 unfold store_Phys h_numText physV
 have hl := Go.Num.text_len (fits_most h0 h1)
 rw [decide_eq_false (by omega), cF, bnd, decide_eq_false (by omega), cF, bnd, need_t (by simp only [List.length_cons, List.length_nil]; omega), (Go.Num.text_zero m).2 (fits_most h0 h1)]
 rfl
theorem phys_len {m : Int} (h0 : 1 ≤ m) (h1 : m ≤ 1099511627776) : (physV m).length ≤ 18 := by
 unfold physV
 have hl := Go.Num.text_len (fits_most h0 h1)
 rw [List.length_cons]; omega
def knownV (l : List TF0) : Bool := !l.any (·.fUnknown)
theorem known_run {n : Nat} (hn : 6000 < n) {l : List TF0} (hl : l.length ≤ 60) : store_known n l = some (knownV l) := by
 unfold store_known store_find knownV
 obtain ⟨b, hb, hp⟩ := index_any (n := n) z_TF0 (·.fUnknown) l (step := store_find_s1 n l) (fun k hk => by
  unfold store_find_s1 store_known_1
  rw [decide_eq_true (by omega), cT, getI_at z_TF0 hk, bnd, bnd]
  cases (l.getD k z_TF0).fUnknown with
  | false => rw [cF, need_i (by omega) (by omega)]; rfl
  | true => rw [cT]; rfl) (by
  unfold store_find_s1
  rw [decide_eq_false (by omega), cF]) (by omega)
 rw [hb, bnd]
 cases b with
 | inl i =>
  obtain ⟨h0, h1⟩ := hp
  dsimp only
  rw [bnd, h1, decide_eq_false (by omega)]; rfl
 | inr u =>
  have h1 : l.any (·.fUnknown) = false := hp
  dsimp only
  rw [bnd, h1]; rfl
structure GoodT (x : TD0) : Prop where
  few : x.fProps.length ≤ 60
  fine : ∀ g ∈ x.fProps, Fine g.fV
  short : x.fPhys.length ≤ 1000
structure GoodL (L : List TD0) : Prop where
  few : L.length ≤ 200
  each : ∀ x ∈ L, GoodT x
def okT (x : TD0) (last : Int) : Bool := (numV x.fPhys).2 && (decide (last < (numV x.fPhys).1) && (decide (checkG x.fType x.fProps = 0) && knownV x.fProps))
def scanS : List TD0 → Int → Option Int
  | [], last => some last
  | x :: r, last => bif okT x last then scanS r (numV x.fPhys).1 else none
theorem scanS_app : ∀ (l m : List TD0) (z : Int), scanS (l ++ m) z = (scanS l z).bind (scanS m)
 | [], m, z => rfl
 | x :: l, m, z => by
  rw [List.cons_append, scanS, scanS]
  cases okT x z with
  | true => rw [cT, cT, scanS_app l m]
  | false => rfl
theorem okT_spec {x : TD0} {z : Int} (h : okT x z = true) : (numV x.fPhys).2 = true ∧ z < (numV x.fPhys).1 ∧ checkG x.fType x.fProps = 0 ∧ knownV x.fProps = true := by
 unfold okT at h
 simp only [Bool.and_eq_true, decide_eq_true_eq] at h
 exact ⟨h.1, h.2.1, h.2.2.1, h.2.2.2⟩
theorem scanS_le : ∀ {l : List TD0} {z y : Int}, scanS l z = some y → z ≤ y
 | [], z, y, h => by cases h; omega
 | x :: l, z, y, h => by
  rw [scanS] at h
  cases hk : okT x z with
  | false => rw [hk] at h; cases h
  | true =>
   rw [hk, cT] at h
   have := scanS_le h
   have := (okT_spec hk).2.1
   omega
theorem scanS_mem : ∀ {l : List TD0} {z y : Int}, scanS l z = some y → ∀ x ∈ l, (numV x.fPhys).2 = true ∧ z < (numV x.fPhys).1 ∧ (numV x.fPhys).1 ≤ y ∧ checkG x.fType x.fProps = 0 ∧ knownV x.fProps = true
 | [], z, y, h, x, hx => by cases hx
 | w :: l, z, y, h, x, hx => by
  rw [scanS] at h
  cases hk : okT w z with
  | false => rw [hk] at h; cases h
  | true =>
   rw [hk, cT] at h
   obtain ⟨h1, h2, h3, h4⟩ := okT_spec hk
   rcases List.mem_cons.1 hx with rfl | hx
   ·exact ⟨h1, h2, scanS_le h, h3, h4⟩
   ·obtain ⟨k1, k2, k3, k4⟩ := scanS_mem h x hx
    exact ⟨k1, by omega, k3, k4⟩
theorem scanS_nodup : ∀ {l : List TD0} {z y : Int}, scanS l z = some y → (l.map (·.fPhys)).Nodup
 | [], z, y, h => by simp
 | w :: l, z, y, h => by
  rw [scanS] at h
  cases hk : okT w z with
  | false => rw [hk] at h; cases h
  | true =>
   rw [hk, cT] at h
   rw [List.map_cons, List.nodup_cons]
   refine ⟨fun hm => ?_, scanS_nodup h⟩
   obtain ⟨x, hx, e⟩ := List.mem_map.1 hm
   have := (scanS_mem h x hx).2.1
   rw [e] at this; omega
def checkS (L : List TD0) (made : Int) : Int := match scanS L 0 with
  | none => 2
  | some last => if made < last ∨ 1099511627776 < made then 2 else 0
theorem checkS_zero {L : List TD0} {made : Int} (h : checkS L made = 0) : ∃ last, scanS L 0 = some last ∧ 0 ≤ last ∧ last ≤ made ∧ made ≤ 1099511627776 := by
 unfold checkS at h
 cases hs : scanS L 0 with
 | none => rw [hs] at h; cases h
 | some last =>
  rw [hs] at h
  dsimp only at h
  by_cases h1 : made < last ∨ 1099511627776 < made
  ·rw [if_pos h1] at h; cases h
  ·exact ⟨last, rfl, scanS_le hs, by omega, by omega⟩
theorem checkS_two {L : List TD0} {made : Int} (h : checkS L made ≠ 0) : checkS L made = 2 := by
 unfold checkS at h ⊢
 cases hs : scanS L 0 with
 | none => rfl
 | some last =>
  rw [hs] at h
  dsimp only at h ⊢
  by_cases h1 : made < last ∨ 1099511627776 < made
  ·rw [if_pos h1]
  ·rw [if_neg h1] at h; exact absurd rfl h
theorem evS (s : TB0) : (⟨s.fL, s.fMade⟩ : TB0) = s := by cases s; rfl
theorem getT {L : List TD0} {k : Nat} (hk : k < L.length) : L.getD k z_TD0 = L[k] := by simp [List.getD, hk]
theorem scan_step {L : List TD0} {k : Nat} (hk : k < L.length) {z : Int} (h : scanS (L.take k) 0 = some z) : scanS (L.take (k + 1)) 0 = bif okT L[k] z then some (numV L[k].fPhys).1 else none := by
 rw [List.take_add_one, List.getElem?_eq_getElem hk, Option.toList_some, scanS_app, h, bnd]
 rfl
theorem scan_fail {L : List TD0} {k : Nat} (h : scanS (L.take k) 0 = none) : scanS L 0 = none := by
 have := scanS_app (L.take k) (L.drop k) 0
 rw [List.take_append_drop, h] at this
 exact this
theorem Check_run {n : Nat} (hn : 6000 < n) {s : TB0} (hg : GoodL s.fL) : store_Check n s = some (checkS s.fL s.fMade) := by
 unfold store_Check checkS
 obtain ⟨b, hb, hp⟩ := loop_inv (n := n) (step := store_Check_s1 n s) (s0 := ((0 : Int), (0 : Int))) (fun k q => q.2 = (k : Int) ∧ scanS (s.fL.take k) 0 = some q.1)
  (fun b => match b with | .inl _ => scanS s.fL 0 = none | .inr y => scanS s.fL 0 = some y) s.fL.length ⟨rfl, rfl⟩ (fun k q hk hI => by
   obtain ⟨last, i⟩ := q
   obtain ⟨e, hs⟩ := hI
   dsimp only at e hs
   subst e
   have gt := hg.each _ (List.getElem_mem hk)
   have hst := scan_step hk hs
   unfold store_Check_s1
   dsimp only
   rw [decide_eq_true (by have := hg.few; omega), cT, getI_at z_TD0 hk, bnd, getT hk, number_run gt.short, bnd]
   have hbad : okT s.fL[k] last = false → scanS s.fL 0 = none := fun h => scan_fail (k := k + 1) (by rw [hst, h]; rfl)
   cases h1 : (numV s.fL[k].fPhys).2 with
   | false => exact .inr ⟨_, by rw [Bool.not_false, cT], hbad (by unfold okT; rw [h1]; rfl)⟩
   | true =>
    rw [Bool.not_true, cF]
    by_cases h2 : (numV s.fL[k].fPhys).1 ≤ last
    ·exact .inr ⟨_, by rw [decide_eq_true h2, cT], hbad (by unfold okT; rw [decide_eq_false (by omega)]; simp)⟩
    ·rw [decide_eq_false h2, cF, schemaCheck_run hn _ gt.few gt.fine, bnd]
     by_cases h3 : checkG s.fL[k].fType s.fL[k].fProps = 0
     ·rw [decide_eq_true h3, Bool.not_true, cF, known_run hn gt.few, bnd]
      cases h4 : knownV s.fL[k].fProps with
      | false => exact .inr ⟨_, by rw [Bool.not_false, cT], hbad (by unfold okT; rw [h4]; simp)⟩
      | true =>
       refine .inl ⟨_, by rw [Bool.not_true, cF, need_i (by have := hg.few; omega) (by have := hg.few; omega)], ?_, ?_⟩
       ·dsimp only; omega
       ·rw [hst]
        have : okT s.fL[k] last = true := by
         unfold okT
         rw [h1, decide_eq_true (by omega), decide_eq_true h3, h4]; rfl
        rw [this, cT]
     ·exact .inr ⟨_, by rw [decide_eq_false h3, Bool.not_false, cT], hbad (by unfold okT; rw [decide_eq_false h3]; simp)⟩) (fun q hI => by
   obtain ⟨last, i⟩ := q
   obtain ⟨e, hs⟩ := hI
   dsimp only at e hs
   subst e
   rw [List.take_length] at hs
   unfold store_Check_s1
   dsimp only
   rw [decide_eq_false (by omega), cF]
   exact ⟨_, rfl, hs⟩) (by have := hg.few; omega)
 rw [hb, bnd]
 cases b with
 | inl u =>
  have hp' : scanS s.fL 0 = none := hp
  rw [hp']
 | inr y =>
  have hp' : scanS s.fL 0 = some y := hp
  rw [hp']
  dsimp only
  by_cases h1 : s.fMade < y
  ·rw [decide_eq_true h1, cT, if_pos (.inl h1)]
  ·rw [decide_eq_false h1, cF]
   by_cases h2 : (1099511627776 : Int) < s.fMade
   ·rw [decide_eq_true h2, cT, if_pos (.inr h2)]
   ·rw [decide_eq_false h2, cF, if_neg (by omega)]
def placeT (phys : List UInt8) (L : List TD0) : Option Nat := placeV phys (L.map (·.fPhys))
def findT (L : List TD0) (phys : List UInt8) : Option TD0 := (placeT phys L).map fun k => L.getD k z_TD0
theorem placeT_lt {phys : List UInt8} {L : List TD0} {k : Nat} (h : placeT phys L = some k) : k < L.length := by
 have := place_lt h
 simpa using this
theorem placeT_at {phys : List UInt8} {L : List TD0} {k : Nat} (h : placeT phys L = some k) : (L.getD k z_TD0).fPhys = phys := by
 have h1 := (place_some h).1
 have hk := placeT_lt h
 rw [getT hk]
 simpa [hk] using h1
theorem at_run {n : Nat} (hn : 6000 < n) {s : TB0} (hl : s.fL.length ≤ 200) (phys : List UInt8) : store_at n s phys = some (match placeT phys s.fL with | some i => (i : Int) | none => -1) := by
 unfold store_at store_find_2
 obtain ⟨b, hb, hp⟩ := loop_inv (n := n) (step := store_find_2_s1 n s.fL phys) (s0 := (0 : Int)) (fun k q => q = (k : Int) ∧ ∀ j, j < k → (s.fL.map (·.fPhys))[j]? ≠ some phys)
  (fun b => match b with | .inl i => ∃ k, i = ((k : Nat) : Int) ∧ placeT phys s.fL = some k | .inr _ => placeT phys s.fL = none) s.fL.length ⟨rfl, fun j hj => absurd hj (by omega)⟩ (fun k q hk hI => by
   obtain ⟨rfl, hf⟩ := hI
   unfold store_find_2_s1 store_at_1
   rw [decide_eq_true (by omega), cT, getI_at z_TD0 hk, bnd, bnd, getT hk]
   by_cases hp : s.fL[k].fPhys = phys
   ·exact .inr ⟨.inl ((k : Nat) : Int), by rw [decide_eq_true hp, cT], k, rfl, place_first (by simp [hk, hp]) hf⟩
   ·refine .inl ⟨_, by rw [decide_eq_false hp, cF, need_i (by omega) (by omega)], by omega, fun j hj => ?_⟩
    by_cases e : j = k
    ·subst e
     simp [hk, hp]
    ·exact hf j (by omega)) (fun q hI => by
   obtain ⟨rfl, hf⟩ := hI
   unfold store_find_2_s1
   rw [decide_eq_false (by omega), cF]
   refine ⟨_, rfl, ?_⟩
   dsimp only
   cases h : placeT phys s.fL with
   | none => rfl
   | some k => exact absurd (place_some h).1 (hf k (placeT_lt h))) (by omega)
 rw [hb, bnd]
 cases b with
 | inl i =>
  obtain ⟨k, rfl, h⟩ := hp
  rw [h]; rfl
 | inr u =>
  have h : placeT phys s.fL = none := hp
  rw [h]; rfl
def updT (L : List TD0) (phys : List UInt8) (props : List TF0) : List TD0 := L.map fun y => if y.fPhys = phys then ⟨y.fPhys, y.fType, props⟩ else y
def delT (L : List TD0) (phys : List UInt8) : List TD0 := L.filter fun y => !decide (y.fPhys = phys)
theorem upd_none {L : List TD0} {phys : List UInt8} {props : List TF0} (h : phys ∉ L.map (·.fPhys)) : updT L phys props = L := by
 unfold updT
 have : ∀ y ∈ L, (if y.fPhys = phys then (⟨y.fPhys, y.fType, props⟩ : TD0) else y) = id y := fun y hy => by
  rw [if_neg (fun e => h (List.mem_map.2 ⟨y, hy, e⟩))]; rfl
 rw [List.map_congr_left this, List.map_id]
theorem del_none {L : List TD0} {phys : List UInt8} (h : phys ∉ L.map (·.fPhys)) : delT L phys = L := by
 unfold delT
 exact List.filter_eq_self.2 fun y hy => by rw [decide_eq_false (fun e => h (List.mem_map.2 ⟨y, hy, e⟩))]; rfl
theorem place_upd {phys : List UInt8} {props : List TF0} : ∀ {L : List TD0} {k : Nat}, (L.map (·.fPhys)).Nodup → placeT phys L = some k →
  (L.take k ++ [(⟨(L.getD k z_TD0).fPhys, (L.getD k z_TD0).fType, props⟩ : TD0)]) ++ L.drop (k + 1) = updT L phys props ∧ L.take k ++ L.drop (k + 1) = delT L phys
 | [], k, _, h => by cases h
 | x :: L, k, hd, h => by
  rw [List.map_cons, List.nodup_cons] at hd
  unfold placeT at h
  rw [List.map_cons, placeV] at h
  by_cases hx : x.fPhys = phys
  ·rw [if_pos hx] at h
   obtain rfl := Option.some.inj h
   have hno : phys ∉ L.map (·.fPhys) := hx ▸ hd.1
   have e1 := upd_none (props := props) hno
   have e2 := del_none hno
   refine ⟨?_, ?_⟩
   ·unfold updT at e1 ⊢
    rw [List.map_cons, if_pos hx, e1]; rfl
   ·unfold delT at e2 ⊢
    rw [List.filter_cons_of_neg (by simp [hx]), e2]; rfl
  ·rw [if_neg hx] at h
   obtain ⟨j, hj, rfl⟩ := Option.map_eq_some_iff.1 h
   obtain ⟨e1, e2⟩ := place_upd (props := props) hd.2 hj
   refine ⟨?_, ?_⟩
   ·have : updT (x :: L) phys props = x :: updT L phys props := by
     unfold updT; rw [List.map_cons, if_neg hx]
    rw [this, ← e1]; rfl
   ·have : delT (x :: L) phys = x :: delT L phys := by
     unfold delT; rw [List.filter_cons_of_pos (by simp [hx])]
    rw [this, ← e2]; rfl
theorem findT_some {L : List TD0} {phys : List UInt8} {x : TD0} (h : findT L phys = some x) : x ∈ L ∧ x.fPhys = phys ∧ ∃ k, placeT phys L = some k ∧ L.getD k z_TD0 = x := by
 unfold findT at h
 obtain ⟨k, hk, rfl⟩ := Option.map_eq_some_iff.1 h
 refine ⟨?_, placeT_at hk, k, hk, rfl⟩
 rw [getT (placeT_lt hk)]
 exact List.getElem_mem _
theorem findT_none {L : List TD0} {phys : List UInt8} (h : findT L phys = none) : placeT phys L = none ∧ phys ∉ L.map (·.fPhys) := by
 unfold findT at h
 have := Option.map_eq_none_iff.1 h
 exact ⟨this, place_none this⟩
def createS (s : TB0) (kind : List UInt8) (props : List TF0) : TB0 × List UInt8 × Int :=
  if checkS s.fL s.fMade ≠ 0 then (z_TB0, [], 2) else if checkG kind props ≠ 0 then (z_TB0, [], checkG kind props) else if knownV props = false then (z_TB0, [], 91) else
  if s.fMade = 1099511627776 then (z_TB0, [], 3) else (⟨s.fL ++ [⟨physV (s.fMade + 1), kind, props⟩], s.fMade + 1⟩, physV (s.fMade + 1), 0)
def badU (x : TD0) (props : List TF0) : Bool := !knownV props || (!decide ((differV x.fType x.fProps props).2 = 0) || decide ((differV x.fType x.fProps props).1 = 3))
def updateS (s : TB0) (phys : List UInt8) (props : List TF0) : TB0 × Int :=
  if checkS s.fL s.fMade ≠ 0 then (z_TB0, 2) else match findT s.fL phys with
  | none => (z_TB0, 4)
  | some x => if checkG x.fType props ≠ 0 then (z_TB0, checkG x.fType props) else if badU x props = true then (z_TB0, 91) else (⟨updT s.fL phys props, s.fMade⟩, 0)
def deleteS (s : TB0) (phys : List UInt8) : TB0 × Int :=
  if checkS s.fL s.fMade ≠ 0 then (z_TB0, 2) else match findT s.fL phys with
  | none => (z_TB0, 4)
  | some x => (⟨delT s.fL phys, s.fMade⟩, 0)
structure GoodP (l : List TF0) : Prop where
  few : l.length ≤ 60
  fine : ∀ g ∈ l, Fine g.fV
theorem Create_run {n : Nat} (hn : 6000 < n) {s : TB0} (hg : GoodL s.fL) (kind : List UInt8) {props : List TF0} (hp : GoodP props) : store_Create n s kind props = some (createS s kind props) := by
 unfold store_Create createS
 rw [evS, Check_run hn hg, bnd]
 by_cases h1 : checkS s.fL s.fMade = 0
 ·obtain ⟨last, hs, hl0, hl1, hl2⟩ := checkS_zero h1
  rw [decide_eq_true h1, cT, schemaCheck_run hn kind hp.few hp.fine, bnd, bnd, if_neg (fun h => h h1)]
  by_cases h2 : checkG kind props = 0
  ·rw [decide_eq_true h2, Bool.not_true, cF, known_run hn hp.few, bnd, if_neg (fun h => h h2)]
   cases h3 : knownV props with
   | false => rw [Bool.not_false, cT, if_pos rfl]
   | true =>
    rw [Bool.not_true, cF, if_neg (by decide)]
    by_cases h4 : s.fMade = 1099511627776
    ·rw [decide_eq_true h4, cT, if_pos h4]
    ·have hf := hg.few
     rw [decide_eq_false h4, cF, if_neg h4, need_t (inR_mk.2 ⟨by omega, by omega⟩), Phys_run (by omega) (by omega), bnd, need_t (by omega), need_t (by rw [List.length_take]; omega)]
     have e : s.fL.take (((s.fL.length : Nat) : Int)).toNat = s.fL := by rw [Int.toNat_natCast, List.take_length]
     rw [e]
  ·rw [decide_eq_false h2, Bool.not_false, cT, if_pos h2]
 ·rw [decide_eq_false h1, cF, bnd, decide_eq_false h1, Bool.not_false, cT, if_pos h1, checkS_two h1]
theorem bad_run {n : Nat} {kn : Bool} {d : Int × Int} (x : TD0) {props : List TF0} (hk : kn = knownV props) (hd : d = differV x.fType x.fProps props) :
  (bif !kn then (some ((true))) else bif (!(decide (d.2 = 0))) then (some ((true))) else some ((decide (d.1 = 3))) : Option Bool) = some (badU x props) := by
 subst hk; subst hd
 unfold badU
 cases knownV props <;> cases decide ((differV x.fType x.fProps props).2 = 0) <;> rfl
theorem Update_run {n : Nat} (hn : 6000 < n) {s : TB0} (hg : GoodL s.fL) (phys : List UInt8) {props : List TF0} (hp : GoodP props) : store_Update n s phys props = some (updateS s phys props) := by
 unfold store_Update updateS
 have hf := hg.few
 rw [evS, Check_run hn hg, bnd]
 by_cases h1 : checkS s.fL s.fMade = 0
 ·obtain ⟨last, hs, hl0, hl1, hl2⟩ := checkS_zero h1
  rw [decide_eq_true h1, Bool.not_true, cF, at_run hn hf, bnd, if_neg (fun h => h h1)]
  cases hfd : findT s.fL phys with
  | none => rw [(findT_none hfd).1]; rfl
  | some x =>
   obtain ⟨hm, hph, k, hk, hx⟩ := findT_some hfd
   have hkl := placeT_lt hk
   have gx := hg.each _ hm
   rw [hk]
   dsimp only
   rw [decide_eq_false (by omega), cF, getI_at z_TD0 hkl, bnd, hx, schemaCheck_run hn _ hp.few hp.fine, bnd]
   by_cases h2 : checkG x.fType props = 0
   ·rw [decide_eq_true h2, Bool.not_true, cF, if_neg (fun h => h h2), Differ_run hn _ gx.few hp.few gx.fine hp.fine, bnd, known_run hn hp.few, bnd, bad_run (n := n) x rfl rfl, bnd]
    cases badU x props with
    | true => rw [cT, if_pos rfl]
    | false =>
     have e1 : ((k : Nat) : Int).toNat = k := Int.toNat_natCast k
     have e2 : (((k : Nat) : Int) + 1).toNat = k + 1 := by omega
     obtain ⟨pu, _⟩ := place_upd (props := props) (scanS_nodup hs) hk
     rw [hx] at pu
     rw [cF, if_neg (by decide), e1, e2, need_t ⟨by omega, by omega⟩, need_i (by omega) (by omega), need_t ⟨by omega, by omega⟩, need_t (by rw [List.length_take]; omega), need_t (by simp only [List.length_append, List.length_take, List.length_cons, List.length_nil, List.length_drop]; omega), pu, bnd]
   ·rw [decide_eq_false h2, Bool.not_false, cT, if_pos h2]
 ·rw [decide_eq_false h1, Bool.not_false, cT, if_pos h1]
theorem Delete_run {n : Nat} (hn : 6000 < n) {s : TB0} (hg : GoodL s.fL) (phys : List UInt8) : store_Delete n s phys = some (deleteS s phys) := by
 unfold store_Delete deleteS
 have hf := hg.few
 rw [evS, Check_run hn hg, bnd]
 by_cases h1 : checkS s.fL s.fMade = 0
 ·obtain ⟨last, hs, hl0, hl1, hl2⟩ := checkS_zero h1
  rw [decide_eq_true h1, Bool.not_true, cF, at_run hn hf, bnd, if_neg (fun h => h h1)]
  cases hfd : findT s.fL phys with
  | none => rw [(findT_none hfd).1]; rfl
  | some x =>
   obtain ⟨hm, hph, k, hk, hx⟩ := findT_some hfd
   have hkl := placeT_lt hk
   rw [hk]
   dsimp only
   have e1 : ((k : Nat) : Int).toNat = k := Int.toNat_natCast k
   have e2 : (((k : Nat) : Int) + 1).toNat = k + 1 := by omega
   obtain ⟨_, pd⟩ := place_upd (props := []) (scanS_nodup hs) hk
   rw [decide_eq_false (by omega), cF, e1, e2, need_t ⟨by omega, by omega⟩, need_i (by omega) (by omega), need_t ⟨by omega, by omega⟩, need_t (by simp only [List.length_take, List.length_drop]; omega), pd]
 ·rw [decide_eq_false h1, Bool.not_false, cT, if_pos h1]
theorem sameG_self (x : TF0) : sameG x x = true := by
 unfold sameG
 rw [decide_eq_true rfl, decide_eq_true rfl, beq_self_eq_true, Bool.or_true]; rfl
theorem same_self9 {l : List TF0} : (decide (l.length = l.length) && !((List.range l.length).any fun k => !sameG (l.getD k z_TF0) (l.getD k z_TF0))) = true := by
 rw [decide_eq_true rfl, Bool.true_and]
 have : ((List.range l.length).any fun k => !sameG (l.getD k z_TF0) (l.getD k z_TF0)) = false := by
  rw [List.any_eq_false]; intro k _; rw [sameG_self]; simp
 rw [this]; rfl
theorem SameR_self {n : Nat} (hn : 6000 < n) {l : List TF0} (hp : GoodP l) : ref09_Same n l l = some true := by
 rw [Same_ref hn hp.few hp.fine hp.fine, same_self9]
theorem GoodT.props {x : TD0} (h : GoodT x) : GoodP x.fProps := ⟨h.few, h.fine⟩
theorem good_z : GoodL z_TB0.fL := ⟨by decide, fun x hx => by cases hx⟩
theorem good_create {s : TB0} (hg : GoodL s.fL) (hl : s.fL.length < 200) (kind : List UInt8) {props : List TF0} (hp : GoodP props) : GoodL (createS s kind props).1.fL := by
 unfold createS
 by_cases h1 : checkS s.fL s.fMade = 0
 ·obtain ⟨last, hs, hl0, hl1, hl2⟩ := checkS_zero h1
  rw [if_neg (fun h => h h1)]
  split
  ·exact good_z
  ·split
   ·exact good_z
   ·split
    ·exact good_z
    ·refine ⟨by simp only [List.length_append, List.length_cons, List.length_nil]; omega, fun x hx => ?_⟩
     rcases List.mem_append.1 hx with h | h
     ·exact hg.each x h
     ·rw [List.mem_singleton.1 h]
      exact ⟨hp.few, hp.fine, by have := phys_len (m := s.fMade + 1) (by omega) (by omega); show (physV (s.fMade + 1)).length ≤ 1000; omega⟩
 ·rw [if_pos h1]; exact good_z
theorem good_upd {L : List TD0} (hg : GoodL L) (phys : List UInt8) {props : List TF0} (hp : GoodP props) : GoodL (updT L phys props) := by
 refine ⟨by unfold updT; rw [List.length_map]; exact hg.few, fun x hx => ?_⟩
 unfold updT at hx
 obtain ⟨y, hy, rfl⟩ := List.mem_map.1 hx
 have gy := hg.each y hy
 split
 ·exact ⟨hp.few, hp.fine, gy.short⟩
 ·exact gy
theorem good_del {L : List TD0} (hg : GoodL L) (phys : List UInt8) : GoodL (delT L phys) := by
 unfold delT
 refine ⟨by have := List.length_filter_le (fun y : TD0 => !decide (y.fPhys = phys)) L; have := hg.few; omega, fun x hx => hg.each x (List.mem_filter.1 hx).1⟩
theorem good_update {s : TB0} (hg : GoodL s.fL) (phys : List UInt8) {props : List TF0} (hp : GoodP props) : GoodL (updateS s phys props).1.fL := by
 unfold updateS
 split
 ·exact good_z
 ·split
  ·exact good_z
  ·split
   ·exact good_z
   ·split
    ·exact good_z
    ·exact good_upd hg phys hp
theorem good_delete {s : TB0} (hg : GoodL s.fL) (phys : List UInt8) : GoodL (deleteS s phys).1.fL := by
 unfold deleteS
 split
 ·exact good_z
 ·split
  ·exact good_z
  ·exact good_del hg phys
def cloud_New (n : Nat) : Option Unit :=
  some (())
theorem cloud_New_ok (n : Nat) (M : Mem) (hG : GL M) (r : Unit) (hF : cloud_New n = some r) : OkH Tryz.prog M [] 19 [] (fun M' E' v => ∃ (b0 : Nat) (b0m0 : Nat), v = .pointer (some ⟨b0, 0, none⟩) ∧ E' = [Ent.obj b0 (.cells #[.slice none 0 0, .int .i64 0, .slice none 0 0, .map (some b0m0), .slice none 0 0, .int .i64 0] 82 (0, 0)), Ent.obj b0m0 (mapO (Value.int .i64) (fun x : TC0 => Value.agg #[.bool x.fEnded, .bool x.fOk, S x.fPhys]) ([] : List (Int × TC0)))]) := by
 unfold cloud_New at hF
 intro M1 hM0 w0 H w p0
 replace hG := GL.mono hM0 hG
 refine R_enter 4 Tryz.func19 rfl rfl (by simp) fun a0 f0 => RR (Y f0 1 fun _ f => eT (RR (W_newmap (Value.int .i64) (fun x : TC0 => Value.agg #[.bool x.fEnded, .bool x.fOk, S x.fPhys]) f p0 (by kernel_rfl) (by kernel_rfl) rfl rfl rfl fun bm_1 w_1 p_1 _ f => Y f 1 fun _ f => Y12 f p_1 (.cells #[.slice none 0 0, .int .i64 0, .slice none 0 0, .map (some bm_1), .slice none 0 0, .int .i64 0] 82 (0, 0)) fun b_1 w_2 p_2 _ f => Y f 1 fun _ f => eT (wp_ret (E_ret1 f rfl (by kernel_rfl : Vc.look _ 0 = some (.pointer (some (⟨b_1, 0, none⟩)))) ?_)))))
 obtain rfl := sI hF
 exact ⟨_, rfl, M1, _, (mR _), p_2, ⟨b_1, bm_1, rfl, rfl⟩⟩
def cloud_check_1 (n : Nat) (d0 : TF0) : Option Bool :=
  some ((d0.fUnknown))
theorem cloud_check_1_ok (n : Nat) (M : Mem) (hG : GL M) (c0 : List Value) (d0 : TF0) (h0 : Rep M (emb_TF0 d0) c0) (r : Bool) (hF : cloud_check_1 n d0 = some r) : Ok Tryz.prog M 60 [.agg c0.toArray] (fun _ v => v = .bool r) := by
 unfold cloud_check_1 at hF
 intro M1 hM0 w0 H w p0
 replace hG := GL.mono hM0 hG
 replace h0 := Rep.mono hM0 _ _ h0
 obtain ⟨A_1, cap_1, A_2, cap_2, rfl, h_1, h_2⟩ := TF0.opn h0
 refine R_enter 5 Tryz.func60 rfl rfl (by simp) fun a0 f0 => RR (Y13 (cs := #[S d0.fName, .bool d0.fUnknown, .int .i8 d0.fV.fKind, .bool d0.fV.fBool, .int .i64 d0.fV.fNum, S d0.fV.fText, .slice A_1 d0.fV.fList.length cap_1, .slice A_2 d0.fV.fKeys.length cap_2]) (T := 77) f0 p0 fun b_1 M_1 w_1 hM_1 hc_1 p_1 _ f => ?_)
 have hc_2 := fz_box hc_1
 refine Y f 1 fun _ f => eT (RR (Y f 1 fun _ f => Y15 f p_1 hc_2 1 rfl fun _ f => Y f 1 fun _ f => eT (wp_ret (E_ret1 f rfl (by kernel_rfl : Vc.look _ 2 = some (.bool d0.fUnknown)) ?_))))
 obtain rfl := sI hF
 exact ⟨_, rfl, M_1, hM_1, p_1, rfl⟩
def slices_IndexFuncapi_Given_api_Given_2_s1 (n : Nat) (d0 : List TF0) (s_1 : Int) : Option (Lp Int (Sum Int Unit)) :=
    bif (decide (s_1 < ((d0.length : Nat) : Int))) then
      ((getI d0 s_1).bind fun x_1 =>
      (cloud_check_1 n x_1).bind fun x_2 =>
      bif x_2 then
        (some (.br (.inl s_1)))
      else
        need (inR .i64 (s_1 + 1)) <|
        some (.nx (s_1 + 1)))
    else
      some (.br (.inr ()))
def slices_IndexFuncapi_Given_api_Given_2 (n : Nat) (d0 : List TF0) : Option Int :=
  (loopF (slices_IndexFuncapi_Given_api_Given_2_s1 n d0) n (0 : Int)).bind fun b_1 =>
  (match b_1 with 
  | .inl y_1 => some (y_1) 
  | .inr y_2 => some ((-1 : Int)))
theorem slices_IndexFuncapi_Given_api_Given_2_ok (n : Nat) (M : Mem) (hG : GL M) (A0 : Option Addr) (cap0 : Nat) (d0 : List TF0) (h0 : Sli M 8 emb_TF0 A0 cap0 d0) (r : Int) (hF : slices_IndexFuncapi_Given_api_Given_2 n d0 = some r) : Ok Tryz.prog M 81 [.slice A0 d0.length cap0, .func (.func 60) #[] #[]] (fun _ v => v = .int .i64 r) := by
 unfold slices_IndexFuncapi_Given_api_Given_2 at hF
 intro M1 hM0 w0 H w p0
 replace hG := GL.mono hM0 hG
 replace h0 := h0.mono hM0
 refine R_enter 19 Tryz.func81 rfl rfl (by simp) fun a0 f0 => RR (Y f0 1 fun _ f => eT (R_seq (RR (Y f 3 fun _ f => eT (wp_block ?_)))))
 obtain ⟨b_1, hL_1, hF_1⟩ := bS hF
 refine wp_mono (Q := fun e a w => (e = .ret ∧ (∃ y_1 : Int, b_1 = .inl y_1 ∧ ∃ M_2 : Mem, M1.le M_2 ∧ Frm 19 [(4, .int .i64 y_1)] a ∧ Hp w0 M_2 (H) w)) ∨ (e = .exit 0 ∧ (∃ y_2 : Unit, b_1 = .inr y_2 ∧ ∃ M_3 : Mem, M1.le M_3 ∧ Frm 19 [] a ∧ Hp w0 M_3 (H) w))) (R_loop (n := 19) (w0 := w0) (M := M1) (fun (x : Nat × Int) => match x with | (m_1, s_1) => [(0, .slice A0 d0.length cap0), (1, .func (.func 60) #[] #[]), (7, .int .i64 ((d0.length : Nat) : Int)), (8, .int .i64 s_1)]) (fun (x : Nat × Int) => match x with | (m_1, s_1) => (H)) (fun (x : Nat × Int) (MM : Mem) => match x with | (m_1, s_1) => loopF (slices_IndexFuncapi_Given_api_Given_2_s1 n d0) m_1 s_1 = some b_1) (fun (x : Nat × Int) => match x with | (m_1, s_1) => m_1) (n, (0 : Int)) (f.kp) p0 hL_1 ?_) ?_
 ·rintro ⟨m_1, s_1⟩ M_1 _ w_1 hM_1 I_1 f p_1
  have I_1L := I_1
  obtain ⟨m_2, r_1, rfl, hs_1, hn_1⟩ := loop_step I_1L
  unfold slices_IndexFuncapi_Given_api_Given_2_s1 at hs_1
  refine RR (Y f 1 fun _ f => eT (R_seq (RcF f hs_1 (fun h_1 hF_2 => ?_) fun h_1 hF_8 => ?_)))
  ·have k_1 := dI.1 h_1
   refine wp_skip (T_n (R_seq (wp_block (RR (Y f 2 fun _ f => eT (RR (Y f 3 fun _ f => ?_)))))))
   obtain ⟨x_1, hx_1, hF_3⟩ := bS hF_2
   obtain ⟨ad_1, c_1, e_1, -, hr_1, hc_1⟩ := Sli.at_ (h0.mono hM_1) hx_1
   obtain ⟨A_1, cap_1, A_2, cap_2, rfl, h_2, h_3⟩ := TF0.opn hr_1
   refine Z f (Y32 e_1 rfl (len := d0.length) (cap := cap0) (k := .i64) (i := s_1) (e := 77) (sz := 8) (getI_nn hx_1) (getI_lt hx_1)) fun _ f => Z (v := .agg #[S x_1.fName, .bool x_1.fUnknown, .int .i8 x_1.fV.fKind, .bool x_1.fV.fBool, .int .i64 x_1.fV.fNum, S x_1.fV.fText, .slice A_1 x_1.fV.fList.length cap_1, .slice A_2 x_1.fV.fKeys.length cap_2]) f (Y34 (cs := [S x_1.fName, .bool x_1.fUnknown, .int .i8 x_1.fV.fKind, .bool x_1.fV.fBool, .int .i64 x_1.fV.fNum, S x_1.fV.fText, .slice A_1 x_1.fV.fList.length cap_1, .slice A_2 x_1.fV.fKeys.length cap_2]) rfl (ad := ad_1.add (s_1.toNat * 8)) (fun j v h => p_1.cell (hc_1 j v h))) fun _ f => ?_
   obtain ⟨x_2, hx_2, hF_4⟩ := bS hF_3
   refine Y18 f p_1 (cloud_check_1_ok n _ (GL.mono hM_1 hG) _ x_1 (TF0.shutx (x := x_1) h_2 h_3) x_2 hx_2) fun w_2 p_2 _ f => eT (RcF f hF_4 (fun h_4 hF_5 => ?_) fun h_4 hF_6 => ?_)
   ·refine RR (Y f 2 fun _ f => eT (wp_ret (B_r (T_r (T_r ?_)))))
    obtain rfl := sI hF_5
    exact .inl ⟨rfl, s_1, (sI hn_1).symm, M_1, hM_1, f.kp, p_2⟩
   ·refine wp_skip (B_n (T_n (R_reg ?_)))
    obtain ⟨g_1, hF_7⟩ := nS hF_6
    refine Y f 1 fun _ f => ?_
    have f := f.st 18 (congrArg (Value.int .i64) (inR_wrap g_1))
    refine Y f 1 fun _ f => eT ?_
    obtain rfl := sI hF_7
    exact ⟨⟨m_2, s_1 + 1⟩, Nat.lt_succ_self _, M_1, hM_1, hn_1, f.kp, p_2⟩
  ·have k_4 := iff_f dI h_1
   refine wp_exit (T_x (T_x ?_))
   obtain rfl := sI hF_8
   exact .inr ⟨rfl, (), (sI hn_1).symm, M_1, hM_1, f.kp, p_1⟩
 ·rintro _ _ w_5 (⟨rfl, y_1, rfl, M_2, hM_2, f, p_3⟩ | ⟨rfl, y_2, rfl, M_3, hM_3, f, p_4⟩)
  ·refine B_r (T_r (E_ret1 f rfl (by kernel_rfl : Vc.look _ 4 = some (.int .i64 y_1)) ?_))
   obtain rfl := sI hF_1
   exact ⟨_, rfl, M_2, hM_2, p_3, rfl⟩
  ·refine B_x (T_n (RR (Y f 1 fun _ f => eT (wp_ret (E_ret1 f rfl (by kernel_rfl : Vc.look _ 4 = some (.int .i64 (-1))) ?_)))))
   obtain rfl := sI hF_1
   exact ⟨_, rfl, M_3, hM_3, p_4, rfl⟩
def slices_ContainsFuncapi_Given_api_Given_2 (n : Nat) (d0 : List TF0) : Option Bool :=
  (slices_IndexFuncapi_Given_api_Given_2 n d0).bind fun x_1 =>
  some ((decide ((0 : Int) ≤ x_1)))
theorem slices_ContainsFuncapi_Given_api_Given_2_ok (n : Nat) (M : Mem) (hG : GL M) (A0 : Option Addr) (cap0 : Nat) (d0 : List TF0) (h0 : Sli M 8 emb_TF0 A0 cap0 d0) (r : Bool) (hF : slices_ContainsFuncapi_Given_api_Given_2 n d0 = some r) : Ok Tryz.prog M 59 [.slice A0 d0.length cap0, .func (.func 60) #[] #[]] (fun _ v => v = .bool r) := by
 unfold slices_ContainsFuncapi_Given_api_Given_2 at hF
 intro M1 hM0 w0 H w p0
 replace hG := GL.mono hM0 hG
 replace h0 := h0.mono hM0
 refine R_enter 9 Tryz.func59 rfl rfl (by simp) fun a0 f0 => RR (Y f0 1 fun _ f => eT (RR (Y f 2 fun _ f => ?_)))
 obtain ⟨x_1, hx_1, hF_1⟩ := bS hF
 refine Y18 f p0 (slices_IndexFuncapi_Given_api_Given_2_ok n _ hG A0 cap0 d0 h0 x_1 hx_1) fun w_1 p_1 _ f => Y f 2 fun _ f => eT (wp_ret (E_ret1 f rfl (by kernel_rfl : Vc.look _ 4 = some (.bool (decide ((0 : Int) ≤ x_1)))) ?_))
 obtain rfl := sI hF_1
 exact ⟨_, rfl, M1, (mR _), p_1, rfl⟩
def cloud_check (n : Nat) (d0_0 : Int) (d0_1 : Int) (d0_2 : List UInt8) (d0_3 : List UInt8) (d0_4 : List TF0) : Option (Int × Int × Int × List UInt8 × List UInt8 × List TF0) :=
  ((((bif (decide (d0_0 < 1)) then
        (some ((decide (d0_0 < 1))))
      else
        bif (decide (d0_1 < 0)) then
          (some ((decide (d0_1 < 0))))
        else
          bif (decide ((2 : Int) < d0_1)) then
            (some ((decide ((2 : Int) < d0_1))))
          else
            some ((!((decide (d0_1 = 0)) == (decide (d0_2 = []))))) : Option Bool)).bind fun y_1 =>
    bif y_1 then
      (((some (((2 : Int), d0_0, d0_1, d0_2, d0_3, d0_4)) : Option (Int × Int × Int × List UInt8 × List UInt8 × List TF0))).map Lp.br)
    else
      ((bif (decide (d0_1 = 2)) then
          (some ((decide ((0 : Int) < ((d0_4.length : Nat) : Int)))))
        else
          some ((false)) : Option Bool)).bind fun y_2 =>
      ((bif y_2 then
          (some ((y_2)))
        else
          bif (decide (d0_1 = 1)) then
            (some ((decide (d0_3 = []))))
          else
            some ((false)) : Option Bool)).bind fun y_3 =>
      bif y_3 then
        (((some (((2 : Int), d0_0, d0_1, d0_2, d0_3, d0_4)) : Option (Int × Int × Int × List UInt8 × List UInt8 × List TF0))).map Lp.br)
      else
        bif (decide (d0_1 = 2)) then
          (((some (((0 : Int), d0_0, d0_1, d0_2, d0_3, d0_4)) : Option (Int × Int × Int × List UInt8 × List UInt8 × List TF0))).map Lp.br)
        else
          (slices_ContainsFuncapi_Given_api_Given_2 n d0_4).bind fun x_1 =>
          bif x_1 then
            (((some (((2 : Int), d0_0, d0_1, d0_2, d0_3, d0_4)) : Option (Int × Int × Int × List UInt8 × List UInt8 × List TF0))).map Lp.br)
          else
            some (.nx ()) : Option (Lp Unit (Int × Int × Int × List UInt8 × List UInt8 × List TF0)))).bind fun j => joinF j fun y_4 =>
  (schema_Check n d0_3 d0_4).bind fun x_2 =>
  some ((x_2, d0_0, d0_1, d0_2, d0_3, d0_4))
set_option maxRecDepth 20000 in
theorem cloud_check_ok (n : Nat) (M : Mem) (hG : GL M) (b0 : Nat) (d0_0 : Int) (d0_1 : Int) (d0_2 : List UInt8) (d0_3 : List UInt8) (d0_4 : List TF0) (A_1 : Option Addr) (cap_1 : Nat) (h_1 : Sli M 8 emb_TF0 A_1 cap_1 d0_4) (r : Int × Int × Int × List UInt8 × List UInt8 × List TF0) (hF : cloud_check n d0_0 d0_1 d0_2 d0_3 d0_4 = some r) : OkH Tryz.prog M [Ent.obj b0 (.cells #[.int .i64 d0_0, .int .i8 d0_1, S d0_2, S d0_3, .slice A_1 d0_4.length cap_1] 42 (0, 0))] 40 [.pointer (some (⟨b0, 0, none⟩))] (fun M' E' v => ∃ (A_2 : Option Addr) (cap_2 : Nat), v = .int .i64 r.1 ∧ E' = [Ent.obj b0 (.cells #[.int .i64 r.2.1, .int .i8 r.2.2.1, S r.2.2.2.1, S r.2.2.2.2.1, .slice A_2 r.2.2.2.2.2.length cap_2] 42 (0, 0))] ∧ Sli M' 8 emb_TF0 A_2 cap_2 r.2.2.2.2.2) := by
 unfold cloud_check at hF
 intro M1 hM0 w0 H w p0
 replace hG := GL.mono hM0 hG
 replace h_1 := h_1.mono hM0
 refine R_enter 77 Tryz.func40 rfl rfl (by simp) fun a0 f0 => RR (Y f0 1 fun _ f => eT (R_seq (R_draw p0 (by kernel_rfl) (by kernel_rfl) (Y5 default f 3 fun _ f => Y2 (v := .int .i8 d0_1) f (fun _ pq => Y33 (v := .int .i8 d0_1) rfl (ad := ⟨b0, 1, none⟩) (pq.ownCell 0 rfl 1)) fun _ f => Y5 default f 4 fun _ f => Y2 (v := .int .i8 d0_1) f (fun _ pq => Y33 (v := .int .i8 d0_1) rfl (ad := ⟨b0, 1, none⟩) (pq.ownCell 0 rfl 1)) fun _ f => Y5 default f 3 fun _ f => Q_end rfl ?_))))
 intro w_1 p_1
 refine T_n (R_seq ?_)
 obtain ⟨j_1, hj_1, hF_1⟩ := bS hF
 refine R_mid (fun a_45 w_6 => ∃ y_4 : Unit, j_1 = .nx y_4 ∧ ∃ M_4 : Mem, M1.le M_4 ∧ Frm 77 [(0, .pointer (some (⟨b0, 0, none⟩)))] a_45 ∧ Hp w0 M_4 ((Ent.obj b0 (.cells #[.int .i64 d0_0, .int .i8 d0_1, S d0_2, S d0_3, .slice A_1 d0_4.length cap_1] 42 (0, 0))) :: H) w_6) ?_ ?_
 ·refine wp_block (R_seq (RR (Y f 3 fun _ f => Z f (Y33 (v := .int .i64 d0_0) rfl (ad := ⟨b0, 0, none⟩) (p_1.ownCell 0 rfl 0)) fun _ f => Y f 2 fun _ f => eT ?_)))
  obtain ⟨j_2, hj_2, hF_2⟩ := bS hj_1
  refine R_mid (fun a_20 w_2 => ∃ y_1 : Bool, j_2 = y_1 ∧ ∃ M_1 : Mem, M1.le M_1 ∧ Frm 77 [(0, .pointer (some (⟨b0, 0, none⟩))), (4, .bool (decide (d0_1 = 2))), (15, .bool y_1)] a_20 ∧ Hp w0 M_1 ((Ent.obj b0 (.cells #[.int .i64 d0_0, .int .i8 d0_1, S d0_2, S d0_3, .slice A_1 d0_4.length cap_1] 42 (0, 0))) :: H) w_2) ?_ ?_
  ·refine RcF f hj_2 (fun h_2 hF_3 => ?_) fun h_2 hF_4 => ?_
   ·have k_1 := dI.1 h_2
    refine wp_skip (T_n ?_)
    exact ⟨(decide (d0_0 < 1)), (sI hF_3).symm, M1, (mR _), f.kp, p_1⟩
   ·have k_2 := iff_f dI h_2
    refine RR (Y f 3 fun _ f => Z f (Y33 (v := .int .i8 d0_1) rfl (ad := ⟨b0, 1, none⟩) (p_1.ownCell 0 rfl 1)) fun _ f => Y f 2 fun _ f => eT (RcF f hF_4 (fun h_3 hF_5 => ?_) fun h_3 hF_6 => ?_))
    ·have k_3 := dI.1 h_3
     refine wp_skip (T_n ?_)
     exact ⟨(decide (d0_1 < 0)), (sI hF_5).symm, M1, (mR _), f.kp, p_1⟩
    ·have k_4 := iff_f dI h_3
     refine RR (Y f 3 fun _ f => Z f (Y33 (v := .int .i8 d0_1) rfl (ad := ⟨b0, 1, none⟩) (p_1.ownCell 0 rfl 1)) fun _ f => Y f 2 fun _ f => eT (RcF f hF_6 (fun h_4 hF_7 => ?_) fun h_4 hF_8 => ?_))
     ·have k_5 := dI.1 h_4
      refine wp_skip (T_n ?_)
      exact ⟨(decide ((2 : Int) < d0_1)), (sI hF_7).symm, M1, (mR _), f.kp, p_1⟩
     ·have k_6 := iff_f dI h_4
      refine R_reg (Y f 4 fun _ f => Z f (Y33 (v := S d0_2) rfl (ad := ⟨b0, 2, none⟩) (p_1.ownCell 0 rfl 2)) fun _ f => Z f (Y40 rfl (l := d0_2) (m := [])) fun _ f => Y f 2 fun _ f => eT ?_)
      exact ⟨(!((decide (d0_1 = 0)) == (decide (d0_2 = [])))), (sI hF_8).symm, M1, (mR _), f.kp, p_1⟩
  ·rintro a_20 w_2 ⟨y_1, hq_1, M_1, hM_1, f, p_2⟩
   subst j_2
   refine T_n (RcF f hF_2 (fun h_5 hF_9 => ?_) fun h_5 hF_11 => ?_)
   ·refine RR (Y f 1 fun _ f => eT (wp_ret (B_r ?_)))
    have hF_10 := br_elim hF_9 hF_1
    refine T_r (T_r (E_ret1 f rfl (by kernel_rfl : Vc.look _ 2 = some (.int .i64 2)) ?_))
    obtain rfl := sI hF_10
    exact ⟨_, rfl, M_1, _, hM_1, p_2, ⟨A_1, cap_1, rfl, rfl, (h_1.mono hM_1)⟩⟩
   ·refine R_seq (R_seq ?_)
    obtain ⟨j_3, hj_3, hF_12⟩ := bS hF_11
    refine R_mid (fun a_27 w_3 => ∃ y_2 : Bool, j_3 = y_2 ∧ ∃ M_2 : Mem, M_1.le M_2 ∧ Frm 77 [(0, .pointer (some (⟨b0, 0, none⟩))), (4, .bool (decide (d0_1 = 2))), (38, .bool y_2)] a_27 ∧ Hp w0 M_2 ((Ent.obj b0 (.cells #[.int .i64 d0_0, .int .i8 d0_1, S d0_2, S d0_3, .slice A_1 d0_4.length cap_1] 42 (0, 0))) :: H) w_3) ?_ ?_
    ·refine R_reg (Y f 2 fun _ f => ?_)
     rcases cE hj_3 with ⟨h_6, hF_13⟩ | ⟨h_6, hF_14⟩
     ·have k_9 := dI.1 h_6
      have f := f.st 40 (cB h_6)
      refine Y f 3 fun _ f => Z f (Y33 (v := .slice A_1 d0_4.length cap_1) rfl (ad := ⟨b0, 4, none⟩) (p_2.ownCell 0 rfl 4)) fun _ f => Y f 4 fun _ f => eT ?_
      exact ⟨(decide ((0 : Int) < ((d0_4.length : Nat) : Int))), (sI hF_13).symm, M_1, (mR _), f.kp, p_2⟩
     ·have k_10 := iff_f dI h_6
      have f := f.st 40 (cB h_6)
      refine Y f 8 fun _ f => eT ?_
      exact ⟨(false), (sI hF_14).symm, M_1, (mR _), f.kp, p_2⟩
    ·rintro a_27 w_3 ⟨y_2, hq_2, M_2, hM_2, f, p_3⟩
     subst j_3
     refine T_n ?_
     obtain ⟨j_4, hj_4, hF_15⟩ := bS hF_12
     refine R_mid (fun a_36 w_4 => ∃ y_3 : Bool, j_4 = y_3 ∧ ∃ M_3 : Mem, M_2.le M_3 ∧ Frm 77 [(0, .pointer (some (⟨b0, 0, none⟩))), (4, .bool (decide (d0_1 = 2))), (38, .bool y_3)] a_36 ∧ Hp w0 M_3 ((Ent.obj b0 (.cells #[.int .i64 d0_0, .int .i8 d0_1, S d0_2, S d0_3, .slice A_1 d0_4.length cap_1] 42 (0, 0))) :: H) w_4) ?_ ?_
     ·refine RcF f hj_4 (fun h_7 hF_16 => ?_) fun h_7 hF_17 => ?_
      ·refine wp_skip (T_n ?_)
       exact ⟨(y_2), (sI hF_16).symm, M_2, (mR _), f.kp, p_3⟩
      ·refine R_reg (Y f 3 fun _ f => Z f (Y33 (v := .int .i8 d0_1) rfl (ad := ⟨b0, 1, none⟩) (p_3.ownCell 0 rfl 1)) fun _ f => Y f 2 fun _ f => ?_)
       rcases cE hF_17 with ⟨h_8, hF_18⟩ | ⟨h_8, hF_19⟩
       ·have k_13 := dI.1 h_8
        have f := f.st 53 (cB h_8)
        refine Y f 3 fun _ f => Z f (Y33 (v := S d0_3) rfl (ad := ⟨b0, 3, none⟩) (p_3.ownCell 0 rfl 3)) fun _ f => Z f (Y40 rfl (l := d0_3) (m := [])) fun _ f => Y f 2 fun _ f => eT ?_
        exact ⟨(decide (d0_3 = [])), (sI hF_18).symm, M_2, (mR _), f.kp, p_3⟩
       ·have k_14 := iff_f dI h_8
        have f := f.st 53 (cB h_8)
        refine Y f 7 fun _ f => eT ?_
        exact ⟨(false), (sI hF_19).symm, M_2, (mR _), f.kp, p_3⟩
     ·rintro a_36 w_4 ⟨y_3, hq_3, M_3, hM_3, f, p_4⟩
      subst j_4
      refine T_n (RcF f hF_15 (fun h_9 hF_20 => ?_) fun h_9 hF_22 => ?_)
      ·refine RR (Y f 1 fun _ f => eT (wp_ret (B_r ?_)))
       have hF_21 := br_elim hF_20 hF_1
       refine T_r (T_r (E_ret1 f rfl (by kernel_rfl : Vc.look _ 2 = some (.int .i64 2)) ?_))
       obtain rfl := sI hF_21
       exact ⟨_, rfl, M_3, _, ((hM_1.trans hM_2).trans hM_3), p_4, ⟨A_1, cap_1, rfl, rfl, (h_1.mono ((hM_1.trans hM_2).trans hM_3))⟩⟩
      ·refine RR (Y f 2 fun _ f => eT (RcF f hF_22 (fun h_10 hF_23 => ?_) fun h_10 hF_25 => ?_))
       ·have k_17 := dI.1 h_10
        refine RR (Y f 1 fun _ f => eT (wp_ret (B_r ?_)))
        have hF_24 := br_elim hF_23 hF_1
        refine T_r (T_r (E_ret1 f rfl (by kernel_rfl : Vc.look _ 2 = some (.int .i64 0)) ?_))
        obtain rfl := sI hF_24
        exact ⟨_, rfl, M_3, _, ((hM_1.trans hM_2).trans hM_3), p_4, ⟨A_1, cap_1, rfl, rfl, (h_1.mono ((hM_1.trans hM_2).trans hM_3))⟩⟩
       ·have k_18 := iff_f dI h_10
        refine RR (Y f 3 fun _ f => Z f (Y33 (v := .slice A_1 d0_4.length cap_1) rfl (ad := ⟨b0, 4, none⟩) (p_4.ownCell 0 rfl 4)) fun _ f => ?_)
        obtain ⟨x_1, hx_1, hF_26⟩ := bS hF_25
        refine Y18 f p_4 (slices_ContainsFuncapi_Given_api_Given_2_ok n _ (GL.mono ((hM_1.trans hM_2).trans hM_3) hG) A_1 cap_1 d0_4 (h_1.mono ((hM_1.trans hM_2).trans hM_3)) x_1 hx_1) fun w_5 p_5 _ f => Y f 1 fun _ f => eT (RcF f hF_26 (fun h_11 hF_27 => ?_) fun h_11 hF_29 => ?_)
        ·refine RR (Y f 1 fun _ f => eT (wp_ret (B_r ?_)))
         have hF_28 := br_elim hF_27 hF_1
         refine T_r (T_r (E_ret1 f rfl (by kernel_rfl : Vc.look _ 2 = some (.int .i64 2)) ?_))
         obtain rfl := sI hF_28
         exact ⟨_, rfl, M_3, _, ((hM_1.trans hM_2).trans hM_3), p_5, ⟨A_1, cap_1, rfl, rfl, (h_1.mono ((hM_1.trans hM_2).trans hM_3))⟩⟩
        ·refine wp_skip (B_n (T_n ?_))
         exact ⟨(), (sI hF_29).symm, M_3, ((hM_1.trans hM_2).trans hM_3), f.kp, p_5⟩
 ·rintro a_45 w_6 ⟨y_4, rfl, M_4, hM_4, f, p_6⟩
  refine T_n (R_seq (R_draw p_6 (by kernel_rfl) (by kernel_rfl) (Y5 default f 3 fun _ f => Y2 (v := S d0_3) f (fun _ pq => Y33 (v := S d0_3) rfl (ad := ⟨b0, 3, none⟩) (pq.ownCell 0 rfl 3)) fun _ f => Y5 default f 3 fun _ f => Y2 (v := .slice A_1 d0_4.length cap_1) f (fun _ pq => Y33 (v := .slice A_1 d0_4.length cap_1) rfl (ad := ⟨b0, 4, none⟩) (pq.ownCell 0 rfl 4)) fun _ f => ?_)))
  obtain ⟨x_2, hx_2, hF_30⟩ := bS hF_1
  refine Y3 f (schema_Check_ok n _ (GL.mono hM_4 hG) d0_3 A_1 cap_1 d0_4 (h_1.mono hM_4) x_2 hx_2) fun _ f => Y5 default f 1 fun _ f => Q_end rfl ?_
  intro w_8 p_8
  refine T_n (wp_ret (E_ret1 f rfl (by kernel_rfl : Vc.look _ 2 = some (.int .i64 x_2)) ?_))
  obtain rfl := sI hF_30
  exact ⟨_, rfl, M_4, _, hM_4, p_8, ⟨A_1, cap_1, rfl, rfl, (h_1.mono hM_4)⟩⟩
def slices_Cloneapi_Given_api_Given_z (n : Nat) (d0 : List TF0) (z0 : Bool) : Option (List TF0) :=
  bif z0 then
    (some (([] : List TF0)))
  else
    need ((([] : List TF0).length + d0.length) * 104 ≤ 140737488355328) <|
    some (([] : List TF0) ++ d0)
theorem slices_Cloneapi_Given_api_Given_z_ok (n : Nat) (M : Mem) (A0 : Option Addr) (cap0 : Nat) (d0 : List TF0) (h0 : Sli M 8 emb_TF0 A0 cap0 d0) (z0 : Bool) (hz0 : A0.isNone = z0) (r : List TF0) (hF : slices_Cloneapi_Given_api_Given_z n d0 z0 = some r) : OkH Tryz.prog M [] 41 [.slice A0 d0.length cap0] (fun M' E' v => ∃ (A0 : Option Addr) (k0 : Nat) (s0 : List Value), v = .slice A0 r.length k0 ∧ E' = [.row 77 8 (.slice A0 r.length k0) r.length s0] ∧ RepSeq M' (r.map emb_TF0) s0) := by
 unfold slices_Cloneapi_Given_api_Given_z at hF
 intro M1 hM0 w0 H w p0
 replace h0 := h0.mono hM0
 refine R_enter 8 Tryz.func41 rfl rfl (by simp) fun a0 f0 => RR (Y f0 1 fun _ f => eT (R_seq (RR (Y f 1 fun _ f => Z (v := .bool A0.isNone) f (X_slicenil (A := A0) (n := d0.length) (c := cap0) (e := 77) rfl (by kernel_rfl) (by kernel_rfl) (by kernel_rfl) _) fun _ f => ?_))))
 have f := Frm.set f 4 (v := .bool A0.isNone) (v' := .bool z0) (by kernel_rfl) (cB hz0)
 refine eT (RcF f hF (fun h_1 hF_1 => ?_) fun h_1 hF_2 => ?_)
 ·refine RR (Y f 1 fun _ f => eT (wp_ret (T_r ?_)))
  obtain ⟨A_1, cap_1, hv_1⟩ : ∃ A cap, Value.slice none 0 0 = .slice A ([] : List TF0).length cap := ⟨none, 0, rfl⟩
  have p_1 : Hp w0 M1 ((Ent.row 77 8 (.slice A_1 ([] : List TF0).length cap_1) ([] : List TF0).length []) :: H) w := by rw [← hv_1]; exact p0.nilRow 77 8
  have f := f.st 2 (hv_1)
  have hr_1 : RepSeq M1 (([] : List TF0).map emb_TF0) [] := rfl
  refine E_ret1 f rfl (by kernel_rfl : Vc.look _ 2 = some (.slice A_1 ([] : List TF0).length cap_1)) ?_
  obtain rfl := sI hF_1
  exact ⟨_, rfl, M1, _, (mR _), p_1, ⟨A_1, cap_1, [], rfl, rfl, hr_1⟩⟩
 ·refine wp_skip (T_n (RR (V_allocS (k := 0) (c := 0) f p0 (.cells #[] 77 (0, 0)) (by kernel_rfl) (fun _ => by kernel_rfl) fun b_1 w_1 p_2 _ f => Y f 1 fun _ f => ?_)))
  have hr_2 : RepSeq M1 (([] : List TF0).map emb_TF0) [] := rfl
  have p_3 : Hp w0 M1 ((Ent.row 77 8 (.slice (some ⟨b_1, 0, none⟩) 0 0) ([] : List TF0).length []) :: H) w_1 := p_2.objRow (n := 0) (cap := 0) (size := 8) (by decide) (by decide) (blk_eq (by decide) rfl) rfl rfl
  obtain ⟨g_1, hF_3⟩ := nS hF_2
  refine Y24 (z := .agg #[S [], .bool false, .int .i8 0, .bool false, .int .i64 0, S [], .slice none 0 0, .slice none 0 0]) (f := emb_TF0) (xs := ([] : List TF0)) (ys := d0) (c := cap0) f p_3 hr_2 h0 rfl rfl rfl g_1 (by omega) fun A_2 cap_2 cs_1 w_2 p_4 hr_3 _ f => Y f 1 fun _ f => eT (wp_ret (E_ret1 f rfl (by kernel_rfl : Vc.look _ 2 = some (.slice A_2 (([] : List TF0) ++ d0).length cap_2)) ?_))
  obtain rfl := sI hF_3
  exact ⟨_, rfl, M1, _, (mR _), p_4, ⟨A_2, cap_2, cs_1, rfl, rfl, hr_3⟩⟩
def slices_Cloneapi_Given_api_Given (_ : Nat) (d0 : List TF0) : Option (List TF0) := need (d0.length * 104 ≤ 140737488355328) (some d0)
theorem slices_Cloneapi_Given_api_Given_ok (n : Nat) (M : Mem) (A0 : Option Addr) (cap0 : Nat) (d0 : List TF0) (h0 : Sli M 8 emb_TF0 A0 cap0 d0) (r : List TF0) (hF : slices_Cloneapi_Given_api_Given n d0 = some r) : OkH Tryz.prog M [] 41 [.slice A0 d0.length cap0] (fun M' E' v => ∃ (A0 : Option Addr) (k0 : Nat) (s0 : List Value), v = .slice A0 r.length k0 ∧ E' = [.row 77 8 (.slice A0 r.length k0) r.length s0] ∧ RepSeq M' (r.map emb_TF0) s0) := by
 unfold slices_Cloneapi_Given_api_Given at hF
 obtain ⟨g, hF⟩ := nS hF
 obtain rfl := sI hF
 refine slices_Cloneapi_Given_api_Given_z_ok n M A0 cap0 d0 h0 A0.isNone rfl d0 ?_
 unfold slices_Cloneapi_Given_api_Given_z
 cases A0 with
 | none =>
  obtain ⟨h1, h2, _⟩ := h0
  have h3 := h2 rfl
  obtain rfl : d0 = [] := List.eq_nil_of_length_eq_zero (by omega)
  rfl
 | some a => simp [need]; omega
def cloud_Cloud_Submit (n : Nat) (d0_0 : List TD0) (d0_1 : Int) (d0_2 : List TG0) (d0_3 : List (Int × TC0)) (d0_4 : List TG0) (d0_5 : Int) (d1 : TG0) : Option (Int × List TD0 × Int × List TG0 × (List (Int × TC0)) × List TG0 × Int) :=
  (cloud_check n d1.fToken d1.fKind d1.fPhys d1.fType d1.fProps).bind fun x_1 =>
  bif (!(decide (x_1.1 = 0))) then
    (some ((x_1.1, d0_0, d0_1, d0_2, d0_3, d0_4, d0_5)))
  else
    bif (!(mget d0_3 x_1.2.1).isSome) then
      ((slices_Cloneapi_Given_api_Given n x_1.2.2.2.2.2).bind fun x_2 =>
      ((need ((d0_2.length + 1) * 72 ≤ 140737488355328) <|
        some ((x_2, d0_2 ++ [(⟨x_1.2.1, x_1.2.2.1, x_1.2.2.2.1, x_1.2.2.2.2.1, x_2⟩ : TG0)])) : Option (List TF0 × List TG0))).bind fun y_1 =>
      ((need ((d0_4.length + 1) * 72 ≤ 140737488355328) <|
        some (d0_4 ++ [(⟨x_1.2.1, x_1.2.2.1, x_1.2.2.2.1, x_1.2.2.2.2.1, y_1.1⟩ : TG0)]) : Option (List TG0))).bind fun y_2 =>
      some (((0 : Int), d0_0, d0_1, y_1.2, mput d0_3 x_1.2.1 z_TC0, y_2, d0_5)))
    else
      some (((0 : Int), d0_0, d0_1, d0_2, d0_3, d0_4, d0_5))
set_option maxRecDepth 20000 in
theorem cloud_Cloud_Submit_ok (n : Nat) (M : Mem) (hG : GL M) (b0 : Nat) (d0_0 : List TD0) (A_1 : Option Addr) (cap_1 : Nat) (h_1 : Sli M 3 emb_TD0 A_1 cap_1 d0_0) (d0_1 : Int) (d0_2 : List TG0) (A_2 : Option Addr) (cap_2 : Nat) (cs_1 : List Value) (hr_1 : RepSeq M (d0_2.map emb_TG0) cs_1) (m0_3 : Nat) (d0_3 : List (Int × TC0)) (d0_4 : List TG0) (A_3 : Option Addr) (cap_3 : Nat) (cs_2 : List Value) (hr_2 : RepSeq M (d0_4.map emb_TG0) cs_2) (d0_5 : Int) (c1 : List Value) (d1 : TG0) (h1 : Rep M (emb_TG0 d1) c1) (r : Int × List TD0 × Int × List TG0 × (List (Int × TC0)) × List TG0 × Int) (hF : cloud_Cloud_Submit n d0_0 d0_1 d0_2 d0_3 d0_4 d0_5 d1 = some r) : OkH Tryz.prog M [Ent.obj b0 (.cells #[.slice A_1 d0_0.length cap_1, .int .i64 d0_1, .slice A_2 d0_2.length cap_2, .map (some m0_3), .slice A_3 d0_4.length cap_3, .int .i64 d0_5] 82 (0, 0)), Ent.row 42 5 (.slice A_2 d0_2.length cap_2) d0_2.length cs_1, Ent.obj m0_3 (mapO (Value.int .i64) (fun x : TC0 => Value.agg #[.bool x.fEnded, .bool x.fOk, S x.fPhys]) d0_3), Ent.row 42 5 (.slice A_3 d0_4.length cap_3) d0_4.length cs_2] 20 [.pointer (some (⟨b0, 0, none⟩)), .agg c1.toArray] (fun M' E' v => ∃ (A_21 : Option Addr) (cap_21 : Nat) (A_22 : Option Addr) (cap_22 : Nat) (cs_13 : List Value) (A_23 : Option Addr) (cap_23 : Nat) (cs_14 : List Value), v = .int .i64 r.1 ∧ E' = [Ent.obj b0 (.cells #[.slice A_21 r.2.1.length cap_21, .int .i64 r.2.2.1, .slice A_22 r.2.2.2.1.length cap_22, .map (some m0_3), .slice A_23 r.2.2.2.2.2.1.length cap_23, .int .i64 r.2.2.2.2.2.2] 82 (0, 0)), Ent.row 42 5 (.slice A_22 r.2.2.2.1.length cap_22) r.2.2.2.1.length cs_13, Ent.obj m0_3 (mapO (Value.int .i64) (fun x : TC0 => Value.agg #[.bool x.fEnded, .bool x.fOk, S x.fPhys]) r.2.2.2.2.1), Ent.row 42 5 (.slice A_23 r.2.2.2.2.2.1.length cap_23) r.2.2.2.2.2.1.length cs_14] ∧ Sli M' 3 emb_TD0 A_21 cap_21 r.2.1 ∧ RepSeq M' (r.2.2.2.1.map emb_TG0) cs_13 ∧ RepSeq M' (r.2.2.2.2.2.1.map emb_TG0) cs_14) := by
 unfold cloud_Cloud_Submit at hF
 intro M1 hM0 w0 H w p0
 replace hG := GL.mono hM0 hG
 replace h_1 := h_1.mono hM0
 replace hr_1 := RepSeq.mono hM0 _ _ hr_1
 replace hr_2 := RepSeq.mono hM0 _ _ hr_2
 replace h1 := Rep.mono hM0 _ _ h1
 obtain ⟨A_4, cap_4, rfl, h_2⟩ := TG0.opn h1
 refine R_enter 57 Tryz.func20 rfl rfl (by simp) fun a0 f0 => RR (Y12 f0 p0 (.cells #[.int .i64 d1.fToken, .int .i8 d1.fKind, S d1.fPhys, S d1.fType, .slice A_4 d1.fProps.length cap_4] 42 (0, 0)) fun b_1 w_1 p_1 _ f => Y f 1 fun _ f => eT (R_seq (RR (Y f 1 fun _ f => Z (v := .bool false) f (X_ptrNil (q := some (⟨b0, 0, none⟩)) (e := 82) rfl (by kernel_rfl) (by kernel_rfl) (by kernel_rfl) _) fun _ f => eT (Y7 f (wp_skip (T_n (R_seq (RR ?_)))))))))
 obtain ⟨x_1, hx_1, hF_1⟩ := bS hF
 refine Y17 (E := [Ent.obj b_1 (.cells #[.int .i64 d1.fToken, .int .i8 d1.fKind, S d1.fPhys, S d1.fType, .slice A_4 d1.fProps.length cap_4] 42 (0, 0))]) (H := ((Ent.obj b0 (.cells #[.slice A_1 d0_0.length cap_1, .int .i64 d0_1, .slice A_2 d0_2.length cap_2, .map (some m0_3), .slice A_3 d0_4.length cap_3, .int .i64 d0_5] 82 (0, 0))) :: (Ent.row 42 5 (.slice A_2 d0_2.length cap_2) d0_2.length cs_1) :: (Ent.obj m0_3 (mapO (Value.int .i64) (fun x : TC0 => Value.agg #[.bool x.fEnded, .bool x.fOk, S x.fPhys]) d0_3)) :: (Ent.row 42 5 (.slice A_3 d0_4.length cap_3) d0_4.length cs_2) :: H)) f p_1 (cloud_check_ok n _ hG b_1 d1.fToken d1.fKind d1.fPhys d1.fType d1.fProps A_4 cap_4 h_2 x_1 hx_1) fun _ M_1 E_1 w_2 hM_1 p_2 q_1 _ f => ?_
 obtain ⟨A_5, cap_5, rfl, rfl, h_3⟩ := q_1
 refine Y f 1 fun _ f => eT (RR (Y f 2 fun _ f => eT (RcF f hF_1 (fun h_4 hF_2 => ?_) fun h_4 hF_3 => ?_)))
 ·have k_1 : ¬ (x_1.1 = 0) := (not_iff dI).1 h_4
  refine RR (Y f 2 fun _ f => eT (wp_ret (T_r (E_ret1 f rfl (by kernel_rfl : Vc.look _ 4 = some (.int .i64 x_1.1)) ?_))))
  obtain rfl := sI hF_2
  exact ⟨_, rfl, M_1, _, hM_1, (p_2.dropN 1), ⟨A_1, cap_1, A_2, cap_2, cs_1, A_3, cap_3, cs_2, rfl, rfl, (h_1.mono hM_1), (RepSeq.mono hM_1 _ _ hr_1), (RepSeq.mono hM_1 _ _ hr_2)⟩⟩
 ·have k_2 : ¬ (¬ (x_1.1 = 0)) := iff_f (not_iff dI) h_4
  refine wp_skip (T_n (R_seq (R_seq (R_mix (E := []) (Hr := ((Ent.obj b_1 (.cells #[.int .i64 x_1.2.1, .int .i8 x_1.2.2.1, S x_1.2.2.2.1, S x_1.2.2.2.2.1, .slice A_5 x_1.2.2.2.2.2.length cap_5] 42 (0, 0))) :: (Ent.obj b0 (.cells #[.slice A_1 d0_0.length cap_1, .int .i64 d0_1, .slice A_2 d0_2.length cap_2, .map (some m0_3), .slice A_3 d0_4.length cap_3, .int .i64 d0_5] 82 (0, 0))) :: (Ent.row 42 5 (.slice A_2 d0_2.length cap_2) d0_2.length cs_1) :: (Ent.obj m0_3 (mapO (Value.int .i64) (fun x : TC0 => Value.agg #[.bool x.fEnded, .bool x.fOk, S x.fPhys]) d0_3)) :: (Ent.row 42 5 (.slice A_3 d0_4.length cap_3) d0_4.length cs_2) :: H)) [(0, true), (1, true), (2, true), (3, true), (4, true), (5, true), (6, true), (7, true), (8, true), (9, true), (10, false), (11, false), (12, true)] p_2 (by kernel_rfl) (by kernel_rfl) rfl (by kernel_rfl) (Y0 default f 3 fun _ f => M_eq (v := .map (some m0_3)) f (by kernel_rfl) (by kernel_rfl) rfl rfl (fun _ pq => Y33 (v := .map (some m0_3)) rfl (ad := ⟨b0, 3, none⟩) (pq.ownCell 1 rfl 3)) fun _ f => Y0 default f 1 fun _ f => M_eq (v := .int .i64 x_1.2.1) f (by kernel_rfl) (by kernel_rfl) rfl rfl (fun _ pq => Y33 (v := .int .i64 x_1.2.1) rfl (ad := ⟨b_1, 0, none⟩) (pq.ownCell 0 rfl 0)) fun _ f => M_eq (v := .tuple #[.agg #[.bool ((mget d0_3 x_1.2.1).getD z_TC0).fEnded, .bool ((mget d0_3 x_1.2.1).getD z_TC0).fOk, S ((mget d0_3 x_1.2.1).getD z_TC0).fPhys], .bool (mget d0_3 x_1.2.1).isSome]) f (by kernel_rfl) (by kernel_rfl) rfl rfl (fun _ pq => Y35 (ek := (Value.int .i64)) (ev := (fun x : TC0 => Value.agg #[.bool x.fEnded, .bool x.fOk, S x.fPhys])) (m := d0_3) (k := x_1.2.1) (z := z_TC0) (kt := 3) (et := 45) rfl (intKey (by kernel_rfl)) (pq.ownObj 3 rfl)) fun _ f => Y0 default f 3 fun _ f => M_fix (E := []) fun w_3 p_3 => Y12 f p_3 (.cells #[.bool false, .bool false, S []] 45 (0, 0)) fun b_2 w_4 p_4 _ f => W_end rfl ?_)))))
  refine M_go (M1 := M_1) (E := [Ent.obj b_2 (.cells #[.bool false, .bool false, S []] 45 (0, 0))]) (mR _) p_4 (M_fix (E := [Ent.obj b_2 (.cells #[.bool false, .bool false, S []] 45 (0, 0))]) fun w_5 p_5 => Y28 (vs := [.bool ((mget d0_3 x_1.2.1).getD z_TC0).fEnded, .bool ((mget d0_3 x_1.2.1).getD z_TC0).fOk, S ((mget d0_3 x_1.2.1).getD z_TC0).fPhys]) (j := 0) f p_5 rfl rfl (by simp [Value.oneCell', S]) (by simp) (by decide) (cs' := #[.bool ((mget d0_3 x_1.2.1).getD z_TC0).fEnded, .bool ((mget d0_3 x_1.2.1).getD z_TC0).fOk, S ((mget d0_3 x_1.2.1).getD z_TC0).fPhys]) (by kernel_rfl) fun w_6 p_6 _ f => W_end rfl (M_go (M1 := M_1) (E := [Ent.obj b_2 (.cells #[.bool ((mget d0_3 x_1.2.1).getD z_TC0).fEnded, .bool ((mget d0_3 x_1.2.1).getD z_TC0).fOk, S ((mget d0_3 x_1.2.1).getD z_TC0).fPhys] 45 (0, 0))]) (mR _) p_6 (Y0 default f 1 fun _ f => M_end rfl fun w_7 p_7 => T_n (RR (Y f 2 fun _ f => eT (RcF f hF_3 (fun h_5 hF_4 => ?_) fun h_5 hF_10 => ?_))))))
  ·have k_3 : ((mget d0_3 x_1.2.1).isSome) = false := by simpa using h_5
   refine RR (Y f 1 fun _ f => Z f (Y33 (v := .slice A_5 x_1.2.2.2.2.2.length cap_5) rfl (ad := ⟨b_1, 4, none⟩) (p_7.ownCell 1 rfl 4)) fun _ f => ?_)
   obtain ⟨x_2, hx_2, hF_5⟩ := bS hF_4
   refine Y17 (E := []) (H := ((Ent.obj b_2 (.cells #[.bool ((mget d0_3 x_1.2.1).getD z_TC0).fEnded, .bool ((mget d0_3 x_1.2.1).getD z_TC0).fOk, S ((mget d0_3 x_1.2.1).getD z_TC0).fPhys] 45 (0, 0))) :: (Ent.obj b_1 (.cells #[.int .i64 x_1.2.1, .int .i8 x_1.2.2.1, S x_1.2.2.2.1, S x_1.2.2.2.2.1, .slice A_5 x_1.2.2.2.2.2.length cap_5] 42 (0, 0))) :: (Ent.obj b0 (.cells #[.slice A_1 d0_0.length cap_1, .int .i64 d0_1, .slice A_2 d0_2.length cap_2, .map (some m0_3), .slice A_3 d0_4.length cap_3, .int .i64 d0_5] 82 (0, 0))) :: (Ent.row 42 5 (.slice A_2 d0_2.length cap_2) d0_2.length cs_1) :: (Ent.obj m0_3 (mapO (Value.int .i64) (fun x : TC0 => Value.agg #[.bool x.fEnded, .bool x.fOk, S x.fPhys]) d0_3)) :: (Ent.row 42 5 (.slice A_3 d0_4.length cap_3) d0_4.length cs_2) :: H)) f p_7 (slices_Cloneapi_Given_api_Given_ok n _ A_5 cap_5 x_1.2.2.2.2.2 h_3 x_2 hx_2) fun _ M_2 E_2 w_8 hM_2 p_8 q_2 _ f => ?_
   obtain ⟨A_6, cap_6, cs_3, rfl, rfl, hr_3⟩ := q_2
   refine Y f 1 fun _ f => Y27 f p_8 2 rfl rfl (b := b_1) (j := 4) (v := .slice A_6 x_2.length cap_6) rfl (by exact rfl) (by simp) (by simp) ((Ent.row 77 8 (.slice A_6 x_2.length cap_6) x_2.length cs_3) :: (Ent.obj b_2 (.cells #[.bool ((mget d0_3 x_1.2.1).getD z_TC0).fEnded, .bool ((mget d0_3 x_1.2.1).getD z_TC0).fOk, S ((mget d0_3 x_1.2.1).getD z_TC0).fPhys] 45 (0, 0))) :: (Ent.obj b_1 (.cells #[.int .i64 x_1.2.1, .int .i8 x_1.2.2.1, S x_1.2.2.2.1, S x_1.2.2.2.2.1, .slice A_6 x_2.length cap_6] 42 (0, 0))) :: (Ent.obj b0 (.cells #[.slice A_1 d0_0.length cap_1, .int .i64 d0_1, .slice A_2 d0_2.length cap_2, .map (some m0_3), .slice A_3 d0_4.length cap_3, .int .i64 d0_5] 82 (0, 0))) :: (Ent.row 42 5 (.slice A_2 d0_2.length cap_2) d0_2.length cs_1) :: (Ent.obj m0_3 (mapO (Value.int .i64) (fun x : TC0 => Value.agg #[.bool x.fEnded, .bool x.fOk, S x.fPhys]) d0_3)) :: (Ent.row 42 5 (.slice A_3 d0_4.length cap_3) d0_4.length cs_2) :: H) rfl fun w_9 p_9 _ f => eT (R_seq (R_drawT 7 p_9 (by kernel_rfl) (by kernel_rfl) fun w_10 p_10 => ST_eq (v := .pointer (some (⟨b0, 0, none⟩))) f (by kernel_rfl) (by kernel_rfl) rfl rfl (by kernel_rfl) fun _ f => ST_eq (v := .pointer (some (⟨b0, 0, none⟩))) f (by kernel_rfl) (by kernel_rfl) rfl rfl (by kernel_rfl) fun _ f => ST_eq (v := .pointer (some (⟨b0, 3, none⟩))) f (by kernel_rfl) (by kernel_rfl) rfl rfl (by kernel_rfl) fun _ f => ST_eq (v := .map (some m0_3)) f (by kernel_rfl) (by kernel_rfl) rfl rfl (Y33 (v := .map (some m0_3)) rfl (ad := ⟨b0, 3, none⟩) (p_10.ownCell 3 rfl 3)) fun _ f => ST_eq (v := .pointer (some (⟨b_1, 0, none⟩))) f (by kernel_rfl) (by kernel_rfl) rfl rfl (by kernel_rfl) fun _ f => ST_eq (v := .int .i64 x_1.2.1) f (by kernel_rfl) (by kernel_rfl) rfl rfl (Y33 (v := .int .i64 x_1.2.1) rfl (ad := ⟨b_1, 0, none⟩) (p_10.ownCell 2 rfl 0)) fun _ f => ST_eq (v := .agg #[.bool false, .bool false, S []]) f (by kernel_rfl) (by kernel_rfl) rfl rfl (by kernel_rfl) fun _ f => ?_))
   refine ST_end rfl ?_
   have p_11 := p_10.pl [5]
   refine W_mapput (ek := (Value.int .i64)) (ev := (fun x : TC0 => Value.agg #[.bool x.fEnded, .bool x.fOk, S x.fPhys])) (m := d0_3) (k := x_1.2.1) (v := z_TC0) (kt := 3) (et := 45) f p_11 (by kernel_rfl) (by kernel_rfl) rfl (.inl rfl) (by kernel_rfl) (by kernel_rfl) (by kernel_rfl) (by kernel_rfl) (intKey (by kernel_rfl)) fun w_11 p_12 _ f => eT (R_seq ?_)
   obtain ⟨j_1, hj_1, hF_6⟩ := bS hF_5
   refine R_mid (fun a_63 w_41 => ∃ y_1 : List TF0 × List TG0, j_1 = y_1 ∧ ∃ M_7 : Mem, M_2.le M_7 ∧ ∃ (A_15 : Option Addr), ∃ (cap_15 : Nat), ∃ (A_16 : Option Addr), ∃ (cap_16 : Nat), ∃ (cs_8 : List Value), Sli M_7 8 emb_TF0 A_15 cap_15 y_1.1 ∧ RepSeq M_7 (y_1.2.map emb_TG0) cs_8 ∧ Frm 57 [(0, .pointer (some (⟨b0, 0, none⟩))), (3, .pointer (some (⟨b_1, 0, none⟩)))] a_63 ∧ Hp w0 M_7 ((Ent.row 42 5 (.slice A_16 y_1.2.length cap_16) y_1.2.length cs_8) :: (Ent.obj b_1 (.cells #[.int .i64 x_1.2.1, .int .i8 x_1.2.2.1, S x_1.2.2.2.1, S x_1.2.2.2.2.1, .slice A_15 y_1.1.length cap_15] 42 (0, 0))) :: (Ent.obj b0 (.cells #[.slice A_1 d0_0.length cap_1, .int .i64 d0_1, .slice A_16 y_1.2.length cap_16, .map (some m0_3), .slice A_3 d0_4.length cap_3, .int .i64 d0_5] 82 (0, 0))) :: (Ent.obj m0_3 (mapO (Value.int .i64) (fun x : TC0 => Value.agg #[.bool x.fEnded, .bool x.fOk, S x.fPhys]) (mput d0_3 x_1.2.1 z_TC0))) :: (Ent.obj b_2 (.cells #[.bool ((mget d0_3 x_1.2.1).getD z_TC0).fEnded, .bool ((mget d0_3 x_1.2.1).getD z_TC0).fOk, S ((mget d0_3 x_1.2.1).getD z_TC0).fPhys] 45 (0, 0))) :: (Ent.row 42 5 (.slice A_3 d0_4.length cap_3) d0_4.length cs_2) :: H) w_41) ?_ ?_
   ·have p_28 := p_12.pl [6, 3, 2, 6, 6, 6, 6]
    obtain ⟨g_1, hF_7⟩ := nS hj_1
    refine R_plan (ks := []) (E := [Ent.row 77 8 (.slice A_6 x_2.length cap_6) x_2.length cs_3, Ent.obj b_1 (.cells #[.int .i64 x_1.2.1, .int .i8 x_1.2.2.1, S x_1.2.2.2.1, S x_1.2.2.2.2.1, .slice A_6 x_2.length cap_6] 42 (0, 0)), Ent.obj b0 (.cells #[.slice A_1 d0_0.length cap_1, .int .i64 d0_1, .slice A_2 d0_2.length cap_2, .map (some m0_3), .slice A_3 d0_4.length cap_3, .int .i64 d0_5] 82 (0, 0)), Ent.row 42 5 (.slice A_2 d0_2.length cap_2) d0_2.length cs_1]) (Hr := ((Ent.obj m0_3 (mapO (Value.int .i64) (fun x : TC0 => Value.agg #[.bool x.fEnded, .bool x.fOk, S x.fPhys]) (mput d0_3 x_1.2.1 z_TC0))) :: (Ent.obj b_2 (.cells #[.bool ((mget d0_3 x_1.2.1).getD z_TC0).fEnded, .bool ((mget d0_3 x_1.2.1).getD z_TC0).fOk, S ((mget d0_3 x_1.2.1).getD z_TC0).fPhys] 45 (0, 0))) :: (Ent.row 42 5 (.slice A_3 d0_4.length cap_3) d0_4.length cs_2) :: H)) (.quiet 0 (.quiet 1 (.quiet 2 (.quiet 3 (.alt 4 (.alt 5 (.alt 6 (.alt 7 (.quiet 8 (.quiet 9 (.alt 10 .done .none))) .none) .none) .none) (.alt 5 (.alt 4 (.alt 6 (.alt 7 (.quiet 8 (.quiet 9 (.alt 10 .done .none))) .none) .none) (.alt 6 (.alt 4 (.alt 7 (.quiet 8 (.quiet 9 (.alt 10 .done .none))) .none) .none) .none)) .none)))))) p_28 (by kernel_rfl) (by kernel_rfl) (by kernel_rfl) (Y1 (v := .pointer (some (⟨b0, 0, none⟩))) rfl f rfl rfl (fun _ _ => by kernel_rfl) fun _ f => Y1 (v := .pointer (some (⟨b0, 0, none⟩))) rfl f rfl rfl (fun _ _ => by kernel_rfl) fun _ f => Y1 (v := .pointer (some (⟨b0, 0, none⟩))) rfl f rfl rfl (fun _ _ => by kernel_rfl) fun _ f => Y1 (v := .pointer (some (⟨b0, 2, none⟩))) rfl f rfl rfl (fun _ _ => by kernel_rfl) fun _ f => N_alt rfl (fun w_15 p_29 => ?_) ?_)
    ·refine Z f (Y33 (v := .slice A_2 d0_2.length cap_2) rfl (ad := ⟨b0, 2, none⟩) (p_29.ownCell 2 rfl 2)) fun _ f => W_end rfl (N_goN 4 (mR _) p_29 rfl (N_alt rfl (fun w_16 p_30 => ?_) ?_))
     ·refine Z (v := .agg #[.int .i64 x_1.2.1, .int .i8 x_1.2.2.1, S x_1.2.2.2.1, S x_1.2.2.2.2.1, .slice A_6 x_2.length cap_6]) f (Y34 (cs := [.int .i64 x_1.2.1, .int .i8 x_1.2.2.1, S x_1.2.2.2.1, S x_1.2.2.2.2.1, .slice A_6 x_2.length cap_6]) rfl (ad := ⟨b_1, 0, none⟩) (own_cells (p_30.ownCell 1 rfl) 0 rfl)) fun _ f => W_end rfl (N_goN 4 (mR _) p_30 rfl (N_alt rfl (fun w_17 p_31 => ?_) ?_))
      ·refine V_allocS (k := 1) (c := 1) f p_31 (.cells #[.int .i64 x_1.2.1, .int .i8 x_1.2.2.1, S x_1.2.2.2.1, S x_1.2.2.2.2.1, .slice A_6 x_2.length cap_6] 42 (0, 0)) (by kernel_rfl) (fun _ => by kernel_rfl) fun b_4 w_18 p_32 _ f => W_end rfl (N_goN 5 (mR _) p_32 rfl (N_alt rfl (fun w_19 p_33 => ?_) ?_))
       ·have p_34 := p_33.pl [1]
        obtain ⟨A_9, cap_9, M_4, hv_2, hM_4, p_35, h_7⟩ := p_34.rowSli (f := emb_TF0) (xs := x_2) szd_TF0 hr_3
        have f := Frm.set f 42 (v := .agg #[.int .i64 x_1.2.1, .int .i8 x_1.2.2.1, S x_1.2.2.2.1, S x_1.2.2.2.2.1, .slice A_6 x_2.length cap_6]) (v' := .agg #[.int .i64 x_1.2.1, .int .i8 x_1.2.2.1, S x_1.2.2.2.1, S x_1.2.2.2.2.1, .slice A_9 x_2.length cap_9]) (by kernel_rfl) (by rw [hv_2])
        have p_36 : Hp w0 M_4 ((Ent.obj b_4 (.cells #[.int .i64 x_1.2.1, .int .i8 x_1.2.2.1, S x_1.2.2.2.1, S x_1.2.2.2.2.1, .slice A_9 x_2.length cap_9] 42 (0, 0))) :: (Ent.obj b_1 (.cells #[.int .i64 x_1.2.1, .int .i8 x_1.2.2.1, S x_1.2.2.2.1, S x_1.2.2.2.2.1, .slice A_9 x_2.length cap_9] 42 (0, 0))) :: (Ent.obj b0 (.cells #[.slice A_1 d0_0.length cap_1, .int .i64 d0_1, .slice A_2 d0_2.length cap_2, .map (some m0_3), .slice A_3 d0_4.length cap_3, .int .i64 d0_5] 82 (0, 0))) :: (Ent.row 42 5 (.slice A_2 d0_2.length cap_2) d0_2.length cs_1) :: (Ent.obj m0_3 (mapO (Value.int .i64) (fun x : TC0 => Value.agg #[.bool x.fEnded, .bool x.fOk, S x.fPhys]) (mput d0_3 x_1.2.1 z_TC0))) :: (Ent.obj b_2 (.cells #[.bool ((mget d0_3 x_1.2.1).getD z_TC0).fEnded, .bool ((mget d0_3 x_1.2.1).getD z_TC0).fOk, S ((mget d0_3 x_1.2.1).getD z_TC0).fPhys] 45 (0, 0))) :: (Ent.row 42 5 (.slice A_3 d0_4.length cap_3) d0_4.length cs_2) :: H) w_19 := by rw [hv_2] at p_35; exact p_35
        have p_37 := p_36.pl [3]
        refine Y22 (z := .agg #[.int .i64 0, .int .i8 0, S [], S [], .slice none 0 0]) (f := emb_TG0) (xs := d0_2) (ys := [(⟨x_1.2.1, x_1.2.2.1, x_1.2.2.2.1, x_1.2.2.2.2.1, x_2⟩ : TG0)]) (news := [.int .i64 x_1.2.1, .int .i8 x_1.2.2.1, S x_1.2.2.2.1, S x_1.2.2.2.2.1, .slice A_9 x_2.length cap_9]) (ad := ⟨b_4, 0, none⟩) (m := 1) (c := 1) f p_37 (RepSeq.mono ((hM_1.trans hM_2).trans hM_4) _ _ hr_1) (by exact ⟨_, _, rfl, TG0.shut h_7, rfl⟩) rfl rfl rfl rfl (own_cells (p_37.ownCell 1 rfl) 0 rfl) (by exact g_1) (by have hg_ := g_1; first | omega | (simp only [List.length_cons, List.length_nil] at *; omega)) fun A_10 cap_10 cs_5 w_20 p_38 hr_5 _ f => ?_
        have p_39 := p_38.pl [1]
        have p_40 := p_39.drop
        refine W_end rfl (N_goN 3 hM_4 p_40 rfl (Y1 (v := .pointer (some (⟨b0, 0, none⟩))) rfl f rfl rfl (fun _ _ => by kernel_rfl) fun _ f => Y1 (v := .pointer (some (⟨b0, 2, none⟩))) rfl f rfl rfl (fun _ _ => by kernel_rfl) fun _ f => N_alt rfl (fun w_21 p_41 => ?_) ?_))
        ·refine Y27 f p_41 2 rfl rfl (b := b0) (j := 2) (v := .slice A_10 (d0_2 ++ [(⟨x_1.2.1, x_1.2.2.1, x_1.2.2.2.1, x_1.2.2.2.2.1, x_2⟩ : TG0)]).length cap_10) rfl (by exact rfl) (by simp) (by simp) ((Ent.row 42 5 (.slice A_10 (d0_2 ++ [(⟨x_1.2.1, x_1.2.2.1, x_1.2.2.2.1, x_1.2.2.2.2.1, x_2⟩ : TG0)]).length cap_10) (d0_2 ++ [(⟨x_1.2.1, x_1.2.2.1, x_1.2.2.2.1, x_1.2.2.2.2.1, x_2⟩ : TG0)]).length cs_5) :: (Ent.obj b_1 (.cells #[.int .i64 x_1.2.1, .int .i8 x_1.2.2.1, S x_1.2.2.2.1, S x_1.2.2.2.2.1, .slice A_9 x_2.length cap_9] 42 (0, 0))) :: (Ent.obj b0 (.cells #[.slice A_1 d0_0.length cap_1, .int .i64 d0_1, .slice A_10 (d0_2 ++ [(⟨x_1.2.1, x_1.2.2.1, x_1.2.2.2.1, x_1.2.2.2.2.1, x_2⟩ : TG0)]).length cap_10, .map (some m0_3), .slice A_3 d0_4.length cap_3, .int .i64 d0_5] 82 (0, 0))) :: (Ent.obj m0_3 (mapO (Value.int .i64) (fun x : TC0 => Value.agg #[.bool x.fEnded, .bool x.fOk, S x.fPhys]) (mput d0_3 x_1.2.1 z_TC0))) :: (Ent.obj b_2 (.cells #[.bool ((mget d0_3 x_1.2.1).getD z_TC0).fEnded, .bool ((mget d0_3 x_1.2.1).getD z_TC0).fOk, S ((mget d0_3 x_1.2.1).getD z_TC0).fPhys] 45 (0, 0))) :: (Ent.row 42 5 (.slice A_3 d0_4.length cap_3) d0_4.length cs_2) :: H) rfl fun w_22 p_42 _ f => W_end rfl (N_goN 3 hM_4 p_42 rfl (N_end fun w_23 p_43 => T_n ?_))
         exact ⟨(x_2, d0_2 ++ [(⟨x_1.2.1, x_1.2.2.1, x_1.2.2.2.1, x_1.2.2.2.2.1, x_2⟩ : TG0)]), (sI hF_7).symm, M_4, hM_4, A_9, cap_9, A_10, cap_10, cs_5, h_7, hr_5, f.kp, p_43⟩
        exact N_none
       exact N_none
      exact N_none
     exact N_none
    refine N_alt rfl (fun w_24 p_44 => ?_) ?_
    ·refine Z (v := .agg #[.int .i64 x_1.2.1, .int .i8 x_1.2.2.1, S x_1.2.2.2.1, S x_1.2.2.2.2.1, .slice A_6 x_2.length cap_6]) f (Y34 (cs := [.int .i64 x_1.2.1, .int .i8 x_1.2.2.1, S x_1.2.2.2.1, S x_1.2.2.2.2.1, .slice A_6 x_2.length cap_6]) rfl (ad := ⟨b_1, 0, none⟩) (own_cells (p_44.ownCell 1 rfl) 0 rfl)) fun _ f => W_end rfl (N_goN 4 (mR _) p_44 rfl (N_alt rfl (fun w_25 p_45 => ?_) ?_))
     ·refine Z f (Y33 (v := .slice A_2 d0_2.length cap_2) rfl (ad := ⟨b0, 2, none⟩) (p_45.ownCell 2 rfl 2)) fun _ f => W_end rfl (N_goN 4 (mR _) p_45 rfl (N_alt rfl (fun w_26 p_46 => ?_) ?_))
      ·refine V_allocS (k := 1) (c := 1) f p_46 (.cells #[.int .i64 x_1.2.1, .int .i8 x_1.2.2.1, S x_1.2.2.2.1, S x_1.2.2.2.2.1, .slice A_6 x_2.length cap_6] 42 (0, 0)) (by kernel_rfl) (fun _ => by kernel_rfl) fun b_5 w_27 p_47 _ f => W_end rfl (N_goN 5 (mR _) p_47 rfl (N_alt rfl (fun w_28 p_48 => ?_) ?_))
       ·have p_49 := p_48.pl [1]
        obtain ⟨A_11, cap_11, M_5, hv_3, hM_5, p_50, h_8⟩ := p_49.rowSli (f := emb_TF0) (xs := x_2) szd_TF0 hr_3
        have f := Frm.set f 42 (v := .agg #[.int .i64 x_1.2.1, .int .i8 x_1.2.2.1, S x_1.2.2.2.1, S x_1.2.2.2.2.1, .slice A_6 x_2.length cap_6]) (v' := .agg #[.int .i64 x_1.2.1, .int .i8 x_1.2.2.1, S x_1.2.2.2.1, S x_1.2.2.2.2.1, .slice A_11 x_2.length cap_11]) (by kernel_rfl) (by rw [hv_3])
        have p_51 : Hp w0 M_5 ((Ent.obj b_5 (.cells #[.int .i64 x_1.2.1, .int .i8 x_1.2.2.1, S x_1.2.2.2.1, S x_1.2.2.2.2.1, .slice A_11 x_2.length cap_11] 42 (0, 0))) :: (Ent.obj b_1 (.cells #[.int .i64 x_1.2.1, .int .i8 x_1.2.2.1, S x_1.2.2.2.1, S x_1.2.2.2.2.1, .slice A_11 x_2.length cap_11] 42 (0, 0))) :: (Ent.obj b0 (.cells #[.slice A_1 d0_0.length cap_1, .int .i64 d0_1, .slice A_2 d0_2.length cap_2, .map (some m0_3), .slice A_3 d0_4.length cap_3, .int .i64 d0_5] 82 (0, 0))) :: (Ent.row 42 5 (.slice A_2 d0_2.length cap_2) d0_2.length cs_1) :: (Ent.obj m0_3 (mapO (Value.int .i64) (fun x : TC0 => Value.agg #[.bool x.fEnded, .bool x.fOk, S x.fPhys]) (mput d0_3 x_1.2.1 z_TC0))) :: (Ent.obj b_2 (.cells #[.bool ((mget d0_3 x_1.2.1).getD z_TC0).fEnded, .bool ((mget d0_3 x_1.2.1).getD z_TC0).fOk, S ((mget d0_3 x_1.2.1).getD z_TC0).fPhys] 45 (0, 0))) :: (Ent.row 42 5 (.slice A_3 d0_4.length cap_3) d0_4.length cs_2) :: H) w_28 := by rw [hv_3] at p_50; exact p_50
        have p_52 := p_51.pl [3]
        refine Y22 (z := .agg #[.int .i64 0, .int .i8 0, S [], S [], .slice none 0 0]) (f := emb_TG0) (xs := d0_2) (ys := [(⟨x_1.2.1, x_1.2.2.1, x_1.2.2.2.1, x_1.2.2.2.2.1, x_2⟩ : TG0)]) (news := [.int .i64 x_1.2.1, .int .i8 x_1.2.2.1, S x_1.2.2.2.1, S x_1.2.2.2.2.1, .slice A_11 x_2.length cap_11]) (ad := ⟨b_5, 0, none⟩) (m := 1) (c := 1) f p_52 (RepSeq.mono ((hM_1.trans hM_2).trans hM_5) _ _ hr_1) (by exact ⟨_, _, rfl, TG0.shut h_8, rfl⟩) rfl rfl rfl rfl (own_cells (p_52.ownCell 1 rfl) 0 rfl) (by exact g_1) (by have hg_ := g_1; first | omega | (simp only [List.length_cons, List.length_nil] at *; omega)) fun A_12 cap_12 cs_6 w_29 p_53 hr_6 _ f => ?_
        have p_54 := p_53.pl [1]
        have p_55 := p_54.drop
        refine W_end rfl (N_goN 3 hM_5 p_55 rfl (Y1 (v := .pointer (some (⟨b0, 0, none⟩))) rfl f rfl rfl (fun _ _ => by kernel_rfl) fun _ f => Y1 (v := .pointer (some (⟨b0, 2, none⟩))) rfl f rfl rfl (fun _ _ => by kernel_rfl) fun _ f => N_alt rfl (fun w_30 p_56 => ?_) ?_))
        ·refine Y27 f p_56 2 rfl rfl (b := b0) (j := 2) (v := .slice A_12 (d0_2 ++ [(⟨x_1.2.1, x_1.2.2.1, x_1.2.2.2.1, x_1.2.2.2.2.1, x_2⟩ : TG0)]).length cap_12) rfl (by exact rfl) (by simp) (by simp) ((Ent.row 42 5 (.slice A_12 (d0_2 ++ [(⟨x_1.2.1, x_1.2.2.1, x_1.2.2.2.1, x_1.2.2.2.2.1, x_2⟩ : TG0)]).length cap_12) (d0_2 ++ [(⟨x_1.2.1, x_1.2.2.1, x_1.2.2.2.1, x_1.2.2.2.2.1, x_2⟩ : TG0)]).length cs_6) :: (Ent.obj b_1 (.cells #[.int .i64 x_1.2.1, .int .i8 x_1.2.2.1, S x_1.2.2.2.1, S x_1.2.2.2.2.1, .slice A_11 x_2.length cap_11] 42 (0, 0))) :: (Ent.obj b0 (.cells #[.slice A_1 d0_0.length cap_1, .int .i64 d0_1, .slice A_12 (d0_2 ++ [(⟨x_1.2.1, x_1.2.2.1, x_1.2.2.2.1, x_1.2.2.2.2.1, x_2⟩ : TG0)]).length cap_12, .map (some m0_3), .slice A_3 d0_4.length cap_3, .int .i64 d0_5] 82 (0, 0))) :: (Ent.obj m0_3 (mapO (Value.int .i64) (fun x : TC0 => Value.agg #[.bool x.fEnded, .bool x.fOk, S x.fPhys]) (mput d0_3 x_1.2.1 z_TC0))) :: (Ent.obj b_2 (.cells #[.bool ((mget d0_3 x_1.2.1).getD z_TC0).fEnded, .bool ((mget d0_3 x_1.2.1).getD z_TC0).fOk, S ((mget d0_3 x_1.2.1).getD z_TC0).fPhys] 45 (0, 0))) :: (Ent.row 42 5 (.slice A_3 d0_4.length cap_3) d0_4.length cs_2) :: H) rfl fun w_31 p_57 _ f => W_end rfl (N_goN 3 hM_5 p_57 rfl (N_end fun w_32 p_58 => T_n ?_))
         exact ⟨(x_2, d0_2 ++ [(⟨x_1.2.1, x_1.2.2.1, x_1.2.2.2.1, x_1.2.2.2.2.1, x_2⟩ : TG0)]), (sI hF_7).symm, M_5, hM_5, A_11, cap_11, A_12, cap_12, cs_6, h_8, hr_6, f.kp, p_58⟩
        exact N_none
       exact N_none
      exact N_none
     refine N_alt rfl (fun w_33 p_59 => ?_) ?_
     ·refine V_allocS (k := 1) (c := 1) f p_59 (.cells #[.int .i64 x_1.2.1, .int .i8 x_1.2.2.1, S x_1.2.2.2.1, S x_1.2.2.2.2.1, .slice A_6 x_2.length cap_6] 42 (0, 0)) (by kernel_rfl) (fun _ => by kernel_rfl) fun b_6 w_34 p_60 _ f => W_end rfl (N_goN 5 (mR _) p_60 rfl (N_alt rfl (fun w_35 p_61 => ?_) ?_))
      ·refine Z f (Y33 (v := .slice A_2 d0_2.length cap_2) rfl (ad := ⟨b0, 2, none⟩) (p_61.ownCell 3 rfl 2)) fun _ f => W_end rfl (N_goN 5 (mR _) p_61 rfl (N_alt rfl (fun w_36 p_62 => ?_) ?_))
       ·have p_63 := p_62.pl [1]
        obtain ⟨A_13, cap_13, M_6, hv_4, hM_6, p_64, h_9⟩ := p_63.rowSli (f := emb_TF0) (xs := x_2) szd_TF0 hr_3
        have f := Frm.set f 42 (v := .agg #[.int .i64 x_1.2.1, .int .i8 x_1.2.2.1, S x_1.2.2.2.1, S x_1.2.2.2.2.1, .slice A_6 x_2.length cap_6]) (v' := .agg #[.int .i64 x_1.2.1, .int .i8 x_1.2.2.1, S x_1.2.2.2.1, S x_1.2.2.2.2.1, .slice A_13 x_2.length cap_13]) (by kernel_rfl) (by rw [hv_4])
        have p_65 : Hp w0 M_6 ((Ent.obj b_6 (.cells #[.int .i64 x_1.2.1, .int .i8 x_1.2.2.1, S x_1.2.2.2.1, S x_1.2.2.2.2.1, .slice A_13 x_2.length cap_13] 42 (0, 0))) :: (Ent.obj b_1 (.cells #[.int .i64 x_1.2.1, .int .i8 x_1.2.2.1, S x_1.2.2.2.1, S x_1.2.2.2.2.1, .slice A_13 x_2.length cap_13] 42 (0, 0))) :: (Ent.obj b0 (.cells #[.slice A_1 d0_0.length cap_1, .int .i64 d0_1, .slice A_2 d0_2.length cap_2, .map (some m0_3), .slice A_3 d0_4.length cap_3, .int .i64 d0_5] 82 (0, 0))) :: (Ent.row 42 5 (.slice A_2 d0_2.length cap_2) d0_2.length cs_1) :: (Ent.obj m0_3 (mapO (Value.int .i64) (fun x : TC0 => Value.agg #[.bool x.fEnded, .bool x.fOk, S x.fPhys]) (mput d0_3 x_1.2.1 z_TC0))) :: (Ent.obj b_2 (.cells #[.bool ((mget d0_3 x_1.2.1).getD z_TC0).fEnded, .bool ((mget d0_3 x_1.2.1).getD z_TC0).fOk, S ((mget d0_3 x_1.2.1).getD z_TC0).fPhys] 45 (0, 0))) :: (Ent.row 42 5 (.slice A_3 d0_4.length cap_3) d0_4.length cs_2) :: H) w_36 := by rw [hv_4] at p_64; exact p_64
        have p_66 := p_65.pl [3]
        refine Y22 (z := .agg #[.int .i64 0, .int .i8 0, S [], S [], .slice none 0 0]) (f := emb_TG0) (xs := d0_2) (ys := [(⟨x_1.2.1, x_1.2.2.1, x_1.2.2.2.1, x_1.2.2.2.2.1, x_2⟩ : TG0)]) (news := [.int .i64 x_1.2.1, .int .i8 x_1.2.2.1, S x_1.2.2.2.1, S x_1.2.2.2.2.1, .slice A_13 x_2.length cap_13]) (ad := ⟨b_6, 0, none⟩) (m := 1) (c := 1) f p_66 (RepSeq.mono ((hM_1.trans hM_2).trans hM_6) _ _ hr_1) (by exact ⟨_, _, rfl, TG0.shut h_9, rfl⟩) rfl rfl rfl rfl (own_cells (p_66.ownCell 1 rfl) 0 rfl) (by exact g_1) (by have hg_ := g_1; first | omega | (simp only [List.length_cons, List.length_nil] at *; omega)) fun A_14 cap_14 cs_7 w_37 p_67 hr_7 _ f => ?_
        have p_68 := p_67.pl [1]
        have p_69 := p_68.drop
        refine W_end rfl (N_goN 3 hM_6 p_69 rfl (Y1 (v := .pointer (some (⟨b0, 0, none⟩))) rfl f rfl rfl (fun _ _ => by kernel_rfl) fun _ f => Y1 (v := .pointer (some (⟨b0, 2, none⟩))) rfl f rfl rfl (fun _ _ => by kernel_rfl) fun _ f => N_alt rfl (fun w_38 p_70 => ?_) ?_))
        ·refine Y27 f p_70 2 rfl rfl (b := b0) (j := 2) (v := .slice A_14 (d0_2 ++ [(⟨x_1.2.1, x_1.2.2.1, x_1.2.2.2.1, x_1.2.2.2.2.1, x_2⟩ : TG0)]).length cap_14) rfl (by exact rfl) (by simp) (by simp) ((Ent.row 42 5 (.slice A_14 (d0_2 ++ [(⟨x_1.2.1, x_1.2.2.1, x_1.2.2.2.1, x_1.2.2.2.2.1, x_2⟩ : TG0)]).length cap_14) (d0_2 ++ [(⟨x_1.2.1, x_1.2.2.1, x_1.2.2.2.1, x_1.2.2.2.2.1, x_2⟩ : TG0)]).length cs_7) :: (Ent.obj b_1 (.cells #[.int .i64 x_1.2.1, .int .i8 x_1.2.2.1, S x_1.2.2.2.1, S x_1.2.2.2.2.1, .slice A_13 x_2.length cap_13] 42 (0, 0))) :: (Ent.obj b0 (.cells #[.slice A_1 d0_0.length cap_1, .int .i64 d0_1, .slice A_14 (d0_2 ++ [(⟨x_1.2.1, x_1.2.2.1, x_1.2.2.2.1, x_1.2.2.2.2.1, x_2⟩ : TG0)]).length cap_14, .map (some m0_3), .slice A_3 d0_4.length cap_3, .int .i64 d0_5] 82 (0, 0))) :: (Ent.obj m0_3 (mapO (Value.int .i64) (fun x : TC0 => Value.agg #[.bool x.fEnded, .bool x.fOk, S x.fPhys]) (mput d0_3 x_1.2.1 z_TC0))) :: (Ent.obj b_2 (.cells #[.bool ((mget d0_3 x_1.2.1).getD z_TC0).fEnded, .bool ((mget d0_3 x_1.2.1).getD z_TC0).fOk, S ((mget d0_3 x_1.2.1).getD z_TC0).fPhys] 45 (0, 0))) :: (Ent.row 42 5 (.slice A_3 d0_4.length cap_3) d0_4.length cs_2) :: H) rfl fun w_39 p_71 _ f => W_end rfl (N_goN 3 hM_6 p_71 rfl (N_end fun w_40 p_72 => T_n ?_))
         exact ⟨(x_2, d0_2 ++ [(⟨x_1.2.1, x_1.2.2.1, x_1.2.2.2.1, x_1.2.2.2.2.1, x_2⟩ : TG0)]), (sI hF_7).symm, M_6, hM_6, A_13, cap_13, A_14, cap_14, cs_7, h_9, hr_7, f.kp, p_72⟩
        exact N_none
       exact N_none
      exact N_none
     exact N_none
    exact N_none
   ·rintro a_63 w_41 ⟨y_1, hq_1, M_7, hM_7, A_15, cap_15, A_16, cap_16, cs_8, h_10, hr_8, f, p_73⟩
    subst j_1
    refine T_n ?_
    obtain ⟨j_2, hj_2, hF_8⟩ := bS hF_6
    refine R_mid (fun a_88 w_61 => ∃ y_2 : List TG0, j_2 = y_2 ∧ ∃ M_8 : Mem, M_7.le M_8 ∧ ∃ (A_20 : Option Addr), ∃ (cap_20 : Nat), ∃ (cs_12 : List Value), RepSeq M_8 (y_2.map emb_TG0) cs_12 ∧ Frm 57 [] a_88 ∧ Hp w0 M_8 ((Ent.row 42 5 (.slice A_20 y_2.length cap_20) y_2.length cs_12) :: (Ent.obj b0 (.cells #[.slice A_1 d0_0.length cap_1, .int .i64 d0_1, .slice A_16 y_1.2.length cap_16, .map (some m0_3), .slice A_20 y_2.length cap_20, .int .i64 d0_5] 82 (0, 0))) :: (Ent.row 42 5 (.slice A_16 y_1.2.length cap_16) y_1.2.length cs_8) :: (Ent.obj b_1 (.cells #[.int .i64 x_1.2.1, .int .i8 x_1.2.2.1, S x_1.2.2.2.1, S x_1.2.2.2.2.1, .slice A_15 y_1.1.length cap_15] 42 (0, 0))) :: (Ent.obj m0_3 (mapO (Value.int .i64) (fun x : TC0 => Value.agg #[.bool x.fEnded, .bool x.fOk, S x.fPhys]) (mput d0_3 x_1.2.1 z_TC0))) :: (Ent.obj b_2 (.cells #[.bool ((mget d0_3 x_1.2.1).getD z_TC0).fEnded, .bool ((mget d0_3 x_1.2.1).getD z_TC0).fOk, S ((mget d0_3 x_1.2.1).getD z_TC0).fPhys] 45 (0, 0))) :: H) w_61) ?_ ?_
    ·have p_85 := p_73.pl [4, 4, 3, 3, 5, 5]
     obtain ⟨g_2, hF_9⟩ := nS hj_2
     refine R_plan (ks := []) (E := [Ent.obj b0 (.cells #[.slice A_1 d0_0.length cap_1, .int .i64 d0_1, .slice A_16 y_1.2.length cap_16, .map (some m0_3), .slice A_3 d0_4.length cap_3, .int .i64 d0_5] 82 (0, 0)), Ent.row 42 5 (.slice A_3 d0_4.length cap_3) d0_4.length cs_2]) (Hr := ((Ent.row 42 5 (.slice A_16 y_1.2.length cap_16) y_1.2.length cs_8) :: (Ent.obj b_1 (.cells #[.int .i64 x_1.2.1, .int .i8 x_1.2.2.1, S x_1.2.2.2.1, S x_1.2.2.2.2.1, .slice A_15 y_1.1.length cap_15] 42 (0, 0))) :: (Ent.obj m0_3 (mapO (Value.int .i64) (fun x : TC0 => Value.agg #[.bool x.fEnded, .bool x.fOk, S x.fPhys]) (mput d0_3 x_1.2.1 z_TC0))) :: (Ent.obj b_2 (.cells #[.bool ((mget d0_3 x_1.2.1).getD z_TC0).fEnded, .bool ((mget d0_3 x_1.2.1).getD z_TC0).fOk, S ((mget d0_3 x_1.2.1).getD z_TC0).fPhys] 45 (0, 0))) :: H)) (.quiet 0 (.quiet 1 (.quiet 2 (.quiet 3 (.quiet 5 (.alt 4 (.alt 6 (.alt 7 (.quiet 8 (.quiet 9 (.alt 10 .done .none))) .none) .none) (.alt 6 (.alt 4 (.alt 7 (.quiet 8 (.quiet 9 (.alt 10 .done .none))) .none) .none) .none))))))) p_85 (by kernel_rfl) (by kernel_rfl) (by kernel_rfl) (Y1 (v := .pointer (some (⟨b0, 0, none⟩))) rfl f rfl rfl (fun _ _ => by kernel_rfl) fun _ f => Y1 (v := .pointer (some (⟨b0, 0, none⟩))) rfl f rfl rfl (fun _ _ => by kernel_rfl) fun _ f => Y1 (v := .pointer (some (⟨b0, 0, none⟩))) rfl f rfl rfl (fun _ _ => by kernel_rfl) fun _ f => Y1 (v := .pointer (some (⟨b0, 4, none⟩))) rfl f rfl rfl (fun _ _ => by kernel_rfl) fun _ f => Y1 (v := .agg #[.int .i64 x_1.2.1, .int .i8 x_1.2.2.1, S x_1.2.2.2.1, S x_1.2.2.2.2.1, .slice A_15 y_1.1.length cap_15]) rfl f rfl rfl (fun _ pq => Y34 (cs := [.int .i64 x_1.2.1, .int .i8 x_1.2.2.1, S x_1.2.2.2.1, S x_1.2.2.2.2.1, .slice A_15 y_1.1.length cap_15]) rfl (ad := ⟨b_1, 0, none⟩) (own_cells (pq.ownCell 1 rfl) 0 rfl)) fun _ f => N_alt rfl (fun w_45 p_86 => ?_) ?_)
     ·refine Z f (Y33 (v := .slice A_3 d0_4.length cap_3) rfl (ad := ⟨b0, 4, none⟩) (p_86.ownCell 0 rfl 4)) fun _ f => W_end rfl (N_goN 2 (mR _) p_86 rfl (N_alt rfl (fun w_46 p_87 => ?_) ?_))
      ·refine V_allocS (k := 1) (c := 1) f p_87 (.cells #[.int .i64 x_1.2.1, .int .i8 x_1.2.2.1, S x_1.2.2.2.1, S x_1.2.2.2.2.1, .slice A_15 y_1.1.length cap_15] 42 (0, 0)) (by kernel_rfl) (fun _ => by kernel_rfl) fun b_8 w_47 p_88 _ f => W_end rfl (N_goN 3 (mR _) p_88 rfl (N_alt rfl (fun w_48 p_89 => ?_) ?_))
       ·have p_90 := p_89.pl [2]
        refine Y22 (z := .agg #[.int .i64 0, .int .i8 0, S [], S [], .slice none 0 0]) (f := emb_TG0) (xs := d0_4) (ys := [(⟨x_1.2.1, x_1.2.2.1, x_1.2.2.2.1, x_1.2.2.2.2.1, y_1.1⟩ : TG0)]) (news := [.int .i64 x_1.2.1, .int .i8 x_1.2.2.1, S x_1.2.2.2.1, S x_1.2.2.2.2.1, .slice A_15 y_1.1.length cap_15]) (ad := ⟨b_8, 0, none⟩) (m := 1) (c := 1) f p_90 (RepSeq.mono ((hM_1.trans hM_2).trans hM_7) _ _ hr_2) (by exact ⟨_, _, rfl, TG0.shut h_10, rfl⟩) rfl rfl rfl rfl (own_cells (p_90.ownCell 1 rfl) 0 rfl) (by exact g_2) (by have hg_ := g_2; first | omega | (simp only [List.length_cons, List.length_nil] at *; omega)) fun A_18 cap_18 cs_10 w_49 p_91 hr_10 _ f => ?_
        have p_92 := p_91.pl [1]
        have p_93 := p_92.drop
        refine W_end rfl (N_goN 2 (mR _) p_93 rfl (Y1 (v := .pointer (some (⟨b0, 0, none⟩))) rfl f rfl rfl (fun _ _ => by kernel_rfl) fun _ f => Y1 (v := .pointer (some (⟨b0, 4, none⟩))) rfl f rfl rfl (fun _ _ => by kernel_rfl) fun _ f => N_alt rfl (fun w_50 p_94 => ?_) ?_))
        ·refine Y27 f p_94 1 rfl rfl (b := b0) (j := 4) (v := .slice A_18 (d0_4 ++ [(⟨x_1.2.1, x_1.2.2.1, x_1.2.2.2.1, x_1.2.2.2.2.1, y_1.1⟩ : TG0)]).length cap_18) rfl (by exact rfl) (by simp) (by simp) ((Ent.row 42 5 (.slice A_18 (d0_4 ++ [(⟨x_1.2.1, x_1.2.2.1, x_1.2.2.2.1, x_1.2.2.2.2.1, y_1.1⟩ : TG0)]).length cap_18) (d0_4 ++ [(⟨x_1.2.1, x_1.2.2.1, x_1.2.2.2.1, x_1.2.2.2.2.1, y_1.1⟩ : TG0)]).length cs_10) :: (Ent.obj b0 (.cells #[.slice A_1 d0_0.length cap_1, .int .i64 d0_1, .slice A_16 y_1.2.length cap_16, .map (some m0_3), .slice A_18 (d0_4 ++ [(⟨x_1.2.1, x_1.2.2.1, x_1.2.2.2.1, x_1.2.2.2.2.1, y_1.1⟩ : TG0)]).length cap_18, .int .i64 d0_5] 82 (0, 0))) :: (Ent.row 42 5 (.slice A_16 y_1.2.length cap_16) y_1.2.length cs_8) :: (Ent.obj b_1 (.cells #[.int .i64 x_1.2.1, .int .i8 x_1.2.2.1, S x_1.2.2.2.1, S x_1.2.2.2.2.1, .slice A_15 y_1.1.length cap_15] 42 (0, 0))) :: (Ent.obj m0_3 (mapO (Value.int .i64) (fun x : TC0 => Value.agg #[.bool x.fEnded, .bool x.fOk, S x.fPhys]) (mput d0_3 x_1.2.1 z_TC0))) :: (Ent.obj b_2 (.cells #[.bool ((mget d0_3 x_1.2.1).getD z_TC0).fEnded, .bool ((mget d0_3 x_1.2.1).getD z_TC0).fOk, S ((mget d0_3 x_1.2.1).getD z_TC0).fPhys] 45 (0, 0))) :: H) rfl fun w_51 p_95 _ f => W_end rfl (N_goN 2 (mR _) p_95 rfl (N_end fun w_52 p_96 => T_n ?_))
         exact ⟨d0_4 ++ [(⟨x_1.2.1, x_1.2.2.1, x_1.2.2.2.1, x_1.2.2.2.2.1, y_1.1⟩ : TG0)], (sI hF_9).symm, M_7, (mR _), A_18, cap_18, cs_10, hr_10, f.kp, p_96⟩
        exact N_none
       exact N_none
      exact N_none
     refine N_alt rfl (fun w_53 p_97 => ?_) ?_
     ·refine V_allocS (k := 1) (c := 1) f p_97 (.cells #[.int .i64 x_1.2.1, .int .i8 x_1.2.2.1, S x_1.2.2.2.1, S x_1.2.2.2.2.1, .slice A_15 y_1.1.length cap_15] 42 (0, 0)) (by kernel_rfl) (fun _ => by kernel_rfl) fun b_9 w_54 p_98 _ f => W_end rfl (N_goN 3 (mR _) p_98 rfl (N_alt rfl (fun w_55 p_99 => ?_) ?_))
      ·refine Z f (Y33 (v := .slice A_3 d0_4.length cap_3) rfl (ad := ⟨b0, 4, none⟩) (p_99.ownCell 1 rfl 4)) fun _ f => W_end rfl (N_goN 3 (mR _) p_99 rfl (N_alt rfl (fun w_56 p_100 => ?_) ?_))
       ·have p_101 := p_100.pl [2]
        refine Y22 (z := .agg #[.int .i64 0, .int .i8 0, S [], S [], .slice none 0 0]) (f := emb_TG0) (xs := d0_4) (ys := [(⟨x_1.2.1, x_1.2.2.1, x_1.2.2.2.1, x_1.2.2.2.2.1, y_1.1⟩ : TG0)]) (news := [.int .i64 x_1.2.1, .int .i8 x_1.2.2.1, S x_1.2.2.2.1, S x_1.2.2.2.2.1, .slice A_15 y_1.1.length cap_15]) (ad := ⟨b_9, 0, none⟩) (m := 1) (c := 1) f p_101 (RepSeq.mono ((hM_1.trans hM_2).trans hM_7) _ _ hr_2) (by exact ⟨_, _, rfl, TG0.shut h_10, rfl⟩) rfl rfl rfl rfl (own_cells (p_101.ownCell 1 rfl) 0 rfl) (by exact g_2) (by have hg_ := g_2; first | omega | (simp only [List.length_cons, List.length_nil] at *; omega)) fun A_19 cap_19 cs_11 w_57 p_102 hr_11 _ f => ?_
        have p_103 := p_102.pl [1]
        have p_104 := p_103.drop
        refine W_end rfl (N_goN 2 (mR _) p_104 rfl (Y1 (v := .pointer (some (⟨b0, 0, none⟩))) rfl f rfl rfl (fun _ _ => by kernel_rfl) fun _ f => Y1 (v := .pointer (some (⟨b0, 4, none⟩))) rfl f rfl rfl (fun _ _ => by kernel_rfl) fun _ f => N_alt rfl (fun w_58 p_105 => ?_) ?_))
        ·refine Y27 f p_105 1 rfl rfl (b := b0) (j := 4) (v := .slice A_19 (d0_4 ++ [(⟨x_1.2.1, x_1.2.2.1, x_1.2.2.2.1, x_1.2.2.2.2.1, y_1.1⟩ : TG0)]).length cap_19) rfl (by exact rfl) (by simp) (by simp) ((Ent.row 42 5 (.slice A_19 (d0_4 ++ [(⟨x_1.2.1, x_1.2.2.1, x_1.2.2.2.1, x_1.2.2.2.2.1, y_1.1⟩ : TG0)]).length cap_19) (d0_4 ++ [(⟨x_1.2.1, x_1.2.2.1, x_1.2.2.2.1, x_1.2.2.2.2.1, y_1.1⟩ : TG0)]).length cs_11) :: (Ent.obj b0 (.cells #[.slice A_1 d0_0.length cap_1, .int .i64 d0_1, .slice A_16 y_1.2.length cap_16, .map (some m0_3), .slice A_19 (d0_4 ++ [(⟨x_1.2.1, x_1.2.2.1, x_1.2.2.2.1, x_1.2.2.2.2.1, y_1.1⟩ : TG0)]).length cap_19, .int .i64 d0_5] 82 (0, 0))) :: (Ent.row 42 5 (.slice A_16 y_1.2.length cap_16) y_1.2.length cs_8) :: (Ent.obj b_1 (.cells #[.int .i64 x_1.2.1, .int .i8 x_1.2.2.1, S x_1.2.2.2.1, S x_1.2.2.2.2.1, .slice A_15 y_1.1.length cap_15] 42 (0, 0))) :: (Ent.obj m0_3 (mapO (Value.int .i64) (fun x : TC0 => Value.agg #[.bool x.fEnded, .bool x.fOk, S x.fPhys]) (mput d0_3 x_1.2.1 z_TC0))) :: (Ent.obj b_2 (.cells #[.bool ((mget d0_3 x_1.2.1).getD z_TC0).fEnded, .bool ((mget d0_3 x_1.2.1).getD z_TC0).fOk, S ((mget d0_3 x_1.2.1).getD z_TC0).fPhys] 45 (0, 0))) :: H) rfl fun w_59 p_106 _ f => W_end rfl (N_goN 2 (mR _) p_106 rfl (N_end fun w_60 p_107 => T_n ?_))
         exact ⟨d0_4 ++ [(⟨x_1.2.1, x_1.2.2.1, x_1.2.2.2.1, x_1.2.2.2.2.1, y_1.1⟩ : TG0)], (sI hF_9).symm, M_7, (mR _), A_19, cap_19, cs_11, hr_11, f.kp, p_107⟩
        exact N_none
       exact N_none
      exact N_none
     exact N_none
    ·rintro a_88 w_61 ⟨y_2, hq_2, M_8, hM_8, A_20, cap_20, cs_12, hr_12, f, p_108⟩
     subst j_2
     refine T_n (RR (Y f 1 fun _ f => eT (wp_ret (E_ret1 f rfl (by kernel_rfl : Vc.look _ 4 = some (.int .i64 0)) ?_))))
     obtain rfl := sI hF_8
     have p_113 := p_108.pl [4, 3, 3, 5, 5]
     exact ⟨_, rfl, M_8, _, (((hM_1.trans hM_2).trans hM_7).trans hM_8), (p_113.dropN 2), ⟨A_1, cap_1, A_16, cap_16, cs_8, A_20, cap_20, cs_12, rfl, rfl, (h_1.mono (((hM_1.trans hM_2).trans hM_7).trans hM_8)), (RepSeq.mono hM_8 _ _ hr_8), hr_12⟩⟩
  ·have k_4 : ((mget d0_3 x_1.2.1).isSome) = true := by simpa using h_5
   refine wp_skip (T_n (RR (Y f 1 fun _ f => eT (wp_ret (E_ret1 f rfl (by kernel_rfl : Vc.look _ 4 = some (.int .i64 0)) ?_)))))
   obtain rfl := sI hF_10
   exact ⟨_, rfl, M_1, _, hM_1, (p_7.dropN 2), ⟨A_1, cap_1, A_2, cap_2, cs_1, A_3, cap_3, cs_2, rfl, rfl, (h_1.mono hM_1), (RepSeq.mono hM_1 _ _ hr_1), (RepSeq.mono hM_1 _ _ hr_2)⟩⟩
def cloud_Cloud_effect (n : Nat) (d0_0 : List TD0) (d0_1 : Int) (d0_2 : List TG0) (d0_3 : List (Int × TC0)) (d0_4 : List TG0) (d0_5 : Int) (d1_0 : Int) (d1_1 : Int) (d1_2 : List UInt8) (d1_3 : List UInt8) (d1_4 : List TF0) : Option (TC0 × List TD0 × Int × List TG0 × (List (Int × TC0)) × List TG0 × Int × Int × Int × List UInt8 × List UInt8 × List TF0) :=
  ((bif (decide (d1_1 = 0)) then
      ((store_Create n (⟨d0_0, d0_1⟩ : TB0) d1_3 d1_4).bind fun x_1 =>
      some ((x_1.2.1, x_1.2.2, x_1.1.fL, x_1.1.fMade)))
    else
      bif (decide (d1_1 = 1)) then
        ((store_Update n (⟨d0_0, d0_1⟩ : TB0) d1_2 d1_4).bind fun x_2 =>
        some ((([] : List UInt8), x_2.2, x_2.1.fL, x_2.1.fMade)))
      else
        bif (decide (d1_1 = 2)) then
          ((store_Delete n (⟨d0_0, d0_1⟩ : TB0) d1_2).bind fun x_3 =>
          some ((([] : List UInt8), x_3.2, x_3.1.fL, x_3.1.fMade)))
        else
          some ((([] : List UInt8), (0 : Int), d0_0, d0_1)) : Option (List UInt8 × Int × List TD0 × Int))).bind fun y_1 =>
  bif (!(decide (y_1.2.1 = 0))) then
    (some (((⟨(true), (false), ([] : List UInt8)⟩ : TC0), d0_0, d0_1, d0_2, d0_3, d0_4, d0_5, d1_0, d1_1, d1_2, d1_3, d1_4)))
  else
    bif (decide (d1_1 = 0)) then
      (need (inR .i64 (d0_5 + 1)) <|
      some (((⟨(true), (true), y_1.1⟩ : TC0), y_1.2.2.1, y_1.2.2.2, d0_2, d0_3, d0_4, d0_5 + 1, d1_0, d1_1, d1_2, d1_3, d1_4)))
    else
      some (((⟨(true), (true), y_1.1⟩ : TC0), y_1.2.2.1, y_1.2.2.2, d0_2, d0_3, d0_4, d0_5, d1_0, d1_1, d1_2, d1_3, d1_4))
set_option maxRecDepth 20000 in
theorem cloud_Cloud_effect_ok (n : Nat) (M : Mem) (hG : GL M) (b0 : Nat) (d0_0 : List TD0) (A_1 : Option Addr) (cap_1 : Nat) (h_1 : Sli M 3 emb_TD0 A_1 cap_1 d0_0) (d0_1 : Int) (d0_2 : List TG0) (A_2 : Option Addr) (cap_2 : Nat) (cs_1 : List Value) (hr_1 : RepSeq M (d0_2.map emb_TG0) cs_1) (m0_3 : Nat) (d0_3 : List (Int × TC0)) (d0_4 : List TG0) (A_3 : Option Addr) (cap_3 : Nat) (cs_2 : List Value) (hr_2 : RepSeq M (d0_4.map emb_TG0) cs_2) (d0_5 : Int) (b1 : Nat) (d1_0 : Int) (d1_1 : Int) (d1_2 : List UInt8) (d1_3 : List UInt8) (d1_4 : List TF0) (A_4 : Option Addr) (cap_4 : Nat) (h_2 : Sli M 8 emb_TF0 A_4 cap_4 d1_4) (r : TC0 × List TD0 × Int × List TG0 × (List (Int × TC0)) × List TG0 × Int × Int × Int × List UInt8 × List UInt8 × List TF0) (hF : cloud_Cloud_effect n d0_0 d0_1 d0_2 d0_3 d0_4 d0_5 d1_0 d1_1 d1_2 d1_3 d1_4 = some r) : OkH Tryz.prog M [Ent.obj b0 (.cells #[.slice A_1 d0_0.length cap_1, .int .i64 d0_1, .slice A_2 d0_2.length cap_2, .map (some m0_3), .slice A_3 d0_4.length cap_3, .int .i64 d0_5] 82 (0, 0)), Ent.row 42 5 (.slice A_2 d0_2.length cap_2) d0_2.length cs_1, Ent.obj m0_3 (mapO (Value.int .i64) (fun x : TC0 => Value.agg #[.bool x.fEnded, .bool x.fOk, S x.fPhys]) d0_3), Ent.row 42 5 (.slice A_3 d0_4.length cap_3) d0_4.length cs_2, Ent.obj b1 (.cells #[.int .i64 d1_0, .int .i8 d1_1, S d1_2, S d1_3, .slice A_4 d1_4.length cap_4] 42 (0, 0))] 42 [.pointer (some (⟨b0, 0, none⟩)), .pointer (some (⟨b1, 0, none⟩))] (fun M' E' v => ∃ (c0 : List Value) (A_9 : Option Addr) (cap_9 : Nat) (A_10 : Option Addr) (cap_10 : Nat) (cs_3 : List Value) (A_11 : Option Addr) (cap_11 : Nat) (cs_4 : List Value) (A_12 : Option Addr) (cap_12 : Nat), v = .agg c0.toArray ∧ E' = [Ent.obj b0 (.cells #[.slice A_9 r.2.1.length cap_9, .int .i64 r.2.2.1, .slice A_10 r.2.2.2.1.length cap_10, .map (some m0_3), .slice A_11 r.2.2.2.2.2.1.length cap_11, .int .i64 r.2.2.2.2.2.2.1] 82 (0, 0)), Ent.row 42 5 (.slice A_10 r.2.2.2.1.length cap_10) r.2.2.2.1.length cs_3, Ent.obj m0_3 (mapO (Value.int .i64) (fun x : TC0 => Value.agg #[.bool x.fEnded, .bool x.fOk, S x.fPhys]) r.2.2.2.2.1), Ent.row 42 5 (.slice A_11 r.2.2.2.2.2.1.length cap_11) r.2.2.2.2.2.1.length cs_4, Ent.obj b1 (.cells #[.int .i64 r.2.2.2.2.2.2.2.1, .int .i8 r.2.2.2.2.2.2.2.2.1, S r.2.2.2.2.2.2.2.2.2.1, S r.2.2.2.2.2.2.2.2.2.2.1, .slice A_12 r.2.2.2.2.2.2.2.2.2.2.2.length cap_12] 42 (0, 0))] ∧ Rep M' (emb_TC0 r.1) c0 ∧ Sli M' 3 emb_TD0 A_9 cap_9 r.2.1 ∧ RepSeq M' (r.2.2.2.1.map emb_TG0) cs_3 ∧ RepSeq M' (r.2.2.2.2.2.1.map emb_TG0) cs_4 ∧ Sli M' 8 emb_TF0 A_12 cap_12 r.2.2.2.2.2.2.2.2.2.2.2) := by
 unfold cloud_Cloud_effect at hF
 intro M1 hM0 w0 H w p0
 replace hG := GL.mono hM0 hG
 replace h_1 := h_1.mono hM0
 replace hr_1 := RepSeq.mono hM0 _ _ hr_1
 replace hr_2 := RepSeq.mono hM0 _ _ hr_2
 replace h_2 := h_2.mono hM0
 refine R_enter 91 Tryz.func42 rfl rfl (by simp) fun a0 f0 => RR (Y12 f0 p0 (.cells #[.bool false, .bool false, S []] 45 (0, 0)) fun b_1 w_1 p_1 _ f => eT (RR (Y f 1 fun _ f => Y27 f p_1 0 rfl rfl (b := b_1) (j := 0) (v := .bool true) rfl (by exact rfl) (by simp) (by simp) ((Ent.obj b_1 (.cells #[.bool true, .bool false, S []] 45 (0, 0))) :: (Ent.obj b0 (.cells #[.slice A_1 d0_0.length cap_1, .int .i64 d0_1, .slice A_2 d0_2.length cap_2, .map (some m0_3), .slice A_3 d0_4.length cap_3, .int .i64 d0_5] 82 (0, 0))) :: (Ent.row 42 5 (.slice A_2 d0_2.length cap_2) d0_2.length cs_1) :: (Ent.obj m0_3 (mapO (Value.int .i64) (fun x : TC0 => Value.agg #[.bool x.fEnded, .bool x.fOk, S x.fPhys]) d0_3)) :: (Ent.row 42 5 (.slice A_3 d0_4.length cap_3) d0_4.length cs_2) :: (Ent.obj b1 (.cells #[.int .i64 d1_0, .int .i8 d1_1, S d1_2, S d1_3, .slice A_4 d1_4.length cap_4] 42 (0, 0))) :: H) rfl fun w_2 p_2 _ f => eT (RR (Y f 3 fun _ f => Z (v := .agg #[.slice A_1 d0_0.length cap_1, .int .i64 d0_1]) f (Y34 (cs := [.slice A_1 d0_0.length cap_1, .int .i64 d0_1]) rfl (ad := ⟨b0, 0, none⟩) (own_cells (p_2.ownCell 1 rfl) 0 rfl)) fun _ f => Y12 f p_2 (.cells #[.slice none 0 0, .int .i64 0] 80 (0, 0)) fun b_2 w_3 p_3 _ f => Y28 (vs := [.slice A_1 d0_0.length cap_1, .int .i64 d0_1]) (j := 0) f p_3 rfl rfl (by simp [Value.oneCell', S]) (by simp) (by decide) (cs' := #[.slice A_1 d0_0.length cap_1, .int .i64 d0_1]) (by kernel_rfl) fun w_4 p_4 _ f => ?_)))))
 refine Y f 2 fun _ f => eT (R_seq (RR (Y f 3 fun _ f => Z f (Y33 (v := .int .i8 d1_1) rfl (ad := ⟨b1, 1, none⟩) (p_4.ownCell 6 rfl 1)) fun _ f => eT ?_)))
 obtain ⟨j_1, hj_1, hF_1⟩ := bS hF
 refine R_mid (fun a_42 w_20 => ∃ y_1 : List UInt8 × Int × List TD0 × Int, j_1 = y_1 ∧ ∃ M_4 : Mem, M1.le M_4 ∧ ∃ (A_8 : Option Addr), ∃ (cap_8 : Nat), Sli M_4 3 emb_TD0 A_8 cap_8 y_1.2.2.1 ∧ Frm 91 [(0, .pointer (some (⟨b0, 0, none⟩))), (1, .pointer (some (⟨b1, 0, none⟩))), (4, .pointer (some (⟨b_1, 0, none⟩))), (5, .pointer (some (⟨b_2, 0, none⟩))), (6, S y_1.1), (7, .int .i64 y_1.2.1)] a_42 ∧ Hp w0 M_4 ((Ent.obj b_2 (.cells #[.slice A_8 y_1.2.2.1.length cap_8, .int .i64 y_1.2.2.2] 80 (0, 0))) :: (Ent.obj b_1 (.cells #[.bool true, .bool false, S []] 45 (0, 0))) :: (Ent.obj b0 (.cells #[.slice A_1 d0_0.length cap_1, .int .i64 d0_1, .slice A_2 d0_2.length cap_2, .map (some m0_3), .slice A_3 d0_4.length cap_3, .int .i64 d0_5] 82 (0, 0))) :: (Ent.row 42 5 (.slice A_2 d0_2.length cap_2) d0_2.length cs_1) :: (Ent.obj m0_3 (mapO (Value.int .i64) (fun x : TC0 => Value.agg #[.bool x.fEnded, .bool x.fOk, S x.fPhys]) d0_3)) :: (Ent.row 42 5 (.slice A_3 d0_4.length cap_3) d0_4.length cs_2) :: (Ent.obj b1 (.cells #[.int .i64 d1_0, .int .i8 d1_1, S d1_2, S d1_3, .slice A_4 d1_4.length cap_4] 42 (0, 0))) :: H) w_20) ?_ ?_
 ·refine wp_block (RR (Y f 2 fun _ f => eT (RcF f hj_1 (fun h_3 hF_2 => ?_) fun h_3 hF_4 => ?_)))
  ·have k_1 := dI.1 h_3
   refine R_mix (E := [Ent.obj b_2 (.cells #[.slice A_1 d0_0.length cap_1, .int .i64 d0_1] 80 (0, 0))]) (Hr := ((Ent.obj b_1 (.cells #[.bool true, .bool false, S []] 45 (0, 0))) :: (Ent.obj b0 (.cells #[.slice A_1 d0_0.length cap_1, .int .i64 d0_1, .slice A_2 d0_2.length cap_2, .map (some m0_3), .slice A_3 d0_4.length cap_3, .int .i64 d0_5] 82 (0, 0))) :: (Ent.row 42 5 (.slice A_2 d0_2.length cap_2) d0_2.length cs_1) :: (Ent.obj m0_3 (mapO (Value.int .i64) (fun x : TC0 => Value.agg #[.bool x.fEnded, .bool x.fOk, S x.fPhys]) d0_3)) :: (Ent.row 42 5 (.slice A_3 d0_4.length cap_3) d0_4.length cs_2) :: (Ent.obj b1 (.cells #[.int .i64 d1_0, .int .i8 d1_1, S d1_2, S d1_3, .slice A_4 d1_4.length cap_4] 42 (0, 0))) :: H)) [(0, true), (1, true), (2, true), (3, true), (4, true), (5, true), (6, true), (7, true), (8, true), (9, true), (10, true), (11, true), (12, false), (13, true), (14, true), (15, true), (16, true), (17, false), (18, true), (19, true)] p_4 (by kernel_rfl) (by kernel_rfl) rfl (by kernel_rfl) (Y0 default f 3 fun _ f => M_eq (v := .agg #[.slice A_1 d0_0.length cap_1, .int .i64 d0_1]) f (by kernel_rfl) (by kernel_rfl) rfl rfl (fun _ pq => Y34 (cs := [.slice A_1 d0_0.length cap_1, .int .i64 d0_1]) rfl (ad := ⟨b0, 0, none⟩) (own_cells (pq.ownCell 1 rfl) 0 rfl)) fun _ f => Y0 default f 3 fun _ f => M_eq (v := S d1_3) f (by kernel_rfl) (by kernel_rfl) rfl rfl (fun _ pq => Y33 (v := S d1_3) rfl (ad := ⟨b1, 3, none⟩) (pq.ownCell 5 rfl 3)) fun _ f => Y0 default f 3 fun _ f => M_eq (v := .slice A_4 d1_4.length cap_4) f (by kernel_rfl) (by kernel_rfl) rfl rfl (fun _ pq => Y33 (v := .slice A_4 d1_4.length cap_4) rfl (ad := ⟨b1, 4, none⟩) (pq.ownCell 5 rfl 4)) fun _ f => M_fix (E := [Ent.obj b_2 (.cells #[.slice A_1 d0_0.length cap_1, .int .i64 d0_1] 80 (0, 0))]) fun w_5 p_5 => ?_)
   obtain ⟨x_1, hx_1, hF_3⟩ := bS hF_2
   refine Y16 f p_5 (store_Create_ok n _ hG _ (⟨d0_0, d0_1⟩ : TB0) (TB0.shut h_1) d1_3 A_4 cap_4 d1_4 h_2 x_1 hx_1) fun _ M_1 w_6 hM_1 p_6 q_1 _ f => ?_
   obtain ⟨c_1, rfl, hr_3⟩ := q_1
   obtain ⟨A_5, cap_5, rfl, h_4⟩ := TB0.opn hr_3
   refine W_end rfl (M_go (M1 := M_1) (E := [Ent.obj b_2 (.cells #[.slice A_1 d0_0.length cap_1, .int .i64 d0_1] 80 (0, 0))]) hM_1 p_6 (Y0 default f 4 fun _ f => M_fix (E := [Ent.obj b_2 (.cells #[.slice A_1 d0_0.length cap_1, .int .i64 d0_1] 80 (0, 0))]) fun w_7 p_7 => Y28 (vs := [.slice A_5 x_1.1.fL.length cap_5, .int .i64 x_1.1.fMade]) (j := 0) f p_7 rfl rfl (by simp [Value.oneCell', S]) (by simp) (by decide) (cs' := #[.slice A_5 x_1.1.fL.length cap_5, .int .i64 x_1.1.fMade]) (by kernel_rfl) fun w_8 p_8 _ f => W_end rfl (M_go (M1 := M_1) (E := [Ent.obj b_2 (.cells #[.slice A_5 x_1.1.fL.length cap_5, .int .i64 x_1.1.fMade] 80 (0, 0))]) hM_1 p_8 (Y0 default f 2 fun _ f => M_end rfl fun w_9 p_9 => B_n (T_n ?_)))))
   exact ⟨(x_1.2.1, x_1.2.2, x_1.1.fL, x_1.1.fMade), (sI hF_3).symm, M_1, hM_1, A_5, cap_5, h_4, f.kp, p_9⟩
  ·have k_2 := iff_f dI h_3
   refine RR (Y f 2 fun _ f => eT (RcF f hF_4 (fun h_5 hF_5 => ?_) fun h_5 hF_7 => ?_))
   ·have k_3 := dI.1 h_5
    refine R_mix (E := [Ent.obj b_2 (.cells #[.slice A_1 d0_0.length cap_1, .int .i64 d0_1] 80 (0, 0))]) (Hr := ((Ent.obj b_1 (.cells #[.bool true, .bool false, S []] 45 (0, 0))) :: (Ent.obj b0 (.cells #[.slice A_1 d0_0.length cap_1, .int .i64 d0_1, .slice A_2 d0_2.length cap_2, .map (some m0_3), .slice A_3 d0_4.length cap_3, .int .i64 d0_5] 82 (0, 0))) :: (Ent.row 42 5 (.slice A_2 d0_2.length cap_2) d0_2.length cs_1) :: (Ent.obj m0_3 (mapO (Value.int .i64) (fun x : TC0 => Value.agg #[.bool x.fEnded, .bool x.fOk, S x.fPhys]) d0_3)) :: (Ent.row 42 5 (.slice A_3 d0_4.length cap_3) d0_4.length cs_2) :: (Ent.obj b1 (.cells #[.int .i64 d1_0, .int .i8 d1_1, S d1_2, S d1_3, .slice A_4 d1_4.length cap_4] 42 (0, 0))) :: H)) [(0, true), (1, true), (2, true), (3, true), (4, true), (5, true), (6, true), (7, true), (8, true), (9, true), (10, true), (11, true), (12, false), (13, true), (14, true), (15, true), (16, false), (17, true)] p_4 (by kernel_rfl) (by kernel_rfl) rfl (by kernel_rfl) (Y0 default f 3 fun _ f => M_eq (v := .agg #[.slice A_1 d0_0.length cap_1, .int .i64 d0_1]) f (by kernel_rfl) (by kernel_rfl) rfl rfl (fun _ pq => Y34 (cs := [.slice A_1 d0_0.length cap_1, .int .i64 d0_1]) rfl (ad := ⟨b0, 0, none⟩) (own_cells (pq.ownCell 1 rfl) 0 rfl)) fun _ f => Y0 default f 3 fun _ f => M_eq (v := S d1_2) f (by kernel_rfl) (by kernel_rfl) rfl rfl (fun _ pq => Y33 (v := S d1_2) rfl (ad := ⟨b1, 2, none⟩) (pq.ownCell 5 rfl 2)) fun _ f => Y0 default f 3 fun _ f => M_eq (v := .slice A_4 d1_4.length cap_4) f (by kernel_rfl) (by kernel_rfl) rfl rfl (fun _ pq => Y33 (v := .slice A_4 d1_4.length cap_4) rfl (ad := ⟨b1, 4, none⟩) (pq.ownCell 5 rfl 4)) fun _ f => M_fix (E := [Ent.obj b_2 (.cells #[.slice A_1 d0_0.length cap_1, .int .i64 d0_1] 80 (0, 0))]) fun w_10 p_10 => ?_)
    obtain ⟨x_2, hx_2, hF_6⟩ := bS hF_5
    refine Y16 f p_10 (store_Update_ok n _ hG _ (⟨d0_0, d0_1⟩ : TB0) (TB0.shut h_1) d1_2 A_4 cap_4 d1_4 h_2 x_2 hx_2) fun _ M_2 w_11 hM_2 p_11 q_2 _ f => ?_
    obtain ⟨c_2, rfl, hr_4⟩ := q_2
    obtain ⟨A_6, cap_6, rfl, h_6⟩ := TB0.opn hr_4
    refine W_end rfl (M_go (M1 := M_2) (E := [Ent.obj b_2 (.cells #[.slice A_1 d0_0.length cap_1, .int .i64 d0_1] 80 (0, 0))]) hM_2 p_11 (Y0 default f 3 fun _ f => M_fix (E := [Ent.obj b_2 (.cells #[.slice A_1 d0_0.length cap_1, .int .i64 d0_1] 80 (0, 0))]) fun w_12 p_12 => Y28 (vs := [.slice A_6 x_2.1.fL.length cap_6, .int .i64 x_2.1.fMade]) (j := 0) f p_12 rfl rfl (by simp [Value.oneCell', S]) (by simp) (by decide) (cs' := #[.slice A_6 x_2.1.fL.length cap_6, .int .i64 x_2.1.fMade]) (by kernel_rfl) fun w_13 p_13 _ f => W_end rfl (M_go (M1 := M_2) (E := [Ent.obj b_2 (.cells #[.slice A_6 x_2.1.fL.length cap_6, .int .i64 x_2.1.fMade] 80 (0, 0))]) hM_2 p_13 (Y0 default f 1 fun _ f => M_end rfl fun w_14 p_14 => B_n (T_n ?_)))))
    exact ⟨(([] : List UInt8), x_2.2, x_2.1.fL, x_2.1.fMade), (sI hF_6).symm, M_2, hM_2, A_6, cap_6, h_6, f.kp, p_14⟩
   ·have k_4 := iff_f dI h_5
    refine RR (Y f 2 fun _ f => eT (RcF f hF_7 (fun h_7 hF_8 => ?_) fun h_7 hF_10 => ?_))
    ·have k_5 := dI.1 h_7
     refine R_mix (E := [Ent.obj b_2 (.cells #[.slice A_1 d0_0.length cap_1, .int .i64 d0_1] 80 (0, 0))]) (Hr := ((Ent.obj b_1 (.cells #[.bool true, .bool false, S []] 45 (0, 0))) :: (Ent.obj b0 (.cells #[.slice A_1 d0_0.length cap_1, .int .i64 d0_1, .slice A_2 d0_2.length cap_2, .map (some m0_3), .slice A_3 d0_4.length cap_3, .int .i64 d0_5] 82 (0, 0))) :: (Ent.row 42 5 (.slice A_2 d0_2.length cap_2) d0_2.length cs_1) :: (Ent.obj m0_3 (mapO (Value.int .i64) (fun x : TC0 => Value.agg #[.bool x.fEnded, .bool x.fOk, S x.fPhys]) d0_3)) :: (Ent.row 42 5 (.slice A_3 d0_4.length cap_3) d0_4.length cs_2) :: (Ent.obj b1 (.cells #[.int .i64 d1_0, .int .i8 d1_1, S d1_2, S d1_3, .slice A_4 d1_4.length cap_4] 42 (0, 0))) :: H)) [(0, true), (1, true), (2, true), (3, true), (4, true), (5, true), (6, true), (7, true), (8, false), (9, true), (10, true), (11, true), (12, false), (13, true)] p_4 (by kernel_rfl) (by kernel_rfl) rfl (by kernel_rfl) (Y0 default f 3 fun _ f => M_eq (v := .agg #[.slice A_1 d0_0.length cap_1, .int .i64 d0_1]) f (by kernel_rfl) (by kernel_rfl) rfl rfl (fun _ pq => Y34 (cs := [.slice A_1 d0_0.length cap_1, .int .i64 d0_1]) rfl (ad := ⟨b0, 0, none⟩) (own_cells (pq.ownCell 1 rfl) 0 rfl)) fun _ f => Y0 default f 3 fun _ f => M_eq (v := S d1_2) f (by kernel_rfl) (by kernel_rfl) rfl rfl (fun _ pq => Y33 (v := S d1_2) rfl (ad := ⟨b1, 2, none⟩) (pq.ownCell 5 rfl 2)) fun _ f => M_fix (E := [Ent.obj b_2 (.cells #[.slice A_1 d0_0.length cap_1, .int .i64 d0_1] 80 (0, 0))]) fun w_15 p_15 => ?_)
     obtain ⟨x_3, hx_3, hF_9⟩ := bS hF_8
     refine Y16 f p_15 (store_Delete_ok n _ hG _ (⟨d0_0, d0_1⟩ : TB0) (TB0.shut h_1) d1_2 x_3 hx_3) fun _ M_3 w_16 hM_3 p_16 q_3 _ f => ?_
     obtain ⟨c_3, rfl, hr_5⟩ := q_3
     obtain ⟨A_7, cap_7, rfl, h_8⟩ := TB0.opn hr_5
     refine W_end rfl (M_go (M1 := M_3) (E := [Ent.obj b_2 (.cells #[.slice A_1 d0_0.length cap_1, .int .i64 d0_1] 80 (0, 0))]) hM_3 p_16 (Y0 default f 3 fun _ f => M_fix (E := [Ent.obj b_2 (.cells #[.slice A_1 d0_0.length cap_1, .int .i64 d0_1] 80 (0, 0))]) fun w_17 p_17 => Y28 (vs := [.slice A_7 x_3.1.fL.length cap_7, .int .i64 x_3.1.fMade]) (j := 0) f p_17 rfl rfl (by simp [Value.oneCell', S]) (by simp) (by decide) (cs' := #[.slice A_7 x_3.1.fL.length cap_7, .int .i64 x_3.1.fMade]) (by kernel_rfl) fun w_18 p_18 _ f => W_end rfl (M_go (M1 := M_3) (E := [Ent.obj b_2 (.cells #[.slice A_7 x_3.1.fL.length cap_7, .int .i64 x_3.1.fMade] 80 (0, 0))]) hM_3 p_18 (Y0 default f 1 fun _ f => M_end rfl fun w_19 p_19 => B_n (T_n ?_)))))
     exact ⟨(([] : List UInt8), x_3.2, x_3.1.fL, x_3.1.fMade), (sI hF_9).symm, M_3, hM_3, A_7, cap_7, h_8, f.kp, p_19⟩
    ·have k_6 := iff_f dI h_7
     refine wp_skip (B_n (T_n ?_))
     exact ⟨(([] : List UInt8), (0 : Int), d0_0, d0_1), (sI hF_10).symm, M1, (mR _), A_1, cap_1, h_1, f.kp, p_4⟩
 ·rintro a_42 w_20 ⟨y_1, hq_1, M_4, hM_4, A_8, cap_8, h_9, f, p_20⟩
  subst j_1
  refine T_n (R_seq (RR (Y f 2 fun _ f => eT (RcF f hF_1 (fun h_10 hF_11 => ?_) fun h_10 hF_12 => ?_))))
  ·have k_7 : ¬ (y_1.2.1 = 0) := (not_iff dI).1 h_10
   refine RR (Z (v := .agg #[.bool true, .bool false, S []]) f (Y34 (cs := [.bool true, .bool false, S []]) rfl (ad := ⟨b_1, 0, none⟩) (own_cells (p_20.ownCell 1 rfl) 0 rfl)) fun _ f => ?_)
   have p_21 := p_20.pl [1]
   refine Y28 (vs := [.bool true, .bool false, S []]) (j := 0) f p_21 rfl rfl (by simp [Value.oneCell', S]) (by simp) (by decide) (cs' := #[.bool true, .bool false, S []]) (by kernel_rfl) fun w_21 p_22 _ f => eT (wp_ret (T_r (E_rv1 f rfl (Y10 (cs := [.bool true, .bool false, S []]) (ad := ⟨b_1, 0, none⟩) f (own_cells (p_22.ownCell 0 rfl) 0 rfl)) ?_)))
   obtain rfl := sI hF_11
   exact ⟨_, rfl, M_4, _, hM_4, (p_22.dropN 2), ⟨[.bool true, .bool false, S []], A_1, cap_1, A_2, cap_2, cs_1, A_3, cap_3, cs_2, A_4, cap_4, rfl, rfl, (TC0.shut), (h_1.mono hM_4), (RepSeq.mono hM_4 _ _ hr_1), (RepSeq.mono hM_4 _ _ hr_2), (h_2.mono hM_4)⟩⟩
  ·have k_8 : ¬ (¬ (y_1.2.1 = 0)) := iff_f (not_iff dI) h_10
   refine wp_skip (T_n (RR (Y f 1 fun _ f => Z (v := .agg #[.slice A_8 y_1.2.2.1.length cap_8, .int .i64 y_1.2.2.2]) f (Y34 (cs := [.slice A_8 y_1.2.2.1.length cap_8, .int .i64 y_1.2.2.2]) rfl (ad := ⟨b_2, 0, none⟩) (own_cells (p_20.ownCell 0 rfl) 0 rfl)) fun _ f => Y f 3 fun _ f => ?_)))
   have p_23 := p_20.pl [2]
   refine Y28 (vs := [.slice A_8 y_1.2.2.1.length cap_8, .int .i64 y_1.2.2.2]) (j := 0) f p_23 rfl rfl (by simp [Value.oneCell', S]) (by simp) (by decide) (cs' := #[.slice A_8 y_1.2.2.1.length cap_8, .int .i64 y_1.2.2.2, .slice A_2 d0_2.length cap_2, .map (some m0_3), .slice A_3 d0_4.length cap_3, .int .i64 d0_5]) (by kernel_rfl) fun w_22 p_24 _ f => Y f 1 fun _ f => Y27 f p_24 2 rfl rfl (b := b_1) (j := 1) (v := .bool true) rfl (by exact rfl) (by simp) (by simp) ((Ent.obj b0 (.cells #[.slice A_8 y_1.2.2.1.length cap_8, .int .i64 y_1.2.2.2, .slice A_2 d0_2.length cap_2, .map (some m0_3), .slice A_3 d0_4.length cap_3, .int .i64 d0_5] 82 (0, 0))) :: (Ent.obj b_2 (.cells #[.slice A_8 y_1.2.2.1.length cap_8, .int .i64 y_1.2.2.2] 80 (0, 0))) :: (Ent.obj b_1 (.cells #[.bool true, .bool true, S []] 45 (0, 0))) :: (Ent.row 42 5 (.slice A_2 d0_2.length cap_2) d0_2.length cs_1) :: (Ent.obj m0_3 (mapO (Value.int .i64) (fun x : TC0 => Value.agg #[.bool x.fEnded, .bool x.fOk, S x.fPhys]) d0_3)) :: (Ent.row 42 5 (.slice A_3 d0_4.length cap_3) d0_4.length cs_2) :: (Ent.obj b1 (.cells #[.int .i64 d1_0, .int .i8 d1_1, S d1_2, S d1_3, .slice A_4 d1_4.length cap_4] 42 (0, 0))) :: H) rfl fun w_23 p_25 _ f => Y f 1 fun _ f => Y27 f p_25 2 rfl rfl (b := b_1) (j := 2) (v := S y_1.1) rfl (by exact rfl) (by simp) (by simp) ((Ent.obj b0 (.cells #[.slice A_8 y_1.2.2.1.length cap_8, .int .i64 y_1.2.2.2, .slice A_2 d0_2.length cap_2, .map (some m0_3), .slice A_3 d0_4.length cap_3, .int .i64 d0_5] 82 (0, 0))) :: (Ent.obj b_2 (.cells #[.slice A_8 y_1.2.2.1.length cap_8, .int .i64 y_1.2.2.2] 80 (0, 0))) :: (Ent.obj b_1 (.cells #[.bool true, .bool true, S y_1.1] 45 (0, 0))) :: (Ent.row 42 5 (.slice A_2 d0_2.length cap_2) d0_2.length cs_1) :: (Ent.obj m0_3 (mapO (Value.int .i64) (fun x : TC0 => Value.agg #[.bool x.fEnded, .bool x.fOk, S x.fPhys]) d0_3)) :: (Ent.row 42 5 (.slice A_3 d0_4.length cap_3) d0_4.length cs_2) :: (Ent.obj b1 (.cells #[.int .i64 d1_0, .int .i8 d1_1, S d1_2, S d1_3, .slice A_4 d1_4.length cap_4] 42 (0, 0))) :: H) rfl fun w_24 p_26 _ f => eT (R_seq (RR (Y f 3 fun _ f => Z f (Y33 (v := .int .i8 d1_1) rfl (ad := ⟨b1, 1, none⟩) (p_26.ownCell 6 rfl 1)) fun _ f => Y f 1 fun _ f => eT (RcF f hF_12 (fun h_11 hF_13 => ?_) fun h_11 hF_15 => ?_))))
   ·have k_9 := dI.1 h_11
    refine R_reg (Y f 3 fun _ f => Z f (Y33 (v := .int .i64 d0_5) rfl (ad := ⟨b0, 5, none⟩) (p_26.ownCell 0 rfl 5)) fun _ f => ?_)
    obtain ⟨g_1, hF_14⟩ := nS hF_13
    refine Y f 1 fun _ f => ?_
    have f := f.st 87 (congrArg (Value.int .i64) (inR_wrap g_1))
    refine Y f 2 fun _ f => Y27 f p_26 0 rfl rfl (b := b0) (j := 5) (v := .int .i64 (d0_5 + 1)) rfl (by exact rfl) (by simp) (by simp) ((Ent.obj b0 (.cells #[.slice A_8 y_1.2.2.1.length cap_8, .int .i64 y_1.2.2.2, .slice A_2 d0_2.length cap_2, .map (some m0_3), .slice A_3 d0_4.length cap_3, .int .i64 (d0_5 + 1)] 82 (0, 0))) :: (Ent.obj b_2 (.cells #[.slice A_8 y_1.2.2.1.length cap_8, .int .i64 y_1.2.2.2] 80 (0, 0))) :: (Ent.obj b_1 (.cells #[.bool true, .bool true, S y_1.1] 45 (0, 0))) :: (Ent.row 42 5 (.slice A_2 d0_2.length cap_2) d0_2.length cs_1) :: (Ent.obj m0_3 (mapO (Value.int .i64) (fun x : TC0 => Value.agg #[.bool x.fEnded, .bool x.fOk, S x.fPhys]) d0_3)) :: (Ent.row 42 5 (.slice A_3 d0_4.length cap_3) d0_4.length cs_2) :: (Ent.obj b1 (.cells #[.int .i64 d1_0, .int .i8 d1_1, S d1_2, S d1_3, .slice A_4 d1_4.length cap_4] 42 (0, 0))) :: H) rfl fun w_25 p_27 _ f => eT (RR (Z (v := .agg #[.bool true, .bool true, S y_1.1]) f (Y34 (cs := [.bool true, .bool true, S y_1.1]) rfl (ad := ⟨b_1, 0, none⟩) (own_cells (p_27.ownCell 2 rfl) 0 rfl)) fun _ f => ?_))
    have p_28 := p_27.pl [2]
    refine Y28 (vs := [.bool true, .bool true, S y_1.1]) (j := 0) f p_28 rfl rfl (by simp [Value.oneCell', S]) (by simp) (by decide) (cs' := #[.bool true, .bool true, S y_1.1]) (by kernel_rfl) fun w_26 p_29 _ f => eT (wp_ret (E_rv1 f rfl (Y10 (cs := [.bool true, .bool true, S y_1.1]) (ad := ⟨b_1, 0, none⟩) f (own_cells (p_29.ownCell 0 rfl) 0 rfl)) ?_))
    obtain rfl := sI hF_14
    have p_36 := p_29.pl [6, 6, 6, 6, 5, 6, 6]
    exact ⟨_, rfl, M_4, _, hM_4, (p_36.dropN 2), ⟨[.bool true, .bool true, S y_1.1], A_8, cap_8, A_2, cap_2, cs_1, A_3, cap_3, cs_2, A_4, cap_4, rfl, rfl, (TC0.shut), h_9, (RepSeq.mono hM_4 _ _ hr_1), (RepSeq.mono hM_4 _ _ hr_2), (h_2.mono hM_4)⟩⟩
   ·have k_10 := iff_f dI h_11
    refine wp_skip (T_n (RR (Z (v := .agg #[.bool true, .bool true, S y_1.1]) f (Y34 (cs := [.bool true, .bool true, S y_1.1]) rfl (ad := ⟨b_1, 0, none⟩) (own_cells (p_26.ownCell 2 rfl) 0 rfl)) fun _ f => ?_)))
    have p_37 := p_26.pl [2]
    refine Y28 (vs := [.bool true, .bool true, S y_1.1]) (j := 0) f p_37 rfl rfl (by simp [Value.oneCell', S]) (by simp) (by decide) (cs' := #[.bool true, .bool true, S y_1.1]) (by kernel_rfl) fun w_27 p_38 _ f => eT (wp_ret (E_rv1 f rfl (Y10 (cs := [.bool true, .bool true, S y_1.1]) (ad := ⟨b_1, 0, none⟩) f (own_cells (p_38.ownCell 0 rfl) 0 rfl)) ?_))
    obtain rfl := sI hF_15
    have p_45 := p_38.pl [6, 6, 6, 6, 5, 6, 6]
    exact ⟨_, rfl, M_4, _, hM_4, (p_45.dropN 2), ⟨[.bool true, .bool true, S y_1.1], A_8, cap_8, A_2, cap_2, cs_1, A_3, cap_3, cs_2, A_4, cap_4, rfl, rfl, (TC0.shut), h_9, (RepSeq.mono hM_4 _ _ hr_1), (RepSeq.mono hM_4 _ _ hr_2), (h_2.mono hM_4)⟩⟩
def cloud_Cloud_End (n : Nat) (d0_0 : List TD0) (d0_1 : Int) (d0_2 : List TG0) (d0_3 : List (Int × TC0)) (d0_4 : List TG0) (d0_5 : Int) (d1 : Int) (d2 : Bool) : Option (Int × TC0 × Int × List TD0 × Int × List TG0 × (List (Int × TC0)) × List TG0 × Int) :=
  ((bif (decide (d1 < 0)) then
      (some ((true)))
    else
      some ((decide (((d0_4.length : Nat) : Int) ≤ d1))) : Option Bool)).bind fun y_1 =>
  bif y_1 then
    (some (((0 : Int), z_TC0, (4 : Int), d0_0, d0_1, d0_2, d0_3, d0_4, d0_5)))
  else
    (getI d0_4 d1).bind fun x_1 =>
    ((need (inR .i64 (d1 + 1)) <|
      need (0 ≤ d1 ∧ d1 ≤ (d0_4.length : Int)) <|
      need (0 ≤ (d1 + 1) ∧ (d1 + 1) ≤ (d0_4.length : Int)) <|
      need ((d1 + 1).toNat = d1.toNat + 1 ∧ d1.toNat < d0_4.length) <|
      need (d0_4.length * 72 ≤ 140737488355328) <|
      some (d0_4.take d1.toNat ++ d0_4.drop (d1.toNat + 1)) : Option (List TG0))).bind fun y_2 =>
    ((bif d2 then
        ((cloud_Cloud_effect n d0_0 d0_1 d0_2 d0_3 y_2 d0_5 x_1.fToken x_1.fKind x_1.fPhys x_1.fType x_1.fProps).bind fun x_2 =>
        some (((x_2.1.fEnded), (x_2.1.fOk), x_2.1.fPhys, x_2.2.1, x_2.2.2.1, x_2.2.2.2.1, x_2.2.2.2.2.2.1, x_2.2.2.2.2.2.2.1, x_2.2.2.2.2.2.2.2.1, x_2.2.2.2.2.2.2.2.2.1, x_2.2.2.2.2.2.2.2.2.2.1, x_2.2.2.2.2.2.2.2.2.2.2.1, x_2.2.2.2.2.2.2.2.2.2.2.2, x_2.2.2.2.2.1)))
      else
        some (((true), (false), ([] : List UInt8), d0_0, d0_1, d0_2, y_2, d0_5, x_1.fToken, x_1.fKind, x_1.fPhys, x_1.fType, x_1.fProps, d0_3)) : Option (Bool × Bool × List UInt8 × List TD0 × Int × List TG0 × List TG0 × Int × Int × Int × List UInt8 × List UInt8 × List TF0 × (List (Int × TC0))))).bind fun y_3 =>
    some ((y_3.2.2.2.2.2.2.2.2.1, (⟨(y_3.1), (y_3.2.1), y_3.2.2.1⟩ : TC0), (0 : Int), y_3.2.2.2.1, y_3.2.2.2.2.1, y_3.2.2.2.2.2.1, mput y_3.2.2.2.2.2.2.2.2.2.2.2.2.2 y_3.2.2.2.2.2.2.2.2.1 (⟨(y_3.1), (y_3.2.1), y_3.2.2.1⟩ : TC0), y_3.2.2.2.2.2.2.1, y_3.2.2.2.2.2.2.2.1))
set_option maxRecDepth 20000 in
theorem cloud_Cloud_End_ok (n : Nat) (M : Mem) (hG : GL M) (b0 : Nat) (d0_0 : List TD0) (A_1 : Option Addr) (cap_1 : Nat) (h_1 : Sli M 3 emb_TD0 A_1 cap_1 d0_0) (d0_1 : Int) (d0_2 : List TG0) (A_2 : Option Addr) (cap_2 : Nat) (cs_1 : List Value) (hr_1 : RepSeq M (d0_2.map emb_TG0) cs_1) (m0_3 : Nat) (d0_3 : List (Int × TC0)) (d0_4 : List TG0) (A_3 : Option Addr) (cap_3 : Nat) (cs_2 : List Value) (hr_2 : RepSeq M (d0_4.map emb_TG0) cs_2) (d0_5 : Int) (d1 : Int) (d2 : Bool) (r : Int × TC0 × Int × List TD0 × Int × List TG0 × (List (Int × TC0)) × List TG0 × Int) (hF : cloud_Cloud_End n d0_0 d0_1 d0_2 d0_3 d0_4 d0_5 d1 d2 = some r) : OkH Tryz.prog M [Ent.obj b0 (.cells #[.slice A_1 d0_0.length cap_1, .int .i64 d0_1, .slice A_2 d0_2.length cap_2, .map (some m0_3), .slice A_3 d0_4.length cap_3, .int .i64 d0_5] 82 (0, 0)), Ent.row 42 5 (.slice A_2 d0_2.length cap_2) d0_2.length cs_1, Ent.obj m0_3 (mapO (Value.int .i64) (fun x : TC0 => Value.agg #[.bool x.fEnded, .bool x.fOk, S x.fPhys]) d0_3), Ent.row 42 5 (.slice A_3 d0_4.length cap_3) d0_4.length cs_2] 21 [.pointer (some (⟨b0, 0, none⟩)), .int .i64 d1, .bool d2] (fun M' E' v => ∃ (c1 : List Value) (A_35 : Option Addr) (cap_36 : Nat) (A_36 : Option Addr) (cap_37 : Nat) (cs_15 : List Value) (A_37 : Option Addr) (cap_38 : Nat) (cs_16 : List Value), v = .tuple #[.int .i64 r.1, .agg c1.toArray, .int .i64 r.2.2.1] ∧ E' = [Ent.obj b0 (.cells #[.slice A_35 r.2.2.2.1.length cap_36, .int .i64 r.2.2.2.2.1, .slice A_36 r.2.2.2.2.2.1.length cap_37, .map (some m0_3), .slice A_37 r.2.2.2.2.2.2.2.1.length cap_38, .int .i64 r.2.2.2.2.2.2.2.2] 82 (0, 0)), Ent.row 42 5 (.slice A_36 r.2.2.2.2.2.1.length cap_37) r.2.2.2.2.2.1.length cs_15, Ent.obj m0_3 (mapO (Value.int .i64) (fun x : TC0 => Value.agg #[.bool x.fEnded, .bool x.fOk, S x.fPhys]) r.2.2.2.2.2.2.1), Ent.row 42 5 (.slice A_37 r.2.2.2.2.2.2.2.1.length cap_38) r.2.2.2.2.2.2.2.1.length cs_16] ∧ Rep M' (emb_TC0 r.2.1) c1 ∧ Sli M' 3 emb_TD0 A_35 cap_36 r.2.2.2.1 ∧ RepSeq M' (r.2.2.2.2.2.1.map emb_TG0) cs_15 ∧ RepSeq M' (r.2.2.2.2.2.2.2.1.map emb_TG0) cs_16) := by
 unfold cloud_Cloud_End at hF
 intro M1 hM0 w0 H w p0
 replace hG := GL.mono hM0 hG
 replace h_1 := h_1.mono hM0
 replace hr_1 := RepSeq.mono hM0 _ _ hr_1
 replace hr_2 := RepSeq.mono hM0 _ _ hr_2
 refine R_enter 64 Tryz.func21 rfl rfl (by simp) fun a0 f0 => RR (Y f0 1 fun _ f => Y12 f p0 (.cells #[.bool false, .bool false, S []] 45 (0, 0)) fun b_1 w_1 p_1 _ f => Y f 1 fun _ f => eT (R_seq (RR (Y f 1 fun _ f => Z (v := .bool false) f (X_ptrNil (q := some (⟨b0, 0, none⟩)) (e := 82) rfl (by kernel_rfl) (by kernel_rfl) (by kernel_rfl) _) fun _ f => eT (Y7 f (wp_skip (T_n (R_seq (R_seq ?_)))))))))
 obtain ⟨j_1, hj_1, hF_1⟩ := bS hF
 refine R_mid (fun a_11 w_2 => ∃ y_1 : Bool, j_1 = y_1 ∧ ∃ M_1 : Mem, M1.le M_1 ∧ Frm 64 [(0, .pointer (some (⟨b0, 0, none⟩))), (1, .int .i64 d1), (2, .bool d2), (7, .pointer (some (⟨b_1, 0, none⟩))), (23, .bool y_1)] a_11 ∧ Hp w0 M_1 ((Ent.obj b_1 (.cells #[.bool false, .bool false, S []] 45 (0, 0))) :: (Ent.obj b0 (.cells #[.slice A_1 d0_0.length cap_1, .int .i64 d0_1, .slice A_2 d0_2.length cap_2, .map (some m0_3), .slice A_3 d0_4.length cap_3, .int .i64 d0_5] 82 (0, 0))) :: (Ent.row 42 5 (.slice A_2 d0_2.length cap_2) d0_2.length cs_1) :: (Ent.obj m0_3 (mapO (Value.int .i64) (fun x : TC0 => Value.agg #[.bool x.fEnded, .bool x.fOk, S x.fPhys]) d0_3)) :: (Ent.row 42 5 (.slice A_3 d0_4.length cap_3) d0_4.length cs_2) :: H) w_2) ?_ ?_
 ·refine R_reg (Y f 3 fun _ f => ?_)
  rcases cE hj_1 with ⟨h_2, hF_2⟩ | ⟨h_2, hF_3⟩
  ·have k_1 := dI.1 h_2
   have f := f.st 15 (cB h_2)
   refine Y f 8 fun _ f => eT ?_
   exact ⟨(true), (sI hF_2).symm, M1, (mR _), f.kp, p_1⟩
  ·have k_2 := iff_f dI h_2
   have f := f.st 15 (cB h_2)
   refine Y f 4 fun _ f => Z f (Y33 (v := .slice A_3 d0_4.length cap_3) rfl (ad := ⟨b0, 4, none⟩) (p_1.ownCell 1 rfl 4)) fun _ f => Y f 3 fun _ f => eT ?_
   exact ⟨(decide (((d0_4.length : Nat) : Int) ≤ d1)), (sI hF_3).symm, M1, (mR _), f.kp, p_1⟩
 ·rintro a_11 w_2 ⟨y_1, hq_1, M_1, hM_1, f, p_2⟩
  subst j_1
  refine T_n (RcF f hF_1 (fun h_3 hF_4 => ?_) fun h_3 hF_5 => ?_)
  ·refine R_seq (R_drawT 2 p_2 (by kernel_rfl) (by kernel_rfl) fun w_3 p_3 => ST_eq (v := .agg #[.bool false, .bool false, S []]) f (by kernel_rfl) (by kernel_rfl) rfl rfl (Y34 (cs := [.bool false, .bool false, S []]) rfl (ad := ⟨b_1, 0, none⟩) (own_cells (p_3.ownCell 0 rfl) 0 rfl)) fun _ f => ST_eq (v := .int .i64 0) f (by kernel_rfl) (by kernel_rfl) rfl rfl (by kernel_rfl) fun _ f => ST_end rfl (Y28 (vs := [.bool false, .bool false, S []]) (j := 0) f p_3 rfl rfl (by simp [Value.oneCell', S]) (by simp) (by decide) (cs' := #[.bool false, .bool false, S []]) (by kernel_rfl) fun w_4 p_4 _ f => Y f 1 fun _ f => eT (wp_ret (T_r (E_rv3 f rfl (Y11 (v := .int .i64 0) f) (Y10 (cs := [.bool false, .bool false, S []]) (ad := ⟨b_1, 0, none⟩) f (own_cells (p_4.ownCell 0 rfl) 0 rfl)) (Y11 (v := .int .i64 4) f) ?_)))))
   obtain rfl := sI hF_4
   exact ⟨_, rfl, M_1, _, hM_1, (p_4.dropN 1), ⟨[.bool false, .bool false, S []], A_1, cap_1, A_2, cap_2, cs_1, A_3, cap_3, cs_2, rfl, rfl, (TC0.shut), (h_1.mono hM_1), (RepSeq.mono hM_1 _ _ hr_1), (RepSeq.mono hM_1 _ _ hr_2)⟩⟩
  ·refine wp_skip (T_n (RR (Y f 3 fun _ f => Z f (Y33 (v := .slice A_3 d0_4.length cap_3) rfl (ad := ⟨b0, 4, none⟩) (p_2.ownCell 1 rfl 4)) fun _ f => Y f 1 fun _ f => ?_)))
   obtain ⟨x_1, hx_1, hF_6⟩ := bS hF_5
   obtain ⟨b_2, cap_4, hv_1, hcap_1⟩ := p_2.rowAddr 4 rfl (getI_pos hx_1)
   have f := f.st 28 (hv_1)
   refine Z f (Y31 rfl (ad := ⟨b_2, 0, none⟩) (len := d0_4.length) (cap := cap_4) (k := .i64) (i := d1) (e := 42) (sz := 5) (getI_nn hx_1) (getI_lt hx_1)) fun _ f => ?_
   have f := f.st 28 (hv_1.symm)
   obtain ⟨c_1, -, hr_3, hc_1⟩ := RepSeq.get d1.toNat (szd_all szd_TG0) (RepSeq.mono hM_1 _ _ hr_2) (getI_map hx_1)
   obtain ⟨A_4, cap_5, rfl, h_4⟩ := TG0.opn hr_3
   refine Z (v := .agg #[.int .i64 x_1.fToken, .int .i8 x_1.fKind, S x_1.fPhys, S x_1.fType, .slice A_4 x_1.fProps.length cap_5]) f (Y34 (cs := [.int .i64 x_1.fToken, .int .i8 x_1.fKind, S x_1.fPhys, S x_1.fType, .slice A_4 x_1.fProps.length cap_5]) rfl (ad := (⟨b_2, 0, none⟩ : Addr).add (d1.toNat * 5)) (fun j v h => row_at (p_2.rowCell 4 rfl hv_1) hc_1 j v h)) fun _ f => Y12 f p_2 (.cells #[.int .i64 0, .int .i8 0, S [], S [], .slice none 0 0] 42 (0, 0)) fun b_3 w_5 p_5 _ f => Y28 (vs := [.int .i64 x_1.fToken, .int .i8 x_1.fKind, S x_1.fPhys, S x_1.fType, .slice A_4 x_1.fProps.length cap_5]) (j := 0) f p_5 rfl rfl (by simp [Value.oneCell', S]) (by simp) (by decide) (cs' := #[.int .i64 x_1.fToken, .int .i8 x_1.fKind, S x_1.fPhys, S x_1.fType, .slice A_4 x_1.fProps.length cap_5]) (by kernel_rfl) fun w_6 p_6 _ f => eT (R_seq ?_)
   obtain ⟨j_2, hj_2, hF_7⟩ := bS hF_6
   refine R_mid (fun a_85 w_57 => ∃ y_2 : List TG0, j_2 = y_2 ∧ ∃ M_2 : Mem, M_1.le M_2 ∧ ∃ (A_26 : Option Addr), ∃ (cap_27 : Nat), ∃ (cs_10 : List Value), RepSeq M_2 (y_2.map emb_TG0) cs_10 ∧ Frm 64 [(0, .pointer (some (⟨b0, 0, none⟩))), (2, .bool d2), (7, .pointer (some (⟨b_1, 0, none⟩))), (9, .pointer (some (⟨b_3, 0, none⟩)))] a_85 ∧ Hp w0 M_2 ((Ent.row 42 5 (.slice A_26 y_2.length cap_27) y_2.length cs_10) :: (Ent.obj b0 (.cells #[.slice A_1 d0_0.length cap_1, .int .i64 d0_1, .slice A_2 d0_2.length cap_2, .map (some m0_3), .slice A_26 y_2.length cap_27, .int .i64 d0_5] 82 (0, 0))) :: (Ent.obj b_3 (.cells #[.int .i64 x_1.fToken, .int .i8 x_1.fKind, S x_1.fPhys, S x_1.fType, .slice A_4 x_1.fProps.length cap_5] 42 (0, 0))) :: (Ent.obj b_1 (.cells #[.bool false, .bool false, S []] 45 (0, 0))) :: (Ent.row 42 5 (.slice A_2 d0_2.length cap_2) d0_2.length cs_1) :: (Ent.obj m0_3 (mapO (Value.int .i64) (fun x : TC0 => Value.agg #[.bool x.fEnded, .bool x.fOk, S x.fPhys]) d0_3)) :: H) w_57) ?_ ?_
   ·have p_15 := p_6.pl [4, 4, 3, 3, 5, 5]
    obtain ⟨g_1, hF_8⟩ := nS hj_2
    obtain ⟨g_2, hF_9⟩ := nS hF_8
    obtain ⟨g_3, hF_10⟩ := nS hF_9
    obtain ⟨g_4, hF_11⟩ := nS hF_10
    obtain ⟨g_5, hF_12⟩ := nS hF_11
    refine R_plan (ks := []) (E := [Ent.obj b0 (.cells #[.slice A_1 d0_0.length cap_1, .int .i64 d0_1, .slice A_2 d0_2.length cap_2, .map (some m0_3), .slice A_3 d0_4.length cap_3, .int .i64 d0_5] 82 (0, 0)), Ent.row 42 5 (.slice A_3 d0_4.length cap_3) d0_4.length cs_2]) (Hr := ((Ent.obj b_3 (.cells #[.int .i64 x_1.fToken, .int .i8 x_1.fKind, S x_1.fPhys, S x_1.fType, .slice A_4 x_1.fProps.length cap_5] 42 (0, 0))) :: (Ent.obj b_1 (.cells #[.bool false, .bool false, S []] 45 (0, 0))) :: (Ent.row 42 5 (.slice A_2 d0_2.length cap_2) d0_2.length cs_1) :: (Ent.obj m0_3 (mapO (Value.int .i64) (fun x : TC0 => Value.agg #[.bool x.fEnded, .bool x.fOk, S x.fPhys]) d0_3)) :: H)) (.quiet 0 (.quiet 1 (.quiet 2 (.quiet 3 (.quiet 5 (.quiet 6 (.quiet 8 (.quiet 9 (.quiet 10 (.quiet 12 (.quiet 13 (.alt 4 (.alt 7 (.alt 11 (.alt 14 (.alt 15 (.quiet 16 (.quiet 17 (.alt 18 .done .none))) .none) .none) .none) (.alt 11 (.alt 7 (.alt 14 (.alt 15 (.quiet 16 (.quiet 17 (.alt 18 .done .none))) .none) .none) (.alt 14 (.alt 7 (.alt 15 (.quiet 16 (.quiet 17 (.alt 18 .done .none))) .none) .none) .none)) .none)) (.alt 11 (.alt 4 (.alt 7 (.alt 14 (.alt 15 (.quiet 16 (.quiet 17 (.alt 18 .done .none))) .none) .none) (.alt 14 (.alt 7 (.alt 15 (.quiet 16 (.quiet 17 (.alt 18 .done .none))) .none) .none) .none)) (.alt 14 (.alt 4 (.alt 7 (.alt 15 (.quiet 16 (.quiet 17 (.alt 18 .done .none))) .none) .none) .none) .none)) .none))))))))))))) p_15 (by kernel_rfl) (by kernel_rfl) (by kernel_rfl) (Y1 (v := .pointer (some (⟨b0, 0, none⟩))) rfl f rfl rfl (fun _ _ => by kernel_rfl) fun _ f => Y1 (v := .pointer (some (⟨b0, 0, none⟩))) rfl f rfl rfl (fun _ _ => by kernel_rfl) fun _ f => Y1 (v := .pointer (some (⟨b0, 0, none⟩))) rfl f rfl rfl (fun _ _ => by kernel_rfl) fun _ f => Y1 (v := .pointer (some (⟨b0, 4, none⟩))) rfl f rfl rfl (fun _ _ => by kernel_rfl) fun _ f => Y1 (v := .int .i64 d1) rfl f rfl rfl (fun _ _ => by kernel_rfl) fun _ f => Y1 (v := .int .i64 d1) rfl f rfl rfl (fun _ _ => by kernel_rfl) fun _ f => Y1 (v := .pointer (some (⟨b0, 0, none⟩))) rfl f rfl rfl (fun _ _ => by kernel_rfl) fun _ f => Y1 (v := .pointer (some (⟨b0, 0, none⟩))) rfl f rfl rfl (fun _ _ => by kernel_rfl) fun _ f => Y1 (v := .pointer (some (⟨b0, 4, none⟩))) rfl f rfl rfl (fun _ _ => by kernel_rfl) fun _ f => Y1 (v := .int .i64 d1) rfl f rfl rfl (fun _ _ => by kernel_rfl) fun _ f => ?_)
    refine Y1 (v := .int .i64 (IntKind.wrap .i64 (d1 + 1))) rfl f rfl rfl (fun _ pq => by kernel_rfl) fun _ f => ?_
    have f := f.st 45 (congrArg (Value.int .i64) (inR_wrap g_1))
    refine N_alt rfl (fun w_9 p_16 => ?_) ?_
    ·refine Z f (Y33 (v := .slice A_3 d0_4.length cap_3) rfl (ad := ⟨b0, 4, none⟩) (p_16.ownCell 0 rfl 4)) fun _ f => W_end rfl (N_goN 2 (mR _) p_16 rfl (N_alt rfl (fun w_10 p_17 => ?_) ?_))
     ·obtain ⟨A_8, cap_9, hv_4, hcap_4, hcn_3⟩ := p_17.rowShape 1 rfl
      have f := f.st 36 (hv_4)
      refine Z (v := .slice (cutA A_8 5 0 d1.toNat) d1.toNat d1.toNat) f (Y36 rfl (A := A_8) (len := d0_4.length) (cap := cap_9) (k := .i64) (k' := .i64) (b := d1) (e := 42) (sz := 5) g_2.1 (by omega)) fun _ f => ?_
      have f := f.st 36 (hv_4.symm)
      refine W_end rfl (N_goN 2 (mR _) p_17 rfl (N_alt rfl (fun w_11 p_18 => ?_) ?_))
      ·refine Z f (Y33 (v := .slice A_3 d0_4.length cap_3) rfl (ad := ⟨b0, 4, none⟩) (p_18.ownCell 0 rfl 4)) fun _ f => W_end rfl (N_goN 2 (mR _) p_18 rfl (N_alt rfl (fun w_12 p_19 => ?_) ?_))
       ·obtain ⟨A_9, cap_10, hv_5, hcap_5, hcn_4⟩ := p_19.rowShape 1 rfl
        have f := f.st 43 (hv_5)
        refine Z f (Y37 rfl (A := A_9) (len := d0_4.length) (cap := cap_10) (k := .i64) (a := d1 + 1) (e := 42) (sz := 5) (by omega) (by omega)) fun _ f => ?_
        have f := f.st 43 (hv_5.symm)
        refine W_end rfl (N_goN 2 (mR _) p_19 rfl (N_alt rfl (fun w_13 p_20 => ?_) ?_))
        ·have p_21 := p_20.pl [1]
         have he_2 := Value.slice.inj (hv_5.symm.trans hv_4)
         have f := Frm.set f 46 (v := .slice (cutA A_9 5 (d1 + 1).toNat cap_10) (d0_4.length - (d1 + 1).toNat) (cap_10 - (d1 + 1).toNat)) (v' := .slice (cutA A_8 5 (d1.toNat + 1) cap_9) (d0_4.length - (d1.toNat + 1)) (cap_9 - (d1.toNat + 1))) (by kernel_rfl) (by rw [g_4.1, he_2.1, he_2.2.2])
         refine W_rowRemove3 (z := .agg #[.int .i64 0, .int .i8 0, S [], S [], .slice none 0 0]) (bytes := 72) (f := emb_TG0) (xs := d0_4) (k := d1.toNat) f p_21 szd_TG0 (RepSeq.mono hM_1 _ _ hr_2) hv_4 g_4.2 (by kernel_rfl) (by kernel_rfl) rfl rfl rfl (by kernel_rfl) (by kernel_rfl) (by kernel_rfl) (by kernel_rfl) g_5 (by omega) fun A_10 cap_11 cs_4 w_14 p_22 hr_5 _ f => W_end rfl (N_goN 2 (mR _) p_22 rfl (Y1 (v := .pointer (some (⟨b0, 0, none⟩))) rfl f rfl rfl (fun _ _ => by kernel_rfl) fun _ f => Y1 (v := .pointer (some (⟨b0, 4, none⟩))) rfl f rfl rfl (fun _ _ => by kernel_rfl) fun _ f => N_alt rfl (fun w_15 p_23 => ?_) ?_))
         ·refine Y27 f p_23 1 rfl rfl (b := b0) (j := 4) (v := .slice A_10 (d0_4.take d1.toNat ++ d0_4.drop (d1.toNat + 1)).length cap_11) rfl (by exact rfl) (by simp) (by simp) ((Ent.row 42 5 (.slice A_10 (d0_4.take d1.toNat ++ d0_4.drop (d1.toNat + 1)).length cap_11) (d0_4.take d1.toNat ++ d0_4.drop (d1.toNat + 1)).length cs_4) :: (Ent.obj b0 (.cells #[.slice A_1 d0_0.length cap_1, .int .i64 d0_1, .slice A_2 d0_2.length cap_2, .map (some m0_3), .slice A_10 (d0_4.take d1.toNat ++ d0_4.drop (d1.toNat + 1)).length cap_11, .int .i64 d0_5] 82 (0, 0))) :: (Ent.obj b_3 (.cells #[.int .i64 x_1.fToken, .int .i8 x_1.fKind, S x_1.fPhys, S x_1.fType, .slice A_4 x_1.fProps.length cap_5] 42 (0, 0))) :: (Ent.obj b_1 (.cells #[.bool false, .bool false, S []] 45 (0, 0))) :: (Ent.row 42 5 (.slice A_2 d0_2.length cap_2) d0_2.length cs_1) :: (Ent.obj m0_3 (mapO (Value.int .i64) (fun x : TC0 => Value.agg #[.bool x.fEnded, .bool x.fOk, S x.fPhys]) d0_3)) :: H) rfl fun w_16 p_24 _ f => W_end rfl (N_goN 2 (mR _) p_24 rfl (N_end fun w_17 p_25 => T_n ?_))
          exact ⟨d0_4.take d1.toNat ++ d0_4.drop (d1.toNat + 1), (sI hF_12).symm, M_1, (mR _), A_10, cap_11, cs_4, hr_5, f.kp, p_25⟩
         exact N_none
        exact N_none
       exact N_none
      exact N_none
     refine N_alt rfl (fun w_18 p_26 => ?_) ?_
     ·refine Z f (Y33 (v := .slice A_3 d0_4.length cap_3) rfl (ad := ⟨b0, 4, none⟩) (p_26.ownCell 0 rfl 4)) fun _ f => W_end rfl (N_goN 2 (mR _) p_26 rfl (N_alt rfl (fun w_19 p_27 => ?_) ?_))
      ·obtain ⟨A_11, cap_12, hv_6, hcap_6, hcn_5⟩ := p_27.rowShape 1 rfl
       have f := f.st 36 (hv_6)
       refine Z (v := .slice (cutA A_11 5 0 d1.toNat) d1.toNat d1.toNat) f (Y36 rfl (A := A_11) (len := d0_4.length) (cap := cap_12) (k := .i64) (k' := .i64) (b := d1) (e := 42) (sz := 5) g_2.1 (by omega)) fun _ f => ?_
       have f := f.st 36 (hv_6.symm)
       refine W_end rfl (N_goN 2 (mR _) p_27 rfl (N_alt rfl (fun w_20 p_28 => ?_) ?_))
       ·obtain ⟨A_12, cap_13, hv_7, hcap_7, hcn_6⟩ := p_28.rowShape 1 rfl
        have f := f.st 43 (hv_7)
        refine Z f (Y37 rfl (A := A_12) (len := d0_4.length) (cap := cap_13) (k := .i64) (a := d1 + 1) (e := 42) (sz := 5) (by omega) (by omega)) fun _ f => ?_
        have f := f.st 43 (hv_7.symm)
        refine W_end rfl (N_goN 2 (mR _) p_28 rfl (N_alt rfl (fun w_21 p_29 => ?_) ?_))
        ·have p_30 := p_29.pl [1]
         have he_3 := Value.slice.inj (hv_7.symm.trans hv_6)
         have f := Frm.set f 46 (v := .slice (cutA A_12 5 (d1 + 1).toNat cap_13) (d0_4.length - (d1 + 1).toNat) (cap_13 - (d1 + 1).toNat)) (v' := .slice (cutA A_11 5 (d1.toNat + 1) cap_12) (d0_4.length - (d1.toNat + 1)) (cap_12 - (d1.toNat + 1))) (by kernel_rfl) (by rw [g_4.1, he_3.1, he_3.2.2])
         refine W_rowRemove3 (z := .agg #[.int .i64 0, .int .i8 0, S [], S [], .slice none 0 0]) (bytes := 72) (f := emb_TG0) (xs := d0_4) (k := d1.toNat) f p_30 szd_TG0 (RepSeq.mono hM_1 _ _ hr_2) hv_6 g_4.2 (by kernel_rfl) (by kernel_rfl) rfl rfl rfl (by kernel_rfl) (by kernel_rfl) (by kernel_rfl) (by kernel_rfl) g_5 (by omega) fun A_13 cap_14 cs_5 w_22 p_31 hr_6 _ f => W_end rfl (N_goN 2 (mR _) p_31 rfl (Y1 (v := .pointer (some (⟨b0, 0, none⟩))) rfl f rfl rfl (fun _ _ => by kernel_rfl) fun _ f => Y1 (v := .pointer (some (⟨b0, 4, none⟩))) rfl f rfl rfl (fun _ _ => by kernel_rfl) fun _ f => N_alt rfl (fun w_23 p_32 => ?_) ?_))
         ·refine Y27 f p_32 1 rfl rfl (b := b0) (j := 4) (v := .slice A_13 (d0_4.take d1.toNat ++ d0_4.drop (d1.toNat + 1)).length cap_14) rfl (by exact rfl) (by simp) (by simp) ((Ent.row 42 5 (.slice A_13 (d0_4.take d1.toNat ++ d0_4.drop (d1.toNat + 1)).length cap_14) (d0_4.take d1.toNat ++ d0_4.drop (d1.toNat + 1)).length cs_5) :: (Ent.obj b0 (.cells #[.slice A_1 d0_0.length cap_1, .int .i64 d0_1, .slice A_2 d0_2.length cap_2, .map (some m0_3), .slice A_13 (d0_4.take d1.toNat ++ d0_4.drop (d1.toNat + 1)).length cap_14, .int .i64 d0_5] 82 (0, 0))) :: (Ent.obj b_3 (.cells #[.int .i64 x_1.fToken, .int .i8 x_1.fKind, S x_1.fPhys, S x_1.fType, .slice A_4 x_1.fProps.length cap_5] 42 (0, 0))) :: (Ent.obj b_1 (.cells #[.bool false, .bool false, S []] 45 (0, 0))) :: (Ent.row 42 5 (.slice A_2 d0_2.length cap_2) d0_2.length cs_1) :: (Ent.obj m0_3 (mapO (Value.int .i64) (fun x : TC0 => Value.agg #[.bool x.fEnded, .bool x.fOk, S x.fPhys]) d0_3)) :: H) rfl fun w_24 p_33 _ f => W_end rfl (N_goN 2 (mR _) p_33 rfl (N_end fun w_25 p_34 => T_n ?_))
          exact ⟨d0_4.take d1.toNat ++ d0_4.drop (d1.toNat + 1), (sI hF_12).symm, M_1, (mR _), A_13, cap_14, cs_5, hr_6, f.kp, p_34⟩
         exact N_none
        exact N_none
       exact N_none
      refine N_alt rfl (fun w_26 p_35 => ?_) ?_
      ·obtain ⟨A_14, cap_15, hv_8, hcap_8, hcn_7⟩ := p_35.rowShape 1 rfl
       have f := f.st 43 (hv_8)
       refine Z f (Y37 rfl (A := A_14) (len := d0_4.length) (cap := cap_15) (k := .i64) (a := d1 + 1) (e := 42) (sz := 5) (by omega) (by omega)) fun _ f => ?_
       have f := f.st 43 (hv_8.symm)
       refine W_end rfl (N_goN 2 (mR _) p_35 rfl (N_alt rfl (fun w_27 p_36 => ?_) ?_))
       ·obtain ⟨A_15, cap_16, hv_9, hcap_9, hcn_8⟩ := p_36.rowShape 1 rfl
        have f := f.st 36 (hv_9)
        refine Z (v := .slice (cutA A_15 5 0 d1.toNat) d1.toNat d1.toNat) f (Y36 rfl (A := A_15) (len := d0_4.length) (cap := cap_16) (k := .i64) (k' := .i64) (b := d1) (e := 42) (sz := 5) g_2.1 (by omega)) fun _ f => ?_
        have f := f.st 36 (hv_9.symm)
        refine W_end rfl (N_goN 2 (mR _) p_36 rfl (N_alt rfl (fun w_28 p_37 => ?_) ?_))
        ·have p_38 := p_37.pl [1]
         have he_4 := Value.slice.inj (hv_8.symm.trans hv_9)
         have f := Frm.set f 46 (v := .slice (cutA A_14 5 (d1 + 1).toNat cap_15) (d0_4.length - (d1 + 1).toNat) (cap_15 - (d1 + 1).toNat)) (v' := .slice (cutA A_15 5 (d1.toNat + 1) cap_16) (d0_4.length - (d1.toNat + 1)) (cap_16 - (d1.toNat + 1))) (by kernel_rfl) (by rw [g_4.1, he_4.1, he_4.2.2])
         refine W_rowRemove3 (z := .agg #[.int .i64 0, .int .i8 0, S [], S [], .slice none 0 0]) (bytes := 72) (f := emb_TG0) (xs := d0_4) (k := d1.toNat) f p_38 szd_TG0 (RepSeq.mono hM_1 _ _ hr_2) hv_9 g_4.2 (by kernel_rfl) (by kernel_rfl) rfl rfl rfl (by kernel_rfl) (by kernel_rfl) (by kernel_rfl) (by kernel_rfl) g_5 (by omega) fun A_16 cap_17 cs_6 w_29 p_39 hr_7 _ f => W_end rfl (N_goN 2 (mR _) p_39 rfl (Y1 (v := .pointer (some (⟨b0, 0, none⟩))) rfl f rfl rfl (fun _ _ => by kernel_rfl) fun _ f => Y1 (v := .pointer (some (⟨b0, 4, none⟩))) rfl f rfl rfl (fun _ _ => by kernel_rfl) fun _ f => N_alt rfl (fun w_30 p_40 => ?_) ?_))
         ·refine Y27 f p_40 1 rfl rfl (b := b0) (j := 4) (v := .slice A_16 (d0_4.take d1.toNat ++ d0_4.drop (d1.toNat + 1)).length cap_17) rfl (by exact rfl) (by simp) (by simp) ((Ent.row 42 5 (.slice A_16 (d0_4.take d1.toNat ++ d0_4.drop (d1.toNat + 1)).length cap_17) (d0_4.take d1.toNat ++ d0_4.drop (d1.toNat + 1)).length cs_6) :: (Ent.obj b0 (.cells #[.slice A_1 d0_0.length cap_1, .int .i64 d0_1, .slice A_2 d0_2.length cap_2, .map (some m0_3), .slice A_16 (d0_4.take d1.toNat ++ d0_4.drop (d1.toNat + 1)).length cap_17, .int .i64 d0_5] 82 (0, 0))) :: (Ent.obj b_3 (.cells #[.int .i64 x_1.fToken, .int .i8 x_1.fKind, S x_1.fPhys, S x_1.fType, .slice A_4 x_1.fProps.length cap_5] 42 (0, 0))) :: (Ent.obj b_1 (.cells #[.bool false, .bool false, S []] 45 (0, 0))) :: (Ent.row 42 5 (.slice A_2 d0_2.length cap_2) d0_2.length cs_1) :: (Ent.obj m0_3 (mapO (Value.int .i64) (fun x : TC0 => Value.agg #[.bool x.fEnded, .bool x.fOk, S x.fPhys]) d0_3)) :: H) rfl fun w_31 p_41 _ f => W_end rfl (N_goN 2 (mR _) p_41 rfl (N_end fun w_32 p_42 => T_n ?_))
          exact ⟨d0_4.take d1.toNat ++ d0_4.drop (d1.toNat + 1), (sI hF_12).symm, M_1, (mR _), A_16, cap_17, cs_6, hr_7, f.kp, p_42⟩
         exact N_none
        exact N_none
       exact N_none
      exact N_none
     exact N_none
    refine N_alt rfl (fun w_33 p_43 => ?_) ?_
    ·refine Z f (Y33 (v := .slice A_3 d0_4.length cap_3) rfl (ad := ⟨b0, 4, none⟩) (p_43.ownCell 0 rfl 4)) fun _ f => W_end rfl (N_goN 2 (mR _) p_43 rfl (N_alt rfl (fun w_34 p_44 => ?_) ?_))
     ·refine Z f (Y33 (v := .slice A_3 d0_4.length cap_3) rfl (ad := ⟨b0, 4, none⟩) (p_44.ownCell 0 rfl 4)) fun _ f => W_end rfl (N_goN 2 (mR _) p_44 rfl (N_alt rfl (fun w_35 p_45 => ?_) ?_))
      ·obtain ⟨A_17, cap_18, hv_10, hcap_10, hcn_9⟩ := p_45.rowShape 1 rfl
       have f := f.st 36 (hv_10)
       refine Z (v := .slice (cutA A_17 5 0 d1.toNat) d1.toNat d1.toNat) f (Y36 rfl (A := A_17) (len := d0_4.length) (cap := cap_18) (k := .i64) (k' := .i64) (b := d1) (e := 42) (sz := 5) g_2.1 (by omega)) fun _ f => ?_
       have f := f.st 36 (hv_10.symm)
       refine W_end rfl (N_goN 2 (mR _) p_45 rfl (N_alt rfl (fun w_36 p_46 => ?_) ?_))
       ·obtain ⟨A_18, cap_19, hv_11, hcap_11, hcn_10⟩ := p_46.rowShape 1 rfl
        have f := f.st 43 (hv_11)
        refine Z f (Y37 rfl (A := A_18) (len := d0_4.length) (cap := cap_19) (k := .i64) (a := d1 + 1) (e := 42) (sz := 5) (by omega) (by omega)) fun _ f => ?_
        have f := f.st 43 (hv_11.symm)
        refine W_end rfl (N_goN 2 (mR _) p_46 rfl (N_alt rfl (fun w_37 p_47 => ?_) ?_))
        ·have p_48 := p_47.pl [1]
         have he_5 := Value.slice.inj (hv_11.symm.trans hv_10)
         have f := Frm.set f 46 (v := .slice (cutA A_18 5 (d1 + 1).toNat cap_19) (d0_4.length - (d1 + 1).toNat) (cap_19 - (d1 + 1).toNat)) (v' := .slice (cutA A_17 5 (d1.toNat + 1) cap_18) (d0_4.length - (d1.toNat + 1)) (cap_18 - (d1.toNat + 1))) (by kernel_rfl) (by rw [g_4.1, he_5.1, he_5.2.2])
         refine W_rowRemove3 (z := .agg #[.int .i64 0, .int .i8 0, S [], S [], .slice none 0 0]) (bytes := 72) (f := emb_TG0) (xs := d0_4) (k := d1.toNat) f p_48 szd_TG0 (RepSeq.mono hM_1 _ _ hr_2) hv_10 g_4.2 (by kernel_rfl) (by kernel_rfl) rfl rfl rfl (by kernel_rfl) (by kernel_rfl) (by kernel_rfl) (by kernel_rfl) g_5 (by omega) fun A_19 cap_20 cs_7 w_38 p_49 hr_8 _ f => W_end rfl (N_goN 2 (mR _) p_49 rfl (Y1 (v := .pointer (some (⟨b0, 0, none⟩))) rfl f rfl rfl (fun _ _ => by kernel_rfl) fun _ f => Y1 (v := .pointer (some (⟨b0, 4, none⟩))) rfl f rfl rfl (fun _ _ => by kernel_rfl) fun _ f => N_alt rfl (fun w_39 p_50 => ?_) ?_))
         ·refine Y27 f p_50 1 rfl rfl (b := b0) (j := 4) (v := .slice A_19 (d0_4.take d1.toNat ++ d0_4.drop (d1.toNat + 1)).length cap_20) rfl (by exact rfl) (by simp) (by simp) ((Ent.row 42 5 (.slice A_19 (d0_4.take d1.toNat ++ d0_4.drop (d1.toNat + 1)).length cap_20) (d0_4.take d1.toNat ++ d0_4.drop (d1.toNat + 1)).length cs_7) :: (Ent.obj b0 (.cells #[.slice A_1 d0_0.length cap_1, .int .i64 d0_1, .slice A_2 d0_2.length cap_2, .map (some m0_3), .slice A_19 (d0_4.take d1.toNat ++ d0_4.drop (d1.toNat + 1)).length cap_20, .int .i64 d0_5] 82 (0, 0))) :: (Ent.obj b_3 (.cells #[.int .i64 x_1.fToken, .int .i8 x_1.fKind, S x_1.fPhys, S x_1.fType, .slice A_4 x_1.fProps.length cap_5] 42 (0, 0))) :: (Ent.obj b_1 (.cells #[.bool false, .bool false, S []] 45 (0, 0))) :: (Ent.row 42 5 (.slice A_2 d0_2.length cap_2) d0_2.length cs_1) :: (Ent.obj m0_3 (mapO (Value.int .i64) (fun x : TC0 => Value.agg #[.bool x.fEnded, .bool x.fOk, S x.fPhys]) d0_3)) :: H) rfl fun w_40 p_51 _ f => W_end rfl (N_goN 2 (mR _) p_51 rfl (N_end fun w_41 p_52 => T_n ?_))
          exact ⟨d0_4.take d1.toNat ++ d0_4.drop (d1.toNat + 1), (sI hF_12).symm, M_1, (mR _), A_19, cap_20, cs_7, hr_8, f.kp, p_52⟩
         exact N_none
        exact N_none
       exact N_none
      refine N_alt rfl (fun w_42 p_53 => ?_) ?_
      ·obtain ⟨A_20, cap_21, hv_12, hcap_12, hcn_11⟩ := p_53.rowShape 1 rfl
       have f := f.st 43 (hv_12)
       refine Z f (Y37 rfl (A := A_20) (len := d0_4.length) (cap := cap_21) (k := .i64) (a := d1 + 1) (e := 42) (sz := 5) (by omega) (by omega)) fun _ f => ?_
       have f := f.st 43 (hv_12.symm)
       refine W_end rfl (N_goN 2 (mR _) p_53 rfl (N_alt rfl (fun w_43 p_54 => ?_) ?_))
       ·obtain ⟨A_21, cap_22, hv_13, hcap_13, hcn_12⟩ := p_54.rowShape 1 rfl
        have f := f.st 36 (hv_13)
        refine Z (v := .slice (cutA A_21 5 0 d1.toNat) d1.toNat d1.toNat) f (Y36 rfl (A := A_21) (len := d0_4.length) (cap := cap_22) (k := .i64) (k' := .i64) (b := d1) (e := 42) (sz := 5) g_2.1 (by omega)) fun _ f => ?_
        have f := f.st 36 (hv_13.symm)
        refine W_end rfl (N_goN 2 (mR _) p_54 rfl (N_alt rfl (fun w_44 p_55 => ?_) ?_))
        ·have p_56 := p_55.pl [1]
         have he_6 := Value.slice.inj (hv_12.symm.trans hv_13)
         have f := Frm.set f 46 (v := .slice (cutA A_20 5 (d1 + 1).toNat cap_21) (d0_4.length - (d1 + 1).toNat) (cap_21 - (d1 + 1).toNat)) (v' := .slice (cutA A_21 5 (d1.toNat + 1) cap_22) (d0_4.length - (d1.toNat + 1)) (cap_22 - (d1.toNat + 1))) (by kernel_rfl) (by rw [g_4.1, he_6.1, he_6.2.2])
         refine W_rowRemove3 (z := .agg #[.int .i64 0, .int .i8 0, S [], S [], .slice none 0 0]) (bytes := 72) (f := emb_TG0) (xs := d0_4) (k := d1.toNat) f p_56 szd_TG0 (RepSeq.mono hM_1 _ _ hr_2) hv_13 g_4.2 (by kernel_rfl) (by kernel_rfl) rfl rfl rfl (by kernel_rfl) (by kernel_rfl) (by kernel_rfl) (by kernel_rfl) g_5 (by omega) fun A_22 cap_23 cs_8 w_45 p_57 hr_9 _ f => W_end rfl (N_goN 2 (mR _) p_57 rfl (Y1 (v := .pointer (some (⟨b0, 0, none⟩))) rfl f rfl rfl (fun _ _ => by kernel_rfl) fun _ f => Y1 (v := .pointer (some (⟨b0, 4, none⟩))) rfl f rfl rfl (fun _ _ => by kernel_rfl) fun _ f => N_alt rfl (fun w_46 p_58 => ?_) ?_))
         ·refine Y27 f p_58 1 rfl rfl (b := b0) (j := 4) (v := .slice A_22 (d0_4.take d1.toNat ++ d0_4.drop (d1.toNat + 1)).length cap_23) rfl (by exact rfl) (by simp) (by simp) ((Ent.row 42 5 (.slice A_22 (d0_4.take d1.toNat ++ d0_4.drop (d1.toNat + 1)).length cap_23) (d0_4.take d1.toNat ++ d0_4.drop (d1.toNat + 1)).length cs_8) :: (Ent.obj b0 (.cells #[.slice A_1 d0_0.length cap_1, .int .i64 d0_1, .slice A_2 d0_2.length cap_2, .map (some m0_3), .slice A_22 (d0_4.take d1.toNat ++ d0_4.drop (d1.toNat + 1)).length cap_23, .int .i64 d0_5] 82 (0, 0))) :: (Ent.obj b_3 (.cells #[.int .i64 x_1.fToken, .int .i8 x_1.fKind, S x_1.fPhys, S x_1.fType, .slice A_4 x_1.fProps.length cap_5] 42 (0, 0))) :: (Ent.obj b_1 (.cells #[.bool false, .bool false, S []] 45 (0, 0))) :: (Ent.row 42 5 (.slice A_2 d0_2.length cap_2) d0_2.length cs_1) :: (Ent.obj m0_3 (mapO (Value.int .i64) (fun x : TC0 => Value.agg #[.bool x.fEnded, .bool x.fOk, S x.fPhys]) d0_3)) :: H) rfl fun w_47 p_59 _ f => W_end rfl (N_goN 2 (mR _) p_59 rfl (N_end fun w_48 p_60 => T_n ?_))
          exact ⟨d0_4.take d1.toNat ++ d0_4.drop (d1.toNat + 1), (sI hF_12).symm, M_1, (mR _), A_22, cap_23, cs_8, hr_9, f.kp, p_60⟩
         exact N_none
        exact N_none
       exact N_none
      exact N_none
     refine N_alt rfl (fun w_49 p_61 => ?_) ?_
     ·obtain ⟨A_23, cap_24, hv_14, hcap_14, hcn_13⟩ := p_61.rowShape 1 rfl
      have f := f.st 43 (hv_14)
      refine Z f (Y37 rfl (A := A_23) (len := d0_4.length) (cap := cap_24) (k := .i64) (a := d1 + 1) (e := 42) (sz := 5) (by omega) (by omega)) fun _ f => ?_
      have f := f.st 43 (hv_14.symm)
      refine W_end rfl (N_goN 2 (mR _) p_61 rfl (N_alt rfl (fun w_50 p_62 => ?_) ?_))
      ·refine Z f (Y33 (v := .slice A_3 d0_4.length cap_3) rfl (ad := ⟨b0, 4, none⟩) (p_62.ownCell 0 rfl 4)) fun _ f => W_end rfl (N_goN 2 (mR _) p_62 rfl (N_alt rfl (fun w_51 p_63 => ?_) ?_))
       ·obtain ⟨A_24, cap_25, hv_15, hcap_15, hcn_14⟩ := p_63.rowShape 1 rfl
        have f := f.st 36 (hv_15)
        refine Z (v := .slice (cutA A_24 5 0 d1.toNat) d1.toNat d1.toNat) f (Y36 rfl (A := A_24) (len := d0_4.length) (cap := cap_25) (k := .i64) (k' := .i64) (b := d1) (e := 42) (sz := 5) g_2.1 (by omega)) fun _ f => ?_
        have f := f.st 36 (hv_15.symm)
        refine W_end rfl (N_goN 2 (mR _) p_63 rfl (N_alt rfl (fun w_52 p_64 => ?_) ?_))
        ·have p_65 := p_64.pl [1]
         have he_7 := Value.slice.inj (hv_14.symm.trans hv_15)
         have f := Frm.set f 46 (v := .slice (cutA A_23 5 (d1 + 1).toNat cap_24) (d0_4.length - (d1 + 1).toNat) (cap_24 - (d1 + 1).toNat)) (v' := .slice (cutA A_24 5 (d1.toNat + 1) cap_25) (d0_4.length - (d1.toNat + 1)) (cap_25 - (d1.toNat + 1))) (by kernel_rfl) (by rw [g_4.1, he_7.1, he_7.2.2])
         refine W_rowRemove3 (z := .agg #[.int .i64 0, .int .i8 0, S [], S [], .slice none 0 0]) (bytes := 72) (f := emb_TG0) (xs := d0_4) (k := d1.toNat) f p_65 szd_TG0 (RepSeq.mono hM_1 _ _ hr_2) hv_15 g_4.2 (by kernel_rfl) (by kernel_rfl) rfl rfl rfl (by kernel_rfl) (by kernel_rfl) (by kernel_rfl) (by kernel_rfl) g_5 (by omega) fun A_25 cap_26 cs_9 w_53 p_66 hr_10 _ f => W_end rfl (N_goN 2 (mR _) p_66 rfl (Y1 (v := .pointer (some (⟨b0, 0, none⟩))) rfl f rfl rfl (fun _ _ => by kernel_rfl) fun _ f => Y1 (v := .pointer (some (⟨b0, 4, none⟩))) rfl f rfl rfl (fun _ _ => by kernel_rfl) fun _ f => N_alt rfl (fun w_54 p_67 => ?_) ?_))
         ·refine Y27 f p_67 1 rfl rfl (b := b0) (j := 4) (v := .slice A_25 (d0_4.take d1.toNat ++ d0_4.drop (d1.toNat + 1)).length cap_26) rfl (by exact rfl) (by simp) (by simp) ((Ent.row 42 5 (.slice A_25 (d0_4.take d1.toNat ++ d0_4.drop (d1.toNat + 1)).length cap_26) (d0_4.take d1.toNat ++ d0_4.drop (d1.toNat + 1)).length cs_9) :: (Ent.obj b0 (.cells #[.slice A_1 d0_0.length cap_1, .int .i64 d0_1, .slice A_2 d0_2.length cap_2, .map (some m0_3), .slice A_25 (d0_4.take d1.toNat ++ d0_4.drop (d1.toNat + 1)).length cap_26, .int .i64 d0_5] 82 (0, 0))) :: (Ent.obj b_3 (.cells #[.int .i64 x_1.fToken, .int .i8 x_1.fKind, S x_1.fPhys, S x_1.fType, .slice A_4 x_1.fProps.length cap_5] 42 (0, 0))) :: (Ent.obj b_1 (.cells #[.bool false, .bool false, S []] 45 (0, 0))) :: (Ent.row 42 5 (.slice A_2 d0_2.length cap_2) d0_2.length cs_1) :: (Ent.obj m0_3 (mapO (Value.int .i64) (fun x : TC0 => Value.agg #[.bool x.fEnded, .bool x.fOk, S x.fPhys]) d0_3)) :: H) rfl fun w_55 p_68 _ f => W_end rfl (N_goN 2 (mR _) p_68 rfl (N_end fun w_56 p_69 => T_n ?_))
          exact ⟨d0_4.take d1.toNat ++ d0_4.drop (d1.toNat + 1), (sI hF_12).symm, M_1, (mR _), A_25, cap_26, cs_9, hr_10, f.kp, p_69⟩
         exact N_none
        exact N_none
       exact N_none
      exact N_none
     exact N_none
    exact N_none
   ·rintro a_85 w_57 ⟨y_2, hq_2, M_2, hM_2, A_26, cap_27, cs_10, hr_11, f, p_70⟩
    subst j_2
    refine T_n (R_seq (RR (Y f 1 fun _ f => Y27 f p_70 3 rfl rfl (b := b_1) (j := 0) (v := .bool true) rfl (by exact rfl) (by simp) (by simp) ((Ent.row 42 5 (.slice A_26 y_2.length cap_27) y_2.length cs_10) :: (Ent.obj b0 (.cells #[.slice A_1 d0_0.length cap_1, .int .i64 d0_1, .slice A_2 d0_2.length cap_2, .map (some m0_3), .slice A_26 y_2.length cap_27, .int .i64 d0_5] 82 (0, 0))) :: (Ent.obj b_3 (.cells #[.int .i64 x_1.fToken, .int .i8 x_1.fKind, S x_1.fPhys, S x_1.fType, .slice A_4 x_1.fProps.length cap_5] 42 (0, 0))) :: (Ent.obj b_1 (.cells #[.bool true, .bool false, S []] 45 (0, 0))) :: (Ent.row 42 5 (.slice A_2 d0_2.length cap_2) d0_2.length cs_1) :: (Ent.obj m0_3 (mapO (Value.int .i64) (fun x : TC0 => Value.agg #[.bool x.fEnded, .bool x.fOk, S x.fPhys]) d0_3)) :: H) rfl fun w_58 p_71 _ f => eT (RR (Y f 1 fun _ f => eT ?_)))))
    obtain ⟨j_3, hj_3, hF_13⟩ := bS hF_7
    refine R_mid (fun a_92 w_61 => ∃ y_3 : Bool × Bool × List UInt8 × List TD0 × Int × List TG0 × List TG0 × Int × Int × Int × List UInt8 × List UInt8 × List TF0 × (List (Int × TC0)), j_3 = y_3 ∧ ∃ M_4 : Mem, M_2.le M_4 ∧ ∃ (A_31 : Option Addr), ∃ (cap_32 : Nat), ∃ (A_32 : Option Addr), ∃ (cap_33 : Nat), ∃ (cs_13 : List Value), ∃ (A_33 : Option Addr), ∃ (cap_34 : Nat), ∃ (cs_14 : List Value), ∃ (A_34 : Option Addr), ∃ (cap_35 : Nat), Sli M_4 3 emb_TD0 A_31 cap_32 y_3.2.2.2.1 ∧ RepSeq M_4 (y_3.2.2.2.2.2.1.map emb_TG0) cs_13 ∧ RepSeq M_4 (y_3.2.2.2.2.2.2.1.map emb_TG0) cs_14 ∧ Sli M_4 8 emb_TF0 A_34 cap_35 y_3.2.2.2.2.2.2.2.2.2.2.2.2.1 ∧ Frm 64 [(0, .pointer (some (⟨b0, 0, none⟩))), (7, .pointer (some (⟨b_1, 0, none⟩))), (9, .pointer (some (⟨b_3, 0, none⟩)))] a_92 ∧ Hp w0 M_4 ((Ent.row 42 5 (.slice A_32 y_3.2.2.2.2.2.1.length cap_33) y_3.2.2.2.2.2.1.length cs_13) :: (Ent.row 42 5 (.slice A_33 y_3.2.2.2.2.2.2.1.length cap_34) y_3.2.2.2.2.2.2.1.length cs_14) :: (Ent.obj m0_3 (mapO (Value.int .i64) (fun x : TC0 => Value.agg #[.bool x.fEnded, .bool x.fOk, S x.fPhys]) y_3.2.2.2.2.2.2.2.2.2.2.2.2.2)) :: (Ent.obj b_1 (.cells #[.bool y_3.1, .bool y_3.2.1, S y_3.2.2.1] 45 (0, 0))) :: (Ent.obj b0 (.cells #[.slice A_31 y_3.2.2.2.1.length cap_32, .int .i64 y_3.2.2.2.2.1, .slice A_32 y_3.2.2.2.2.2.1.length cap_33, .map (some m0_3), .slice A_33 y_3.2.2.2.2.2.2.1.length cap_34, .int .i64 y_3.2.2.2.2.2.2.2.1] 82 (0, 0))) :: (Ent.obj b_3 (.cells #[.int .i64 y_3.2.2.2.2.2.2.2.2.1, .int .i8 y_3.2.2.2.2.2.2.2.2.2.1, S y_3.2.2.2.2.2.2.2.2.2.2.1, S y_3.2.2.2.2.2.2.2.2.2.2.2.1, .slice A_34 y_3.2.2.2.2.2.2.2.2.2.2.2.2.1.length cap_35] 42 (0, 0))) :: H) w_61) ?_ ?_
    ·refine RcF f hj_3 (fun h_5 hF_14 => ?_) fun h_5 hF_16 => ?_
     ·refine R_reg (Y f 1 fun _ f => ?_)
      obtain ⟨x_2, hx_2, hF_15⟩ := bS hF_14
      have p_77 := p_71.pl [2, 1, 5, 5, 4]
      refine Y17 (E := [Ent.obj b0 (.cells #[.slice A_1 d0_0.length cap_1, .int .i64 d0_1, .slice A_2 d0_2.length cap_2, .map (some m0_3), .slice A_26 y_2.length cap_27, .int .i64 d0_5] 82 (0, 0)), Ent.row 42 5 (.slice A_2 d0_2.length cap_2) d0_2.length cs_1, Ent.obj m0_3 (mapO (Value.int .i64) (fun x : TC0 => Value.agg #[.bool x.fEnded, .bool x.fOk, S x.fPhys]) d0_3), Ent.row 42 5 (.slice A_26 y_2.length cap_27) y_2.length cs_10, Ent.obj b_3 (.cells #[.int .i64 x_1.fToken, .int .i8 x_1.fKind, S x_1.fPhys, S x_1.fType, .slice A_4 x_1.fProps.length cap_5] 42 (0, 0))]) (H := ((Ent.obj b_1 (.cells #[.bool true, .bool false, S []] 45 (0, 0))) :: H)) f p_77 (cloud_Cloud_effect_ok n _ (GL.mono (hM_1.trans hM_2) hG) b0 d0_0 A_1 cap_1 (h_1.mono (hM_1.trans hM_2)) d0_1 d0_2 A_2 cap_2 cs_1 (RepSeq.mono (hM_1.trans hM_2) _ _ hr_1) m0_3 d0_3 y_2 A_26 cap_27 cs_10 hr_11 d0_5 b_3 x_1.fToken x_1.fKind x_1.fPhys x_1.fType x_1.fProps A_4 cap_5 (h_4.mono hM_2) x_2 hx_2) fun _ M_3 E_1 w_59 hM_3 p_72 q_1 _ f => ?_
      obtain ⟨c_2, A_27, cap_28, A_28, cap_29, cs_11, A_29, cap_30, cs_12, A_30, cap_31, rfl, rfl, hr_12, h_6, hr_13, hr_14, h_7⟩ := q_1
      obtain rfl := TC0.opn hr_12
      have p_78 := p_72.pl [5]
      refine Y28 (vs := [.bool x_2.1.fEnded, .bool x_2.1.fOk, S x_2.1.fPhys]) (j := 0) f p_78 rfl rfl (by simp [Value.oneCell', S]) (by simp) (by decide) (cs' := #[.bool x_2.1.fEnded, .bool x_2.1.fOk, S x_2.1.fPhys]) (by kernel_rfl) fun w_60 p_79 _ f => W_end rfl ?_
      have p_86 := p_79.pl [5, 2, 2, 4, 5, 5]
      refine T_n ?_
      exact ⟨((x_2.1.fEnded), (x_2.1.fOk), x_2.1.fPhys, x_2.2.1, x_2.2.2.1, x_2.2.2.2.1, x_2.2.2.2.2.2.1, x_2.2.2.2.2.2.2.1, x_2.2.2.2.2.2.2.2.1, x_2.2.2.2.2.2.2.2.2.1, x_2.2.2.2.2.2.2.2.2.2.1, x_2.2.2.2.2.2.2.2.2.2.2.1, x_2.2.2.2.2.2.2.2.2.2.2.2, x_2.2.2.2.2.1), (sI hF_15).symm, M_3, hM_3, A_27, cap_28, A_28, cap_29, cs_11, A_29, cap_30, cs_12, A_30, cap_31, h_6, hr_13, hr_14, h_7, f.kp, p_86⟩
     ·refine wp_skip ?_
      have p_92 := p_71.pl [2, 2, 3, 5, 4, 5]
      refine T_n ?_
      exact ⟨((true), (false), ([] : List UInt8), d0_0, d0_1, d0_2, y_2, d0_5, x_1.fToken, x_1.fKind, x_1.fPhys, x_1.fType, x_1.fProps, d0_3), (sI hF_16).symm, M_2, (mR _), A_1, cap_1, A_2, cap_2, cs_1, A_26, cap_27, cs_10, A_4, cap_5, (h_1.mono (hM_1.trans hM_2)), (RepSeq.mono (hM_1.trans hM_2) _ _ hr_1), hr_11, (h_4.mono hM_2), f.kp, p_92⟩
    ·rintro a_92 w_61 ⟨y_3, hq_3, M_4, hM_4, A_31, cap_32, A_32, cap_33, cs_13, A_33, cap_34, cs_14, A_34, cap_35, h_8, hr_15, hr_16, h_9, f, p_80⟩
     subst j_3
     refine T_n (R_seq (R_drawT 7 p_80 (by kernel_rfl) (by kernel_rfl) fun w_62 p_93 => ST_eq (v := .pointer (some (⟨b0, 0, none⟩))) f (by kernel_rfl) (by kernel_rfl) rfl rfl (by kernel_rfl) fun _ f => ST_eq (v := .pointer (some (⟨b0, 0, none⟩))) f (by kernel_rfl) (by kernel_rfl) rfl rfl (by kernel_rfl) fun _ f => ST_eq (v := .pointer (some (⟨b0, 3, none⟩))) f (by kernel_rfl) (by kernel_rfl) rfl rfl (by kernel_rfl) fun _ f => ST_eq (v := .map (some m0_3)) f (by kernel_rfl) (by kernel_rfl) rfl rfl (Y33 (v := .map (some m0_3)) rfl (ad := ⟨b0, 3, none⟩) (p_93.ownCell 4 rfl 3)) fun _ f => ST_eq (v := .pointer (some (⟨b_3, 0, none⟩))) f (by kernel_rfl) (by kernel_rfl) rfl rfl (by kernel_rfl) fun _ f => ST_eq (v := .int .i64 y_3.2.2.2.2.2.2.2.2.1) f (by kernel_rfl) (by kernel_rfl) rfl rfl (Y33 (v := .int .i64 y_3.2.2.2.2.2.2.2.2.1) rfl (ad := ⟨b_3, 0, none⟩) (p_93.ownCell 5 rfl 0)) fun _ f => ST_eq (v := .agg #[.bool y_3.1, .bool y_3.2.1, S y_3.2.2.1]) f (by kernel_rfl) (by kernel_rfl) rfl rfl (Y34 (cs := [.bool y_3.1, .bool y_3.2.1, S y_3.2.2.1]) rfl (ad := ⟨b_1, 0, none⟩) (own_cells (p_93.ownCell 3 rfl) 0 rfl)) fun _ f => ST_end rfl ?_))
     have p_94 := p_93.pl [2]
     refine W_mapput (ek := (Value.int .i64)) (ev := (fun x : TC0 => Value.agg #[.bool x.fEnded, .bool x.fOk, S x.fPhys])) (m := y_3.2.2.2.2.2.2.2.2.2.2.2.2.2) (k := y_3.2.2.2.2.2.2.2.2.1) (v := (⟨(y_3.1), (y_3.2.1), y_3.2.2.1⟩ : TC0)) (kt := 3) (et := 45) f p_94 (by kernel_rfl) (by kernel_rfl) rfl (.inl rfl) (by kernel_rfl) (by kernel_rfl) (by kernel_rfl) (by kernel_rfl) (intKey (by kernel_rfl)) fun w_63 p_95 _ f => eT (R_seq (R_drawT 4 p_95 (by kernel_rfl) (by kernel_rfl) fun w_64 p_96 => ST_eq (v := .pointer (some (⟨b_3, 0, none⟩))) f (by kernel_rfl) (by kernel_rfl) rfl rfl (by kernel_rfl) fun _ f => ST_eq (v := .int .i64 y_3.2.2.2.2.2.2.2.2.1) f (by kernel_rfl) (by kernel_rfl) rfl rfl (Y33 (v := .int .i64 y_3.2.2.2.2.2.2.2.2.1) rfl (ad := ⟨b_3, 0, none⟩) (p_96.ownCell 5 rfl 0)) fun _ f => ST_eq (v := .agg #[.bool y_3.1, .bool y_3.2.1, S y_3.2.2.1]) f (by kernel_rfl) (by kernel_rfl) rfl rfl (Y34 (cs := [.bool y_3.1, .bool y_3.2.1, S y_3.2.2.1]) rfl (ad := ⟨b_1, 0, none⟩) (own_cells (p_96.ownCell 3 rfl) 0 rfl)) fun _ f => ST_eq (v := .int .i64 y_3.2.2.2.2.2.2.2.2.1) f (by kernel_rfl) (by kernel_rfl) rfl rfl (by kernel_rfl) fun _ f => ST_end rfl ?_))
     have p_97 := p_96.pl [3]
     refine Y28 (vs := [.bool y_3.1, .bool y_3.2.1, S y_3.2.2.1]) (j := 0) f p_97 rfl rfl (by simp [Value.oneCell', S]) (by simp) (by decide) (cs' := #[.bool y_3.1, .bool y_3.2.1, S y_3.2.2.1]) (by kernel_rfl) fun w_65 p_98 _ f => Y f 1 fun _ f => eT (wp_ret (E_rv3 f rfl (Y11 (v := .int .i64 y_3.2.2.2.2.2.2.2.2.1) f) (Y10 (cs := [.bool y_3.1, .bool y_3.2.1, S y_3.2.2.1]) (ad := ⟨b_1, 0, none⟩) f (own_cells (p_98.ownCell 0 rfl) 0 rfl)) (Y11 (v := .int .i64 0) f) ?_))
     obtain rfl := sI hF_13
     have p_104 := p_98.pl [3, 2, 3, 4, 5, 5]
     exact ⟨_, rfl, M_4, _, ((hM_1.trans hM_2).trans hM_4), (p_104.dropN 2), ⟨[.bool y_3.1, .bool y_3.2.1, S y_3.2.2.1], A_31, cap_32, A_32, cap_33, cs_13, A_33, cap_34, cs_14, rfl, rfl, (TC0.shut), h_8, hr_15, hr_16⟩⟩
def cloud_Cloud_Made (n : Nat) (d0_0 : List TD0) (d0_1 : Int) (d0_2 : List TG0) (d0_3 : List (Int × TC0)) (d0_4 : List TG0) (d0_5 : Int) : Option (Int × List TD0 × Int × List TG0 × (List (Int × TC0)) × List TG0 × Int) :=
  some ((d0_5, d0_0, d0_1, d0_2, d0_3, d0_4, d0_5))
theorem cloud_Cloud_Made_ok (n : Nat) (M : Mem) (hG : GL M) (b0 : Nat) (d0_0 : List TD0) (A_1 : Option Addr) (cap_1 : Nat) (h_1 : Sli M 3 emb_TD0 A_1 cap_1 d0_0) (d0_1 : Int) (d0_2 : List TG0) (A_2 : Option Addr) (cap_2 : Nat) (cs_1 : List Value) (hr_1 : RepSeq M (d0_2.map emb_TG0) cs_1) (m0_3 : Nat) (d0_3 : List (Int × TC0)) (d0_4 : List TG0) (A_3 : Option Addr) (cap_3 : Nat) (cs_2 : List Value) (hr_2 : RepSeq M (d0_4.map emb_TG0) cs_2) (d0_5 : Int) (r : Int × List TD0 × Int × List TG0 × (List (Int × TC0)) × List TG0 × Int) (hF : cloud_Cloud_Made n d0_0 d0_1 d0_2 d0_3 d0_4 d0_5 = some r) : OkH Tryz.prog M [Ent.obj b0 (.cells #[.slice A_1 d0_0.length cap_1, .int .i64 d0_1, .slice A_2 d0_2.length cap_2, .map (some m0_3), .slice A_3 d0_4.length cap_3, .int .i64 d0_5] 82 (0, 0)), Ent.row 42 5 (.slice A_2 d0_2.length cap_2) d0_2.length cs_1, Ent.obj m0_3 (mapO (Value.int .i64) (fun x : TC0 => Value.agg #[.bool x.fEnded, .bool x.fOk, S x.fPhys]) d0_3), Ent.row 42 5 (.slice A_3 d0_4.length cap_3) d0_4.length cs_2] 24 [.pointer (some (⟨b0, 0, none⟩))] (fun M' E' v => ∃ (A_4 : Option Addr) (cap_4 : Nat) (A_5 : Option Addr) (cap_5 : Nat) (cs_3 : List Value) (A_6 : Option Addr) (cap_6 : Nat) (cs_4 : List Value), v = .int .i64 r.1 ∧ E' = [Ent.obj b0 (.cells #[.slice A_4 r.2.1.length cap_4, .int .i64 r.2.2.1, .slice A_5 r.2.2.2.1.length cap_5, .map (some m0_3), .slice A_6 r.2.2.2.2.2.1.length cap_6, .int .i64 r.2.2.2.2.2.2] 82 (0, 0)), Ent.row 42 5 (.slice A_5 r.2.2.2.1.length cap_5) r.2.2.2.1.length cs_3, Ent.obj m0_3 (mapO (Value.int .i64) (fun x : TC0 => Value.agg #[.bool x.fEnded, .bool x.fOk, S x.fPhys]) r.2.2.2.2.1), Ent.row 42 5 (.slice A_6 r.2.2.2.2.2.1.length cap_6) r.2.2.2.2.2.1.length cs_4] ∧ Sli M' 3 emb_TD0 A_4 cap_4 r.2.1 ∧ RepSeq M' (r.2.2.2.1.map emb_TG0) cs_3 ∧ RepSeq M' (r.2.2.2.2.2.1.map emb_TG0) cs_4) := by
 unfold cloud_Cloud_Made at hF
 intro M1 hM0 w0 H w p0
 replace hG := GL.mono hM0 hG
 replace h_1 := h_1.mono hM0
 replace hr_1 := RepSeq.mono hM0 _ _ hr_1
 replace hr_2 := RepSeq.mono hM0 _ _ hr_2
 refine R_enter 9 Tryz.func24 rfl rfl (by simp) fun a0 f0 => RR (Y f0 1 fun _ f => eT (R_seq (RR (Y f 1 fun _ f => Z (v := .bool false) f (X_ptrNil (q := some (⟨b0, 0, none⟩)) (e := 82) rfl (by kernel_rfl) (by kernel_rfl) (by kernel_rfl) _) fun _ f => eT (Y7 f (wp_skip (T_n (RR (Y f 3 fun _ f => Z f (Y33 (v := .int .i64 d0_5) rfl (ad := ⟨b0, 5, none⟩) (p0.ownCell 0 rfl 5)) fun _ f => ?_)))))))))
 refine Y f 1 fun _ f => eT (wp_ret (E_ret1 f rfl (by kernel_rfl : Vc.look _ 2 = some (.int .i64 d0_5)) ?_))
 obtain rfl := sI hF
 exact ⟨_, rfl, M1, _, (mR _), p0, ⟨A_1, cap_1, A_2, cap_2, cs_1, A_3, cap_3, cs_2, rfl, rfl, h_1, hr_1, hr_2⟩⟩
def slices_Cloneapi_Thing_api_Thing_z (n : Nat) (d0 : List TD0) (z0 : Bool) : Option (List TD0) :=
  bif z0 then
    (some (([] : List TD0)))
  else
    need ((([] : List TD0).length + d0.length) * 56 ≤ 140737488355328) <|
    some (([] : List TD0) ++ d0)
theorem slices_Cloneapi_Thing_api_Thing_z_ok (n : Nat) (M : Mem) (A0 : Option Addr) (cap0 : Nat) (d0 : List TD0) (h0 : Sli M 3 emb_TD0 A0 cap0 d0) (z0 : Bool) (hz0 : A0.isNone = z0) (r : List TD0) (hF : slices_Cloneapi_Thing_api_Thing_z n d0 z0 = some r) : OkH Tryz.prog M [] 43 [.slice A0 d0.length cap0] (fun M' E' v => ∃ (A0 : Option Addr) (k0 : Nat) (s0 : List Value), v = .slice A0 r.length k0 ∧ E' = [.row 54 3 (.slice A0 r.length k0) r.length s0] ∧ RepSeq M' (r.map emb_TD0) s0) := by
 unfold slices_Cloneapi_Thing_api_Thing_z at hF
 intro M1 hM0 w0 H w p0
 replace h0 := h0.mono hM0
 refine R_enter 8 Tryz.func43 rfl rfl (by simp) fun a0 f0 => RR (Y f0 1 fun _ f => eT (R_seq (RR (Y f 1 fun _ f => Z (v := .bool A0.isNone) f (X_slicenil (A := A0) (n := d0.length) (c := cap0) (e := 54) rfl (by kernel_rfl) (by kernel_rfl) (by kernel_rfl) _) fun _ f => ?_))))
 have f := Frm.set f 4 (v := .bool A0.isNone) (v' := .bool z0) (by kernel_rfl) (cB hz0)
 refine eT (RcF f hF (fun h_1 hF_1 => ?_) fun h_1 hF_2 => ?_)
 ·refine RR (Y f 1 fun _ f => eT (wp_ret (T_r ?_)))
  obtain ⟨A_1, cap_1, hv_1⟩ : ∃ A cap, Value.slice none 0 0 = .slice A ([] : List TD0).length cap := ⟨none, 0, rfl⟩
  have p_1 : Hp w0 M1 ((Ent.row 54 3 (.slice A_1 ([] : List TD0).length cap_1) ([] : List TD0).length []) :: H) w := by rw [← hv_1]; exact p0.nilRow 54 3
  have f := f.st 2 (hv_1)
  have hr_1 : RepSeq M1 (([] : List TD0).map emb_TD0) [] := rfl
  refine E_ret1 f rfl (by kernel_rfl : Vc.look _ 2 = some (.slice A_1 ([] : List TD0).length cap_1)) ?_
  obtain rfl := sI hF_1
  exact ⟨_, rfl, M1, _, (mR _), p_1, ⟨A_1, cap_1, [], rfl, rfl, hr_1⟩⟩
 ·refine wp_skip (T_n (RR (V_allocS (k := 0) (c := 0) f p0 (.cells #[] 54 (0, 0)) (by kernel_rfl) (fun _ => by kernel_rfl) fun b_1 w_1 p_2 _ f => Y f 1 fun _ f => ?_)))
  have hr_2 : RepSeq M1 (([] : List TD0).map emb_TD0) [] := rfl
  have p_3 : Hp w0 M1 ((Ent.row 54 3 (.slice (some ⟨b_1, 0, none⟩) 0 0) ([] : List TD0).length []) :: H) w_1 := p_2.objRow (n := 0) (cap := 0) (size := 3) (by decide) (by decide) (blk_eq (by decide) rfl) rfl rfl
  obtain ⟨g_1, hF_3⟩ := nS hF_2
  refine Y24 (z := .agg #[S [], S [], .slice none 0 0]) (f := emb_TD0) (xs := ([] : List TD0)) (ys := d0) (c := cap0) f p_3 hr_2 h0 rfl rfl rfl g_1 (by omega) fun A_2 cap_2 cs_1 w_2 p_4 hr_3 _ f => Y f 1 fun _ f => eT (wp_ret (E_ret1 f rfl (by kernel_rfl : Vc.look _ 2 = some (.slice A_2 (([] : List TD0) ++ d0).length cap_2)) ?_))
  obtain rfl := sI hF_3
  exact ⟨_, rfl, M1, _, (mR _), p_4, ⟨A_2, cap_2, cs_1, rfl, rfl, hr_3⟩⟩
def slices_Cloneapi_Thing_api_Thing (_ : Nat) (d0 : List TD0) : Option (List TD0) := need (d0.length * 56 ≤ 140737488355328) (some d0)
theorem slices_Cloneapi_Thing_api_Thing_ok (n : Nat) (M : Mem) (A0 : Option Addr) (cap0 : Nat) (d0 : List TD0) (h0 : Sli M 3 emb_TD0 A0 cap0 d0) (r : List TD0) (hF : slices_Cloneapi_Thing_api_Thing n d0 = some r) : OkH Tryz.prog M [] 43 [.slice A0 d0.length cap0] (fun M' E' v => ∃ (A0 : Option Addr) (k0 : Nat) (s0 : List Value), v = .slice A0 r.length k0 ∧ E' = [.row 54 3 (.slice A0 r.length k0) r.length s0] ∧ RepSeq M' (r.map emb_TD0) s0) := by
 unfold slices_Cloneapi_Thing_api_Thing at hF
 obtain ⟨g, hF⟩ := nS hF
 obtain rfl := sI hF
 refine slices_Cloneapi_Thing_api_Thing_z_ok n M A0 cap0 d0 h0 A0.isNone rfl d0 ?_
 unfold slices_Cloneapi_Thing_api_Thing_z
 cases A0 with
 | none =>
  obtain ⟨h1, h2, _⟩ := h0
  have h3 := h2 rfl
  obtain rfl : d0 = [] := List.eq_nil_of_length_eq_zero (by omega)
  rfl
 | some a => simp [need]; omega
def cloud_Cloud_Things (n : Nat) (d0_0 : List TD0) (d0_1 : Int) (d0_2 : List TG0) (d0_3 : List (Int × TC0)) (d0_4 : List TG0) (d0_5 : Int) : Option (List TD0 × List TD0 × Int × List TG0 × (List (Int × TC0)) × List TG0 × Int) :=
  (slices_Cloneapi_Thing_api_Thing n d0_0).bind fun x_1 =>
  some ((x_1, d0_0, d0_1, d0_2, d0_3, d0_4, d0_5))
theorem cloud_Cloud_Things_ok (n : Nat) (M : Mem) (hG : GL M) (b0 : Nat) (d0_0 : List TD0) (A_1 : Option Addr) (cap_1 : Nat) (h_1 : Sli M 3 emb_TD0 A_1 cap_1 d0_0) (d0_1 : Int) (d0_2 : List TG0) (A_2 : Option Addr) (cap_2 : Nat) (cs_1 : List Value) (hr_1 : RepSeq M (d0_2.map emb_TG0) cs_1) (m0_3 : Nat) (d0_3 : List (Int × TC0)) (d0_4 : List TG0) (A_3 : Option Addr) (cap_3 : Nat) (cs_2 : List Value) (hr_2 : RepSeq M (d0_4.map emb_TG0) cs_2) (d0_5 : Int) (r : List TD0 × List TD0 × Int × List TG0 × (List (Int × TC0)) × List TG0 × Int) (hF : cloud_Cloud_Things n d0_0 d0_1 d0_2 d0_3 d0_4 d0_5 = some r) : OkH Tryz.prog M [Ent.obj b0 (.cells #[.slice A_1 d0_0.length cap_1, .int .i64 d0_1, .slice A_2 d0_2.length cap_2, .map (some m0_3), .slice A_3 d0_4.length cap_3, .int .i64 d0_5] 82 (0, 0)), Ent.row 42 5 (.slice A_2 d0_2.length cap_2) d0_2.length cs_1, Ent.obj m0_3 (mapO (Value.int .i64) (fun x : TC0 => Value.agg #[.bool x.fEnded, .bool x.fOk, S x.fPhys]) d0_3), Ent.row 42 5 (.slice A_3 d0_4.length cap_3) d0_4.length cs_2] 22 [.pointer (some (⟨b0, 0, none⟩))] (fun M' E' v => ∃ (A0 : Option Addr) (k0 : Nat) (s0 : List Value) (A_5 : Option Addr) (cap_5 : Nat) (A_6 : Option Addr) (cap_6 : Nat) (cs_4 : List Value) (A_7 : Option Addr) (cap_7 : Nat) (cs_5 : List Value), v = .slice A0 r.1.length k0 ∧ E' = [.row 54 3 (.slice A0 r.1.length k0) r.1.length s0, Ent.obj b0 (.cells #[.slice A_5 r.2.1.length cap_5, .int .i64 r.2.2.1, .slice A_6 r.2.2.2.1.length cap_6, .map (some m0_3), .slice A_7 r.2.2.2.2.2.1.length cap_7, .int .i64 r.2.2.2.2.2.2] 82 (0, 0)), Ent.row 42 5 (.slice A_6 r.2.2.2.1.length cap_6) r.2.2.2.1.length cs_4, Ent.obj m0_3 (mapO (Value.int .i64) (fun x : TC0 => Value.agg #[.bool x.fEnded, .bool x.fOk, S x.fPhys]) r.2.2.2.2.1), Ent.row 42 5 (.slice A_7 r.2.2.2.2.2.1.length cap_7) r.2.2.2.2.2.1.length cs_5] ∧ RepSeq M' (r.1.map emb_TD0) s0 ∧ Sli M' 3 emb_TD0 A_5 cap_5 r.2.1 ∧ RepSeq M' (r.2.2.2.1.map emb_TG0) cs_4 ∧ RepSeq M' (r.2.2.2.2.2.1.map emb_TG0) cs_5) := by
 unfold cloud_Cloud_Things at hF
 intro M1 hM0 w0 H w p0
 replace hG := GL.mono hM0 hG
 replace h_1 := h_1.mono hM0
 replace hr_1 := RepSeq.mono hM0 _ _ hr_1
 replace hr_2 := RepSeq.mono hM0 _ _ hr_2
 refine R_enter 11 Tryz.func22 rfl rfl (by simp) fun a0 f0 => RR (Y f0 1 fun _ f => eT (R_seq (RR (Y f 1 fun _ f => Z (v := .bool false) f (X_ptrNil (q := some (⟨b0, 0, none⟩)) (e := 82) rfl (by kernel_rfl) (by kernel_rfl) (by kernel_rfl) _) fun _ f => eT (Y7 f (wp_skip (T_n (RR (Y f 4 fun _ f => Z f (Y33 (v := .slice A_1 d0_0.length cap_1) rfl (ad := ⟨b0, 0, none⟩) (p0.ownCell 0 rfl 0)) fun _ f => ?_)))))))))
 obtain ⟨x_1, hx_1, hF_1⟩ := bS hF
 refine Y17 (E := []) (H := ((Ent.obj b0 (.cells #[.slice A_1 d0_0.length cap_1, .int .i64 d0_1, .slice A_2 d0_2.length cap_2, .map (some m0_3), .slice A_3 d0_4.length cap_3, .int .i64 d0_5] 82 (0, 0))) :: (Ent.row 42 5 (.slice A_2 d0_2.length cap_2) d0_2.length cs_1) :: (Ent.obj m0_3 (mapO (Value.int .i64) (fun x : TC0 => Value.agg #[.bool x.fEnded, .bool x.fOk, S x.fPhys]) d0_3)) :: (Ent.row 42 5 (.slice A_3 d0_4.length cap_3) d0_4.length cs_2) :: H)) f p0 (slices_Cloneapi_Thing_api_Thing_ok n _ A_1 cap_1 d0_0 h_1 x_1 hx_1) fun _ M_1 E_1 w_1 hM_1 p_1 q_1 _ f => ?_
 obtain ⟨A_4, cap_4, cs_3, rfl, rfl, hr_3⟩ := q_1
 refine Y f 1 fun _ f => eT (wp_ret (E_ret1 f rfl (by kernel_rfl : Vc.look _ 2 = some (.slice A_4 x_1.length cap_4)) ?_))
 obtain rfl := sI hF_1
 exact ⟨_, rfl, M_1, _, hM_1, p_1, ⟨A_4, cap_4, cs_3, A_1, cap_1, A_2, cap_2, cs_1, A_3, cap_3, cs_2, rfl, rfl, hr_3, (h_1.mono hM_1), (RepSeq.mono hM_1 _ _ hr_1), (RepSeq.mono hM_1 _ _ hr_2)⟩⟩
def law11_wakes (n : Nat) : Option Bool :=
  (cloud_New n).bind fun x_1 =>
  (cloud_Cloud_Submit n ([] : List TD0) (0 : Int) ([] : List TG0) ([] : List (Int × TC0)) ([] : List TG0) (0 : Int) (⟨(1 : Int), (0 : Int), ([] : List UInt8), [68, 105, 115, 107], ([] : List TF0)⟩ : TG0)).bind fun x_2 =>
  (cloud_Cloud_Submit n x_2.2.1 x_2.2.2.1 x_2.2.2.2.1 x_2.2.2.2.2.1 x_2.2.2.2.2.2.1 x_2.2.2.2.2.2.2 (⟨(1 : Int), (0 : Int), ([] : List UInt8), [68, 105, 115, 107], ([] : List TF0)⟩ : TG0)).bind fun x_3 =>
  (cloud_Cloud_End n x_3.2.1 x_3.2.2.1 x_3.2.2.2.1 x_3.2.2.2.2.1 x_3.2.2.2.2.2.1 x_3.2.2.2.2.2.2 (0 : Int) (true)).bind fun x_4 =>
  bif (decide (x_2.1 = 0)) then
    (bif (decide (x_3.1 = 0)) then
      (bif (decide (x_4.1 = 1)) then
        (bif (andL [(x_4.2.1.fEnded == true), (x_4.2.1.fOk == true), decide (x_4.2.1.fPhys = [112, 49])]) then
          (bif (decide (x_4.2.2.1 = 0)) then
            ((cloud_Cloud_Made n x_4.2.2.2.1 x_4.2.2.2.2.1 x_4.2.2.2.2.2.1 x_4.2.2.2.2.2.2.1 x_4.2.2.2.2.2.2.2.1 x_4.2.2.2.2.2.2.2.2).bind fun x_5 =>
            bif (decide (x_5.1 = 1)) then
              ((cloud_Cloud_Things n x_5.2.1 x_5.2.2.1 x_5.2.2.2.1 x_5.2.2.2.2.1 x_5.2.2.2.2.2.1 x_5.2.2.2.2.2.2).bind fun x_6 =>
              some ((decide (((x_6.1.length : Nat) : Int) = 1))))
            else
              some ((false)))
          else
            some ((false)))
        else
          some ((false)))
      else
        some ((false)))
    else
      some ((false)))
  else
    some ((false))
set_option maxRecDepth 20000 in
theorem law11_wakes_ok (n : Nat) (M : Mem) (hG : GL M) (r : Bool) (hF : law11_wakes n = some r) : Ok Tryz.prog M 17 [] (fun _ v => v = .bool r) := by
 unfold law11_wakes at hF
 intro M1 hM0 w0 H w p0
 replace hG := GL.mono hM0 hG
 refine R_enter 52 Tryz.func17 rfl rfl (by simp) fun a0 f0 => RR (Y f0 1 fun _ f => eT (RR ?_))
 obtain ⟨x_1, hx_1, hF_1⟩ := bS hF
 refine Y17 (E := []) (H := (H)) f p0 (cloud_New_ok n _ hG x_1 hx_1) fun _ M_1 E_1 w_1 hM_1 p_1 q_1 _ f => ?_
 obtain ⟨nb_1, nb_1m0, rfl, rfl⟩ := q_1
 refine Y f 1 fun _ f => eT (RR (Y f 1 fun _ f => Y12 f p_1 (.cells #[.int .i64 0, .int .i8 0, S [], S [], .slice none 0 0] 42 (0, 0)) fun b_1 w_2 p_2 _ f => Y28 (vs := [.int .i64 1, .int .i8 0, S [], S [68, 105, 115, 107], .slice none 0 0]) (j := 0) f p_2 rfl rfl (by simp [Value.oneCell', S]) (by simp) (by decide) (cs' := #[.int .i64 1, .int .i8 0, S [], S [68, 105, 115, 107], .slice none 0 0]) (by kernel_rfl) fun w_3 p_3 _ f => eT (R_seq ?_)))
 have p_5 := p_3.pl [2, 2]
 refine R_mix (E := [Ent.obj nb_1 (.cells #[.slice none 0 0, .int .i64 0, .slice none 0 0, .map (some nb_1m0), .slice none 0 0, .int .i64 0] 82 (0, 0)), Ent.obj nb_1m0 (mapO (Value.int .i64) (fun x : TC0 => Value.agg #[.bool x.fEnded, .bool x.fOk, S x.fPhys]) ([] : List (Int × TC0)))]) (Hr := ((Ent.obj b_1 (.cells #[.int .i64 1, .int .i8 0, S [], S [68, 105, 115, 107], .slice none 0 0] 42 (0, 0))) :: H)) [(0, true), (1, true), (3, true), (4, true), (2, false), (5, false), (6, true), (7, true)] p_5 (by kernel_rfl) (by kernel_rfl) rfl (by kernel_rfl) (Y0 default f 1 fun _ f => M_eq (v := .agg #[.int .i64 1, .int .i8 0, S [], S [68, 105, 115, 107], .slice none 0 0]) f (by kernel_rfl) (by kernel_rfl) rfl rfl (fun _ pq => Y34 (cs := [.int .i64 1, .int .i8 0, S [], S [68, 105, 115, 107], .slice none 0 0]) rfl (ad := ⟨b_1, 0, none⟩) (own_cells (pq.ownCell 0 rfl) 0 rfl)) fun _ f => Y0 default f 1 fun _ f => M_eq (v := .agg #[.int .i64 1, .int .i8 0, S [], S [68, 105, 115, 107], .slice none 0 0]) f (by kernel_rfl) (by kernel_rfl) rfl rfl (fun _ pq => Y34 (cs := [.int .i64 1, .int .i8 0, S [], S [68, 105, 115, 107], .slice none 0 0]) rfl (ad := ⟨b_1, 0, none⟩) (own_cells (pq.ownCell 0 rfl) 0 rfl)) fun _ f => M_fix (E := [Ent.obj nb_1 (.cells #[.slice none 0 0, .int .i64 0, .slice none 0 0, .map (some nb_1m0), .slice none 0 0, .int .i64 0] 82 (0, 0)), Ent.obj nb_1m0 (mapO (Value.int .i64) (fun x : TC0 => Value.agg #[.bool x.fEnded, .bool x.fOk, S x.fPhys]) ([] : List (Int × TC0)))]) fun w_4 p_6 => ?_)
 obtain ⟨A_1, cap_1, hv_1⟩ : ∃ A cap, Value.slice none 0 0 = .slice A ([] : List TG0).length cap := ⟨none, 0, rfl⟩
 have p_7 : Hp w0 M_1 ((Ent.row 42 5 (.slice A_1 ([] : List TG0).length cap_1) ([] : List TG0).length []) :: (Ent.obj nb_1 (.cells #[.slice none 0 0, .int .i64 0, .slice A_1 ([] : List TG0).length cap_1, .map (some nb_1m0), .slice none 0 0, .int .i64 0] 82 (0, 0))) :: (Ent.obj nb_1m0 (mapO (Value.int .i64) (fun x : TC0 => Value.agg #[.bool x.fEnded, .bool x.fOk, S x.fPhys]) ([] : List (Int × TC0)))) :: (Ent.obj b_1 (.cells #[.int .i64 1, .int .i8 0, S [], S [68, 105, 115, 107], .slice none 0 0] 42 (0, 0))) :: H) w_4 := by rw [← hv_1]; exact p_6.nilRow 42 5
 have hr_1 : RepSeq M_1 (([] : List TG0).map emb_TG0) [] := rfl
 obtain ⟨A_2, cap_2, hv_2⟩ : ∃ A cap, Value.slice none 0 0 = .slice A ([] : List TG0).length cap := ⟨none, 0, rfl⟩
 have p_8 : Hp w0 M_1 ((Ent.row 42 5 (.slice A_2 ([] : List TG0).length cap_2) ([] : List TG0).length []) :: (Ent.row 42 5 (.slice A_1 ([] : List TG0).length cap_1) ([] : List TG0).length []) :: (Ent.obj nb_1 (.cells #[.slice none 0 0, .int .i64 0, .slice A_1 ([] : List TG0).length cap_1, .map (some nb_1m0), .slice A_2 ([] : List TG0).length cap_2, .int .i64 0] 82 (0, 0))) :: (Ent.obj nb_1m0 (mapO (Value.int .i64) (fun x : TC0 => Value.agg #[.bool x.fEnded, .bool x.fOk, S x.fPhys]) ([] : List (Int × TC0)))) :: (Ent.obj b_1 (.cells #[.int .i64 1, .int .i8 0, S [], S [68, 105, 115, 107], .slice none 0 0] 42 (0, 0))) :: H) w_4 := by rw [← hv_2]; exact p_7.nilRow 42 5
 have hr_2 : RepSeq M_1 (([] : List TG0).map emb_TG0) [] := rfl
 obtain ⟨x_2, hx_2, hF_2⟩ := bS hF_1
 have p_12 := p_8.pl [3, 2, 3]
 refine Y17 (E := [Ent.obj nb_1 (.cells #[.slice none 0 0, .int .i64 0, .slice A_1 ([] : List TG0).length cap_1, .map (some nb_1m0), .slice A_2 ([] : List TG0).length cap_2, .int .i64 0] 82 (0, 0)), Ent.row 42 5 (.slice A_1 ([] : List TG0).length cap_1) ([] : List TG0).length [], Ent.obj nb_1m0 (mapO (Value.int .i64) (fun x : TC0 => Value.agg #[.bool x.fEnded, .bool x.fOk, S x.fPhys]) ([] : List (Int × TC0))), Ent.row 42 5 (.slice A_2 ([] : List TG0).length cap_2) ([] : List TG0).length []]) (H := ((Ent.obj b_1 (.cells #[.int .i64 1, .int .i8 0, S [], S [68, 105, 115, 107], .slice none 0 0] 42 (0, 0))) :: H)) f p_12 (cloud_Cloud_Submit_ok n _ (GL.mono hM_1 hG) nb_1 ([] : List TD0) none 0 Sli.nil (0 : Int) ([] : List TG0) A_1 cap_1 [] hr_1 nb_1m0 ([] : List (Int × TC0)) ([] : List TG0) A_2 cap_2 [] hr_2 (0 : Int) _ (⟨(1 : Int), (0 : Int), ([] : List UInt8), [68, 105, 115, 107], ([] : List TF0)⟩ : TG0) (TG0.shut Sli.nil) x_2 hx_2) fun _ M_2 E_2 w_5 hM_2 p_9 q_2 _ f => ?_
 obtain ⟨A_3, cap_3, A_4, cap_4, cs_1, A_5, cap_5, cs_2, rfl, rfl, h_1, hr_3, hr_4⟩ := q_2
 refine W_end rfl (M_go (M1 := M_2) (E := [Ent.obj nb_1 (.cells #[.slice A_3 x_2.2.1.length cap_3, .int .i64 x_2.2.2.1, .slice A_4 x_2.2.2.2.1.length cap_4, .map (some nb_1m0), .slice A_5 x_2.2.2.2.2.2.1.length cap_5, .int .i64 x_2.2.2.2.2.2.2] 82 (0, 0)), Ent.row 42 5 (.slice A_4 x_2.2.2.2.1.length cap_4) x_2.2.2.2.1.length cs_1, Ent.obj nb_1m0 (mapO (Value.int .i64) (fun x : TC0 => Value.agg #[.bool x.fEnded, .bool x.fOk, S x.fPhys]) x_2.2.2.2.2.1), Ent.row 42 5 (.slice A_5 x_2.2.2.2.2.2.1.length cap_5) x_2.2.2.2.2.2.1.length cs_2]) hM_2 p_9 (M_fix (E := [Ent.obj nb_1 (.cells #[.slice A_3 x_2.2.1.length cap_3, .int .i64 x_2.2.2.1, .slice A_4 x_2.2.2.2.1.length cap_4, .map (some nb_1m0), .slice A_5 x_2.2.2.2.2.2.1.length cap_5, .int .i64 x_2.2.2.2.2.2.2] 82 (0, 0)), Ent.row 42 5 (.slice A_4 x_2.2.2.2.1.length cap_4) x_2.2.2.2.1.length cs_1, Ent.obj nb_1m0 (mapO (Value.int .i64) (fun x : TC0 => Value.agg #[.bool x.fEnded, .bool x.fOk, S x.fPhys]) x_2.2.2.2.2.1), Ent.row 42 5 (.slice A_5 x_2.2.2.2.2.2.1.length cap_5) x_2.2.2.2.2.2.1.length cs_2]) fun w_6 p_13 => ?_))
 obtain ⟨x_3, hx_3, hF_3⟩ := bS hF_2
 refine Y17 (E := [Ent.obj nb_1 (.cells #[.slice A_3 x_2.2.1.length cap_3, .int .i64 x_2.2.2.1, .slice A_4 x_2.2.2.2.1.length cap_4, .map (some nb_1m0), .slice A_5 x_2.2.2.2.2.2.1.length cap_5, .int .i64 x_2.2.2.2.2.2.2] 82 (0, 0)), Ent.row 42 5 (.slice A_4 x_2.2.2.2.1.length cap_4) x_2.2.2.2.1.length cs_1, Ent.obj nb_1m0 (mapO (Value.int .i64) (fun x : TC0 => Value.agg #[.bool x.fEnded, .bool x.fOk, S x.fPhys]) x_2.2.2.2.2.1), Ent.row 42 5 (.slice A_5 x_2.2.2.2.2.2.1.length cap_5) x_2.2.2.2.2.2.1.length cs_2]) (H := ((Ent.obj b_1 (.cells #[.int .i64 1, .int .i8 0, S [], S [68, 105, 115, 107], .slice none 0 0] 42 (0, 0))) :: H)) f p_13 (cloud_Cloud_Submit_ok n _ (GL.mono (hM_1.trans hM_2) hG) nb_1 x_2.2.1 A_3 cap_3 h_1 x_2.2.2.1 x_2.2.2.2.1 A_4 cap_4 cs_1 hr_3 nb_1m0 x_2.2.2.2.2.1 x_2.2.2.2.2.2.1 A_5 cap_5 cs_2 hr_4 x_2.2.2.2.2.2.2 _ (⟨(1 : Int), (0 : Int), ([] : List UInt8), [68, 105, 115, 107], ([] : List TF0)⟩ : TG0) (TG0.shut Sli.nil) x_3 hx_3) fun _ M_3 E_3 w_7 hM_3 p_14 q_3 _ f => ?_
 obtain ⟨A_6, cap_6, A_7, cap_7, cs_3, A_8, cap_8, cs_4, rfl, rfl, h_2, hr_5, hr_6⟩ := q_3
 refine W_end rfl (M_go (M1 := M_3) (E := [Ent.obj nb_1 (.cells #[.slice A_6 x_3.2.1.length cap_6, .int .i64 x_3.2.2.1, .slice A_7 x_3.2.2.2.1.length cap_7, .map (some nb_1m0), .slice A_8 x_3.2.2.2.2.2.1.length cap_8, .int .i64 x_3.2.2.2.2.2.2] 82 (0, 0)), Ent.row 42 5 (.slice A_7 x_3.2.2.2.1.length cap_7) x_3.2.2.2.1.length cs_3, Ent.obj nb_1m0 (mapO (Value.int .i64) (fun x : TC0 => Value.agg #[.bool x.fEnded, .bool x.fOk, S x.fPhys]) x_3.2.2.2.2.1), Ent.row 42 5 (.slice A_8 x_3.2.2.2.2.2.1.length cap_8) x_3.2.2.2.2.2.1.length cs_4]) (hM_2.trans hM_3) p_14 (Y0 default f 2 fun _ f => M_end rfl fun w_8 p_15 => T_n (RR (Y f 1 fun _ f => ?_))))
 obtain ⟨x_4, hx_4, hF_4⟩ := bS hF_3
 refine Y17 (E := [Ent.obj nb_1 (.cells #[.slice A_6 x_3.2.1.length cap_6, .int .i64 x_3.2.2.1, .slice A_7 x_3.2.2.2.1.length cap_7, .map (some nb_1m0), .slice A_8 x_3.2.2.2.2.2.1.length cap_8, .int .i64 x_3.2.2.2.2.2.2] 82 (0, 0)), Ent.row 42 5 (.slice A_7 x_3.2.2.2.1.length cap_7) x_3.2.2.2.1.length cs_3, Ent.obj nb_1m0 (mapO (Value.int .i64) (fun x : TC0 => Value.agg #[.bool x.fEnded, .bool x.fOk, S x.fPhys]) x_3.2.2.2.2.1), Ent.row 42 5 (.slice A_8 x_3.2.2.2.2.2.1.length cap_8) x_3.2.2.2.2.2.1.length cs_4]) (H := ((Ent.obj b_1 (.cells #[.int .i64 1, .int .i8 0, S [], S [68, 105, 115, 107], .slice none 0 0] 42 (0, 0))) :: H)) f p_15 (cloud_Cloud_End_ok n _ (GL.mono ((hM_1.trans hM_2).trans hM_3) hG) nb_1 x_3.2.1 A_6 cap_6 h_2 x_3.2.2.1 x_3.2.2.2.1 A_7 cap_7 cs_3 hr_5 nb_1m0 x_3.2.2.2.2.1 x_3.2.2.2.2.2.1 A_8 cap_8 cs_4 hr_6 x_3.2.2.2.2.2.2 (0 : Int) (true) x_4 hx_4) fun _ M_4 E_4 w_9 hM_4 p_16 q_4 _ f => ?_
 obtain ⟨c_1, A_9, cap_9, A_10, cap_10, cs_5, A_11, cap_11, cs_6, rfl, rfl, hr_7, h_3, hr_8, hr_9⟩ := q_4
 obtain rfl := TC0.opn hr_7
 refine Y f 4 fun _ f => Y12 f p_16 (.cells #[.bool false, .bool false, S []] 45 (0, 0)) fun b_2 w_10 p_17 _ f => Y f 1 fun _ f => Y28 (vs := [.bool x_4.2.1.fEnded, .bool x_4.2.1.fOk, S x_4.2.1.fPhys]) (j := 0) f p_17 rfl rfl (by simp [Value.oneCell', S]) (by simp) (by decide) (cs' := #[.bool x_4.2.1.fEnded, .bool x_4.2.1.fOk, S x_4.2.1.fPhys]) (by kernel_rfl) fun w_11 p_18 _ f => Y f 1 fun _ f => eT (RR (Y f 3 fun _ f => ?_))
 rcases cE hF_4 with ⟨h_4, hF_5⟩ | ⟨h_4, hF_18⟩
 ·have k_1 := dI.1 h_4
  have f := f.st 24 (cB h_4)
  refine Y f 4 fun _ f => ?_
  rcases cE hF_5 with ⟨h_5, hF_6⟩ | ⟨h_5, hF_17⟩
  ·have k_2 := dI.1 h_5
   have f := f.st 28 (cB h_5)
   refine Y f 4 fun _ f => ?_
   rcases cE hF_6 with ⟨h_6, hF_7⟩ | ⟨h_6, hF_16⟩
   ·have k_3 := dI.1 h_6
    have f := f.st 32 (cB h_6)
    refine Z (v := .agg #[.bool x_4.2.1.fEnded, .bool x_4.2.1.fOk, S x_4.2.1.fPhys]) f (Y34 (cs := [.bool x_4.2.1.fEnded, .bool x_4.2.1.fOk, S x_4.2.1.fPhys]) rfl (ad := ⟨b_2, 0, none⟩) (own_cells (p_18.ownCell 0 rfl) 0 rfl)) fun _ f => Y f 1 fun _ f => Z (v := .bool (andL [(x_4.2.1.fEnded == true), (x_4.2.1.fOk == true), decide (x_4.2.1.fPhys = [112, 49])])) f (Y29 rfl (xs := #[.bool x_4.2.1.fEnded, .bool x_4.2.1.fOk, S x_4.2.1.fPhys]) (ys := #[.bool true, .bool true, S [112, 49]]) (s := [(4, 0), (4, 1), (9, 2)]) (rs := [(x_4.2.1.fEnded == true), (x_4.2.1.fOk == true), decide (x_4.2.1.fPhys = [112, 49])]) (fun w => ⟨⟨.bool x_4.2.1.fEnded, .bool true, by kernel_rfl, by kernel_rfl, EqB (by kernel_rfl)⟩, ⟨.bool x_4.2.1.fOk, .bool true, by kernel_rfl, by kernel_rfl, EqB (by kernel_rfl)⟩, ⟨S x_4.2.1.fPhys, S [112, 49], by kernel_rfl, by kernel_rfl, EqS (by kernel_rfl)⟩, trivial⟩) _) fun _ f => Y f 2 fun _ f => ?_
    rcases cE hF_7 with ⟨h_7, hF_8⟩ | ⟨h_7, hF_15⟩
    ·have f := f.st 37 (cB h_7)
     refine Y f 4 fun _ f => ?_
     rcases cE hF_8 with ⟨h_8, hF_9⟩ | ⟨h_8, hF_14⟩
     ·have k_5 := dI.1 h_8
      have f := f.st 41 (cB h_8)
      refine Y f 1 fun _ f => ?_
      obtain ⟨x_5, hx_5, hF_10⟩ := bS hF_9
      have p_23 := p_18.pl [4, 4, 4, 4]
      refine Y17 (E := [Ent.obj nb_1 (.cells #[.slice A_9 x_4.2.2.2.1.length cap_9, .int .i64 x_4.2.2.2.2.1, .slice A_10 x_4.2.2.2.2.2.1.length cap_10, .map (some nb_1m0), .slice A_11 x_4.2.2.2.2.2.2.2.1.length cap_11, .int .i64 x_4.2.2.2.2.2.2.2.2] 82 (0, 0)), Ent.row 42 5 (.slice A_10 x_4.2.2.2.2.2.1.length cap_10) x_4.2.2.2.2.2.1.length cs_5, Ent.obj nb_1m0 (mapO (Value.int .i64) (fun x : TC0 => Value.agg #[.bool x.fEnded, .bool x.fOk, S x.fPhys]) x_4.2.2.2.2.2.2.1), Ent.row 42 5 (.slice A_11 x_4.2.2.2.2.2.2.2.1.length cap_11) x_4.2.2.2.2.2.2.2.1.length cs_6]) (H := ((Ent.obj b_2 (.cells #[.bool x_4.2.1.fEnded, .bool x_4.2.1.fOk, S x_4.2.1.fPhys] 45 (0, 0))) :: (Ent.obj b_1 (.cells #[.int .i64 1, .int .i8 0, S [], S [68, 105, 115, 107], .slice none 0 0] 42 (0, 0))) :: H)) f p_23 (cloud_Cloud_Made_ok n _ (GL.mono (((hM_1.trans hM_2).trans hM_3).trans hM_4) hG) nb_1 x_4.2.2.2.1 A_9 cap_9 h_3 x_4.2.2.2.2.1 x_4.2.2.2.2.2.1 A_10 cap_10 cs_5 hr_8 nb_1m0 x_4.2.2.2.2.2.2.1 x_4.2.2.2.2.2.2.2.1 A_11 cap_11 cs_6 hr_9 x_4.2.2.2.2.2.2.2.2 x_5 hx_5) fun _ M_5 E_5 w_12 hM_5 p_19 q_5 _ f => ?_
      obtain ⟨A_12, cap_12, A_13, cap_13, cs_7, A_14, cap_14, cs_8, rfl, rfl, h_9, hr_10, hr_11⟩ := q_5
      refine Y f 3 fun _ f => ?_
      rcases cE hF_10 with ⟨h_10, hF_11⟩ | ⟨h_10, hF_13⟩
      ·have k_6 := dI.1 h_10
       have f := f.st 46 (cB h_10)
       refine Y f 1 fun _ f => ?_
       obtain ⟨x_6, hx_6, hF_12⟩ := bS hF_11
       refine Y17 (E := [Ent.obj nb_1 (.cells #[.slice A_12 x_5.2.1.length cap_12, .int .i64 x_5.2.2.1, .slice A_13 x_5.2.2.2.1.length cap_13, .map (some nb_1m0), .slice A_14 x_5.2.2.2.2.2.1.length cap_14, .int .i64 x_5.2.2.2.2.2.2] 82 (0, 0)), Ent.row 42 5 (.slice A_13 x_5.2.2.2.1.length cap_13) x_5.2.2.2.1.length cs_7, Ent.obj nb_1m0 (mapO (Value.int .i64) (fun x : TC0 => Value.agg #[.bool x.fEnded, .bool x.fOk, S x.fPhys]) x_5.2.2.2.2.1), Ent.row 42 5 (.slice A_14 x_5.2.2.2.2.2.1.length cap_14) x_5.2.2.2.2.2.1.length cs_8]) (H := ((Ent.obj b_2 (.cells #[.bool x_4.2.1.fEnded, .bool x_4.2.1.fOk, S x_4.2.1.fPhys] 45 (0, 0))) :: (Ent.obj b_1 (.cells #[.int .i64 1, .int .i8 0, S [], S [68, 105, 115, 107], .slice none 0 0] 42 (0, 0))) :: H)) f p_19 (cloud_Cloud_Things_ok n _ (GL.mono ((((hM_1.trans hM_2).trans hM_3).trans hM_4).trans hM_5) hG) nb_1 x_5.2.1 A_12 cap_12 h_9 x_5.2.2.1 x_5.2.2.2.1 A_13 cap_13 cs_7 hr_10 nb_1m0 x_5.2.2.2.2.1 x_5.2.2.2.2.2.1 A_14 cap_14 cs_8 hr_11 x_5.2.2.2.2.2.2 x_6 hx_6) fun _ M_6 E_6 w_13 hM_6 p_24 q_6 _ f => ?_
       obtain ⟨A_15, cap_15, cs_9, A_16, cap_16, A_17, cap_17, cs_10, A_18, cap_18, cs_11, rfl, rfl, hr_12, h_11, hr_13, hr_14⟩ := q_6
       refine Y f 4 fun _ f => eT (wp_ret (E_ret1 f rfl (by kernel_rfl : Vc.look _ 0 = some (.bool (decide (((x_6.1.length : Nat) : Int) = 1)))) ?_))
       obtain rfl := sI hF_12
       exact ⟨_, rfl, M_6, (((((hM_1.trans hM_2).trans hM_3).trans hM_4).trans hM_5).trans hM_6), (p_24.dropN 7), rfl⟩
      ·have k_7 := iff_f dI h_10
       have f := f.st 46 (cB h_10)
       refine Y f 6 fun _ f => eT (wp_ret (E_ret1 f rfl (by kernel_rfl : Vc.look _ 0 = some (.bool false)) ?_))
       obtain rfl := sI hF_13
       exact ⟨_, rfl, M_5, ((((hM_1.trans hM_2).trans hM_3).trans hM_4).trans hM_5), (p_19.dropN 6), rfl⟩
     ·have k_8 := iff_f dI h_8
      have f := f.st 41 (cB h_8)
      refine Y f 11 fun _ f => eT (wp_ret (E_ret1 f rfl (by kernel_rfl : Vc.look _ 0 = some (.bool false)) ?_))
      obtain rfl := sI hF_14
      exact ⟨_, rfl, M_4, (((hM_1.trans hM_2).trans hM_3).trans hM_4), (p_18.dropN 6), rfl⟩
    ·have f := f.st 37 (cB h_7)
     refine Y f 15 fun _ f => eT (wp_ret (E_ret1 f rfl (by kernel_rfl : Vc.look _ 0 = some (.bool false)) ?_))
     obtain rfl := sI hF_15
     exact ⟨_, rfl, M_4, (((hM_1.trans hM_2).trans hM_3).trans hM_4), (p_18.dropN 6), rfl⟩
   ·have k_10 := iff_f dI h_6
    have f := f.st 32 (cB h_6)
    refine Y f 20 fun _ f => eT (wp_ret (E_ret1 f rfl (by kernel_rfl : Vc.look _ 0 = some (.bool false)) ?_))
    obtain rfl := sI hF_16
    exact ⟨_, rfl, M_4, (((hM_1.trans hM_2).trans hM_3).trans hM_4), (p_18.dropN 6), rfl⟩
  ·have k_11 := iff_f dI h_5
   have f := f.st 28 (cB h_5)
   refine Y f 24 fun _ f => eT (wp_ret (E_ret1 f rfl (by kernel_rfl : Vc.look _ 0 = some (.bool false)) ?_))
   obtain rfl := sI hF_17
   exact ⟨_, rfl, M_4, (((hM_1.trans hM_2).trans hM_3).trans hM_4), (p_18.dropN 6), rfl⟩
 ·have k_12 := iff_f dI h_4
  have f := f.st 24 (cB h_4)
  refine Y f 28 fun _ f => eT (wp_ret (E_ret1 f rfl (by kernel_rfl : Vc.look _ 0 = some (.bool false)) ?_))
  obtain rfl := sI hF_18
  exact ⟨_, rfl, M_4, (((hM_1.trans hM_2).trans hM_3).trans hM_4), (p_18.dropN 6), rfl⟩
def ref11_SameThings_s1 (n : Nat) (d0 : List TD0) (d1 : List TD0) (s_1 : Int) : Option (Lp Int (Sum Unit Unit)) :=
    bif (decide (s_1 < ((d0.length : Nat) : Int))) then
      ((getI d0 s_1).bind fun x_1 =>
      (getI d1 s_1).bind fun x_2 =>
      bif (!(decide (x_1.fPhys = x_2.fPhys))) then
        (some (.br (.inl ())))
      else
        (getI d0 s_1).bind fun x_3 =>
        (getI d1 s_1).bind fun x_4 =>
        bif (!(decide (x_3.fType = x_4.fType))) then
          (some (.br (.inl ())))
        else
          (getI d0 s_1).bind fun x_5 =>
          (getI d1 s_1).bind fun x_6 =>
          (ref09_Same n x_5.fProps x_6.fProps).bind fun x_7 =>
          bif !x_7 then
            (some (.br (.inl ())))
          else
            need (inR .i64 (s_1 + 1)) <|
            some (.nx (s_1 + 1)))
    else
      some (.br (.inr ()))
def ref11_SameThings (n : Nat) (d0 : List TD0) (d1 : List TD0) : Option Bool :=
  bif (!(decide (((d0.length : Nat) : Int) = ((d1.length : Nat) : Int)))) then
    (some ((false)))
  else
    (loopF (ref11_SameThings_s1 n d0 d1) n (0 : Int)).bind fun b_1 =>
    (match b_1 with 
    | .inl y_1 => some ((false)) 
    | .inr y_2 => some ((true)))
set_option maxRecDepth 20000 in
theorem ref11_SameThings_ok (n : Nat) (M : Mem) (hG : GL M) (A0 : Option Addr) (cap0 : Nat) (d0 : List TD0) (h0 : Sli M 3 emb_TD0 A0 cap0 d0) (A1 : Option Addr) (cap1 : Nat) (d1 : List TD0) (h1 : Sli M 3 emb_TD0 A1 cap1 d1) (r : Bool) (hF : ref11_SameThings n d0 d1 = some r) : Ok Tryz.prog M 23 [.slice A0 d0.length cap0, .slice A1 d1.length cap1] (fun _ v => v = .bool r) := by
 unfold ref11_SameThings at hF
 intro M1 hM0 w0 H w p0
 replace hG := GL.mono hM0 hG
 replace h0 := h0.mono hM0
 replace h1 := h1.mono hM0
 refine R_enter 55 Tryz.func23 rfl rfl (by simp) fun a0 f0 => RR (Y f0 1 fun _ f => eT (R_seq (RR (Y f 5 fun _ f => eT (RcF f hF (fun h_1 hF_1 => ?_) fun h_1 hF_2 => ?_)))))
 ·have k_1 : ¬ (((d0.length : Nat) : Int) = ((d1.length : Nat) : Int)) := (not_iff dI).1 h_1
  refine RR (Y f 1 fun _ f => eT (wp_ret (T_r (E_ret1 f rfl (by kernel_rfl : Vc.look _ 4 = some (.bool false)) ?_))))
  obtain rfl := sI hF_1
  exact ⟨_, rfl, M1, (mR _), p0, rfl⟩
 ·have k_2 : ¬ (¬ (((d0.length : Nat) : Int) = ((d1.length : Nat) : Int))) := iff_f (not_iff dI) h_1
  refine wp_skip (T_n (R_seq (RR (Y f 1 fun _ f => eT (wp_block ?_)))))
  obtain ⟨b_1, hL_1, hF_3⟩ := bS hF_2
  refine wp_mono (Q := fun e a w => (e = .ret ∧ (∃ y_1 : Unit, b_1 = .inl y_1 ∧ ∃ M_2 : Mem, M1.le M_2 ∧ Frm 55 [(4, .bool false)] a ∧ Hp w0 M_2 (H) w)) ∨ (e = .exit 0 ∧ (∃ y_2 : Unit, b_1 = .inr y_2 ∧ ∃ M_3 : Mem, M1.le M_3 ∧ Frm 55 [] a ∧ Hp w0 M_3 (H) w))) (R_loop (n := 55) (w0 := w0) (M := M1) (fun (x : Nat × Int) => match x with | (m_1, s_1) => [(0, .slice A0 d0.length cap0), (1, .slice A1 d1.length cap1), (5, .int .i64 s_1)]) (fun (x : Nat × Int) => match x with | (m_1, s_1) => (H)) (fun (x : Nat × Int) (MM : Mem) => match x with | (m_1, s_1) => loopF (ref11_SameThings_s1 n d0 d1) m_1 s_1 = some b_1) (fun (x : Nat × Int) => match x with | (m_1, s_1) => m_1) (n, (0 : Int)) (f.kp) p0 hL_1 ?_) ?_
  ·rintro ⟨m_1, s_1⟩ M_1 _ w_1 hM_1 I_1 f p_1
   have I_1L := I_1
   obtain ⟨m_2, r_1, rfl, hs_1, hn_1⟩ := loop_step I_1L
   unfold ref11_SameThings_s1 at hs_1
   refine R_seq (RR (Y f 4 fun _ f => eT (RcF f hs_1 (fun h_2 hF_4 => ?_) fun h_2 hF_19 => ?_)))
   ·have k_3 := dI.1 h_2
    refine wp_skip (T_n (R_seq (wp_block (R_seq (R_draw p_1 (by kernel_rfl) (by kernel_rfl) (Y5 default f 2 fun _ f => ?_))))))
    obtain ⟨x_1, hx_1, hF_5⟩ := bS hF_4
    obtain ⟨ad_1, c_1, e_1, -, hr_1, hc_1⟩ := Sli.at_ (h0.mono hM_1) hx_1
    obtain ⟨A_1, cap_1, rfl, h_3⟩ := TD0.opn hr_1
    refine Y2 (v := .pointer (some (ad_1.add (s_1.toNat * 3)))) f (fun _ pq => Y32 e_1 rfl (len := d0.length) (cap := cap0) (k := .i64) (i := s_1) (e := 54) (sz := 3) (getI_nn hx_1) (getI_lt hx_1)) fun _ f => Y5 default f 1 fun _ f => Y4 f hc_1 0 rfl fun _ f => Y5 default f 2 fun _ f => ?_
    obtain ⟨x_2, hx_2, hF_6⟩ := bS hF_5
    obtain ⟨ad_2, c_2, e_2, -, hr_2, hc_2⟩ := Sli.at_ (h1.mono hM_1) hx_2
    obtain ⟨A_2, cap_2, rfl, h_4⟩ := TD0.opn hr_2
    refine Y2 (v := .pointer (some (ad_2.add (s_1.toNat * 3)))) f (fun _ pq => Y32 e_2 rfl (len := d1.length) (cap := cap1) (k := .i64) (i := s_1) (e := 54) (sz := 3) (getI_nn hx_2) (getI_lt hx_2)) fun _ f => Y5 default f 1 fun _ f => Y4 f hc_2 0 rfl fun _ f => Y2 (v := .bool (!(decide (x_1.fPhys = x_2.fPhys)))) f (fun _ pq => Y41 rfl (l := x_1.fPhys) (m := x_2.fPhys)) fun _ f => Y5 default f 1 fun _ f => ?_
    rcases cE hF_6 with ⟨h_5, hF_7⟩ | ⟨h_5, hF_8⟩
    ·have k_4 : ¬ (x_1.fPhys = x_2.fPhys) := (not_iff dI).1 h_5
     have f := f.st 28 (cB h_5)
     refine Y5 default f 26 fun _ f => Q_end rfl ?_
     intro w_2 p_2
     refine T_n (Y8 f (RR (Y f 1 fun _ f => eT (wp_ret (B_r (T_r (T_r ?_)))))))
     obtain rfl := sI hF_7
     exact .inl ⟨rfl, (), (sI hn_1).symm, M_1, hM_1, f.kp, p_2⟩
    ·have k_5 : ¬ (¬ (x_1.fPhys = x_2.fPhys)) := iff_f (not_iff dI) h_5
     have f := f.st 28 (cB h_5)
     refine Y5 default f 2 fun _ f => ?_
     obtain ⟨x_3, hx_3, hF_9⟩ := bS hF_8
     obtain ⟨ad_3, c_3, e_3, -, hr_3, hc_3⟩ := Sli.at_ (h0.mono hM_1) hx_3
     obtain ⟨A_3, cap_3, rfl, h_6⟩ := TD0.opn hr_3
     refine Y2 (v := .pointer (some (ad_3.add (s_1.toNat * 3)))) f (fun _ pq => Y32 e_3 rfl (len := d0.length) (cap := cap0) (k := .i64) (i := s_1) (e := 54) (sz := 3) (getI_nn hx_3) (getI_lt hx_3)) fun _ f => Y5 default f 1 fun _ f => Y4 f hc_3 1 rfl fun _ f => Y5 default f 2 fun _ f => ?_
     obtain ⟨x_4, hx_4, hF_10⟩ := bS hF_9
     obtain ⟨ad_4, c_4, e_4, -, hr_4, hc_4⟩ := Sli.at_ (h1.mono hM_1) hx_4
     obtain ⟨A_4, cap_4, rfl, h_7⟩ := TD0.opn hr_4
     refine Y2 (v := .pointer (some (ad_4.add (s_1.toNat * 3)))) f (fun _ pq => Y32 e_4 rfl (len := d1.length) (cap := cap1) (k := .i64) (i := s_1) (e := 54) (sz := 3) (getI_nn hx_4) (getI_lt hx_4)) fun _ f => Y5 default f 1 fun _ f => Y4 f hc_4 1 rfl fun _ f => Y2 (v := .bool (!(decide (x_3.fType = x_4.fType)))) f (fun _ pq => Y41 rfl (l := x_3.fType) (m := x_4.fType)) fun _ f => Y5 default f 2 fun _ f => ?_
     rcases cE hF_10 with ⟨h_8, hF_11⟩ | ⟨h_8, hF_12⟩
     ·have k_6 : ¬ (x_3.fType = x_4.fType) := (not_iff dI).1 h_8
      have f := f.st 41 (cB h_8)
      refine Y5 default f 13 fun _ f => Q_end rfl ?_
      intro w_3 p_3
      refine T_n (Y8 f (RR (Y f 1 fun _ f => eT (wp_ret (B_r (T_r (T_r ?_)))))))
      obtain rfl := sI hF_11
      exact .inl ⟨rfl, (), (sI hn_1).symm, M_1, hM_1, f.kp, p_3⟩
     ·have k_7 : ¬ (¬ (x_3.fType = x_4.fType)) := iff_f (not_iff dI) h_8
      have f := f.st 41 (cB h_8)
      refine Y5 default f 2 fun _ f => ?_
      obtain ⟨x_5, hx_5, hF_13⟩ := bS hF_12
      obtain ⟨ad_5, c_5, e_5, -, hr_5, hc_5⟩ := Sli.at_ (h0.mono hM_1) hx_5
      obtain ⟨A_5, cap_5, rfl, h_9⟩ := TD0.opn hr_5
      refine Y2 (v := .pointer (some (ad_5.add (s_1.toNat * 3)))) f (fun _ pq => Y32 e_5 rfl (len := d0.length) (cap := cap0) (k := .i64) (i := s_1) (e := 54) (sz := 3) (getI_nn hx_5) (getI_lt hx_5)) fun _ f => Y5 default f 1 fun _ f => Y4 f hc_5 2 rfl fun _ f => Y5 default f 2 fun _ f => ?_
      obtain ⟨x_6, hx_6, hF_14⟩ := bS hF_13
      obtain ⟨ad_6, c_6, e_6, -, hr_6, hc_6⟩ := Sli.at_ (h1.mono hM_1) hx_6
      obtain ⟨A_6, cap_6, rfl, h_10⟩ := TD0.opn hr_6
      refine Y2 (v := .pointer (some (ad_6.add (s_1.toNat * 3)))) f (fun _ pq => Y32 e_6 rfl (len := d1.length) (cap := cap1) (k := .i64) (i := s_1) (e := 54) (sz := 3) (getI_nn hx_6) (getI_lt hx_6)) fun _ f => Y5 default f 1 fun _ f => Y4 f hc_6 2 rfl fun _ f => ?_
      obtain ⟨x_7, hx_7, hF_15⟩ := bS hF_14
      refine Y3 f (ref09_Same_ok n _ (GL.mono hM_1 hG) A_5 cap_5 x_5.fProps h_9 A_6 cap_6 x_6.fProps h_10 x_7 hx_7) fun _ f => Y5 default f 2 fun _ f => Q_end rfl ?_
      intro w_5 p_5
      refine T_n (RcF f hF_15 (fun h_11 hF_16 => ?_) fun h_11 hF_17 => ?_)
      ·have k_8 : (x_7) = false := by simpa using h_11
       refine RR (Y f 1 fun _ f => eT (wp_ret (B_r (T_r (T_r ?_)))))
       obtain rfl := sI hF_16
       exact .inl ⟨rfl, (), (sI hn_1).symm, M_1, hM_1, f.kp, p_5⟩
      ·have k_9 : (x_7) = true := by simpa using h_11
       refine wp_skip (B_n (T_n (R_reg (Y f 1 fun _ f => ?_))))
       obtain ⟨g_1, hF_18⟩ := nS hF_17
       refine Y f 1 fun _ f => ?_
       have f := f.st 16 (congrArg (Value.int .i64) (inR_wrap g_1))
       refine Y f 1 fun _ f => eT ?_
       obtain rfl := sI hF_18
       exact ⟨⟨m_2, s_1 + 1⟩, Nat.lt_succ_self _, M_1, hM_1, hn_1, f.kp, p_5⟩
   ·have k_10 := iff_f dI h_2
    refine wp_exit (T_x (T_x ?_))
    obtain rfl := sI hF_19
    exact .inr ⟨rfl, (), (sI hn_1).symm, M_1, hM_1, f.kp, p_1⟩
  ·rintro _ _ w_8 (⟨rfl, y_1, rfl, M_2, hM_2, f, p_6⟩ | ⟨rfl, y_2, rfl, M_3, hM_3, f, p_7⟩)
   ·refine B_r (T_r (E_ret1 f rfl (by kernel_rfl : Vc.look _ 4 = some (.bool false)) ?_))
    obtain rfl := sI hF_3
    exact ⟨_, rfl, M_2, hM_2, p_6, rfl⟩
   ·refine B_x (T_n (RR (Y f 1 fun _ f => eT (wp_ret (E_ret1 f rfl (by kernel_rfl : Vc.look _ 4 = some (.bool true)) ?_)))))
    obtain rfl := sI hF_3
    exact ⟨_, rfl, M_3, hM_3, p_7, rfl⟩
def ref11_Great (n : Nat) (d0 : TG0) : Option Bool :=
  bif (decide ((200 : Int) < (d0.fPhys.length : Int))) then
    (some ((true)))
  else
    bif (decide ((200 : Int) < (d0.fType.length : Int))) then
      (some ((true)))
    else
      (ref09_Great n d0.fProps).bind fun x_1 =>
      some ((x_1))
theorem ref11_Great_ok (n : Nat) (M : Mem) (hG : GL M) (c0 : List Value) (d0 : TG0) (h0 : Rep M (emb_TG0 d0) c0) (r : Bool) (hF : ref11_Great n d0 = some r) : Ok Tryz.prog M 27 [.agg c0.toArray] (fun _ v => v = .bool r) := by
 unfold ref11_Great at hF
 intro M1 hM0 w0 H w p0
 replace hG := GL.mono hM0 hG
 replace h0 := Rep.mono hM0 _ _ h0
 obtain ⟨A_1, cap_1, rfl, h_1⟩ := TG0.opn h0
 refine R_enter 18 Tryz.func27 rfl rfl (by simp) fun a0 f0 => RR (Y13 (cs := #[.int .i64 d0.fToken, .int .i8 d0.fKind, S d0.fPhys, S d0.fType, .slice A_1 d0.fProps.length cap_1]) (T := 42) f0 p0 fun b_1 M_1 w_1 hM_1 hc_1 p_1 _ f => ?_)
 have hc_2 := fz_box hc_1
 refine Y f 1 fun _ f => eT (RR (Y f 1 fun _ f => Y15 f p_1 hc_2 2 rfl fun _ f => Y f 3 fun _ f => ?_))
 rcases cE hF with ⟨h_2, hF_1⟩ | ⟨h_2, hF_2⟩
 ·have k_1 := dI.1 h_2
  have f := f.st 7 (cB h_2)
  refine Y f 11 fun _ f => eT (wp_ret (E_ret1 f rfl (by kernel_rfl : Vc.look _ 2 = some (.bool true)) ?_))
  obtain rfl := sI hF_1
  exact ⟨_, rfl, M_1, hM_1, p_1, rfl⟩
 ·have k_2 := iff_f dI h_2
  have f := f.st 7 (cB h_2)
  refine Y f 1 fun _ f => Y15 f p_1 hc_2 3 rfl fun _ f => Y f 4 fun _ f => ?_
  rcases cE hF_2 with ⟨h_3, hF_3⟩ | ⟨h_3, hF_4⟩
  ·have k_3 := dI.1 h_3
   have f := f.st 13 (cB h_3)
   refine Y f 5 fun _ f => eT (wp_ret (E_ret1 f rfl (by kernel_rfl : Vc.look _ 2 = some (.bool true)) ?_))
   obtain rfl := sI hF_3
   exact ⟨_, rfl, M_1, hM_1, p_1, rfl⟩
  ·have k_4 := iff_f dI h_3
   have f := f.st 13 (cB h_3)
   refine Y f 1 fun _ f => Y15 f p_1 hc_2 4 rfl fun _ f => ?_
   obtain ⟨x_1, hx_1, hF_5⟩ := bS hF_4
   refine Y18 f p_1 (ref09_Great_ok n _ (GL.mono hM_1 hG) A_1 cap_1 d0.fProps (h_1.mono hM_1) x_1 hx_1) fun w_2 p_2 _ f => Y f 2 fun _ f => eT (wp_ret (E_ret1 f rfl (by kernel_rfl : Vc.look _ 2 = some (.bool x_1)) ?_))
   obtain rfl := sI hF_5
   exact ⟨_, rfl, M_1, hM_1, p_2, rfl⟩
def law11_great_s1 (n : Nat) (d0 : List TA0) (s_1 : Int) : Option (Lp Int (Sum Unit Unit)) :=
    bif (decide (s_1 < ((d0.length : Nat) : Int))) then
      ((getI d0 s_1).bind fun x_1 =>
      (ref11_Great n (⟨x_1.fX.fToken, x_1.fX.fKind, x_1.fX.fPhys, x_1.fX.fType, x_1.fX.fProps⟩ : TG0)).bind fun x_2 =>
      bif x_2 then
        (some (.br (.inl ())))
      else
        need (inR .i64 (s_1 + 1)) <|
        some (.nx (s_1 + 1)))
    else
      some (.br (.inr ()))
def law11_great (n : Nat) (d0 : List TA0) : Option Bool :=
  bif (decide ((100 : Int) < ((d0.length : Nat) : Int))) then
    (some ((true)))
  else
    (loopF (law11_great_s1 n d0) n (0 : Int)).bind fun b_1 =>
    (match b_1 with 
    | .inl y_1 => some ((true)) 
    | .inr y_2 => some ((false)))
set_option maxRecDepth 20000 in
theorem law11_great_ok (n : Nat) (M : Mem) (hG : GL M) (A0 : Option Addr) (cap0 : Nat) (d0 : List TA0) (h0 : Sli M 7 emb_TA0 A0 cap0 d0) (r : Bool) (hF : law11_great n d0 = some r) : Ok Tryz.prog M 26 [.slice A0 d0.length cap0] (fun _ v => v = .bool r) := by
 unfold law11_great at hF
 intro M1 hM0 w0 H w p0
 replace hG := GL.mono hM0 hG
 replace h0 := h0.mono hM0
 refine R_enter 18 Tryz.func26 rfl rfl (by simp) fun a0 f0 => RR (Y f0 1 fun _ f => eT (R_seq (RR (Y f 3 fun _ f => eT (RcF f hF (fun h_1 hF_1 => ?_) fun h_1 hF_2 => ?_)))))
 ·have k_1 := dI.1 h_1
  refine RR (Y f 1 fun _ f => eT (wp_ret (T_r (E_ret1 f rfl (by kernel_rfl : Vc.look _ 2 = some (.bool true)) ?_))))
  obtain rfl := sI hF_1
  exact ⟨_, rfl, M1, (mR _), p0, rfl⟩
 ·have k_2 := iff_f dI h_1
  refine wp_skip (T_n (R_seq (RR (Y f 3 fun _ f => eT (wp_block ?_)))))
  obtain ⟨b_1, hL_1, hF_3⟩ := bS hF_2
  refine wp_mono (Q := fun e a w => (e = .ret ∧ (∃ y_1 : Unit, b_1 = .inl y_1 ∧ ∃ M_2 : Mem, M1.le M_2 ∧ Frm 18 [(2, .bool true)] a ∧ Hp w0 M_2 (H) w)) ∨ (e = .exit 0 ∧ (∃ y_2 : Unit, b_1 = .inr y_2 ∧ ∃ M_3 : Mem, M1.le M_3 ∧ Frm 18 [] a ∧ Hp w0 M_3 (H) w))) (R_loop (n := 18) (w0 := w0) (M := M1) (fun (x : Nat × Int) => match x with | (m_1, s_1) => [(8, .slice A0 d0.length cap0), (9, .int .i64 ((d0.length : Nat) : Int)), (10, .int .i64 s_1)]) (fun (x : Nat × Int) => match x with | (m_1, s_1) => (H)) (fun (x : Nat × Int) (MM : Mem) => match x with | (m_1, s_1) => loopF (law11_great_s1 n d0) m_1 s_1 = some b_1) (fun (x : Nat × Int) => match x with | (m_1, s_1) => m_1) (n, (0 : Int)) (f.kp) p0 hL_1 ?_) ?_
  ·rintro ⟨m_1, s_1⟩ M_1 _ w_1 hM_1 I_1 f p_1
   have I_1L := I_1
   obtain ⟨m_2, r_1, rfl, hs_1, hn_1⟩ := loop_step I_1L
   unfold law11_great_s1 at hs_1
   refine RR (Y f 1 fun _ f => eT (R_seq (RcF f hs_1 (fun h_2 hF_4 => ?_) fun h_2 hF_10 => ?_)))
   ·have k_3 := dI.1 h_2
    refine wp_skip (T_n (R_seq (wp_block (RR ?_))))
    obtain ⟨x_1, hx_1, hF_5⟩ := bS hF_4
    obtain ⟨ad_1, c_1, e_1, -, hr_1, hc_1⟩ := Sli.at_ (h0.mono hM_1) hx_1
    obtain ⟨A_1, cap_1, rfl, h_3⟩ := TA0.opn hr_1
    refine Z f (Y32 e_1 rfl (len := d0.length) (cap := cap0) (k := .i64) (i := s_1) (e := 62) (sz := 7) (getI_nn hx_1) (getI_lt hx_1)) fun _ f => Z (v := .agg #[.int .i64 x_1.fDo, .int .i64 x_1.fN, .int .i64 x_1.fX.fToken, .int .i8 x_1.fX.fKind, S x_1.fX.fPhys, S x_1.fX.fType, .slice A_1 x_1.fX.fProps.length cap_1]) f (Y34 (cs := [.int .i64 x_1.fDo, .int .i64 x_1.fN, .int .i64 x_1.fX.fToken, .int .i8 x_1.fX.fKind, S x_1.fX.fPhys, S x_1.fX.fType, .slice A_1 x_1.fX.fProps.length cap_1]) rfl (ad := ad_1.add (s_1.toNat * 7)) (fun j v h => p_1.cell (hc_1 j v h))) fun _ f => Y12 f p_1 (.cells #[.int .i64 0, .int .i64 0, .int .i64 0, .int .i8 0, S [], S [], .slice none 0 0] 62 (0, 0)) fun b_2 w_2 p_2 _ f => Y28 (vs := [.int .i64 x_1.fDo, .int .i64 x_1.fN, .int .i64 x_1.fX.fToken, .int .i8 x_1.fX.fKind, S x_1.fX.fPhys, S x_1.fX.fType, .slice A_1 x_1.fX.fProps.length cap_1]) (j := 0) f p_2 rfl rfl (by simp [Value.oneCell', S]) (by simp) (by decide) (cs' := #[.int .i64 x_1.fDo, .int .i64 x_1.fN, .int .i64 x_1.fX.fToken, .int .i8 x_1.fX.fKind, S x_1.fX.fPhys, S x_1.fX.fType, .slice A_1 x_1.fX.fProps.length cap_1]) (by kernel_rfl) fun w_3 p_3 _ f => eT (RR (Y f 1 fun _ f => Z (v := .agg #[.int .i64 x_1.fX.fToken, .int .i8 x_1.fX.fKind, S x_1.fX.fPhys, S x_1.fX.fType, .slice A_1 x_1.fX.fProps.length cap_1]) f (Y34 (cs := [.int .i64 x_1.fX.fToken, .int .i8 x_1.fX.fKind, S x_1.fX.fPhys, S x_1.fX.fType, .slice A_1 x_1.fX.fProps.length cap_1]) rfl (ad := ⟨b_2, 2, none⟩) (own_cells (p_3.ownCell 0 rfl) 2 rfl)) fun _ f => ?_))
    obtain ⟨x_2, hx_2, hF_6⟩ := bS hF_5
    refine Y18 f p_3 (ref11_Great_ok n _ (GL.mono hM_1 hG) _ (⟨x_1.fX.fToken, x_1.fX.fKind, x_1.fX.fPhys, x_1.fX.fType, x_1.fX.fProps⟩ : TG0) (TG0.shut h_3) x_2 hx_2) fun w_4 p_4 _ f => eT (RcF f hF_6 (fun h_4 hF_7 => ?_) fun h_4 hF_8 => ?_)
    ·refine RR (Y f 1 fun _ f => eT (wp_ret (B_r (T_r (T_r ?_)))))
     obtain rfl := sI hF_7
     exact .inl ⟨rfl, (), (sI hn_1).symm, M_1, hM_1, f.kp, (p_4.dropN 1)⟩
    ·refine wp_skip (B_n (T_n (R_reg ?_)))
     obtain ⟨g_1, hF_9⟩ := nS hF_8
     refine Y f 1 fun _ f => ?_
     have f := f.st 17 (congrArg (Value.int .i64) (inR_wrap g_1))
     refine Y f 1 fun _ f => eT ?_
     obtain rfl := sI hF_9
     exact ⟨⟨m_2, s_1 + 1⟩, Nat.lt_succ_self _, M_1, hM_1, hn_1, f.kp, (p_4.dropN 1)⟩
   ·have k_6 := iff_f dI h_2
    refine wp_exit (T_x (T_x ?_))
    obtain rfl := sI hF_10
    exact .inr ⟨rfl, (), (sI hn_1).symm, M_1, hM_1, f.kp, p_1⟩
  ·rintro _ _ w_7 (⟨rfl, y_1, rfl, M_2, hM_2, f, p_5⟩ | ⟨rfl, y_2, rfl, M_3, hM_3, f, p_6⟩)
   ·refine B_r (T_r (E_ret1 f rfl (by kernel_rfl : Vc.look _ 2 = some (.bool true)) ?_))
    obtain rfl := sI hF_3
    exact ⟨_, rfl, M_2, hM_2, p_5, rfl⟩
   ·refine B_x (T_n (RR (Y f 1 fun _ f => eT (wp_ret (E_ret1 f rfl (by kernel_rfl : Vc.look _ 2 = some (.bool false)) ?_)))))
    obtain rfl := sI hF_3
    exact ⟨_, rfl, M_3, hM_3, p_6, rfl⟩
def law11_ints_s1 (n : Nat) (d0 : List Int) (d1 : List Int) (s_1 : Int) : Option (Lp Int (Sum Unit Unit)) :=
    bif (decide (s_1 < ((d0.length : Nat) : Int))) then
      ((getI d0 s_1).bind fun x_1 =>
      (getI d1 s_1).bind fun x_2 =>
      bif (!(decide (x_1 = x_2))) then
        (some (.br (.inl ())))
      else
        need (inR .i64 (s_1 + 1)) <|
        some (.nx (s_1 + 1)))
    else
      some (.br (.inr ()))
def law11_ints (n : Nat) (d0 : List Int) (d1 : List Int) : Option Bool :=
  bif (!(decide (((d0.length : Nat) : Int) = ((d1.length : Nat) : Int)))) then
    (some ((false)))
  else
    (loopF (law11_ints_s1 n d0 d1) n (0 : Int)).bind fun b_1 =>
    (match b_1 with 
    | .inl y_1 => some ((false)) 
    | .inr y_2 => some ((true)))
set_option maxRecDepth 20000 in
theorem law11_ints_ok (n : Nat) (M : Mem) (hG : GL M) (A0 : Option Addr) (cap0 : Nat) (d0 : List Int) (h0 : Sli M 1 (Dat.int .i64) A0 cap0 d0) (A1 : Option Addr) (cap1 : Nat) (d1 : List Int) (h1 : Sli M 1 (Dat.int .i64) A1 cap1 d1) (r : Bool) (hF : law11_ints n d0 d1 = some r) : Ok Tryz.prog M 30 [.slice A0 d0.length cap0, .slice A1 d1.length cap1] (fun _ v => v = .bool r) := by
 unfold law11_ints at hF
 intro M1 hM0 w0 H w p0
 replace hG := GL.mono hM0 hG
 replace h0 := h0.mono hM0
 replace h1 := h1.mono hM0
 refine R_enter 26 Tryz.func30 rfl rfl (by simp) fun a0 f0 => RR (Y f0 1 fun _ f => eT (R_seq (RR (Y f 5 fun _ f => eT (RcF f hF (fun h_1 hF_1 => ?_) fun h_1 hF_2 => ?_)))))
 ·have k_1 : ¬ (((d0.length : Nat) : Int) = ((d1.length : Nat) : Int)) := (not_iff dI).1 h_1
  refine RR (Y f 1 fun _ f => eT (wp_ret (T_r (E_ret1 f rfl (by kernel_rfl : Vc.look _ 4 = some (.bool false)) ?_))))
  obtain rfl := sI hF_1
  exact ⟨_, rfl, M1, (mR _), p0, rfl⟩
 ·have k_2 : ¬ (¬ (((d0.length : Nat) : Int) = ((d1.length : Nat) : Int))) := iff_f (not_iff dI) h_1
  refine wp_skip (T_n (R_seq (RR (Y f 3 fun _ f => eT (wp_block ?_)))))
  obtain ⟨b_1, hL_1, hF_3⟩ := bS hF_2
  refine wp_mono (Q := fun e a w => (e = .ret ∧ (∃ y_1 : Unit, b_1 = .inl y_1 ∧ ∃ M_2 : Mem, M1.le M_2 ∧ Frm 26 [(4, .bool false)] a ∧ Hp w0 M_2 (H) w)) ∨ (e = .exit 0 ∧ (∃ y_2 : Unit, b_1 = .inr y_2 ∧ ∃ M_3 : Mem, M1.le M_3 ∧ Frm 26 [] a ∧ Hp w0 M_3 (H) w))) (R_loop (n := 26) (w0 := w0) (M := M1) (fun (x : Nat × Int) => match x with | (m_1, s_1) => [(0, .slice A0 d0.length cap0), (1, .slice A1 d1.length cap1), (12, .int .i64 ((d0.length : Nat) : Int)), (13, .int .i64 s_1)]) (fun (x : Nat × Int) => match x with | (m_1, s_1) => (H)) (fun (x : Nat × Int) (MM : Mem) => match x with | (m_1, s_1) => loopF (law11_ints_s1 n d0 d1) m_1 s_1 = some b_1) (fun (x : Nat × Int) => match x with | (m_1, s_1) => m_1) (n, (0 : Int)) (f.kp) p0 hL_1 ?_) ?_
  ·rintro ⟨m_1, s_1⟩ M_1 _ w_1 hM_1 I_1 f p_1
   have I_1L := I_1
   obtain ⟨m_2, r_1, rfl, hs_1, hn_1⟩ := loop_step I_1L
   unfold law11_ints_s1 at hs_1
   refine RR (Y f 1 fun _ f => eT (R_seq (RcF f hs_1 (fun h_2 hF_4 => ?_) fun h_2 hF_10 => ?_)))
   ·have k_3 := dI.1 h_2
    refine wp_skip (T_n (R_seq (wp_block (RR (Y f 2 fun _ f => eT (R_seq (R_draw p_1 (by kernel_rfl) (by kernel_rfl) (Y5 default f 2 fun _ f => ?_))))))))
    obtain ⟨x_1, hx_1, hF_5⟩ := bS hF_4
    obtain ⟨ad_1, c_1, e_1, -, hr_1, hc_1⟩ := Sli.at_ (h0.mono hM_1) hx_1
    obtain rfl : c_1 = [.int .i64 x_1] := hr_1
    refine Y2 (v := .pointer (some (ad_1.add (s_1.toNat * 1)))) f (fun _ pq => Y32 e_1 rfl (len := d0.length) (cap := cap0) (k := .i64) (i := s_1) (e := 3) (sz := 1) (getI_nn hx_1) (getI_lt hx_1)) fun _ f => Y4 f hc_1 0 rfl fun _ f => Y5 default f 2 fun _ f => ?_
    obtain ⟨x_2, hx_2, hF_6⟩ := bS hF_5
    obtain ⟨ad_2, c_2, e_2, -, hr_2, hc_2⟩ := Sli.at_ (h1.mono hM_1) hx_2
    obtain rfl : c_2 = [.int .i64 x_2] := hr_2
    refine Y2 (v := .pointer (some (ad_2.add (s_1.toNat * 1)))) f (fun _ pq => Y32 e_2 rfl (len := d1.length) (cap := cap1) (k := .i64) (i := s_1) (e := 3) (sz := 1) (getI_nn hx_2) (getI_lt hx_2)) fun _ f => Y4 f hc_2 0 rfl fun _ f => Y5 default f 1 fun _ f => Q_end rfl ?_
    intro w_2 p_2
    refine T_n (RcF f hF_6 (fun h_3 hF_7 => ?_) fun h_3 hF_8 => ?_)
    ·have k_4 : ¬ (x_1 = x_2) := (not_iff dI).1 h_3
     refine RR (Y f 1 fun _ f => eT (wp_ret (B_r (T_r (T_r ?_)))))
     obtain rfl := sI hF_7
     exact .inl ⟨rfl, (), (sI hn_1).symm, M_1, hM_1, f.kp, p_2⟩
    ·have k_5 : ¬ (¬ (x_1 = x_2)) := iff_f (not_iff dI) h_3
     refine wp_skip (B_n (T_n (R_reg ?_)))
     obtain ⟨g_1, hF_9⟩ := nS hF_8
     refine Y f 1 fun _ f => ?_
     have f := f.st 25 (congrArg (Value.int .i64) (inR_wrap g_1))
     refine Y f 1 fun _ f => eT ?_
     obtain rfl := sI hF_9
     exact ⟨⟨m_2, s_1 + 1⟩, Nat.lt_succ_self _, M_1, hM_1, hn_1, f.kp, p_2⟩
   ·have k_6 := iff_f dI h_2
    refine wp_exit (T_x (T_x ?_))
    obtain rfl := sI hF_10
    exact .inr ⟨rfl, (), (sI hn_1).symm, M_1, hM_1, f.kp, p_1⟩
  ·rintro _ _ w_5 (⟨rfl, y_1, rfl, M_2, hM_2, f, p_3⟩ | ⟨rfl, y_2, rfl, M_3, hM_3, f, p_4⟩)
   ·refine B_r (T_r (E_ret1 f rfl (by kernel_rfl : Vc.look _ 4 = some (.bool false)) ?_))
    obtain rfl := sI hF_3
    exact ⟨_, rfl, M_2, hM_2, p_3, rfl⟩
   ·refine B_x (T_n (RR (Y f 1 fun _ f => eT (wp_ret (E_ret1 f rfl (by kernel_rfl : Vc.look _ 4 = some (.bool true)) ?_)))))
    obtain rfl := sI hF_3
    exact ⟨_, rfl, M_3, hM_3, p_4, rfl⟩
end Go.Proofs.YtocefedhenhbfaaGreatDoor
