/-
  Texts of this claim, packed (what nothing names is left out): B9, RdySpec, RdySpec2, RdySpec3, RdyLaws, BkP6, E3, E4, E5. Own work, partly printed by own programs. No condition.
-/
import Derived.Test.YtfdmlionhbeebaaGreatPkB2
import Derived.Test.YtfdmlionhbeebaaGreatPkB4
import Derived.Test.YtfdmlionhbeebaaGreatPkB3
set_option linter.unusedVariables false
set_option linter.unusedSimpArgs false
set_option maxHeartbeats 2000000
section
namespace Go.Proofs.YtfdmlionhbeebaaGreat
open Go Go.Vc Go.RowKit
def ready_May_1 (n : Nat) (d0 : Int) (d1 : List (List Int)) : Option Bool :=
  bif (decide (d0 < 0)) then
    (some ((true)))
  else
    some ((decide (((d1.length : Nat) : Int) ≤ d0)))
theorem ready_May_1_ok (n : Nat) (M : Mem) (d0 : Int) (ad1 : Addr) (c1 : List Value) (d1 : List (List Int)) (h1 : Rep M ((eL 1 (eL 1 (Dat.int .i64))) d1) c1) (q1 : ∀ j v, c1[j]? = some v → M.cell? (ad1.add j) = some v) (r : Bool) (hF : ready_May_1 n d0 d1 = some r) : Ok Tryz.prog M 121 [.int .i64 d0, .pointer (some ad1)] (fun _ v => v = .bool r) := by
 unfold ready_May_1 at hF
 intro M1 hM0 w0 H w p0
 replace h1 := Rep.mono hM0 _ _ h1
 replace q1 := fun j v h => hM0.cell (q1 j v h)
 obtain ⟨A_1, cap_1, rfl, h_1⟩ := Rep.sli h1
 refine R_enter 12 Tryz.func121 rfl rfl (by simp) fun a0 f0 => RR (Y f0 1 fun _ f => eT (RR (Y f 3 fun _ f => ?_)))
 rcases cE hF with ⟨h_2, hF_1⟩ | ⟨h_2, hF_2⟩
 ·have k_1 := dI.1 h_2
  have f := f.st 6 (cB h_2)
  refine Y f 6 fun _ f => eT (wp_ret (E_ret1 f rfl (by kernel_rfl : Vc.look _ 3 = some (.bool true)) ?_))
  obtain rfl := sI hF_1
  exact ⟨_, rfl, M1, (mR _), p0, rfl⟩
 ·have k_2 := iff_f dI h_2
  have f := f.st 6 (cB h_2)
  refine Y f 1 fun _ f => Y14 f p0 q1 0 rfl fun _ f => Y f 4 fun _ f => eT (wp_ret (E_ret1 f rfl (by kernel_rfl : Vc.look _ 3 = some (.bool (decide (((d1.length : Nat) : Int) ≤ d0)))) ?_))
  obtain rfl := sI hF_2
  exact ⟨_, rfl, M1, (mR _), p0, rfl⟩
def slices_IndexFuncint_int_s1 (n : Nat) (d0 : List Int) (d1_0 : List (List Int)) (s_1 : Int) : Option (Lp Int (Sum Int Unit)) :=
    bif (decide (s_1 < ((d0.length : Nat) : Int))) then
      ((getI d0 s_1).bind fun x_1 =>
      (ready_May_1 n x_1 d1_0).bind fun x_2 =>
      bif x_2 then
        (some (.br (.inl s_1)))
      else
        need (inR .i64 (s_1 + 1)) <|
        some (.nx (s_1 + 1)))
    else
      some (.br (.inr ()))
def slices_IndexFuncint_int (n : Nat) (d0 : List Int) (d1_0 : List (List Int)) : Option Int :=
  (loopF (slices_IndexFuncint_int_s1 n d0 d1_0) n (0 : Int)).bind fun b_1 =>
  (match b_1 with 
  | .inl y_1 => some (y_1) 
  | .inr y_2 => some ((-1 : Int)))
theorem slices_IndexFuncint_int_ok (n : Nat) (M : Mem) (A0 : Option Addr) (cap0 : Nat) (d0 : List Int) (h0 : Sli M 1 (Dat.int .i64) A0 cap0 d0) (ad1_0 : Addr) (c1_0 : List Value) (d1_0 : List (List Int)) (h1_0 : Rep M ((eL 1 (eL 1 (Dat.int .i64))) d1_0) c1_0) (q1_0 : ∀ j v, c1_0[j]? = some v → M.cell? (ad1_0.add j) = some v) (r : Int) (hF : slices_IndexFuncint_int n d0 d1_0 = some r) : Ok Tryz.prog M 167 [.slice A0 d0.length cap0, .func (.func 121) #[] #[.pointer (some ad1_0)]] (fun _ v => v = .int .i64 r) := by
 unfold slices_IndexFuncint_int at hF
 intro M1 hM0 w0 H w p0
 replace h0 := h0.mono hM0
 replace h1_0 := Rep.mono hM0 _ _ h1_0
 replace q1_0 := fun j v h => hM0.cell (q1_0 j v h)
 obtain ⟨A_1, cap_1, rfl, h_1⟩ := Rep.sli h1_0
 refine R_enter 19 Tryz.func167 rfl rfl (by simp) fun a0 f0 => RR (Y f0 1 fun _ f => eT (R_seq (RR (Y f 3 fun _ f => eT (wp_block ?_)))))
 obtain ⟨b_1, hL_1, hF_1⟩ := bS hF
 refine wp_mono (Q := fun e a w => (e = .ret ∧ (∃ y_1 : Int, b_1 = .inl y_1 ∧ ∃ M_2 : Mem, M1.le M_2 ∧ Frm 19 [(4, .int .i64 y_1)] a ∧ Hp w0 M_2 (H) w)) ∨ (e = .exit 0 ∧ (∃ y_2 : Unit, b_1 = .inr y_2 ∧ ∃ M_3 : Mem, M1.le M_3 ∧ Frm 19 [] a ∧ Hp w0 M_3 (H) w))) (R_loop (n := 19) (w0 := w0) (M := M1) (fun (x : Nat × Int) => match x with | (m_1, s_1) => [(0, .slice A0 d0.length cap0), (1, .func (.func 121) #[] #[.pointer (some ad1_0)]), (7, .int .i64 ((d0.length : Nat) : Int)), (8, .int .i64 s_1)]) (fun (x : Nat × Int) => match x with | (m_1, s_1) => (H)) (fun (x : Nat × Int) (MM : Mem) => match x with | (m_1, s_1) => loopF (slices_IndexFuncint_int_s1 n d0 d1_0) m_1 s_1 = some b_1) (fun (x : Nat × Int) => match x with | (m_1, s_1) => m_1) (n, (0 : Int)) (f.kp) p0 hL_1 ?_) ?_
 ·rintro ⟨m_1, s_1⟩ M_1 _ w_1 hM_1 I_1 f p_1
  have I_1L := I_1
  obtain ⟨m_2, r_1, rfl, hs_1, hn_1⟩ := loop_step I_1L
  unfold slices_IndexFuncint_int_s1 at hs_1
  refine RR (Y f 1 fun _ f => eT (R_seq (RcF f hs_1 (fun h_2 hF_2 => ?_) fun h_2 hF_8 => ?_)))
  ·have k_1 := dI.1 h_2
   refine wp_skip (T_n (R_seq (wp_block (RR (Y f 2 fun _ f => eT (RR (Y f 3 fun _ f => ?_)))))))
   obtain ⟨x_1, hx_1, hF_3⟩ := bS hF_2
   obtain ⟨ad_1, c_1, e_1, -, hr_1, hc_1⟩ := Sli.at_ (h0.mono hM_1) hx_1
   obtain rfl : c_1 = [.int .i64 x_1] := hr_1
   refine Z f (Y28 e_1 rfl (len := d0.length) (cap := cap0) (k := .i64) (i := s_1) (e := 3) (sz := 1) (getI_nn hx_1) (getI_lt hx_1)) fun _ f => Y14 f p_1 hc_1 0 rfl fun _ f => ?_
   obtain ⟨x_2, hx_2, hF_4⟩ := bS hF_3
   refine Y17 f p_1 (ready_May_1_ok n _ x_1 ad1_0 [.slice A_1 d1_0.length cap_1] d1_0 (Sli.rep (h_1.mono hM_1)) (fz_at ((fzu hM_1 q1_0)) 0 rfl) x_2 hx_2) fun w_2 p_2 _ f => eT (RcF f hF_4 (fun h_3 hF_5 => ?_) fun h_3 hF_6 => ?_)
   ·refine RR (Y f 2 fun _ f => eT (wp_ret (B_r (T_r (T_r ?_)))))
    obtain rfl := sI hF_5
    exact .inl ⟨rfl, s_1, (sI hn_1).symm, M_1, hM_1, f.kp, p_2⟩
   ·refine wp_skip (B_n (T_n (R_reg ?_)))
    obtain ⟨g_1, hF_7⟩ := nS hF_6
    refine Y f 1 fun _ f => ?_
    have f := f.st 18 (congrArg (Value.int .i64) (inR_wrap g_1))
    refine Y f 1 fun _ f => eT ?_
    obtain rfl := sI hF_7
    exact ⟨⟨m_2, s_1 + 1⟩, Nat.lt_succ_self _, M_1, hM_1, hn_1, f.kp, p_2⟩
  ·have k_4 := iff_f dI h_2
   refine wp_exit (T_x (T_x ?_))
   obtain rfl := sI hF_8
   exact .inr ⟨rfl, (), (sI hn_1).symm, M_1, hM_1, f.kp, p_1⟩
 ·rintro _ _ w_5 (⟨rfl, y_1, rfl, M_2, hM_2, f, p_3⟩ | ⟨rfl, y_2, rfl, M_3, hM_3, f, p_4⟩)
  ·refine B_r (T_r (E_ret1 f rfl (by kernel_rfl : Vc.look _ 4 = some (.int .i64 y_1)) ?_))
   obtain rfl := sI hF_1
   exact ⟨_, rfl, M_2, hM_2, p_3, rfl⟩
  ·refine B_x (T_n (RR (Y f 1 fun _ f => eT (wp_ret (E_ret1 f rfl (by kernel_rfl : Vc.look _ 4 = some (.int .i64 (-1))) ?_)))))
   obtain rfl := sI hF_1
   exact ⟨_, rfl, M_3, hM_3, p_4, rfl⟩
def slices_ContainsFuncint_int (n : Nat) (d0 : List Int) (d1_0 : List (List Int)) : Option Bool :=
  (slices_IndexFuncint_int n d0 d1_0).bind fun x_1 =>
  some ((decide ((0 : Int) ≤ x_1)))
theorem slices_ContainsFuncint_int_ok (n : Nat) (M : Mem) (A0 : Option Addr) (cap0 : Nat) (d0 : List Int) (h0 : Sli M 1 (Dat.int .i64) A0 cap0 d0) (ad1_0 : Addr) (c1_0 : List Value) (d1_0 : List (List Int)) (h1_0 : Rep M ((eL 1 (eL 1 (Dat.int .i64))) d1_0) c1_0) (q1_0 : ∀ j v, c1_0[j]? = some v → M.cell? (ad1_0.add j) = some v) (r : Bool) (hF : slices_ContainsFuncint_int n d0 d1_0 = some r) : Ok Tryz.prog M 120 [.slice A0 d0.length cap0, .func (.func 121) #[] #[.pointer (some ad1_0)]] (fun _ v => v = .bool r) := by
 unfold slices_ContainsFuncint_int at hF
 intro M1 hM0 w0 H w p0
 replace h0 := h0.mono hM0
 replace h1_0 := Rep.mono hM0 _ _ h1_0
 replace q1_0 := fun j v h => hM0.cell (q1_0 j v h)
 obtain ⟨A_1, cap_1, rfl, h_1⟩ := Rep.sli h1_0
 refine R_enter 9 Tryz.func120 rfl rfl (by simp) fun a0 f0 => RR (Y f0 1 fun _ f => eT (RR (Y f 2 fun _ f => ?_)))
 obtain ⟨x_1, hx_1, hF_1⟩ := bS hF
 refine Y17 f p0 (slices_IndexFuncint_int_ok n _ A0 cap0 d0 h0 ad1_0 [.slice A_1 d1_0.length cap_1] d1_0 (Sli.rep h_1) (fz_at (q1_0) 0 rfl) x_1 hx_1) fun w_1 p_1 _ f => Y f 2 fun _ f => eT (wp_ret (E_ret1 f rfl (by kernel_rfl : Vc.look _ 4 = some (.bool (decide ((0 : Int) ≤ x_1)))) ?_))
 obtain rfl := sI hF_1
 exact ⟨_, rfl, M1, (mR _), p_1, rfl⟩
def ready_May_s1 (n : Nat) (d0 : List (List Int)) (d1 : List Int) (s_1 : Int) : Option (Lp Int (Sum Unit Unit)) :=
    bif (decide (s_1 < ((d0.length : Nat) : Int))) then
      ((getI d0 s_1).bind fun x_1 =>
      (getI d1 s_1).bind fun x_2 =>
      bif (decide (x_2 < 0)) then
        (some (.br (.inl ())))
      else
        (getI d1 s_1).bind fun x_3 =>
        bif (decide ((5 : Int) < x_3)) then
          (some (.br (.inl ())))
        else
          (slices_ContainsFuncint_int n x_1 d0).bind fun x_4 =>
          bif x_4 then
            (some (.br (.inl ())))
          else
            need (inR .i64 (s_1 + 1)) <|
            some (.nx (s_1 + 1)))
    else
      some (.br (.inr ()))
def ready_May (n : Nat) (d0 : List (List Int)) (d1 : List Int) : Option Bool :=
  bif (!(decide (((d0.length : Nat) : Int) = ((d1.length : Nat) : Int)))) then
    (some ((false)))
  else
    (loopF (ready_May_s1 n d0 d1) n (0 : Int)).bind fun b_2 =>
    (match b_2 with 
    | .inl y_1 => some ((false)) 
    | .inr y_2 => some ((true)))
set_option maxRecDepth 20000 in
theorem ready_May_ok (n : Nat) (M : Mem) (A0 : Option Addr) (cap0 : Nat) (d0 : List (List Int)) (h0 : Sli M 1 (eL 1 (Dat.int .i64)) A0 cap0 d0) (A1 : Option Addr) (cap1 : Nat) (d1 : List Int) (h1 : Sli M 1 (Dat.int .i8) A1 cap1 d1) (r : Bool) (hF : ready_May n d0 d1 = some r) : Ok Tryz.prog M 71 [.slice A0 d0.length cap0, .slice A1 d1.length cap1] (fun _ v => v = .bool r) := by
 unfold ready_May at hF
 intro M1 hM0 w0 H w p0
 replace h0 := h0.mono hM0
 replace h1 := h1.mono hM0
 refine R_enter 37 Tryz.func71 rfl rfl (by simp) fun a0 f0 => RR (Y12 (cs := #[.slice A0 d0.length cap0]) (T := 39) f0 p0 fun b_1 M_1 w_1 hM_1 hc_1 p_1 _ f => ?_)
 have hc_2 := fz_box hc_1
 refine Y f 1 fun _ f => eT (R_seq (RR (Y14 f p_1 hc_2 0 rfl fun _ f => Y f 4 fun _ f => eT (RcF f hF (fun h_1 hF_1 => ?_) fun h_1 hF_2 => ?_))))
 ·have k_1 : ¬ (((d0.length : Nat) : Int) = ((d1.length : Nat) : Int)) := (not_iff dI).1 h_1
  refine RR (Y f 1 fun _ f => eT (wp_ret (T_r (E_ret1 f rfl (by kernel_rfl : Vc.look _ 4 = some (.bool false)) ?_))))
  obtain rfl := sI hF_1
  exact ⟨_, rfl, M_1, hM_1, p_1, rfl⟩
 ·have k_2 : ¬ (¬ (((d0.length : Nat) : Int) = ((d1.length : Nat) : Int))) := iff_f (not_iff dI) h_1
  refine wp_skip (T_n (R_seq (RR (Y14 f p_1 hc_2 0 rfl fun _ f => Y f 2 fun _ f => eT (wp_block ?_)))))
  obtain ⟨b_2, hL_1, hF_3⟩ := bS hF_2
  refine wp_mono (Q := fun e a w => (e = .ret ∧ (∃ y_1 : Unit, b_2 = .inl y_1 ∧ ∃ M_3 : Mem, M_1.le M_3 ∧ Frm 37 [(4, .bool false)] a ∧ Hp w0 M_3 (H) w)) ∨ (e = .exit 0 ∧ (∃ y_2 : Unit, b_2 = .inr y_2 ∧ ∃ M_4 : Mem, M_1.le M_4 ∧ Frm 37 [] a ∧ Hp w0 M_4 (H) w))) (R_loop (n := 37) (w0 := w0) (M := M_1) (fun (x : Nat × Int) => match x with | (m_1, s_1) => [(1, .slice A1 d1.length cap1), (2, .pointer (some (⟨b_1, 0, none⟩))), (12, .slice A0 d0.length cap0), (13, .int .i64 ((d0.length : Nat) : Int)), (14, .int .i64 s_1)]) (fun (x : Nat × Int) => match x with | (m_1, s_1) => (H)) (fun (x : Nat × Int) (MM : Mem) => match x with | (m_1, s_1) => loopF (ready_May_s1 n d0 d1) m_1 s_1 = some b_2) (fun (x : Nat × Int) => match x with | (m_1, s_1) => m_1) (n, (0 : Int)) (f.kp) p_1 hL_1 ?_) ?_
  ·rintro ⟨m_1, s_1⟩ M_2 _ w_2 hM_2 I_1 f p_2
   have I_1L := I_1
   obtain ⟨m_2, r_1, rfl, hs_1, hn_1⟩ := loop_step I_1L
   unfold ready_May_s1 at hs_1
   refine RR (Y f 1 fun _ f => eT (R_seq (RcF f hs_1 (fun h_2 hF_4 => ?_) fun h_2 hF_16 => ?_)))
   ·have k_3 := dI.1 h_2
    refine wp_skip (T_n (R_seq (wp_block (RR (Y f 1 fun _ f => ?_)))))
    obtain ⟨x_1, hx_1, hF_5⟩ := bS hF_4
    obtain ⟨ad_1, c_1, e_1, -, hr_1, hc_3⟩ := Sli.at_ (h0.mono (hM_1.trans hM_2)) hx_1
    obtain ⟨A_1, cap_1, rfl, h_3⟩ := Rep.sli hr_1
    refine Z f (Y28 e_1 rfl (len := d0.length) (cap := cap0) (k := .i64) (i := s_1) (e := 47) (sz := 1) (getI_nn hx_1) (getI_lt hx_1)) fun _ f => Y14 f p_2 hc_3 0 rfl fun _ f => Y f 2 fun _ f => eT (RR (Y f 2 fun _ f => ?_))
    obtain ⟨x_2, hx_2, hF_6⟩ := bS hF_5
    obtain ⟨ad_2, c_2, e_2, -, hr_2, hc_4⟩ := Sli.at_ (h1.mono (hM_1.trans hM_2)) hx_2
    obtain rfl : c_2 = [.int .i8 x_2] := hr_2
    refine Z f (Y28 e_2 rfl (len := d1.length) (cap := cap1) (k := .i64) (i := s_1) (e := 22) (sz := 1) (getI_nn hx_2) (getI_lt hx_2)) fun _ f => Y14 f p_2 hc_4 0 rfl fun _ f => Y f 2 fun _ f => ?_
    rcases cE hF_6 with ⟨h_4, hF_7⟩ | ⟨h_4, hF_8⟩
    ·have k_4 := dI.1 h_4
     have f := f.st 24 (cB h_4)
     refine Y f 11 fun _ f => eT (Y8 f (RR (Y f 1 fun _ f => eT (wp_ret (B_r (T_r (T_r ?_)))))))
     obtain rfl := sI hF_7
     exact .inl ⟨rfl, (), (sI hn_1).symm, M_2, hM_2, f.kp, p_2⟩
    ·have k_5 := iff_f dI h_4
     have f := f.st 24 (cB h_4)
     refine Y f 2 fun _ f => ?_
     obtain ⟨x_3, hx_3, hF_9⟩ := bS hF_8
     obtain ⟨ad_3, c_3, e_3, -, hr_3, hc_5⟩ := Sli.at_ (h1.mono (hM_1.trans hM_2)) hx_3
     obtain rfl : c_3 = [.int .i8 x_3] := hr_3
     refine Z f (Y28 e_3 rfl (len := d1.length) (cap := cap1) (k := .i64) (i := s_1) (e := 22) (sz := 1) (getI_nn hx_3) (getI_lt hx_3)) fun _ f => Y14 f p_2 hc_5 0 rfl fun _ f => Y f 3 fun _ f => ?_
     rcases cE hF_9 with ⟨h_5, hF_10⟩ | ⟨h_5, hF_11⟩
     ·have k_6 := dI.1 h_5
      have f := f.st 31 (cB h_5)
      refine Y f 4 fun _ f => eT (Y8 f (RR (Y f 1 fun _ f => eT (wp_ret (B_r (T_r (T_r ?_)))))))
      obtain rfl := sI hF_10
      exact .inl ⟨rfl, (), (sI hn_1).symm, M_2, hM_2, f.kp, p_2⟩
     ·have k_7 := iff_f dI h_5
      have f := f.st 31 (cB h_5)
      refine Y f 2 fun _ f => ?_
      obtain ⟨x_4, hx_4, hF_12⟩ := bS hF_11
      refine Y17 f p_2 (slices_ContainsFuncint_int_ok n _ A_1 cap_1 x_1 h_3 (⟨b_1, 0, none⟩) [.slice A0 d0.length cap0] d0 (Sli.rep (h0.mono (hM_1.trans hM_2))) (fz_at ((fzu hM_2 hc_2)) 0 rfl) x_4 hx_4) fun w_3 p_3 _ f => Y f 1 fun _ f => eT (RcF f hF_12 (fun h_6 hF_13 => ?_) fun h_6 hF_14 => ?_)
      ·refine RR (Y f 1 fun _ f => eT (wp_ret (B_r (T_r (T_r ?_)))))
       obtain rfl := sI hF_13
       exact .inl ⟨rfl, (), (sI hn_1).symm, M_2, hM_2, f.kp, p_3⟩
      ·refine wp_skip (B_n (T_n (R_reg ?_)))
       obtain ⟨g_1, hF_15⟩ := nS hF_14
       refine Y f 1 fun _ f => ?_
       have f := f.st 36 (congrArg (Value.int .i64) (inR_wrap g_1))
       refine Y f 1 fun _ f => eT ?_
       obtain rfl := sI hF_15
       exact ⟨⟨m_2, s_1 + 1⟩, Nat.lt_succ_self _, M_2, hM_2, hn_1, f.kp, p_3⟩
   ·have k_10 := iff_f dI h_2
    refine wp_exit (T_x (T_x ?_))
    obtain rfl := sI hF_16
    exact .inr ⟨rfl, (), (sI hn_1).symm, M_2, hM_2, f.kp, p_2⟩
  ·rintro _ _ w_6 (⟨rfl, y_1, rfl, M_3, hM_3, f, p_4⟩ | ⟨rfl, y_2, rfl, M_4, hM_4, f, p_5⟩)
   ·refine B_r (T_r (E_ret1 f rfl (by kernel_rfl : Vc.look _ 4 = some (.bool false)) ?_))
    obtain rfl := sI hF_3
    exact ⟨_, rfl, M_3, (hM_1.trans hM_3), p_4, rfl⟩
   ·refine B_x (T_n (RR (Y f 1 fun _ f => eT (wp_ret (E_ret1 f rfl (by kernel_rfl : Vc.look _ 4 = some (.bool true)) ?_)))))
    obtain rfl := sI hF_3
    exact ⟨_, rfl, M_4, (hM_1.trans hM_4), p_5, rfl⟩
def ready_ways (n : Nat) (d0 : List (List Int)) (d1 : Bool) : Option (List (List Int)) :=
  bif d1 then
    ((deps_Turned n d0).bind fun x_1 =>
    some (x_1))
  else
    some (d0)
theorem ready_ways_ok (n : Nat) (M : Mem) (A0 : Option Addr) (cap0 : Nat) (d0 : List (List Int)) (h0 : Sli M 1 (eL 1 (Dat.int .i64)) A0 cap0 d0) (d1 : Bool) (r : List (List Int)) (hF : ready_ways n d0 d1 = some r) : Ok Tryz.prog M 72 [.slice A0 d0.length cap0, .bool d1] (fun M' v => ∃ (A0 : Option Addr) (k0 : Nat), v = .slice A0 r.length k0 ∧ Sli M' 1 (eL 1 (Dat.int .i64)) A0 k0 r) := by
 unfold ready_ways at hF
 intro M1 hM0 w0 H w p0
 replace h0 := h0.mono hM0
 refine R_enter 9 Tryz.func72 rfl rfl (by simp) fun a0 f0 => RR (Y f0 1 fun _ f => eT (R_seq (RR (Y f 1 fun _ f => eT (RcF f hF (fun h_1 hF_1 => ?_) fun h_1 hF_3 => ?_)))))
 ·refine RR (Y f 1 fun _ f => ?_)
  obtain ⟨x_1, hx_1, hF_2⟩ := bS hF_1
  refine Y15 f p0 (deps_Turned_ok n _ A0 cap0 d0 h0 x_1 hx_1) fun _ M_1 w_1 hM_1 p_1 q_1 _ f => ?_
  obtain ⟨A_1, cap_1, rfl, h_2⟩ := q_1
  refine Y f 1 fun _ f => eT (wp_ret (T_r (E_ret1 f rfl (by kernel_rfl : Vc.look _ 4 = some (.slice A_1 x_1.length cap_1)) ?_)))
  obtain rfl := sI hF_2
  exact ⟨_, rfl, M_1, hM_1, p_1, ⟨A_1, cap_1, rfl, h_2⟩⟩
 ·refine wp_skip (T_n (RR (Y f 2 fun _ f => eT (wp_ret (E_ret1 f rfl (by kernel_rfl : Vc.look _ 4 = some (.slice A0 d0.length cap0)) ?_)))))
  obtain rfl := sI hF_3
  exact ⟨_, rfl, M1, (mR _), p0, ⟨A0, cap0, rfl, h0⟩⟩
def ready_lets (n : Nat) (d0 : Int) : Option Bool :=
  bif (decide (d0 = 0)) then
    (some ((true)))
  else
    some ((decide (d0 = 3)))
theorem ready_lets_ok (n : Nat) (M : Mem) (d0 : Int) (r : Bool) (hF : ready_lets n d0 = some r) : Ok Tryz.prog M 102 [.int .i8 d0] (fun _ v => v = .bool r) := by
 unfold ready_lets at hF
 intro M1 hM0 w0 H w p0
 refine R_enter 9 Tryz.func102 rfl rfl (by simp) fun a0 f0 => RR (Y f0 1 fun _ f => eT (RR (Y f 3 fun _ f => ?_)))
 rcases cE hF with ⟨h_1, hF_1⟩ | ⟨h_1, hF_2⟩
 ·have k_1 := dI.1 h_1
  have f := f.st 5 (cB h_1)
  refine Y f 4 fun _ f => eT (wp_ret (E_ret1 f rfl (by kernel_rfl : Vc.look _ 2 = some (.bool true)) ?_))
  obtain rfl := sI hF_1
  exact ⟨_, rfl, M1, (mR _), p0, rfl⟩
 ·have k_2 := iff_f dI h_1
  have f := f.st 5 (cB h_1)
  refine Y f 4 fun _ f => eT (wp_ret (E_ret1 f rfl (by kernel_rfl : Vc.look _ 2 = some (.bool (decide (d0 = 3)))) ?_))
  obtain rfl := sI hF_2
  exact ⟨_, rfl, M1, (mR _), p0, rfl⟩
def ready_over_1 (n : Nat) (d0 : Int) (d2 : List Int) : Option Bool :=
  (getI d2 d0).bind fun x_1 =>
  (ready_lets n x_1).bind fun x_2 =>
  some ((x_2))
theorem ready_over_1_ok (n : Nat) (M : Mem) (d0 : Int) (ad1 : Addr) (q1 : ∀ j v, [(.func (.func 102) #[] #[] : Value)][j]? = some v → M.cell? (ad1.add j) = some v) (ad2 : Addr) (c2 : List Value) (d2 : List Int) (h2 : Rep M ((eL 1 (Dat.int .i8)) d2) c2) (q2 : ∀ j v, c2[j]? = some v → M.cell? (ad2.add j) = some v) (r : Bool) (hF : ready_over_1 n d0 d2 = some r) : Ok Tryz.prog M 123 [.int .i64 d0, .pointer (some ad1), .pointer (some ad2)] (fun _ v => v = .bool r) := by
 unfold ready_over_1 at hF
 intro M1 hM0 w0 H w p0
 replace q1 := fun j v h => hM0.cell (q1 j v h)
 replace h2 := Rep.mono hM0 _ _ h2
 replace q2 := fun j v h => hM0.cell (q2 j v h)
 obtain ⟨A_1, cap_1, rfl, h_1⟩ := Rep.sli h2
 refine R_enter 11 Tryz.func123 rfl rfl (by simp) fun a0 f0 => RR (Y f0 1 fun _ f => eT (R_seq (R_draw p0 (by kernel_rfl) (by kernel_rfl) (Y4 f q1 0 rfl fun _ f => Y4 f q2 0 rfl fun _ f => Y5 default f 1 fun _ f => ?_))))
 obtain ⟨x_1, hx_1, hF_1⟩ := bS hF
 obtain ⟨ad_1, c_1, e_1, -, hr_1, hc_1⟩ := Sli.at_ h_1 hx_1
 obtain rfl : c_1 = [.int .i8 x_1] := hr_1
 refine Y2 (v := .pointer (some (ad_1.add (d0.toNat * 1)))) f (fun _ pq => Y28 e_1 rfl (len := d2.length) (cap := cap_1) (k := .i64) (i := d0) (e := 22) (sz := 1) (getI_nn hx_1) (getI_lt hx_1)) fun _ f => Y4 f hc_1 0 rfl fun _ f => ?_
 obtain ⟨x_2, hx_2, hF_2⟩ := bS hF_1
 refine Y3 f (ready_lets_ok n _ x_1 x_2 hx_2) fun _ f => Y5 default f 1 fun _ f => Q_end rfl ?_
 intro w_2 p_2
 refine T_n (wp_ret (E_ret1 f rfl (by kernel_rfl : Vc.look _ 4 = some (.bool x_2)) ?_))
 obtain rfl := sI hF_2
 exact ⟨_, rfl, M1, (mR _), p_2, rfl⟩
def ready_every_1 (n : Nat) (d0 : Int) (d1_f_1 : List Int) : Option Bool :=
  (ready_over_1 n d0 d1_f_1).bind fun x_1 =>
  some ((!x_1))
theorem ready_every_1_ok (n : Nat) (M : Mem) (d0 : Int) (ad1_f_0 : Addr) (q1_f_0 : ∀ j v, [(.func (.func 102) #[] #[] : Value)][j]? = some v → M.cell? (ad1_f_0.add j) = some v) (ad1_f_1 : Addr) (c1_f_1 : List Value) (d1_f_1 : List Int) (h1_f_1 : Rep M ((eL 1 (Dat.int .i8)) d1_f_1) c1_f_1) (q1_f_1 : ∀ j v, c1_f_1[j]? = some v → M.cell? (ad1_f_1.add j) = some v) (ad1 : Addr) (q1 : ∀ j v, [(.func (.func 123) #[] #[.pointer (some ad1_f_0), .pointer (some ad1_f_1)] : Value)][j]? = some v → M.cell? (ad1.add j) = some v) (r : Bool) (hF : ready_every_1 n d0 d1_f_1 = some r) : Ok Tryz.prog M 162 [.int .i64 d0, .pointer (some ad1)] (fun _ v => v = .bool r) := by
 unfold ready_every_1 at hF
 intro M1 hM0 w0 H w p0
 replace q1_f_0 := fun j v h => hM0.cell (q1_f_0 j v h)
 replace h1_f_1 := Rep.mono hM0 _ _ h1_f_1
 replace q1_f_1 := fun j v h => hM0.cell (q1_f_1 j v h)
 replace q1 := fun j v h => hM0.cell (q1 j v h)
 obtain ⟨A_1, cap_1, rfl, h_1⟩ := Rep.sli h1_f_1
 refine R_enter 8 Tryz.func162 rfl rfl (by simp) fun a0 f0 => RR (Y f0 1 fun _ f => eT (RR (Y14 f p0 q1 0 rfl fun _ f => Y f 1 fun _ f => ?_)))
 obtain ⟨x_1, hx_1, hF_1⟩ := bS hF
 refine Y17 f p0 (ready_over_1_ok n _ d0 ad1_f_0 (q1_f_0) ad1_f_1 [.slice A_1 d1_f_1.length cap_1] d1_f_1 (Sli.rep h_1) (fz_at (q1_f_1) 0 rfl) x_1 hx_1) fun w_1 p_1 _ f => Y f 2 fun _ f => eT (wp_ret (E_ret1 f rfl (by kernel_rfl : Vc.look _ 3 = some (.bool !x_1)) ?_))
 obtain rfl := sI hF_1
 exact ⟨_, rfl, M1, (mR _), p_1, rfl⟩
def slices_IndexFuncint_int_2_s1 (n : Nat) (d0 : List Int) (d1_0_f_1 : List Int) (s_1 : Int) : Option (Lp Int (Sum Int Unit)) :=
    bif (decide (s_1 < ((d0.length : Nat) : Int))) then
      ((getI d0 s_1).bind fun x_1 =>
      (ready_every_1 n x_1 d1_0_f_1).bind fun x_2 =>
      bif x_2 then
        (some (.br (.inl s_1)))
      else
        need (inR .i64 (s_1 + 1)) <|
        some (.nx (s_1 + 1)))
    else
      some (.br (.inr ()))
def slices_IndexFuncint_int_2 (n : Nat) (d0 : List Int) (d1_0_f_1 : List Int) : Option Int :=
  (loopF (slices_IndexFuncint_int_2_s1 n d0 d1_0_f_1) n (0 : Int)).bind fun b_1 =>
  (match b_1 with 
  | .inl y_1 => some (y_1) 
  | .inr y_2 => some ((-1 : Int)))
theorem slices_IndexFuncint_int_2_ok (n : Nat) (M : Mem) (A0 : Option Addr) (cap0 : Nat) (d0 : List Int) (h0 : Sli M 1 (Dat.int .i64) A0 cap0 d0) (ad1_0_f_0 : Addr) (q1_0_f_0 : ∀ j v, [(.func (.func 102) #[] #[] : Value)][j]? = some v → M.cell? (ad1_0_f_0.add j) = some v) (ad1_0_f_1 : Addr) (c1_0_f_1 : List Value) (d1_0_f_1 : List Int) (h1_0_f_1 : Rep M ((eL 1 (Dat.int .i8)) d1_0_f_1) c1_0_f_1) (q1_0_f_1 : ∀ j v, c1_0_f_1[j]? = some v → M.cell? (ad1_0_f_1.add j) = some v) (ad1_0 : Addr) (q1_0 : ∀ j v, [(.func (.func 123) #[] #[.pointer (some ad1_0_f_0), .pointer (some ad1_0_f_1)] : Value)][j]? = some v → M.cell? (ad1_0.add j) = some v) (r : Int) (hF : slices_IndexFuncint_int_2 n d0 d1_0_f_1 = some r) : Ok Tryz.prog M 167 [.slice A0 d0.length cap0, .func (.func 162) #[] #[.pointer (some ad1_0)]] (fun _ v => v = .int .i64 r) := by
 unfold slices_IndexFuncint_int_2 at hF
 intro M1 hM0 w0 H w p0
 replace h0 := h0.mono hM0
 replace q1_0_f_0 := fun j v h => hM0.cell (q1_0_f_0 j v h)
 replace h1_0_f_1 := Rep.mono hM0 _ _ h1_0_f_1
 replace q1_0_f_1 := fun j v h => hM0.cell (q1_0_f_1 j v h)
 replace q1_0 := fun j v h => hM0.cell (q1_0 j v h)
 obtain ⟨A_1, cap_1, rfl, h_1⟩ := Rep.sli h1_0_f_1
 refine R_enter 19 Tryz.func167 rfl rfl (by simp) fun a0 f0 => RR (Y f0 1 fun _ f => eT (R_seq (RR (Y f 3 fun _ f => eT (wp_block ?_)))))
 obtain ⟨b_1, hL_1, hF_1⟩ := bS hF
 refine wp_mono (Q := fun e a w => (e = .ret ∧ (∃ y_1 : Int, b_1 = .inl y_1 ∧ ∃ M_2 : Mem, M1.le M_2 ∧ Frm 19 [(4, .int .i64 y_1)] a ∧ Hp w0 M_2 (H) w)) ∨ (e = .exit 0 ∧ (∃ y_2 : Unit, b_1 = .inr y_2 ∧ ∃ M_3 : Mem, M1.le M_3 ∧ Frm 19 [] a ∧ Hp w0 M_3 (H) w))) (R_loop (n := 19) (w0 := w0) (M := M1) (fun (x : Nat × Int) => match x with | (m_1, s_1) => [(0, .slice A0 d0.length cap0), (1, .func (.func 162) #[] #[.pointer (some ad1_0)]), (7, .int .i64 ((d0.length : Nat) : Int)), (8, .int .i64 s_1)]) (fun (x : Nat × Int) => match x with | (m_1, s_1) => (H)) (fun (x : Nat × Int) (MM : Mem) => match x with | (m_1, s_1) => loopF (slices_IndexFuncint_int_2_s1 n d0 d1_0_f_1) m_1 s_1 = some b_1) (fun (x : Nat × Int) => match x with | (m_1, s_1) => m_1) (n, (0 : Int)) (f.kp) p0 hL_1 ?_) ?_
 ·rintro ⟨m_1, s_1⟩ M_1 _ w_1 hM_1 I_1 f p_1
  have I_1L := I_1
  obtain ⟨m_2, r_1, rfl, hs_1, hn_1⟩ := loop_step I_1L
  unfold slices_IndexFuncint_int_2_s1 at hs_1
  refine RR (Y f 1 fun _ f => eT (R_seq (RcF f hs_1 (fun h_2 hF_2 => ?_) fun h_2 hF_8 => ?_)))
  ·have k_1 := dI.1 h_2
   refine wp_skip (T_n (R_seq (wp_block (RR (Y f 2 fun _ f => eT (RR (Y f 3 fun _ f => ?_)))))))
   obtain ⟨x_1, hx_1, hF_3⟩ := bS hF_2
   obtain ⟨ad_1, c_1, e_1, -, hr_1, hc_1⟩ := Sli.at_ (h0.mono hM_1) hx_1
   obtain rfl : c_1 = [.int .i64 x_1] := hr_1
   refine Z f (Y28 e_1 rfl (len := d0.length) (cap := cap0) (k := .i64) (i := s_1) (e := 3) (sz := 1) (getI_nn hx_1) (getI_lt hx_1)) fun _ f => Y14 f p_1 hc_1 0 rfl fun _ f => ?_
   obtain ⟨x_2, hx_2, hF_4⟩ := bS hF_3
   refine Y17 f p_1 (ready_every_1_ok n _ x_1 ad1_0_f_0 ((fzu hM_1 q1_0_f_0)) ad1_0_f_1 [.slice A_1 d1_0_f_1.length cap_1] d1_0_f_1 (Sli.rep (h_1.mono hM_1)) (fz_at ((fzu hM_1 q1_0_f_1)) 0 rfl) ad1_0 ((fzu hM_1 q1_0)) x_2 hx_2) fun w_2 p_2 _ f => eT (RcF f hF_4 (fun h_3 hF_5 => ?_) fun h_3 hF_6 => ?_)
   ·refine RR (Y f 2 fun _ f => eT (wp_ret (B_r (T_r (T_r ?_)))))
    obtain rfl := sI hF_5
    exact .inl ⟨rfl, s_1, (sI hn_1).symm, M_1, hM_1, f.kp, p_2⟩
   ·refine wp_skip (B_n (T_n (R_reg ?_)))
    obtain ⟨g_1, hF_7⟩ := nS hF_6
    refine Y f 1 fun _ f => ?_
    have f := f.st 18 (congrArg (Value.int .i64) (inR_wrap g_1))
    refine Y f 1 fun _ f => eT ?_
    obtain rfl := sI hF_7
    exact ⟨⟨m_2, s_1 + 1⟩, Nat.lt_succ_self _, M_1, hM_1, hn_1, f.kp, p_2⟩
  ·have k_4 := iff_f dI h_2
   refine wp_exit (T_x (T_x ?_))
   obtain rfl := sI hF_8
   exact .inr ⟨rfl, (), (sI hn_1).symm, M_1, hM_1, f.kp, p_1⟩
 ·rintro _ _ w_5 (⟨rfl, y_1, rfl, M_2, hM_2, f, p_3⟩ | ⟨rfl, y_2, rfl, M_3, hM_3, f, p_4⟩)
  ·refine B_r (T_r (E_ret1 f rfl (by kernel_rfl : Vc.look _ 4 = some (.int .i64 y_1)) ?_))
   obtain rfl := sI hF_1
   exact ⟨_, rfl, M_2, hM_2, p_3, rfl⟩
  ·refine B_x (T_n (RR (Y f 1 fun _ f => eT (wp_ret (E_ret1 f rfl (by kernel_rfl : Vc.look _ 4 = some (.int .i64 (-1))) ?_)))))
   obtain rfl := sI hF_1
   exact ⟨_, rfl, M_3, hM_3, p_4, rfl⟩
def slices_ContainsFuncint_int_2 (n : Nat) (d0 : List Int) (d1_0_f_1 : List Int) : Option Bool :=
  (slices_IndexFuncint_int_2 n d0 d1_0_f_1).bind fun x_1 =>
  some ((decide ((0 : Int) ≤ x_1)))
theorem slices_ContainsFuncint_int_2_ok (n : Nat) (M : Mem) (A0 : Option Addr) (cap0 : Nat) (d0 : List Int) (h0 : Sli M 1 (Dat.int .i64) A0 cap0 d0) (ad1_0_f_0 : Addr) (q1_0_f_0 : ∀ j v, [(.func (.func 102) #[] #[] : Value)][j]? = some v → M.cell? (ad1_0_f_0.add j) = some v) (ad1_0_f_1 : Addr) (c1_0_f_1 : List Value) (d1_0_f_1 : List Int) (h1_0_f_1 : Rep M ((eL 1 (Dat.int .i8)) d1_0_f_1) c1_0_f_1) (q1_0_f_1 : ∀ j v, c1_0_f_1[j]? = some v → M.cell? (ad1_0_f_1.add j) = some v) (ad1_0 : Addr) (q1_0 : ∀ j v, [(.func (.func 123) #[] #[.pointer (some ad1_0_f_0), .pointer (some ad1_0_f_1)] : Value)][j]? = some v → M.cell? (ad1_0.add j) = some v) (r : Bool) (hF : slices_ContainsFuncint_int_2 n d0 d1_0_f_1 = some r) : Ok Tryz.prog M 120 [.slice A0 d0.length cap0, .func (.func 162) #[] #[.pointer (some ad1_0)]] (fun _ v => v = .bool r) := by
 unfold slices_ContainsFuncint_int_2 at hF
 intro M1 hM0 w0 H w p0
 replace h0 := h0.mono hM0
 replace q1_0_f_0 := fun j v h => hM0.cell (q1_0_f_0 j v h)
 replace h1_0_f_1 := Rep.mono hM0 _ _ h1_0_f_1
 replace q1_0_f_1 := fun j v h => hM0.cell (q1_0_f_1 j v h)
 replace q1_0 := fun j v h => hM0.cell (q1_0 j v h)
 obtain ⟨A_1, cap_1, rfl, h_1⟩ := Rep.sli h1_0_f_1
 refine R_enter 9 Tryz.func120 rfl rfl (by simp) fun a0 f0 => RR (Y f0 1 fun _ f => eT (RR (Y f 2 fun _ f => ?_)))
 obtain ⟨x_1, hx_1, hF_1⟩ := bS hF
 refine Y17 f p0 (slices_IndexFuncint_int_2_ok n _ A0 cap0 d0 h0 ad1_0_f_0 (q1_0_f_0) ad1_0_f_1 [.slice A_1 d1_0_f_1.length cap_1] d1_0_f_1 (Sli.rep h_1) (fz_at (q1_0_f_1) 0 rfl) ad1_0 (q1_0) x_1 hx_1) fun w_1 p_1 _ f => Y f 2 fun _ f => eT (wp_ret (E_ret1 f rfl (by kernel_rfl : Vc.look _ 4 = some (.bool (decide ((0 : Int) ≤ x_1)))) ?_))
 obtain rfl := sI hF_1
 exact ⟨_, rfl, M1, (mR _), p_1, rfl⟩
def ready_every (n : Nat) (d0 : List Int) (d1_1 : List Int) : Option Bool :=
  (slices_ContainsFuncint_int_2 n d0 d1_1).bind fun x_1 =>
  some ((!x_1))
theorem ready_every_ok (n : Nat) (M : Mem) (A0 : Option Addr) (cap0 : Nat) (d0 : List Int) (h0 : Sli M 1 (Dat.int .i64) A0 cap0 d0) (ad1_0 : Addr) (q1_0 : ∀ j v, [(.func (.func 102) #[] #[] : Value)][j]? = some v → M.cell? (ad1_0.add j) = some v) (ad1_1 : Addr) (c1_1 : List Value) (d1_1 : List Int) (h1_1 : Rep M ((eL 1 (Dat.int .i8)) d1_1) c1_1) (q1_1 : ∀ j v, c1_1[j]? = some v → M.cell? (ad1_1.add j) = some v) (r : Bool) (hF : ready_every n d0 d1_1 = some r) : Ok Tryz.prog M 103 [.slice A0 d0.length cap0, .func (.func 123) #[] #[.pointer (some ad1_0), .pointer (some ad1_1)]] (fun _ v => v = .bool r) := by
 unfold ready_every at hF
 intro M1 hM0 w0 H w p0
 replace h0 := h0.mono hM0
 replace q1_0 := fun j v h => hM0.cell (q1_0 j v h)
 replace h1_1 := Rep.mono hM0 _ _ h1_1
 replace q1_1 := fun j v h => hM0.cell (q1_1 j v h)
 obtain ⟨A_1, cap_1, rfl, h_1⟩ := Rep.sli h1_1
 refine R_enter 9 Tryz.func103 rfl rfl (by simp) fun a0 f0 => RR (Y12 (cs := #[.func (.func 123) #[] #[.pointer (some ad1_0), .pointer (some ad1_1)]]) (T := 194) f0 p0 fun b_1 M_1 w_1 hM_1 hc_1 p_1 _ f => ?_)
 have hc_2 := fz_box hc_1
 refine Y f 1 fun _ f => eT (RR (Y f 2 fun _ f => ?_))
 obtain ⟨x_1, hx_1, hF_1⟩ := bS hF
 refine Y17 f p_1 (slices_ContainsFuncint_int_2_ok n _ A0 cap0 d0 (h0.mono hM_1) ad1_0 ((fzu hM_1 q1_0)) ad1_1 [.slice A_1 d1_1.length cap_1] d1_1 (Sli.rep (h_1.mono hM_1)) (fz_at ((fzu hM_1 q1_1)) 0 rfl) (⟨b_1, 0, none⟩) (hc_2) x_1 hx_1) fun w_2 p_2 _ f => Y f 2 fun _ f => eT (wp_ret (E_ret1 f rfl (by kernel_rfl : Vc.look _ 4 = some (.bool !x_1)) ?_))
 obtain rfl := sI hF_1
 exact ⟨_, rfl, M_1, hM_1, p_2, rfl⟩
def ready_over_s1 (n : Nat) (d0 : List (List Int)) (d1 : List Int) (s_1 : List Int × Int) : Option (Lp (List Int × Int) (List Int)) :=
    bif (decide (s_1.2 < ((d1.length : Nat) : Int))) then
      ((getI d1 s_1.2).bind fun x_1 =>
      ((bif (decide (x_1 = 1)) then
          ((getI d0 s_1.2).bind fun x_2 =>
          (ready_every n x_2 d1).bind fun x_3 =>
          some ((x_3)))
        else
          some ((false)) : Option Bool)).bind fun y_1 =>
      bif y_1 then
        (need ((s_1.1.length + 1) * 8 ≤ 140737488355328) <|
        need (inR .i64 (s_1.2 + 1)) <|
        some (.nx (s_1.1 ++ [s_1.2], s_1.2 + 1)))
      else
        need (inR .i64 (s_1.2 + 1)) <|
        some (.nx (s_1.1, s_1.2 + 1)))
    else
      some (.br s_1.1)
def ready_over (n : Nat) (d0 : List (List Int)) (d1 : List Int) : Option (List Int) :=
  (loopF (ready_over_s1 n d0 d1) n (([] : List Int), (0 : Int))).bind fun y_2 =>
  some (y_2)
set_option maxRecDepth 20000 in
theorem ready_over_ok (n : Nat) (M : Mem) (A0 : Option Addr) (cap0 : Nat) (d0 : List (List Int)) (h0 : Sli M 1 (eL 1 (Dat.int .i64)) A0 cap0 d0) (A1 : Option Addr) (cap1 : Nat) (d1 : List Int) (h1 : Sli M 1 (Dat.int .i8) A1 cap1 d1) (r : List Int) (hF : ready_over n d0 d1 = some r) : OkH Tryz.prog M [] 74 [.slice A0 d0.length cap0, .slice A1 d1.length cap1, .func (.func 102) #[] #[], .func (.func 103) #[] #[]] (fun M' E' v => ∃ (A0 : Option Addr) (k0 : Nat) (s0 : List Value), v = .slice A0 r.length k0 ∧ E' = [.row 3 1 (.slice A0 r.length k0) r.length s0] ∧ RepSeq M' (r.map (Dat.int .i64)) s0) := by
 unfold ready_over at hF
 intro M1 hM0 w0 H w p0
 replace h0 := h0.mono hM0
 replace h1 := h1.mono hM0
 refine R_enter 35 Tryz.func74 rfl rfl (by simp) fun a0 f0 => RR (Y12 (cs := #[.slice A1 d1.length cap1]) (T := 37) f0 p0 fun b_1 M_1 w_1 hM_1 hc_1 p_1 _ f => ?_)
 have hc_2 := fz_box hc_1
 refine Y12 (cs := #[.func (.func 102) #[] #[]]) (T := 136) f p_1 fun b_2 M_2 w_2 hM_2 hc_3 p_2 _ f => ?_
 have hc_4 := fz_box hc_3
 refine Y f 1 fun _ f => eT (R_seq (RR (Y14 f p_2 (fzu hM_2 hc_2) 0 rfl fun _ f => Y f 2 fun _ f => eT (wp_block ?_))))
 obtain ⟨A_1, cap_1, hv_1⟩ : ∃ A cap, Value.slice none 0 0 = .slice A ([] : List Int).length cap := ⟨none, 0, rfl⟩
 have p_3 : Hp w0 M_2 ((Ent.row 3 1 (.slice A_1 ([] : List Int).length cap_1) ([] : List Int).length []) :: H) w_2 := by rw [← hv_1]; exact p_2.nilRow 3 1
 have f := f.st 8 (hv_1)
 have hr_1 : RepSeq M_2 (([] : List Int).map (Dat.int .i64)) [] := rfl
 obtain ⟨b_3, hL_1, hF_1⟩ := bS hF
 refine wp_mono (Q := fun e a w => (e = .exit 0 ∧ (∃ y_2 : List Int, b_3 = y_2 ∧ ∃ M_5 : Mem, M_2.le M_5 ∧ ∃ (A_5 : Option Addr), ∃ (cap_5 : Nat), ∃ (cs_3 : List Value), RepSeq M_5 (y_2.map (Dat.int .i64)) cs_3 ∧ Frm 35 [(8, .slice A_5 y_2.length cap_5)] a ∧ Hp w0 M_5 ((Ent.row 3 1 (.slice A_5 y_2.length cap_5) y_2.length cs_3) :: H) w))) (R_loop (n := 35) (w0 := w0) (M := M_2) (fun (x : Nat × (List Int × Int) × (Option Addr) × Nat × (List Value)) => match x with | (m_1, s_1, A_2, cap_2, cs_1) => [(0, .slice A0 d0.length cap0), (3, .func (.func 103) #[] #[]), (5, .pointer (some (⟨b_1, 0, none⟩))), (6, .pointer (some (⟨b_2, 0, none⟩))), (8, .slice A_2 s_1.1.length cap_2), (11, .slice A1 d1.length cap1), (12, .int .i64 ((d1.length : Nat) : Int)), (13, .int .i64 s_1.2)]) (fun (x : Nat × (List Int × Int) × (Option Addr) × Nat × (List Value)) => match x with | (m_1, s_1, A_2, cap_2, cs_1) => ((Ent.row 3 1 (.slice A_2 s_1.1.length cap_2) s_1.1.length cs_1) :: H)) (fun (x : Nat × (List Int × Int) × (Option Addr) × Nat × (List Value)) (MM : Mem) => match x with | (m_1, s_1, A_2, cap_2, cs_1) => loopF (ready_over_s1 n d0 d1) m_1 s_1 = some b_3 ∧ RepSeq MM (s_1.1.map (Dat.int .i64)) cs_1) (fun (x : Nat × (List Int × Int) × (Option Addr) × Nat × (List Value)) => match x with | (m_1, s_1, A_2, cap_2, cs_1) => m_1) (n, (([] : List Int), (0 : Int)), A_1, cap_1, []) (f.kp) p_3 ⟨hL_1, hr_1⟩ ?_) ?_
 ·rintro ⟨m_1, s_1, A_2, cap_2, cs_1⟩ M_3 _ w_3 hM_3 I_1 f p_4
  obtain ⟨I_1L, hr_2⟩ := I_1
  obtain ⟨m_2, r_1, rfl, hs_1, hn_1⟩ := loop_step I_1L
  unfold ready_over_s1 at hs_1
  refine RR (Y f 1 fun _ f => eT (R_seq (RcF f hs_1 (fun h_1 hF_2 => ?_) fun h_1 hF_14 => ?_)))
  ·have k_1 := dI.1 h_1
   refine wp_skip (T_n (R_seq (wp_block (RR (Y f 1 fun _ f => ?_)))))
   obtain ⟨x_1, hx_1, hF_3⟩ := bS hF_2
   obtain ⟨ad_1, c_1, e_1, -, hr_3, hc_5⟩ := Sli.at_ (h1.mono ((hM_1.trans hM_2).trans hM_3)) hx_1
   obtain rfl : c_1 = [.int .i8 x_1] := hr_3
   refine Z f (Y28 e_1 rfl (len := d1.length) (cap := cap1) (k := .i64) (i := s_1.2) (e := 22) (sz := 1) (getI_nn hx_1) (getI_lt hx_1)) fun _ f => Y14 f p_4 hc_5 0 rfl fun _ f => Y f 2 fun _ f => eT (R_seq ?_)
   obtain ⟨j_1, hj_1, hF_4⟩ := bS hF_3
   refine R_mid (fun a_20 w_5 => ∃ y_1 : Bool, j_1 = y_1 ∧ ∃ M_4 : Mem, M_3.le M_4 ∧ Frm 35 [(0, .slice A0 d0.length cap0), (3, .func (.func 103) #[] #[]), (5, .pointer (some (⟨b_1, 0, none⟩))), (6, .pointer (some (⟨b_2, 0, none⟩))), (8, .slice A_2 s_1.1.length cap_2), (9, .int .i64 s_1.2), (11, .slice A1 d1.length cap1), (12, .int .i64 ((d1.length : Nat) : Int)), (13, .int .i64 s_1.2), (28, .bool y_1)] a_20 ∧ Hp w0 M_4 ((Ent.row 3 1 (.slice A_2 s_1.1.length cap_2) s_1.1.length cs_1) :: H) w_5) ?_ ?_
   ·refine R_reg (Y f 3 fun _ f => ?_)
    rcases cE hj_1 with ⟨h_2, hF_5⟩ | ⟨h_2, hF_8⟩
    ·have k_2 := dI.1 h_2
     have f := f.st 20 (cB h_2)
     refine Y f 3 fun _ f => ?_
     obtain ⟨x_2, hx_2, hF_6⟩ := bS hF_5
     obtain ⟨ad_2, c_2, e_2, -, hr_4, hc_6⟩ := Sli.at_ (h0.mono ((hM_1.trans hM_2).trans hM_3)) hx_2
     obtain ⟨A_3, cap_3, rfl, h_3⟩ := Rep.sli hr_4
     refine Z f (Y28 e_2 rfl (len := d0.length) (cap := cap0) (k := .i64) (i := s_1.2) (e := 47) (sz := 1) (getI_nn hx_2) (getI_lt hx_2)) fun _ f => Y14 f p_4 hc_6 0 rfl fun _ f => Y f 1 fun _ f => ?_
     obtain ⟨x_3, hx_3, hF_7⟩ := bS hF_6
     refine Y17 f p_4 (ready_every_ok n _ A_3 cap_3 x_2 h_3 (⟨b_2, 0, none⟩) ((fzu hM_3 hc_4)) (⟨b_1, 0, none⟩) [.slice A1 d1.length cap1] d1 (Sli.rep (h1.mono ((hM_1.trans hM_2).trans hM_3))) (fz_at ((fzu (hM_2.trans hM_3) hc_2)) 0 rfl) x_3 hx_3) fun w_4 p_5 _ f => Y f 1 fun _ f => eT ?_
     exact ⟨(x_3), (sI hF_7).symm, M_3, (mR _), f.kp, p_5⟩
    ·have k_3 := iff_f dI h_2
     have f := f.st 20 (cB h_2)
     refine Y f 8 fun _ f => eT ?_
     exact ⟨(false), (sI hF_8).symm, M_3, (mR _), f.kp, p_4⟩
   ·rintro a_20 w_5 ⟨y_1, hq_1, M_4, hM_4, f, p_6⟩
    subst j_1
    refine T_n (RcF f hF_4 (fun h_4 hF_9 => ?_) fun h_4 hF_12 => ?_)
    ·refine R_reg (Y f 2 fun _ f => V_allocS (k := 1) (c := 1) f p_6 (.cells #[.int .i64 s_1.2] 3 (0, 0)) (by kernel_rfl) (fun _ => by kernel_rfl) fun b_4 w_6 p_7 _ f => ?_)
     have p_8 := p_7.pl [1]
     obtain ⟨g_1, hF_10⟩ := nS hF_9
     refine Y20 (z := .int .i64 0) (f := (Dat.int .i64)) (xs := s_1.1) (ys := [s_1.2]) (news := [.int .i64 s_1.2]) (ad := ⟨b_4, 0, none⟩) (m := 1) (c := 1) f p_8 (RepSeq.mono hM_4 _ _ hr_2) (by exact ⟨_, _, rfl, rfl, rfl⟩) rfl rfl rfl rfl (own_cells (p_8.ownCell 1 rfl) 0 rfl) (by exact g_1) (by have hg_ := g_1; first | omega | (simp only [List.length_cons, List.length_nil] at *; omega)) fun A_4 cap_4 cs_2 w_7 p_9 hr_5 _ f => ?_
     have p_10 := p_9.pl [1]
     have p_11 := p_10.drop
     refine Y f 1 fun _ f => W_end rfl (B_n (T_n (R_reg ?_)))
     obtain ⟨g_2, hF_11⟩ := nS hF_10
     refine Y f 1 fun _ f => ?_
     have f := f.st 33 (congrArg (Value.int .i64) (inR_wrap g_2))
     refine Y f 1 fun _ f => eT ?_
     obtain rfl := sI hF_11
     exact ⟨⟨m_2, (s_1.1 ++ [s_1.2], s_1.2 + 1), A_4, cap_4, cs_2⟩, Nat.lt_succ_self _, M_4, (hM_3.trans hM_4), ⟨hn_1, hr_5⟩, f.kp, p_11⟩
    ·refine wp_skip (B_n (T_n (R_reg ?_)))
     obtain ⟨g_3, hF_13⟩ := nS hF_12
     refine Y f 1 fun _ f => ?_
     have f := f.st 33 (congrArg (Value.int .i64) (inR_wrap g_3))
     refine Y f 1 fun _ f => eT ?_
     obtain rfl := sI hF_13
     exact ⟨⟨m_2, (s_1.1, s_1.2 + 1), A_2, cap_2, cs_1⟩, Nat.lt_succ_self _, M_4, (hM_3.trans hM_4), ⟨hn_1, (RepSeq.mono hM_4 _ _ hr_2)⟩, f.kp, p_6⟩
  ·have k_6 := iff_f dI h_1
   refine wp_exit (T_x (T_x ?_))
   obtain rfl := sI hF_14
   exact ⟨rfl, s_1.1, (sI hn_1).symm, M_3, hM_3, A_2, cap_2, cs_1, hr_2, f.kp, p_4⟩
 ·rintro _ _ w_9 ⟨rfl, y_2, hq_, M_5, hM_5, A_5, cap_5, cs_3, hr_6, f, p_12⟩
  subst b_3
  refine B_x (T_n (RR (Y f 2 fun _ f => eT (wp_ret (E_ret1 f rfl (by kernel_rfl : Vc.look _ 8 = some (.slice A_5 y_2.length cap_5)) ?_)))))
  obtain rfl := sI hF_1
  exact ⟨_, rfl, M_5, _, ((hM_1.trans hM_2).trans hM_5), p_12, ⟨A_5, cap_5, cs_3, rfl, rfl, hr_6⟩⟩
def ready_Ready (n : Nat) (d0 : List (List Int)) (d1 : List Int) (d2 : Bool) : Option (List Int × Int) :=
  (ready_May n d0 d1).bind fun x_1 =>
  bif !x_1 then
    (some ((([] : List Int), (2 : Int))))
  else
    (ready_ways n d0 (d2)).bind fun x_2 =>
    (ready_over n x_2 d1).bind fun x_3 =>
    some ((x_3, (0 : Int)))
theorem ready_Ready_ok (n : Nat) (M : Mem) (A0 : Option Addr) (cap0 : Nat) (d0 : List (List Int)) (h0 : Sli M 1 (eL 1 (Dat.int .i64)) A0 cap0 d0) (A1 : Option Addr) (cap1 : Nat) (d1 : List Int) (h1 : Sli M 1 (Dat.int .i8) A1 cap1 d1) (d2 : Bool) (r : List Int × Int) (hF : ready_Ready n d0 d1 d2 = some r) : OkH Tryz.prog M [] 51 [.slice A0 d0.length cap0, .slice A1 d1.length cap1, .bool d2] (fun M' E' v => ∃ (A0 : Option Addr) (k0 : Nat) (s0 : List Value), v = .tuple #[.slice A0 r.1.length k0, .int .i64 r.2] ∧ E' = [.row 3 1 (.slice A0 r.1.length k0) r.1.length s0] ∧ RepSeq M' (r.1.map (Dat.int .i64)) s0) := by
 unfold ready_Ready at hF
 intro M1 hM0 w0 H w p0
 replace h0 := h0.mono hM0
 replace h1 := h1.mono hM0
 refine R_enter 17 Tryz.func51 rfl rfl (by simp) fun a0 f0 => RR (Y f0 2 fun _ f => eT (R_seq (RR (Y f 2 fun _ f => ?_))))
 obtain ⟨x_1, hx_1, hF_1⟩ := bS hF
 refine Y17 f p0 (ready_May_ok n _ A0 cap0 d0 h0 A1 cap1 d1 h1 x_1 hx_1) fun w_1 p_1 _ f => Y f 1 fun _ f => eT (RcF f hF_1 (fun h_1 hF_2 => ?_) fun h_1 hF_3 => ?_)
 ·have k_1 : (x_1) = false := by simpa using h_1
  refine RR (Y f 2 fun _ f => eT (wp_ret (T_r ?_)))
  obtain ⟨A_1, cap_1, hv_1⟩ : ∃ A cap, Value.slice none 0 0 = .slice A ([] : List Int).length cap := ⟨none, 0, rfl⟩
  have p_2 : Hp w0 M1 ((Ent.row 3 1 (.slice A_1 ([] : List Int).length cap_1) ([] : List Int).length []) :: H) w_1 := by rw [← hv_1]; exact p_1.nilRow 3 1
  have f := f.st 6 (hv_1)
  have hr_1 : RepSeq M1 (([] : List Int).map (Dat.int .i64)) [] := rfl
  refine E_ret2 f rfl (by kernel_rfl : Vc.look _ 6 = some (.slice A_1 ([] : List Int).length cap_1)) (by kernel_rfl : Vc.look _ 7 = some (.int .i64 2)) ?_
  obtain rfl := sI hF_2
  exact ⟨_, rfl, M1, _, (mR _), p_2, ⟨A_1, cap_1, [], rfl, rfl, hr_1⟩⟩
 ·have k_2 : (x_1) = true := by simpa using h_1
  refine wp_skip (T_n (RR (Y f 2 fun _ f => ?_)))
  obtain ⟨x_2, hx_2, hF_4⟩ := bS hF_3
  refine Y15 f p_1 (ready_ways_ok n _ A0 cap0 d0 h0 (d2) x_2 hx_2) fun _ M_1 w_2 hM_1 p_3 q_1 _ f => ?_
  obtain ⟨A_2, cap_2, rfl, h_2⟩ := q_1
  refine Y f 1 fun _ f => ?_
  obtain ⟨x_3, hx_3, hF_5⟩ := bS hF_4
  refine Y16 (E := []) (H := (H)) f p_3 (ready_over_ok n _ A_2 cap_2 x_2 h_2 A1 cap1 d1 (h1.mono hM_1) x_3 hx_3) fun _ M_2 E_1 w_3 hM_2 p_4 q_2 _ f => ?_
  obtain ⟨A_3, cap_3, cs_1, rfl, rfl, hr_2⟩ := q_2
  refine Y f 2 fun _ f => eT (wp_ret (E_ret2 f rfl (by kernel_rfl : Vc.look _ 6 = some (.slice A_3 x_3.length cap_3)) (by kernel_rfl : Vc.look _ 7 = some (.int .i64 0)) ?_))
  obtain rfl := sI hF_5
  exact ⟨_, rfl, M_2, _, (hM_1.trans hM_2), p_4, ⟨A_3, cap_3, cs_1, rfl, rfl, hr_2⟩⟩
def slices_Cloneint8_int8_z (n : Nat) (d0 : List Int) (z0 : Bool) : Option (List Int) :=
  bif z0 then
    (some (([] : List Int)))
  else
    need ((([] : List Int).length + d0.length) * 1 ≤ 140737488355328) <|
    some (([] : List Int) ++ d0)
theorem slices_Cloneint8_int8_z_ok (n : Nat) (M : Mem) (A0 : Option Addr) (cap0 : Nat) (d0 : List Int) (h0 : Sli M 1 (Dat.int .i8) A0 cap0 d0) (z0 : Bool) (hz0 : A0.isNone = z0) (r : List Int) (hF : slices_Cloneint8_int8_z n d0 z0 = some r) : OkH Tryz.prog M [] 73 [.slice A0 d0.length cap0] (fun M' E' v => ∃ (A0 : Option Addr) (k0 : Nat) (s0 : List Value), v = .slice A0 r.length k0 ∧ E' = [.row 22 1 (.slice A0 r.length k0) r.length s0] ∧ RepSeq M' (r.map (Dat.int .i8)) s0) := by
 unfold slices_Cloneint8_int8_z at hF
 intro M1 hM0 w0 H w p0
 replace h0 := h0.mono hM0
 refine R_enter 8 Tryz.func73 rfl rfl (by simp) fun a0 f0 => RR (Y f0 1 fun _ f => eT (R_seq (RR (Y f 1 fun _ f => Z (v := .bool A0.isNone) f (X_slicenil (A := A0) (n := d0.length) (c := cap0) (e := 22) rfl (by kernel_rfl) (by kernel_rfl) (by kernel_rfl) _) fun _ f => ?_))))
 have f := Frm.set f 4 (v := .bool A0.isNone) (v' := .bool z0) (by kernel_rfl) (cB hz0)
 refine eT (RcF f hF (fun h_1 hF_1 => ?_) fun h_1 hF_2 => ?_)
 ·refine RR (Y f 1 fun _ f => eT (wp_ret (T_r ?_)))
  obtain ⟨A_1, cap_1, hv_1⟩ : ∃ A cap, Value.slice none 0 0 = .slice A ([] : List Int).length cap := ⟨none, 0, rfl⟩
  have p_1 : Hp w0 M1 ((Ent.row 22 1 (.slice A_1 ([] : List Int).length cap_1) ([] : List Int).length []) :: H) w := by rw [← hv_1]; exact p0.nilRow 22 1
  have f := f.st 2 (hv_1)
  have hr_1 : RepSeq M1 (([] : List Int).map (Dat.int .i8)) [] := rfl
  refine E_ret1 f rfl (by kernel_rfl : Vc.look _ 2 = some (.slice A_1 ([] : List Int).length cap_1)) ?_
  obtain rfl := sI hF_1
  exact ⟨_, rfl, M1, _, (mR _), p_1, ⟨A_1, cap_1, [], rfl, rfl, hr_1⟩⟩
 ·refine wp_skip (T_n (RR (V_allocS (k := 0) (c := 0) f p0 (.cells #[] 22 (0, 0)) (by kernel_rfl) (fun _ => by kernel_rfl) fun b_1 w_1 p_2 _ f => Y f 1 fun _ f => ?_)))
  have hr_2 : RepSeq M1 (([] : List Int).map (Dat.int .i8)) [] := rfl
  have p_3 : Hp w0 M1 ((Ent.row 22 1 (.slice (some ⟨b_1, 0, none⟩) 0 0) ([] : List Int).length []) :: H) w_1 := p_2.objRow (n := 0) (cap := 0) (size := 1) (by decide) (by decide) (blk_eq (by decide) rfl) rfl rfl
  obtain ⟨g_1, hF_3⟩ := nS hF_2
  refine Y21 (z := .int .i8 0) (f := (Dat.int .i8)) (xs := ([] : List Int)) (ys := d0) (c := cap0) f p_3 hr_2 h0 rfl rfl rfl g_1 (by omega) fun A_2 cap_2 cs_1 w_2 p_4 hr_3 _ f => Y f 1 fun _ f => eT (wp_ret (E_ret1 f rfl (by kernel_rfl : Vc.look _ 2 = some (.slice A_2 (([] : List Int) ++ d0).length cap_2)) ?_))
  obtain rfl := sI hF_3
  exact ⟨_, rfl, M1, _, (mR _), p_4, ⟨A_2, cap_2, cs_1, rfl, rfl, hr_3⟩⟩
def slices_Cloneint8_int8 (_ : Nat) (d0 : List Int) : Option (List Int) := need (d0.length * 1 ≤ 140737488355328) (some d0)
theorem slices_Cloneint8_int8_ok (n : Nat) (M : Mem) (A0 : Option Addr) (cap0 : Nat) (d0 : List Int) (h0 : Sli M 1 (Dat.int .i8) A0 cap0 d0) (r : List Int) (hF : slices_Cloneint8_int8 n d0 = some r) : OkH Tryz.prog M [] 73 [.slice A0 d0.length cap0] (fun M' E' v => ∃ (A0 : Option Addr) (k0 : Nat) (s0 : List Value), v = .slice A0 r.length k0 ∧ E' = [.row 22 1 (.slice A0 r.length k0) r.length s0] ∧ RepSeq M' (r.map (Dat.int .i8)) s0) := by
 unfold slices_Cloneint8_int8 at hF
 obtain ⟨g, hF⟩ := nS hF
 obtain rfl := sI hF
 refine slices_Cloneint8_int8_z_ok n M A0 cap0 d0 h0 A0.isNone rfl d0 ?_
 unfold slices_Cloneint8_int8_z
 cases A0 with
 | none =>
  obtain ⟨h1, h2, _⟩ := h0
  have h3 := h2 rfl
  obtain rfl : d0 = [] := List.eq_nil_of_length_eq_zero (by omega)
  rfl
 | some a => simp [need]; omega
def ready_blocks (n : Nat) (d0 : Int) : Option Bool :=
  bif (decide (d0 = 4)) then
    (some ((true)))
  else
    some ((decide (d0 = 5)))
theorem ready_blocks_ok (n : Nat) (M : Mem) (d0 : Int) (r : Bool) (hF : ready_blocks n d0 = some r) : Ok Tryz.prog M 75 [.int .i8 d0] (fun _ v => v = .bool r) := by
 unfold ready_blocks at hF
 intro M1 hM0 w0 H w p0
 refine R_enter 9 Tryz.func75 rfl rfl (by simp) fun a0 f0 => RR (Y f0 1 fun _ f => eT (RR (Y f 3 fun _ f => ?_)))
 rcases cE hF with ⟨h_1, hF_1⟩ | ⟨h_1, hF_2⟩
 ·have k_1 := dI.1 h_1
  have f := f.st 5 (cB h_1)
  refine Y f 4 fun _ f => eT (wp_ret (E_ret1 f rfl (by kernel_rfl : Vc.look _ 2 = some (.bool true)) ?_))
  obtain rfl := sI hF_1
  exact ⟨_, rfl, M1, (mR _), p0, rfl⟩
 ·have k_2 := iff_f dI h_1
  have f := f.st 5 (cB h_1)
  refine Y f 4 fun _ f => eT (wp_ret (E_ret1 f rfl (by kernel_rfl : Vc.look _ 2 = some (.bool (decide (d0 = 5)))) ?_))
  obtain rfl := sI hF_2
  exact ⟨_, rfl, M1, (mR _), p0, rfl⟩
def ready_over_1_2 (n : Nat) (d0 : Int) (d2 : List Int) : Option Bool :=
  (getI d2 d0).bind fun x_1 =>
  (ready_blocks n x_1).bind fun x_2 =>
  some ((x_2))
theorem ready_over_1_2_ok (n : Nat) (M : Mem) (d0 : Int) (ad1 : Addr) (q1 : ∀ j v, [(.func (.func 75) #[] #[] : Value)][j]? = some v → M.cell? (ad1.add j) = some v) (ad2 : Addr) (c2 : List Value) (d2 : List Int) (h2 : Rep M ((eL 1 (Dat.int .i8)) d2) c2) (q2 : ∀ j v, c2[j]? = some v → M.cell? (ad2.add j) = some v) (r : Bool) (hF : ready_over_1_2 n d0 d2 = some r) : Ok Tryz.prog M 123 [.int .i64 d0, .pointer (some ad1), .pointer (some ad2)] (fun _ v => v = .bool r) := by
 unfold ready_over_1_2 at hF
 intro M1 hM0 w0 H w p0
 replace q1 := fun j v h => hM0.cell (q1 j v h)
 replace h2 := Rep.mono hM0 _ _ h2
 replace q2 := fun j v h => hM0.cell (q2 j v h)
 obtain ⟨A_1, cap_1, rfl, h_1⟩ := Rep.sli h2
 refine R_enter 11 Tryz.func123 rfl rfl (by simp) fun a0 f0 => RR (Y f0 1 fun _ f => eT (R_seq (R_draw p0 (by kernel_rfl) (by kernel_rfl) (Y4 f q1 0 rfl fun _ f => Y4 f q2 0 rfl fun _ f => Y5 default f 1 fun _ f => ?_))))
 obtain ⟨x_1, hx_1, hF_1⟩ := bS hF
 obtain ⟨ad_1, c_1, e_1, -, hr_1, hc_1⟩ := Sli.at_ h_1 hx_1
 obtain rfl : c_1 = [.int .i8 x_1] := hr_1
 refine Y2 (v := .pointer (some (ad_1.add (d0.toNat * 1)))) f (fun _ pq => Y28 e_1 rfl (len := d2.length) (cap := cap_1) (k := .i64) (i := d0) (e := 22) (sz := 1) (getI_nn hx_1) (getI_lt hx_1)) fun _ f => Y4 f hc_1 0 rfl fun _ f => ?_
 obtain ⟨x_2, hx_2, hF_2⟩ := bS hF_1
 refine Y3 f (ready_blocks_ok n _ x_1 x_2 hx_2) fun _ f => Y5 default f 1 fun _ f => Q_end rfl ?_
 intro w_2 p_2
 refine T_n (wp_ret (E_ret1 f rfl (by kernel_rfl : Vc.look _ 4 = some (.bool x_2)) ?_))
 obtain rfl := sI hF_2
 exact ⟨_, rfl, M1, (mR _), p_2, rfl⟩
def slices_IndexFuncint_int_3_s1 (n : Nat) (d0 : List Int) (d1_1 : List Int) (s_1 : Int) : Option (Lp Int (Sum Int Unit)) :=
    bif (decide (s_1 < ((d0.length : Nat) : Int))) then
      ((getI d0 s_1).bind fun x_1 =>
      (ready_over_1_2 n x_1 d1_1).bind fun x_2 =>
      bif x_2 then
        (some (.br (.inl s_1)))
      else
        need (inR .i64 (s_1 + 1)) <|
        some (.nx (s_1 + 1)))
    else
      some (.br (.inr ()))
def slices_IndexFuncint_int_3 (n : Nat) (d0 : List Int) (d1_1 : List Int) : Option Int :=
  (loopF (slices_IndexFuncint_int_3_s1 n d0 d1_1) n (0 : Int)).bind fun b_1 =>
  (match b_1 with 
  | .inl y_1 => some (y_1) 
  | .inr y_2 => some ((-1 : Int)))
theorem slices_IndexFuncint_int_3_ok (n : Nat) (M : Mem) (A0 : Option Addr) (cap0 : Nat) (d0 : List Int) (h0 : Sli M 1 (Dat.int .i64) A0 cap0 d0) (ad1_0 : Addr) (q1_0 : ∀ j v, [(.func (.func 75) #[] #[] : Value)][j]? = some v → M.cell? (ad1_0.add j) = some v) (ad1_1 : Addr) (c1_1 : List Value) (d1_1 : List Int) (h1_1 : Rep M ((eL 1 (Dat.int .i8)) d1_1) c1_1) (q1_1 : ∀ j v, c1_1[j]? = some v → M.cell? (ad1_1.add j) = some v) (r : Int) (hF : slices_IndexFuncint_int_3 n d0 d1_1 = some r) : Ok Tryz.prog M 167 [.slice A0 d0.length cap0, .func (.func 123) #[] #[.pointer (some ad1_0), .pointer (some ad1_1)]] (fun _ v => v = .int .i64 r) := by
 unfold slices_IndexFuncint_int_3 at hF
 intro M1 hM0 w0 H w p0
 replace h0 := h0.mono hM0
 replace q1_0 := fun j v h => hM0.cell (q1_0 j v h)
 replace h1_1 := Rep.mono hM0 _ _ h1_1
 replace q1_1 := fun j v h => hM0.cell (q1_1 j v h)
 obtain ⟨A_1, cap_1, rfl, h_1⟩ := Rep.sli h1_1
 refine R_enter 19 Tryz.func167 rfl rfl (by simp) fun a0 f0 => RR (Y f0 1 fun _ f => eT (R_seq (RR (Y f 3 fun _ f => eT (wp_block ?_)))))
 obtain ⟨b_1, hL_1, hF_1⟩ := bS hF
 refine wp_mono (Q := fun e a w => (e = .ret ∧ (∃ y_1 : Int, b_1 = .inl y_1 ∧ ∃ M_2 : Mem, M1.le M_2 ∧ Frm 19 [(4, .int .i64 y_1)] a ∧ Hp w0 M_2 (H) w)) ∨ (e = .exit 0 ∧ (∃ y_2 : Unit, b_1 = .inr y_2 ∧ ∃ M_3 : Mem, M1.le M_3 ∧ Frm 19 [] a ∧ Hp w0 M_3 (H) w))) (R_loop (n := 19) (w0 := w0) (M := M1) (fun (x : Nat × Int) => match x with | (m_1, s_1) => [(0, .slice A0 d0.length cap0), (1, .func (.func 123) #[] #[.pointer (some ad1_0), .pointer (some ad1_1)]), (7, .int .i64 ((d0.length : Nat) : Int)), (8, .int .i64 s_1)]) (fun (x : Nat × Int) => match x with | (m_1, s_1) => (H)) (fun (x : Nat × Int) (MM : Mem) => match x with | (m_1, s_1) => loopF (slices_IndexFuncint_int_3_s1 n d0 d1_1) m_1 s_1 = some b_1) (fun (x : Nat × Int) => match x with | (m_1, s_1) => m_1) (n, (0 : Int)) (f.kp) p0 hL_1 ?_) ?_
 ·rintro ⟨m_1, s_1⟩ M_1 _ w_1 hM_1 I_1 f p_1
  have I_1L := I_1
  obtain ⟨m_2, r_1, rfl, hs_1, hn_1⟩ := loop_step I_1L
  unfold slices_IndexFuncint_int_3_s1 at hs_1
  refine RR (Y f 1 fun _ f => eT (R_seq (RcF f hs_1 (fun h_2 hF_2 => ?_) fun h_2 hF_8 => ?_)))
  ·have k_1 := dI.1 h_2
   refine wp_skip (T_n (R_seq (wp_block (RR (Y f 2 fun _ f => eT (RR (Y f 3 fun _ f => ?_)))))))
   obtain ⟨x_1, hx_1, hF_3⟩ := bS hF_2
   obtain ⟨ad_1, c_1, e_1, -, hr_1, hc_1⟩ := Sli.at_ (h0.mono hM_1) hx_1
   obtain rfl : c_1 = [.int .i64 x_1] := hr_1
   refine Z f (Y28 e_1 rfl (len := d0.length) (cap := cap0) (k := .i64) (i := s_1) (e := 3) (sz := 1) (getI_nn hx_1) (getI_lt hx_1)) fun _ f => Y14 f p_1 hc_1 0 rfl fun _ f => ?_
   obtain ⟨x_2, hx_2, hF_4⟩ := bS hF_3
   refine Y17 f p_1 (ready_over_1_2_ok n _ x_1 ad1_0 ((fzu hM_1 q1_0)) ad1_1 [.slice A_1 d1_1.length cap_1] d1_1 (Sli.rep (h_1.mono hM_1)) (fz_at ((fzu hM_1 q1_1)) 0 rfl) x_2 hx_2) fun w_2 p_2 _ f => eT (RcF f hF_4 (fun h_3 hF_5 => ?_) fun h_3 hF_6 => ?_)
   ·refine RR (Y f 2 fun _ f => eT (wp_ret (B_r (T_r (T_r ?_)))))
    obtain rfl := sI hF_5
    exact .inl ⟨rfl, s_1, (sI hn_1).symm, M_1, hM_1, f.kp, p_2⟩
   ·refine wp_skip (B_n (T_n (R_reg ?_)))
    obtain ⟨g_1, hF_7⟩ := nS hF_6
    refine Y f 1 fun _ f => ?_
    have f := f.st 18 (congrArg (Value.int .i64) (inR_wrap g_1))
    refine Y f 1 fun _ f => eT ?_
    obtain rfl := sI hF_7
    exact ⟨⟨m_2, s_1 + 1⟩, Nat.lt_succ_self _, M_1, hM_1, hn_1, f.kp, p_2⟩
  ·have k_4 := iff_f dI h_2
   refine wp_exit (T_x (T_x ?_))
   obtain rfl := sI hF_8
   exact .inr ⟨rfl, (), (sI hn_1).symm, M_1, hM_1, f.kp, p_1⟩
 ·rintro _ _ w_5 (⟨rfl, y_1, rfl, M_2, hM_2, f, p_3⟩ | ⟨rfl, y_2, rfl, M_3, hM_3, f, p_4⟩)
  ·refine B_r (T_r (E_ret1 f rfl (by kernel_rfl : Vc.look _ 4 = some (.int .i64 y_1)) ?_))
   obtain rfl := sI hF_1
   exact ⟨_, rfl, M_2, hM_2, p_3, rfl⟩
  ·refine B_x (T_n (RR (Y f 1 fun _ f => eT (wp_ret (E_ret1 f rfl (by kernel_rfl : Vc.look _ 4 = some (.int .i64 (-1))) ?_)))))
   obtain rfl := sI hF_1
   exact ⟨_, rfl, M_3, hM_3, p_4, rfl⟩
def slices_ContainsFuncint_int_3 (n : Nat) (d0 : List Int) (d1_1 : List Int) : Option Bool :=
  (slices_IndexFuncint_int_3 n d0 d1_1).bind fun x_1 =>
  some ((decide ((0 : Int) ≤ x_1)))
theorem slices_ContainsFuncint_int_3_ok (n : Nat) (M : Mem) (A0 : Option Addr) (cap0 : Nat) (d0 : List Int) (h0 : Sli M 1 (Dat.int .i64) A0 cap0 d0) (ad1_0 : Addr) (q1_0 : ∀ j v, [(.func (.func 75) #[] #[] : Value)][j]? = some v → M.cell? (ad1_0.add j) = some v) (ad1_1 : Addr) (c1_1 : List Value) (d1_1 : List Int) (h1_1 : Rep M ((eL 1 (Dat.int .i8)) d1_1) c1_1) (q1_1 : ∀ j v, c1_1[j]? = some v → M.cell? (ad1_1.add j) = some v) (r : Bool) (hF : slices_ContainsFuncint_int_3 n d0 d1_1 = some r) : Ok Tryz.prog M 120 [.slice A0 d0.length cap0, .func (.func 123) #[] #[.pointer (some ad1_0), .pointer (some ad1_1)]] (fun _ v => v = .bool r) := by
 unfold slices_ContainsFuncint_int_3 at hF
 intro M1 hM0 w0 H w p0
 replace h0 := h0.mono hM0
 replace q1_0 := fun j v h => hM0.cell (q1_0 j v h)
 replace h1_1 := Rep.mono hM0 _ _ h1_1
 replace q1_1 := fun j v h => hM0.cell (q1_1 j v h)
 obtain ⟨A_1, cap_1, rfl, h_1⟩ := Rep.sli h1_1
 refine R_enter 9 Tryz.func120 rfl rfl (by simp) fun a0 f0 => RR (Y f0 1 fun _ f => eT (RR (Y f 2 fun _ f => ?_)))
 obtain ⟨x_1, hx_1, hF_1⟩ := bS hF
 refine Y17 f p0 (slices_IndexFuncint_int_3_ok n _ A0 cap0 d0 h0 ad1_0 (q1_0) ad1_1 [.slice A_1 d1_1.length cap_1] d1_1 (Sli.rep h_1) (fz_at (q1_1) 0 rfl) x_1 hx_1) fun w_1 p_1 _ f => Y f 2 fun _ f => eT (wp_ret (E_ret1 f rfl (by kernel_rfl : Vc.look _ 4 = some (.bool (decide ((0 : Int) ≤ x_1)))) ?_))
 obtain rfl := sI hF_1
 exact ⟨_, rfl, M1, (mR _), p_1, rfl⟩
def ready_some (n : Nat) (d0 : List Int) (d1_1 : List Int) : Option Bool :=
  (slices_ContainsFuncint_int_3 n d0 d1_1).bind fun x_1 =>
  some ((x_1))
theorem ready_some_ok (n : Nat) (M : Mem) (A0 : Option Addr) (cap0 : Nat) (d0 : List Int) (h0 : Sli M 1 (Dat.int .i64) A0 cap0 d0) (ad1_0 : Addr) (q1_0 : ∀ j v, [(.func (.func 75) #[] #[] : Value)][j]? = some v → M.cell? (ad1_0.add j) = some v) (ad1_1 : Addr) (c1_1 : List Value) (d1_1 : List Int) (h1_1 : Rep M ((eL 1 (Dat.int .i8)) d1_1) c1_1) (q1_1 : ∀ j v, c1_1[j]? = some v → M.cell? (ad1_1.add j) = some v) (r : Bool) (hF : ready_some n d0 d1_1 = some r) : Ok Tryz.prog M 76 [.slice A0 d0.length cap0, .func (.func 123) #[] #[.pointer (some ad1_0), .pointer (some ad1_1)]] (fun _ v => v = .bool r) := by
 unfold ready_some at hF
 intro M1 hM0 w0 H w p0
 replace h0 := h0.mono hM0
 replace q1_0 := fun j v h => hM0.cell (q1_0 j v h)
 replace h1_1 := Rep.mono hM0 _ _ h1_1
 replace q1_1 := fun j v h => hM0.cell (q1_1 j v h)
 obtain ⟨A_1, cap_1, rfl, h_1⟩ := Rep.sli h1_1
 refine R_enter 8 Tryz.func76 rfl rfl (by simp) fun a0 f0 => RR (Y f0 1 fun _ f => eT (RR (Y f 2 fun _ f => ?_)))
 obtain ⟨x_1, hx_1, hF_1⟩ := bS hF
 refine Y17 f p0 (slices_ContainsFuncint_int_3_ok n _ A0 cap0 d0 h0 ad1_0 (q1_0) ad1_1 [.slice A_1 d1_1.length cap_1] d1_1 (Sli.rep h_1) (fz_at (q1_1) 0 rfl) x_1 hx_1) fun w_1 p_1 _ f => Y f 1 fun _ f => eT (wp_ret (E_ret1 f rfl (by kernel_rfl : Vc.look _ 4 = some (.bool x_1)) ?_))
 obtain rfl := sI hF_1
 exact ⟨_, rfl, M1, (mR _), p_1, rfl⟩
def ready_over_2_s1 (n : Nat) (d0 : List (List Int)) (d1 : List Int) (s_1 : List Int × Int) : Option (Lp (List Int × Int) (List Int)) :=
    bif (decide (s_1.2 < ((d1.length : Nat) : Int))) then
      ((getI d1 s_1.2).bind fun x_1 =>
      ((bif (decide (x_1 = 1)) then
          ((getI d0 s_1.2).bind fun x_2 =>
          (ready_some n x_2 d1).bind fun x_3 =>
          some ((x_3)))
        else
          some ((false)) : Option Bool)).bind fun y_1 =>
      bif y_1 then
        (need ((s_1.1.length + 1) * 8 ≤ 140737488355328) <|
        need (inR .i64 (s_1.2 + 1)) <|
        some (.nx (s_1.1 ++ [s_1.2], s_1.2 + 1)))
      else
        need (inR .i64 (s_1.2 + 1)) <|
        some (.nx (s_1.1, s_1.2 + 1)))
    else
      some (.br s_1.1)
def ready_over_2 (n : Nat) (d0 : List (List Int)) (d1 : List Int) : Option (List Int) :=
  (loopF (ready_over_2_s1 n d0 d1) n (([] : List Int), (0 : Int))).bind fun y_2 =>
  some (y_2)
set_option maxRecDepth 20000 in
theorem ready_over_2_ok (n : Nat) (M : Mem) (A0 : Option Addr) (cap0 : Nat) (d0 : List (List Int)) (h0 : Sli M 1 (eL 1 (Dat.int .i64)) A0 cap0 d0) (A1 : Option Addr) (cap1 : Nat) (d1 : List Int) (h1 : Sli M 1 (Dat.int .i8) A1 cap1 d1) (r : List Int) (hF : ready_over_2 n d0 d1 = some r) : OkH Tryz.prog M [] 74 [.slice A0 d0.length cap0, .slice A1 d1.length cap1, .func (.func 75) #[] #[], .func (.func 76) #[] #[]] (fun M' E' v => ∃ (A0 : Option Addr) (k0 : Nat) (s0 : List Value), v = .slice A0 r.length k0 ∧ E' = [.row 3 1 (.slice A0 r.length k0) r.length s0] ∧ RepSeq M' (r.map (Dat.int .i64)) s0) := by
 unfold ready_over_2 at hF
 intro M1 hM0 w0 H w p0
 replace h0 := h0.mono hM0
 replace h1 := h1.mono hM0
 refine R_enter 35 Tryz.func74 rfl rfl (by simp) fun a0 f0 => RR (Y12 (cs := #[.slice A1 d1.length cap1]) (T := 37) f0 p0 fun b_1 M_1 w_1 hM_1 hc_1 p_1 _ f => ?_)
 have hc_2 := fz_box hc_1
 refine Y12 (cs := #[.func (.func 75) #[] #[]]) (T := 136) f p_1 fun b_2 M_2 w_2 hM_2 hc_3 p_2 _ f => ?_
 have hc_4 := fz_box hc_3
 refine Y f 1 fun _ f => eT (R_seq (RR (Y14 f p_2 (fzu hM_2 hc_2) 0 rfl fun _ f => Y f 2 fun _ f => eT (wp_block ?_))))
 obtain ⟨A_1, cap_1, hv_1⟩ : ∃ A cap, Value.slice none 0 0 = .slice A ([] : List Int).length cap := ⟨none, 0, rfl⟩
 have p_3 : Hp w0 M_2 ((Ent.row 3 1 (.slice A_1 ([] : List Int).length cap_1) ([] : List Int).length []) :: H) w_2 := by rw [← hv_1]; exact p_2.nilRow 3 1
 have f := f.st 8 (hv_1)
 have hr_1 : RepSeq M_2 (([] : List Int).map (Dat.int .i64)) [] := rfl
 obtain ⟨b_3, hL_1, hF_1⟩ := bS hF
 refine wp_mono (Q := fun e a w => (e = .exit 0 ∧ (∃ y_2 : List Int, b_3 = y_2 ∧ ∃ M_5 : Mem, M_2.le M_5 ∧ ∃ (A_5 : Option Addr), ∃ (cap_5 : Nat), ∃ (cs_3 : List Value), RepSeq M_5 (y_2.map (Dat.int .i64)) cs_3 ∧ Frm 35 [(8, .slice A_5 y_2.length cap_5)] a ∧ Hp w0 M_5 ((Ent.row 3 1 (.slice A_5 y_2.length cap_5) y_2.length cs_3) :: H) w))) (R_loop (n := 35) (w0 := w0) (M := M_2) (fun (x : Nat × (List Int × Int) × (Option Addr) × Nat × (List Value)) => match x with | (m_1, s_1, A_2, cap_2, cs_1) => [(0, .slice A0 d0.length cap0), (3, .func (.func 76) #[] #[]), (5, .pointer (some (⟨b_1, 0, none⟩))), (6, .pointer (some (⟨b_2, 0, none⟩))), (8, .slice A_2 s_1.1.length cap_2), (11, .slice A1 d1.length cap1), (12, .int .i64 ((d1.length : Nat) : Int)), (13, .int .i64 s_1.2)]) (fun (x : Nat × (List Int × Int) × (Option Addr) × Nat × (List Value)) => match x with | (m_1, s_1, A_2, cap_2, cs_1) => ((Ent.row 3 1 (.slice A_2 s_1.1.length cap_2) s_1.1.length cs_1) :: H)) (fun (x : Nat × (List Int × Int) × (Option Addr) × Nat × (List Value)) (MM : Mem) => match x with | (m_1, s_1, A_2, cap_2, cs_1) => loopF (ready_over_2_s1 n d0 d1) m_1 s_1 = some b_3 ∧ RepSeq MM (s_1.1.map (Dat.int .i64)) cs_1) (fun (x : Nat × (List Int × Int) × (Option Addr) × Nat × (List Value)) => match x with | (m_1, s_1, A_2, cap_2, cs_1) => m_1) (n, (([] : List Int), (0 : Int)), A_1, cap_1, []) (f.kp) p_3 ⟨hL_1, hr_1⟩ ?_) ?_
 ·rintro ⟨m_1, s_1, A_2, cap_2, cs_1⟩ M_3 _ w_3 hM_3 I_1 f p_4
  obtain ⟨I_1L, hr_2⟩ := I_1
  obtain ⟨m_2, r_1, rfl, hs_1, hn_1⟩ := loop_step I_1L
  unfold ready_over_2_s1 at hs_1
  refine RR (Y f 1 fun _ f => eT (R_seq (RcF f hs_1 (fun h_1 hF_2 => ?_) fun h_1 hF_14 => ?_)))
  ·have k_1 := dI.1 h_1
   refine wp_skip (T_n (R_seq (wp_block (RR (Y f 1 fun _ f => ?_)))))
   obtain ⟨x_1, hx_1, hF_3⟩ := bS hF_2
   obtain ⟨ad_1, c_1, e_1, -, hr_3, hc_5⟩ := Sli.at_ (h1.mono ((hM_1.trans hM_2).trans hM_3)) hx_1
   obtain rfl : c_1 = [.int .i8 x_1] := hr_3
   refine Z f (Y28 e_1 rfl (len := d1.length) (cap := cap1) (k := .i64) (i := s_1.2) (e := 22) (sz := 1) (getI_nn hx_1) (getI_lt hx_1)) fun _ f => Y14 f p_4 hc_5 0 rfl fun _ f => Y f 2 fun _ f => eT (R_seq ?_)
   obtain ⟨j_1, hj_1, hF_4⟩ := bS hF_3
   refine R_mid (fun a_20 w_5 => ∃ y_1 : Bool, j_1 = y_1 ∧ ∃ M_4 : Mem, M_3.le M_4 ∧ Frm 35 [(0, .slice A0 d0.length cap0), (3, .func (.func 76) #[] #[]), (5, .pointer (some (⟨b_1, 0, none⟩))), (6, .pointer (some (⟨b_2, 0, none⟩))), (8, .slice A_2 s_1.1.length cap_2), (9, .int .i64 s_1.2), (11, .slice A1 d1.length cap1), (12, .int .i64 ((d1.length : Nat) : Int)), (13, .int .i64 s_1.2), (28, .bool y_1)] a_20 ∧ Hp w0 M_4 ((Ent.row 3 1 (.slice A_2 s_1.1.length cap_2) s_1.1.length cs_1) :: H) w_5) ?_ ?_
   ·refine R_reg (Y f 3 fun _ f => ?_)
    rcases cE hj_1 with ⟨h_2, hF_5⟩ | ⟨h_2, hF_8⟩
    ·have k_2 := dI.1 h_2
     have f := f.st 20 (cB h_2)
     refine Y f 3 fun _ f => ?_
     obtain ⟨x_2, hx_2, hF_6⟩ := bS hF_5
     obtain ⟨ad_2, c_2, e_2, -, hr_4, hc_6⟩ := Sli.at_ (h0.mono ((hM_1.trans hM_2).trans hM_3)) hx_2
     obtain ⟨A_3, cap_3, rfl, h_3⟩ := Rep.sli hr_4
     refine Z f (Y28 e_2 rfl (len := d0.length) (cap := cap0) (k := .i64) (i := s_1.2) (e := 47) (sz := 1) (getI_nn hx_2) (getI_lt hx_2)) fun _ f => Y14 f p_4 hc_6 0 rfl fun _ f => Y f 1 fun _ f => ?_
     obtain ⟨x_3, hx_3, hF_7⟩ := bS hF_6
     refine Y17 f p_4 (ready_some_ok n _ A_3 cap_3 x_2 h_3 (⟨b_2, 0, none⟩) ((fzu hM_3 hc_4)) (⟨b_1, 0, none⟩) [.slice A1 d1.length cap1] d1 (Sli.rep (h1.mono ((hM_1.trans hM_2).trans hM_3))) (fz_at ((fzu (hM_2.trans hM_3) hc_2)) 0 rfl) x_3 hx_3) fun w_4 p_5 _ f => Y f 1 fun _ f => eT ?_
     exact ⟨(x_3), (sI hF_7).symm, M_3, (mR _), f.kp, p_5⟩
    ·have k_3 := iff_f dI h_2
     have f := f.st 20 (cB h_2)
     refine Y f 8 fun _ f => eT ?_
     exact ⟨(false), (sI hF_8).symm, M_3, (mR _), f.kp, p_4⟩
   ·rintro a_20 w_5 ⟨y_1, hq_1, M_4, hM_4, f, p_6⟩
    subst j_1
    refine T_n (RcF f hF_4 (fun h_4 hF_9 => ?_) fun h_4 hF_12 => ?_)
    ·refine R_reg (Y f 2 fun _ f => V_allocS (k := 1) (c := 1) f p_6 (.cells #[.int .i64 s_1.2] 3 (0, 0)) (by kernel_rfl) (fun _ => by kernel_rfl) fun b_4 w_6 p_7 _ f => ?_)
     have p_8 := p_7.pl [1]
     obtain ⟨g_1, hF_10⟩ := nS hF_9
     refine Y20 (z := .int .i64 0) (f := (Dat.int .i64)) (xs := s_1.1) (ys := [s_1.2]) (news := [.int .i64 s_1.2]) (ad := ⟨b_4, 0, none⟩) (m := 1) (c := 1) f p_8 (RepSeq.mono hM_4 _ _ hr_2) (by exact ⟨_, _, rfl, rfl, rfl⟩) rfl rfl rfl rfl (own_cells (p_8.ownCell 1 rfl) 0 rfl) (by exact g_1) (by have hg_ := g_1; first | omega | (simp only [List.length_cons, List.length_nil] at *; omega)) fun A_4 cap_4 cs_2 w_7 p_9 hr_5 _ f => ?_
     have p_10 := p_9.pl [1]
     have p_11 := p_10.drop
     refine Y f 1 fun _ f => W_end rfl (B_n (T_n (R_reg ?_)))
     obtain ⟨g_2, hF_11⟩ := nS hF_10
     refine Y f 1 fun _ f => ?_
     have f := f.st 33 (congrArg (Value.int .i64) (inR_wrap g_2))
     refine Y f 1 fun _ f => eT ?_
     obtain rfl := sI hF_11
     exact ⟨⟨m_2, (s_1.1 ++ [s_1.2], s_1.2 + 1), A_4, cap_4, cs_2⟩, Nat.lt_succ_self _, M_4, (hM_3.trans hM_4), ⟨hn_1, hr_5⟩, f.kp, p_11⟩
    ·refine wp_skip (B_n (T_n (R_reg ?_)))
     obtain ⟨g_3, hF_13⟩ := nS hF_12
     refine Y f 1 fun _ f => ?_
     have f := f.st 33 (congrArg (Value.int .i64) (inR_wrap g_3))
     refine Y f 1 fun _ f => eT ?_
     obtain rfl := sI hF_13
     exact ⟨⟨m_2, (s_1.1, s_1.2 + 1), A_2, cap_2, cs_1⟩, Nat.lt_succ_self _, M_4, (hM_3.trans hM_4), ⟨hn_1, (RepSeq.mono hM_4 _ _ hr_2)⟩, f.kp, p_6⟩
  ·have k_6 := iff_f dI h_1
   refine wp_exit (T_x (T_x ?_))
   obtain rfl := sI hF_14
   exact ⟨rfl, s_1.1, (sI hn_1).symm, M_3, hM_3, A_2, cap_2, cs_1, hr_2, f.kp, p_4⟩
 ·rintro _ _ w_9 ⟨rfl, y_2, hq_, M_5, hM_5, A_5, cap_5, cs_3, hr_6, f, p_12⟩
  subst b_3
  refine B_x (T_n (RR (Y f 2 fun _ f => eT (wp_ret (E_ret1 f rfl (by kernel_rfl : Vc.look _ 8 = some (.slice A_5 y_2.length cap_5)) ?_)))))
  obtain rfl := sI hF_1
  exact ⟨_, rfl, M_5, _, ((hM_1.trans hM_2).trans hM_5), p_12, ⟨A_5, cap_5, cs_3, rfl, rfl, hr_6⟩⟩
def ready_Settle_s2 (n : Nat) (x_4 : List Int) (s_2 : List Int × Int) : Option (Lp (List Int × Int) (List Int)) :=
    bif (decide (s_2.2 < ((x_4.length : Nat) : Int))) then
      ((getI x_4 s_2.2).bind fun x_5 =>
      (getI s_2.1 x_5).bind fun x_6 =>
      need (inR .i64 (s_2.2 + 1)) <|
      some (.nx (s_2.1.set x_5.toNat (5 : Int), s_2.2 + 1)))
    else
      some (.br s_2.1)
def ready_Settle_s1 (n : Nat) (x_2 : List (List Int)) (s_1 : List Int) : Option (Lp (List Int) (List Int)) :=
    (ready_over_2 n x_2 s_1).bind fun x_4 =>
    bif (decide (((x_4.length : Nat) : Int) = 0)) then
      (some (.br s_1))
    else
      (loopF (ready_Settle_s2 n x_4) n (s_1, (0 : Int))).bind fun y_1 =>
      some (.nx y_1)
def ready_Settle (n : Nat) (d0 : List (List Int)) (d1 : List Int) (d2 : Bool) : Option (List Int × Int) :=
  (ready_May n d0 d1).bind fun x_1 =>
  bif !x_1 then
    (some ((([] : List Int), (2 : Int))))
  else
    (ready_ways n d0 (d2)).bind fun x_2 =>
    (slices_Cloneint8_int8 n d1).bind fun x_3 =>
    (loopF (ready_Settle_s1 n x_2) n x_3).bind fun y_2 =>
    some ((y_2, (0 : Int)))
set_option maxRecDepth 20000 in
theorem ready_Settle_ok (n : Nat) (M : Mem) (A0 : Option Addr) (cap0 : Nat) (d0 : List (List Int)) (h0 : Sli M 1 (eL 1 (Dat.int .i64)) A0 cap0 d0) (A1 : Option Addr) (cap1 : Nat) (d1 : List Int) (h1 : Sli M 1 (Dat.int .i8) A1 cap1 d1) (d2 : Bool) (r : List Int × Int) (hF : ready_Settle n d0 d1 d2 = some r) : OkH Tryz.prog M [] 36 [.slice A0 d0.length cap0, .slice A1 d1.length cap1, .bool d2] (fun M' E' v => ∃ (A0 : Option Addr) (k0 : Nat) (s0 : List Value), v = .tuple #[.slice A0 r.1.length k0, .int .i64 r.2] ∧ E' = [.row 22 1 (.slice A0 r.1.length k0) r.1.length s0] ∧ RepSeq M' (r.1.map (Dat.int .i8)) s0) := by
 unfold ready_Settle at hF
 intro M1 hM0 w0 H w p0
 replace h0 := h0.mono hM0
 replace h1 := h1.mono hM0
 refine R_enter 39 Tryz.func36 rfl rfl (by simp) fun a0 f0 => RR (Y f0 2 fun _ f => eT (R_seq (RR (Y f 2 fun _ f => ?_))))
 obtain ⟨x_1, hx_1, hF_1⟩ := bS hF
 refine Y17 f p0 (ready_May_ok n _ A0 cap0 d0 h0 A1 cap1 d1 h1 x_1 hx_1) fun w_1 p_1 _ f => Y f 1 fun _ f => eT (RcF f hF_1 (fun h_1 hF_2 => ?_) fun h_1 hF_3 => ?_)
 ·have k_1 : (x_1) = false := by simpa using h_1
  refine RR (Y f 2 fun _ f => eT (wp_ret (T_r ?_)))
  obtain ⟨A_1, cap_1, hv_1⟩ : ∃ A cap, Value.slice none 0 0 = .slice A ([] : List Int).length cap := ⟨none, 0, rfl⟩
  have p_2 : Hp w0 M1 ((Ent.row 22 1 (.slice A_1 ([] : List Int).length cap_1) ([] : List Int).length []) :: H) w_1 := by rw [← hv_1]; exact p_1.nilRow 22 1
  have f := f.st 6 (hv_1)
  have hr_1 : RepSeq M1 (([] : List Int).map (Dat.int .i8)) [] := rfl
  refine E_ret2 f rfl (by kernel_rfl : Vc.look _ 6 = some (.slice A_1 ([] : List Int).length cap_1)) (by kernel_rfl : Vc.look _ 7 = some (.int .i64 2)) ?_
  obtain rfl := sI hF_2
  exact ⟨_, rfl, M1, _, (mR _), p_2, ⟨A_1, cap_1, [], rfl, rfl, hr_1⟩⟩
 ·have k_2 : (x_1) = true := by simpa using h_1
  refine wp_skip (T_n (RR (Y f 2 fun _ f => ?_)))
  obtain ⟨x_2, hx_2, hF_4⟩ := bS hF_3
  refine Y15 f p_1 (ready_ways_ok n _ A0 cap0 d0 h0 (d2) x_2 hx_2) fun _ M_1 w_2 hM_1 p_3 q_1 _ f => ?_
  obtain ⟨A_2, cap_2, rfl, h_2⟩ := q_1
  refine Y f 1 fun _ f => ?_
  obtain ⟨x_3, hx_3, hF_5⟩ := bS hF_4
  refine Y16 (E := []) (H := (H)) f p_3 (slices_Cloneint8_int8_ok n _ A1 cap1 d1 (h1.mono hM_1) x_3 hx_3) fun _ M_2 E_1 w_3 hM_2 p_4 q_2 _ f => ?_
  obtain ⟨A_3, cap_3, cs_1, rfl, rfl, hr_2⟩ := q_2
  refine Y f 2 fun _ f => eT (wp_block ?_)
  obtain ⟨b_1, hL_1, hF_6⟩ := bS hF_5
  refine wp_mono (Q := fun e a w => (e = .ret ∧ (∃ y_2 : List Int, b_1 = y_2 ∧ ∃ M_9 : Mem, M_2.le M_9 ∧ ∃ (A_9 : Option Addr), ∃ (cap_11 : Nat), ∃ (cs_6 : List Value), RepSeq M_9 (y_2.map (Dat.int .i8)) cs_6 ∧ Frm 39 [(6, .slice A_9 y_2.length cap_11), (7, .int .i64 0)] a ∧ Hp w0 M_9 ((Ent.row 22 1 (.slice A_9 y_2.length cap_11) y_2.length cs_6) :: H) w))) (R_loop (n := 39) (w0 := w0) (M := M_2) (fun (x : Nat × (List Int) × (Option Addr) × Nat × (List Value)) => match x with | (m_1, s_1, A_4, cap_4, cs_2) => [(8, .slice A_2 x_2.length cap_2), (9, .slice A_4 s_1.length cap_4)]) (fun (x : Nat × (List Int) × (Option Addr) × Nat × (List Value)) => match x with | (m_1, s_1, A_4, cap_4, cs_2) => ((Ent.row 22 1 (.slice A_4 s_1.length cap_4) s_1.length cs_2) :: H)) (fun (x : Nat × (List Int) × (Option Addr) × Nat × (List Value)) (MM : Mem) => match x with | (m_1, s_1, A_4, cap_4, cs_2) => loopF (ready_Settle_s1 n x_2) m_1 s_1 = some b_1 ∧ RepSeq MM (s_1.map (Dat.int .i8)) cs_2) (fun (x : Nat × (List Int) × (Option Addr) × Nat × (List Value)) => match x with | (m_1, s_1, A_4, cap_4, cs_2) => m_1) (n, x_3, A_3, cap_3, cs_1) (f.kp) p_4 ⟨hL_1, hr_2⟩ ?_) ?_
  ·rintro ⟨m_1, s_1, A_4, cap_4, cs_2⟩ M_3 _ w_4 hM_3 I_1 f p_5
   obtain ⟨I_1L, hr_3⟩ := I_1
   obtain ⟨m_2, r_1, rfl, hs_1, hn_1⟩ := loop_step I_1L
   unfold ready_Settle_s1 at hs_1
   refine wp_block (RR (Y f 2 fun _ f => ?_))
   obtain ⟨M_4, A_5, cap_5, hM_4, hv_2, p_6, h_3, hb_1⟩ := p_5.lend (f := (Dat.int .i8)) (xs := s_1) (szd_int .i8) hr_3
   have f := f.st 9 (hv_2)
   have f := f.st 23 (hv_2)
   obtain ⟨x_4, hx_4, hF_7⟩ := bS hs_1
   refine Y16 (E := []) (H := (H)) f p_6 (ready_over_2_ok n _ A_2 cap_2 x_2 (h_2.mono ((hM_2.trans hM_3).trans hM_4)) A_5 cap_5 s_1 h_3 x_4 hx_4) fun _ M_5 E_2 w_5 hM_5 p_7 q_3 _ f => ?_
   obtain ⟨A_6, cap_6, cs_3, rfl, rfl, hr_4⟩ := q_3
   have hr_5 : ∀ M, RepSeq M (x_4.map (Dat.int .i64)) cs_3 := fun M => RepSeq.flat (flat_int .i64) _ hr_4
   obtain ⟨M_6, hM_6, p_8⟩ := hb_1 _ _ _ hM_5 p_7
   have f := f.st 9 (hv_2.symm)
   have f := f.st 23 (hv_2.symm)
   have hr_6 := hr_5 M_6
   refine Y f 1 fun _ f => eT (R_seq (RR (Y f 3 fun _ f => eT (RcF f hF_7 (fun h_4 hF_8 => ?_) fun h_4 hF_9 => ?_))))
   ·have k_3 := dI.1 h_4
    refine RR (Y f 3 fun _ f => eT (wp_ret (T_r (B_r ?_))))
    have p_14 := p_8.pl [1]
    refine T_r ?_
    obtain rfl := sI hF_8
    exact ⟨rfl, s_1, (sI hn_1).symm, M_6, (hM_3.trans hM_6), A_4, cap_4, cs_2, (RepSeq.mono hM_6 _ _ hr_3), f.kp, (p_14.dropN 1)⟩
   ·have k_4 := iff_f dI h_4
    refine wp_skip (T_n (RR (Y f 3 fun _ f => eT (wp_block ?_))))
    obtain ⟨b_2, hL_2, hF_10⟩ := bS hF_9
    refine wp_mono (Q := fun e a w => (e = .exit 2 ∧ (∃ y_1 : List Int, b_2 = y_1 ∧ ∃ M_8 : Mem, M_6.le M_8 ∧ ∃ (A_8 : Option Addr), ∃ (cap_10 : Nat), ∃ (cs_5 : List Value), RepSeq M_8 (y_1.map (Dat.int .i8)) cs_5 ∧ Frm 39 [(8, .slice A_2 x_2.length cap_2), (9, .slice A_8 y_1.length cap_10)] a ∧ Hp w0 M_8 ((Ent.row 22 1 (.slice A_8 y_1.length cap_10) y_1.length cs_5) :: (Ent.row 3 1 (.slice A_6 x_4.length cap_6) x_4.length cs_3) :: H) w))) (R_loop (n := 39) (w0 := w0) (M := M_6) (fun (x : Nat × (List Int × Int) × (Option Addr) × Nat × (List Value)) => match x with | (m_3, s_2, A_7, cap_7, cs_4) => [(8, .slice A_2 x_2.length cap_2), (9, .slice A_7 s_2.1.length cap_7), (29, .slice A_6 x_4.length cap_6), (30, .int .i64 ((x_4.length : Nat) : Int)), (31, .int .i64 s_2.2)]) (fun (x : Nat × (List Int × Int) × (Option Addr) × Nat × (List Value)) => match x with | (m_3, s_2, A_7, cap_7, cs_4) => ((Ent.row 22 1 (.slice A_7 s_2.1.length cap_7) s_2.1.length cs_4) :: (Ent.row 3 1 (.slice A_6 x_4.length cap_6) x_4.length cs_3) :: H)) (fun (x : Nat × (List Int × Int) × (Option Addr) × Nat × (List Value)) (MM : Mem) => match x with | (m_3, s_2, A_7, cap_7, cs_4) => loopF (ready_Settle_s2 n x_4) m_3 s_2 = some b_2 ∧ RepSeq MM (s_2.1.map (Dat.int .i8)) cs_4) (fun (x : Nat × (List Int × Int) × (Option Addr) × Nat × (List Value)) => match x with | (m_3, s_2, A_7, cap_7, cs_4) => m_3) (n, (s_1, (0 : Int)), A_4, cap_4, cs_2) (f.kp) p_8 ⟨hL_2, (RepSeq.mono hM_6 _ _ hr_3)⟩ ?_) ?_
    ·rintro ⟨m_3, s_2, A_7, cap_7, cs_4⟩ M_7 _ w_6 hM_7 I_2 f p_9
     obtain ⟨I_2L, hr_7⟩ := I_2
     obtain ⟨m_4, r_2, rfl, hs_2, hn_2⟩ := loop_step I_2L
     unfold ready_Settle_s2 at hs_2
     refine RR (Y f 1 fun _ f => eT (R_seq (RcF f hs_2 (fun h_5 hF_11 => ?_) fun h_5 hF_15 => ?_)))
     ·have k_5 := dI.1 h_5
      refine wp_skip (T_n (R_seq (wp_block (RR ?_))))
      obtain ⟨x_5, hx_5, hF_12⟩ := bS hF_11
      obtain ⟨b_3, cap_8, hv_3, hcap_1⟩ := p_9.rowAddr 1 rfl (getI_pos hx_5)
      have f := f.st 29 (hv_3)
      refine Z f (Y27 rfl (ad := ⟨b_3, 0, none⟩) (len := x_4.length) (cap := cap_8) (k := .i64) (i := s_2.2) (e := 3) (sz := 1) (getI_nn hx_5) (getI_lt hx_5)) fun _ f => ?_
      have f := f.st 29 (hv_3.symm)
      obtain ⟨c_1, -, hr_8, hc_1⟩ := RepSeq.get s_2.2.toNat (szd_all (szd_int .i64)) (RepSeq.mono hM_7 _ _ hr_6) (getI_map hx_5)
      obtain rfl : c_1 = [.int .i64 x_5] := hr_8
      refine Z f (Y29 (v := .int .i64 x_5) rfl (ad := (⟨b_3, 0, none⟩ : Addr).add (s_2.2.toNat * 1)) (by simpa [Addr.add] using (fun j v h => row_at (p_9.rowCell 1 rfl hv_3) hc_1 j v h) 0 _ rfl)) fun _ f => Y f 1 fun _ f => eT (R_reg (Y f 2 fun _ f => ?_))
      obtain ⟨x_6, hx_6, hF_13⟩ := bS hF_12
      obtain ⟨b_4, cap_9, hv_4, hcap_2⟩ := p_9.rowAddr 0 rfl (getI_pos hx_6)
      have f := f.st 35 (hv_4)
      refine Z f (Y27 rfl (ad := ⟨b_4, 0, none⟩) (len := s_2.1.length) (cap := cap_9) (k := .i64) (i := x_5) (e := 22) (sz := 1) (getI_nn hx_6) (getI_lt hx_6)) fun _ f => ?_
      have f := f.st 35 (hv_4.symm)
      refine Y24 (it := x_5) (d := s_2.1) (f := (Dat.int .i8)) (xv := (5 : Int)) (v := .int .i8 5) f p_9 hv_4 rfl rfl (by exact rfl) (szd_int .i8) hx_6 hr_7 fun w_7 p_10 hr_9 _ f => ?_
      have p_11 : Hp w0 M_7 ((Ent.row 22 1 (.slice A_7 (s_2.1.set x_5.toNat (5 : Int)).length cap_7) (s_2.1.set x_5.toNat (5 : Int)).length (cs_4.set x_5.toNat (.int .i8 5))) :: (Ent.row 3 1 (.slice A_6 x_4.length cap_6) x_4.length cs_3) :: H) w_7 := p_10.rowVal (by simp only [List.length_set])
      have f := Frm.set f 9 (v := .slice A_7 s_2.1.length cap_7) (v' := .slice A_7 (s_2.1.set x_5.toNat (5 : Int)).length cap_7) (by kernel_rfl) (by simp only [List.length_set])
      have f := Frm.set f 35 (v := .slice A_7 s_2.1.length cap_7) (v' := .slice A_7 (s_2.1.set x_5.toNat (5 : Int)).length cap_7) (by kernel_rfl) (by simp only [List.length_set])
      refine W_end rfl (B_n (T_n (R_reg ?_)))
      obtain ⟨g_1, hF_14⟩ := nS hF_13
      refine Y f 1 fun _ f => ?_
      have f := f.st 38 (congrArg (Value.int .i64) (inR_wrap g_1))
      refine Y f 1 fun _ f => eT ?_
      obtain rfl := sI hF_14
      exact ⟨⟨m_4, (s_2.1.set x_5.toNat (5 : Int), s_2.2 + 1), A_7, cap_7, cs_4.set x_5.toNat (.int .i8 5)⟩, Nat.lt_succ_self _, M_7, hM_7, ⟨hn_2, hr_9⟩, f.kp, p_11⟩
     ·have k_6 := iff_f dI h_5
      refine wp_exit (T_x (T_x ?_))
      obtain rfl := sI hF_15
      exact ⟨rfl, s_2.1, (sI hn_2).symm, M_7, hM_7, A_7, cap_7, cs_4, hr_7, f.kp, p_9⟩
    ·rintro _ _ w_9 ⟨rfl, y_1, hq_, M_8, hM_8, A_8, cap_10, cs_5, hr_10, f, p_12⟩
     subst b_2
     refine B_x (B_n ?_)
     have p_15 := p_12.pl [1]
     refine T_n ?_
     obtain rfl := sI hF_10
     exact ⟨⟨m_2, y_1, A_8, cap_10, cs_5⟩, Nat.lt_succ_self _, M_8, ((hM_3.trans hM_6).trans hM_8), ⟨hn_1, hr_10⟩, f.kp, (p_15.dropN 1)⟩
  ·rintro _ _ w_11 ⟨rfl, y_2, hq_, M_9, hM_9, A_9, cap_11, cs_6, hr_11, f, p_13⟩
   subst b_1
   refine B_r (E_ret2 f rfl (by kernel_rfl : Vc.look _ 6 = some (.slice A_9 y_2.length cap_11)) (by kernel_rfl : Vc.look _ 7 = some (.int .i64 0)) ?_)
   obtain rfl := sI hF_6
   exact ⟨_, rfl, M_9, _, ((hM_1.trans hM_2).trans hM_9), p_13, ⟨A_9, cap_11, cs_6, rfl, rfl, hr_11⟩⟩
end Go.Proofs.YtfdmlionhbeebaaGreat
end

section
namespace Go.Proofs.YtfdmlionhbeebaaGreat
open Go Go.Vc
structure Sm (l : LL) : Prop where
  len : l.length ≤ 100
  row : ∀ r ∈ l, r.length ≤ 100
theorem Sm.turned {l : LL} (h : Sm l) : Sm (turnedL l) := ⟨by rw [turned_len]; exact h.len, fun r hr => by
 obtain ⟨k, rfl⟩ := turned_row (l := l) hr
 exact Nat.le_trans (sel_len _ _) h.len⟩
theorem Sm.at_ {l : LL} (h : Sm l) (k : Nat) : (l.getD k []).length ≤ 100 := by
 by_cases hk : k < l.length
 ·exact h.row _ (row_mem hk)
 ·simp [List.getD, List.getElem?_eq_none (Nat.le_of_not_lt hk)]
theorem turned_eq {n : Nat} {l : LL} (h : Sm l) : deps_Turned n l = some (turnedL l) :=
 need_t ⟨by have := h.len; omega, fun r hr => by have := h.row r hr; omega⟩
theorem contains_of {n : Nat} {xs : List Int} {q : Int → Bool} {step : Int → Option (Lp Int (Sum Int Unit))} (hn : xs.length < n)
  (hs : ∀ k : Nat, k < xs.length → step (k : Int) = if q (xs.getD k 0) = true then some (.br (.inl (k : Int))) else some (.nx ((k : Int) + 1))) (he : step (xs.length : Int) = some (.br (.inr ()))) :
  (((loopF step n 0).bind fun b_1 => match b_1 with | .inl y => some y | .inr _ => some (-1 : Int)).bind fun x => some (decide ((0 : Int) ≤ x))) = some (xs.any q) := by
 have := loop_run (n := n) (fun k : Nat => (k : Int)) (fun k => if q (xs.getD k 0) = true then some (.inl (k : Int)) else none) xs.length (.inr () : Sum Int Unit) (fun k hk => by
  rw [hs k hk]
  by_cases h : q (xs.getD k 0) = true
  ·rw [if_pos h, if_pos h]
  ·rw [if_neg h, if_neg h]; rfl) he hn
 have e0 : ((0 : Nat) : Int) = 0 := rfl
 simp only [e0] at this
 rw [this, bnd]
 have ha := any_range (0 : Int) q xs
 cases h : xs.any q with
 | true =>
  rw [h] at ha
  cases h2 : (List.range xs.length).findSome? (fun k => if q (xs.getD k 0) = true then some (Sum.inl (k : Int) : Sum Int Unit) else none) with
  | some x =>
   obtain ⟨k, hk, hxx⟩ := List.exists_of_findSome?_eq_some h2
   by_cases hq : q (xs.getD k 0) = true
   ·rw [if_pos hq] at hxx
    cases hxx
    simp
   ·rw [if_neg hq] at hxx; cases hxx
  | none =>
   rw [List.findSome?_eq_none_iff] at h2
   obtain ⟨k, hk, hq⟩ := List.any_eq_true.1 ha
   have := h2 k hk
   rw [if_pos hq] at this; cases this
 | false =>
  rw [h] at ha
  have : (List.range xs.length).findSome? (fun k => if q (xs.getD k 0) = true then some (Sum.inl (k : Int) : Sum Int Unit) else none) = none := by
   rw [List.findSome?_eq_none_iff]
   intro k hk
   have := List.any_eq_false.1 ha k hk
   rw [if_neg this]
  rw [this]; rfl
theorem may1_eq {n : Nat} (x : Int) (l : LL) : ready_May_1 n x l = some (decide (x < 0) || decide ((l.length : Int) ≤ x)) := by
 unfold ready_May_1
 cases decide (x < 0) <;> simp
theorem mayC_eq {n : Nat} (xs : List Int) (l : LL) (hx : xs.length ≤ 100) (hn : 100 < n) : slices_ContainsFuncint_int n xs l = some (xs.any fun x => decide (x < 0) || decide ((l.length : Int) ≤ x)) := by
 unfold slices_ContainsFuncint_int slices_IndexFuncint_int
 refine contains_of (q := fun x => decide (x < 0) || decide ((l.length : Int) ≤ x)) (by omega) (fun k hk => ?_) ?_
 ·unfold slices_IndexFuncint_int_s1
  simp only [decide_eq_true (by omega : (k : Int) < xs.length), cT, getI_at 0 hk, bnd, may1_eq]
  rw [need_i (by omega) (by omega), cond_ite]
 ·unfold slices_IndexFuncint_int_s1; simp
theorem may_eq {n : Nat} (l : LL) (st : List Int) (h : Sm l) (hn : 100 < n) : ready_May n l st = some (mayB l st) := by
 unfold ready_May
 have hlen := h.len
 by_cases hl : l.length = st.length
 ·have hs : ∀ k : Nat, k < l.length → ready_May_s1 n l st (k : Int) = if (!rowOk l st k) = true then some (.br (.inl ())) else some (.nx ((k : Int) + 1)) := fun k hk => by
   unfold ready_May_s1
   simp only [decide_eq_true (by omega : (k : Int) < l.length), cT, getI_at [] hk, getI_at (xs := st) 0 (by omega : k < st.length), bnd, mayC_eq _ l (h.at_ k) hn]
   rw [need_i (by omega) (by omega), rowOk_eq, Bool.not_not]
   cases decide (st.getD k 0 < 0) with
   | true => rfl
   | false =>
    cases decide ((5 : Int) < st.getD k 0) with
    | true => rfl
    | false =>
     simp only [cF, Bool.false_or]
     rw [cond_ite]
  have he : ready_May_s1 n l st (l.length : Int) = some (.br (.inr ())) := by unfold ready_May_s1; simp
  rw [loop_any _ _ _ _ hs he (by omega), decide_eq_true (by omega : (l.length : Int) = st.length)]
  simp only [Bool.not_true, cF, bnd]
  unfold mayB
  rw [decide_eq_true hl, Bool.true_and]
  have : ((List.range l.length).any fun k => !rowOk l st k) = !((List.range l.length).all (rowOk l st)) := by
   rw [List.not_all_eq_any_not]
  rw [this]
  cases (List.range l.length).all (rowOk l st) <;> rfl
 ·have h1 : ¬ ((l.length : Int) = (st.length : Int)) := by omega
  rw [decide_eq_false h1, mayB_len hl]; rfl
theorem every_eq {n : Nat} (xs st : List Int) (hx : xs.length ≤ 100) (hin : ∀ x ∈ xs, 0 ≤ x ∧ x < st.length) (hn : 100 < n) : ready_every n xs st = some (allQr xs fun x => letsB (st.getD x.toNat 0)) := by
 have hc : slices_ContainsFuncint_int_2 n xs st = some (xs.any fun x => !letsB (st.getD x.toNat 0)) := by
  unfold slices_ContainsFuncint_int_2 slices_IndexFuncint_int_2
  refine contains_of (q := fun x => !letsB (st.getD x.toNat 0)) (by omega) (fun k hk => ?_) ?_
  ·have hm := hin _ (getD_mem hk)
   unfold slices_IndexFuncint_int_2_s1 ready_every_1 ready_over_1 ready_lets
   simp only [decide_eq_true (by omega : (k : Int) < xs.length), cT, getI_at 0 hk, bnd, getI_in 0 hm.1 hm.2]
   rw [need_i (by omega) (by omega), cond_ite]
   unfold letsB
   cases decide (st.getD (xs.getD k 0).toNat 0 = 0) <;> simp
  ·unfold slices_IndexFuncint_int_2_s1; simp
 unfold ready_every
 rw [hc, bnd, any_all]; rfl
theorem some_eq {n : Nat} (xs st : List Int) (hx : xs.length ≤ 100) (hin : ∀ x ∈ xs, 0 ≤ x ∧ x < st.length) (hn : 100 < n) : ready_some n xs st = some (anyQ xs fun x => blocksB (st.getD x.toNat 0)) := by
 have hc : slices_ContainsFuncint_int_3 n xs st = some (xs.any fun x => blocksB (st.getD x.toNat 0)) := by
  unfold slices_ContainsFuncint_int_3 slices_IndexFuncint_int_3
  refine contains_of (q := fun x => blocksB (st.getD x.toNat 0)) (by omega) (fun k hk => ?_) ?_
  ·have hm := hin _ (getD_mem hk)
   unfold slices_IndexFuncint_int_3_s1 ready_over_1_2 ready_blocks
   simp only [decide_eq_true (by omega : (k : Int) < xs.length), cT, getI_at 0 hk, bnd, getI_in 0 hm.1 hm.2]
   rw [need_i (by omega) (by omega), cond_ite]
   unfold blocksB
   cases decide (st.getD (xs.getD k 0).toNat 0 = 4) <;> simp
  ·unfold slices_IndexFuncint_int_3_s1; simp
 unfold ready_some
 rw [hc, bnd]; rfl
theorem sel_loop {n : Nat} {F : Nat → Bool} {len : Nat} {step : List Int × Int → Option (Lp (List Int × Int) (List Int))} (hl : len ≤ 100) (hn : 100 < n)
  (hs : ∀ (k : Nat) (r : List Int), k < len → r.length ≤ k → step (r, (k : Int)) = if F k = true then some (.nx (r ++ [(k : Int)], (k : Int) + 1)) else some (.nx (r, (k : Int) + 1)))
  (he : ∀ r, step (r, (len : Int)) = some (.br r)) : loopF step n ([], 0) = some (sel F len) := by
 refine loop_all (fun k : Nat => (sel F k, (k : Int))) len (sel F len) (fun k hk => ?_) (he _) (by omega)
 show step (sel F k, (k : Int)) = _
 rw [hs k _ hk (sel_len F k)]
 cases h : F k with
 | true => rw [sel_yes h]; rfl
 | false => rw [sel_no h]; rfl
theorem overL_eq {n : Nat} (l : LL) (st : List Int) (h : Sm l) (hl : l.length = st.length) (hin : ∀ r ∈ l, ∀ x ∈ r, 0 ≤ x ∧ x < st.length) (hn : 100 < n) : ready_over n l st = some (sel (pickF allQr letsB l st) st.length) := by
 unfold ready_over
 have hlen := h.len
 rw [sel_loop (F := pickF allQr letsB l st) (len := st.length) (by omega) hn (fun k r hk hr => ?_) (fun r => ?_)]
 ·rfl
 ·unfold ready_over_s1 pickF
  simp only [decide_eq_true (by omega : (k : Int) < st.length), cT, getI_at 0 hk, getI_at (xs := l) [] (by omega : k < l.length), bnd, every_eq _ st (h.at_ k) (hin _ (row_mem (by omega))) hn]
  have hi : inR .i64 ((k : Int) + 1) := inR_small (by omega) (by omega)
  have hj : (r.length + 1) * 8 ≤ 140737488355328 := by omega
  simp only [need_t hi, need_t hj]
  cases decide (st.getD k 0 = 1) with
  | false => rfl
  | true =>
   simp only [cT, bnd, Bool.true_and]
   rw [cond_ite]
 ·unfold ready_over_s1; simp
theorem overB_eq {n : Nat} (l : LL) (st : List Int) (h : Sm l) (hl : l.length = st.length) (hin : ∀ r ∈ l, ∀ x ∈ r, 0 ≤ x ∧ x < st.length) (hn : 100 < n) : ready_over_2 n l st = some (sel (pickF anyQ blocksB l st) st.length) := by
 unfold ready_over_2
 have hlen := h.len
 rw [sel_loop (F := pickF anyQ blocksB l st) (len := st.length) (by omega) hn (fun k r hk hr => ?_) (fun r => ?_)]
 ·rfl
 ·unfold ready_over_2_s1 pickF
  simp only [decide_eq_true (by omega : (k : Int) < st.length), cT, getI_at 0 hk, getI_at (xs := l) [] (by omega : k < l.length), bnd, some_eq _ st (h.at_ k) (hin _ (row_mem (by omega))) hn]
  have hi : inR .i64 ((k : Int) + 1) := inR_small (by omega) (by omega)
  have hj : (r.length + 1) * 8 ≤ 140737488355328 := by omega
  simp only [need_t hi, need_t hj]
  cases decide (st.getD k 0 = 1) with
  | false => rfl
  | true =>
   simp only [cT, bnd, Bool.true_and]
   rw [cond_ite]
 ·unfold ready_over_2_s1; simp
theorem ways_eq {n : Nat} (l : LL) (b : Bool) (h : Sm l) : ready_ways n l b = some (wayL l b) := by
 unfold ready_ways wayL
 rw [turned_eq h]
 cases b <;> rfl
theorem Sm.way {l : LL} (h : Sm l) (b : Bool) : Sm (wayL l b) := by
 cases b with
 | false => exact h
 | true => exact h.turned
inductive Blk (l : LL) (st : List Int) : Nat → Prop
  | base {i : Nat} : i < st.length → blocksB (st.getD i 0) = true → Blk l st i
  | step {i : Nat} {x : Int} : i < st.length → st.getD i 0 = 1 → x ∈ l.getD i [] → Blk l st x.toNat → Blk l st i
open Classical in
noncomputable def settledL (l : LL) (st : List Int) : List Int := (List.range st.length).map fun i => if st.getD i 0 = 1 ∧ Blk l st i then 5 else st.getD i 0
theorem settled_len (l : LL) (st : List Int) : (settledL l st).length = st.length := by simp [settledL]
theorem settled_at {l : LL} {st : List Int} {i : Nat} (hi : i < st.length) : (st.getD i 0 = 1 ∧ Blk l st i ∧ (settledL l st).getD i 0 = 5) ∨ (¬ (st.getD i 0 = 1 ∧ Blk l st i) ∧ (settledL l st).getD i 0 = st.getD i 0) := by
 classical
 have h : (settledL l st).getD i 0 = if st.getD i 0 = 1 ∧ Blk l st i then 5 else st.getD i 0 := by
  simp [settledL, hi]
 by_cases hb : st.getD i 0 = 1 ∧ Blk l st i
 ·exact .inl ⟨hb.1, hb.2, by rw [h, if_pos hb]⟩
 ·exact .inr ⟨hb, by rw [h, if_neg hb]⟩
structure SI (l : LL) (st out : List Int) : Prop where
  len : out.length = st.length
  at_ : ∀ i, i < st.length → out.getD i 0 = st.getD i 0 ∨ (st.getD i 0 = 1 ∧ out.getD i 0 = 5 ∧ Blk l st i)
theorem SI.start (l : LL) (st : List Int) : SI l st st := ⟨rfl, fun _ _ => .inl rfl⟩
theorem getD_set5 {out : List Int} {i j : Nat} {v : Int} (hi : i < out.length) : (out.set i v).getD j 0 = if i = j then v else out.getD j 0 := by
 simp only [List.getD_eq_getElem?_getD, List.getElem?_set]
 by_cases h : i = j
 ·subst h; simp [hi]
 ·simp [h]
theorem SI.put {l : LL} {st out : List Int} (h : SI l st out) {i : Nat} (hi : i < st.length) (h1 : st.getD i 0 = 1) (hb : Blk l st i) : SI l st (out.set i 5) := by
 refine ⟨by rw [List.length_set]; exact h.len, fun j hj => ?_⟩
 rw [getD_set5 (by rw [h.len]; exact hi)]
 by_cases e : i = j
 ·subst e; rw [if_pos rfl]; exact .inr ⟨h1, rfl, hb⟩
 ·rw [if_neg e]; exact h.at_ j hj
theorem SI.blk {l : LL} {st out : List Int} (h : SI l st out) {i : Nat} (hi : i < st.length) (hb : blocksB (out.getD i 0) = true) : Blk l st i := by
 rcases h.at_ i hi with e | ⟨_, _, e⟩
 ·exact .base hi (e ▸ hb)
 ·exact e
theorem SI.wait {l : LL} {st out : List Int} (h : SI l st out) {i : Nat} (hi : i < st.length) (hb : out.getD i 0 = 1) : st.getD i 0 = 1 := by
 rcases h.at_ i hi with e | ⟨e, _⟩
 ·exact e ▸ hb
 ·exact e
theorem SI.done {l : LL} {st out : List Int} (h : SI l st out) (hin : ∀ r ∈ l, ∀ x ∈ r, 0 ≤ x ∧ x < st.length) (hl : l.length = st.length)
  (hc : ∀ i, i < st.length → out.getD i 0 = 1 → ∀ x ∈ l.getD i [], blocksB (out.getD x.toNat 0) = false) : out = settledL l st := by
 have key : ∀ i, Blk l st i → i < st.length → blocksB (out.getD i 0) = true := by
  intro i hb
  induction hb with
  | base hi hb =>
   intro _
   rcases h.at_ _ hi with e | ⟨e, _⟩
   ·rw [e]; exact hb
   ·rw [e] at hb; simp [blocksB] at hb
  | @step i x hi h1 hx hbx ih =>
   intro _
   have hxr := hin _ (row_mem (l := l) (by omega)) x hx
   have hb := ih (by omega)
   rcases h.at_ i hi with e | ⟨_, e, _⟩
   ·have := hc i hi (e.trans h1) x hx
    rw [hb] at this; cases this
   ·rw [e]; rfl
 apply List.ext_getElem (by rw [settled_len]; exact h.len)
 intro i h1 h2
 have hi : i < st.length := by rw [← h.len]; exact h1
 have goal : out.getD i 0 = (settledL l st).getD i 0 := by
  rcases settled_at (l := l) hi with ⟨e1, e2, e3⟩ | ⟨e1, e2⟩
  ·rw [e3]
   rcases h.at_ i hi with e | ⟨_, e, _⟩
   ·have := key i e2 hi
    rw [e, e1] at this
    simp [blocksB] at this
   ·exact e
  ·rw [e2]
   rcases h.at_ i hi with e | ⟨e3, _, e4⟩
   ·exact e
   ·exact absurd ⟨e3, e4⟩ e1
 simpa [List.getD, h1, h2] using goal
theorem cnt_set {out : List Int} {i : Nat} (hi : i < out.length) : cntI 1 (out.set i 5) ≤ cntI 1 out ∧ (out.getD i 0 = 1 → cntI 1 (out.set i 5) < cntI 1 out) := by
 unfold cntI
 rw [List.countP_set hi]
 have e5 : ((5 : Int) == 1) = false := rfl
 simp only [e5, Bool.false_eq_true, if_false, Nat.add_zero]
 refine ⟨by omega, fun h => ?_⟩
 have h1 : out[i] = 1 := by simpa [List.getD, hi] using h
 have : 0 < out.countP (· == 1) := List.countP_pos_iff.2 ⟨out[i], List.getElem_mem hi, by rw [h1]; rfl⟩
 rw [h1]
 simp only [beq_self_eq_true, if_true]
 omega
theorem settle_eq {n : Nat} (l : LL) (st : List Int) (b : Bool) (h : Sm l) (hn : 100 < n) : ready_Settle n l st b = some (bif mayB l st then settledL (wayL l b) st else [], bif mayB l st then 0 else 2) := by
 unfold ready_Settle
 rw [may_eq l st h hn, bnd]
 cases hm : mayB l st with
 | false => rfl
 | true =>
  have hlen := h.len
  have hml := (mayB_in hm).1
  have hW := h.way b
  have hWl : (wayL l b).length = st.length := by rw [wayL_len]; exact hml
  have hin := way_in (b := b) hm
  simp only [Bool.not_true, cF, cT]
  rw [ways_eq l b h, bnd]
  have hcl : slices_Cloneint8_int8 n st = some st := need_t (by omega)
  rw [hcl, bnd]
  obtain ⟨r, h1, h2⟩ := loop_meas (n := n) (step := ready_Settle_s1 n (wayL l b)) (s0 := st) (fun out => SI (wayL l b) st out) (fun out => cntI 1 out) (fun out => out = settledL (wayL l b) st) (SI.start _ st) (fun out hI => by
   have hol := hI.len
   unfold ready_Settle_s1
   rw [overB_eq (wayL l b) out hW (by omega) (by rw [hol]; exact hin) hn, bnd]
   have hmem : ∀ x, x ∈ sel (pickF anyQ blocksB (wayL l b) out) out.length → ∃ i : Nat, x = i ∧ i < st.length ∧ out.getD i 0 = 1 ∧ Blk (wayL l b) st i := fun x hx => by
    obtain ⟨i, e, hi, hp⟩ := sel_mem.1 hx
    simp only [pickF, anyQ, Bool.and_eq_true, decide_eq_true_eq, List.any_eq_true] at hp
    obtain ⟨hp1, y, hy, hp2⟩ := hp
    have hyr := hin _ (row_mem (l := wayL l b) (by omega)) y hy
    exact ⟨i, e, by omega, hp1, .step (by omega) (hI.wait (by omega) hp1) hy (hI.blk (by omega) hp2)⟩
   by_cases h0 : (sel (pickF anyQ blocksB (wayL l b) out) out.length).length = 0
   ·right
    refine ⟨out, by rw [decide_eq_true (by omega)]; rfl, hI.done hin hWl fun i hi h1 x hx => ?_⟩
    cases hb : blocksB (out.getD x.toNat 0) with
    | false => rfl
    | true =>
     exfalso
     have : (i : Int) ∈ sel (pickF anyQ blocksB (wayL l b) out) out.length := sel_mem.2 ⟨i, rfl, by omega, by
      simp only [pickF, anyQ, Bool.and_eq_true, decide_eq_true_eq, List.any_eq_true]
      exact ⟨h1, x, hx, hb⟩⟩
     rw [List.eq_nil_of_length_eq_zero h0] at this
     cases this
   ·left
    have hsl := sel_len (pickF anyQ blocksB (wayL l b) out) out.length
    generalize hX : sel (pickF anyQ blocksB (wayL l b) out) out.length = X at *
    obtain ⟨r, g1, g2⟩ := loop_inv (n := n) (step := ready_Settle_s2 n X) (s0 := (out, (0 : Int))) (fun k s => s.2 = (k : Int) ∧ SI (wayL l b) st s.1 ∧ cntI 1 s.1 ≤ cntI 1 out ∧ (k = 0 → s.1 = out) ∧ (0 < k → cntI 1 s.1 < cntI 1 out))
     (fun r => SI (wayL l b) st r ∧ cntI 1 r < cntI 1 out) X.length ⟨rfl, hI, Nat.le_refl _, fun _ => rfl, fun h => absurd h (Nat.lt_irrefl 0)⟩ (fun k s hk ⟨i1, i2, i3, i4, i5⟩ => by
      left
      obtain ⟨s1, s2⟩ := s
      simp only at i1 i2 i3 i4 i5
      subst i1
      obtain ⟨i, e, hi, ho, hb⟩ := hmem _ (getD_mem hk)
      have hsl := i2.len
      refine ⟨(s1.set i 5, (k : Int) + 1), ?_, by simp, i2.put hi (hI.wait hi ho) hb, ?_, fun h => by omega, fun _ => ?_⟩
      ·unfold ready_Settle_s2
       simp only [decide_eq_true (by omega : (k : Int) < X.length), cT, getI_at 0 hk, bnd]
       rw [e, getI_at 0 (by omega), bnd, need_i (by omega) (by omega)]; rfl
      ·exact Nat.le_trans (cnt_set (by omega)).1 i3
      ·rcases Nat.eq_zero_or_pos k with h0 | h0
       ·have e0 := i4 h0
        simp only at e0 ⊢
        rw [e0]
        exact (cnt_set (by omega)).2 ho
       ·exact Nat.lt_of_le_of_lt (cnt_set (by omega)).1 (i5 h0))
     (fun s ⟨i1, i2, i3, i4, i5⟩ => ⟨s.1, by unfold ready_Settle_s2; simp [i1], i2, i5 (by omega)⟩) (by omega)
    refine ⟨r, ?_, g2.1, g2.2⟩
    rw [decide_eq_false (by omega : ¬ ((X.length : Nat) : Int) = 0)]
    simp only [cF]
    rw [g1]; rfl) (by have := cntI_all 1 st; omega)
  rw [h1, bnd, h2]
theorem mayB_of {l : LL} {st : List Int} (h1 : l.length = st.length) (h2 : ∀ i, i < st.length → 0 ≤ st.getD i 0 ∧ st.getD i 0 ≤ 5) (h3 : ∀ r ∈ l, ∀ x ∈ r, 0 ≤ x ∧ x < l.length) : mayB l st = true := by
 refine mayB_yes h1 fun i hi => rowOk_yes (by have := h2 i (by omega); omega) ?_
 rw [List.any_eq_false]
 intro x hx
 have := h3 _ (row_mem hi) x hx
 simp; omega
theorem settled_SI (l : LL) (st : List Int) : SI l st (settledL l st) := ⟨settled_len _ _, fun i hi => by
 rcases settled_at (l := l) hi with ⟨e1, e2, e3⟩ | ⟨_, e⟩
 ·exact .inr ⟨e1, e3, e2⟩
 ·exact .inl e⟩
end Go.Proofs.YtfdmlionhbeebaaGreat
end

section
namespace Go.Proofs.YtfdmlionhbeebaaGreat
open Go Go.Vc Go.RowKit
theorem turned_at {R : LL} {k : Nat} (h : k < R.length) : (turnedL R).getD k [] = sel (hits R k) R.length := by simp [turnedL, List.getD, h]
theorem turned_mem {R : LL} {i : Nat} (hi : i < R.length) {x : Int} : x ∈ (turnedL R).getD i [] ↔ ∃ k : Nat, x = k ∧ k < R.length ∧ (i : Int) ∈ R.getD k [] := by
 rw [turned_at hi, sel_mem]
 unfold hits
 constructor
 ·rintro ⟨k, e, hk, h⟩
  obtain ⟨y, hy, hy2⟩ := List.any_eq_true.1 h
  exact ⟨k, e, hk, by rw [← of_decide_eq_true hy2]; exact hy⟩
 ·rintro ⟨k, e, hk, h⟩
  exact ⟨k, e, hk, List.any_eq_true.2 ⟨_, h, decide_eq_true rfl⟩⟩
def LeftP (R : LL) (st : List Int) (i : Nat) : Prop := ∃ k, k < R.length ∧ (i : Int) ∈ R.getD k [] ∧ blocksB (st.getD k 0) = true
theorem left_of {l : List TC0} {R R2 : LL} (h1 : LeansOf l R) (h2 : LeansOf l R2) {st : List Int} {i : Nat} (h : LeftP R st i) : LeftP R2 st i := by
 obtain ⟨k, hk, hx, hb⟩ := h
 have hk' : k < l.length := h1.len ▸ hk
 exact ⟨k, by rw [h2.len]; exact hk', (h2.row k hk' _).2 ((h1.row k hk' _).1 hx), hb⟩
theorem settled_blocks {l : LL} {st : List Int} {i : Nat} (hi : i < st.length) : blocksB ((settledL l st).getD i 0) = true ↔ Blk l st i := by
 constructor
 ·exact fun h => (settled_SI l st).blk hi h
 ·intro h
  rcases settled_at (l := l) hi with ⟨_, _, e⟩ | ⟨hn, e⟩
  ·rw [e]; rfl
  ·rw [e]
   cases h with
   | base _ hb => exact hb
   | step h1 h2 h3 h4 => exact absurd ⟨h2, .step h1 h2 h3 h4⟩ hn
theorem blocked_law {R : LL} {st : List Int} {i : Nat} (hl : R.length = st.length) (h4 : ∀ i, i < st.length → st.getD i 0 ≤ 4) (hi : i < st.length) :
  ((settledL (turnedL R) st).getD i 0 = 5 → st.getD i 0 = 1 ∧ LeftP R (settledL (turnedL R) st) i) ∧ ((settledL (turnedL R) st).getD i 0 = 1 → st.getD i 0 = 1 ∧ ¬ LeftP R (settledL (turnedL R) st) i) := by
 have hiR : i < R.length := by omega
 rcases settled_at (l := turnedL R) hi with ⟨e1, hb, e⟩ | ⟨hn, e⟩
 ·refine ⟨fun _ => ⟨e1, ?_⟩, fun h => by rw [e] at h; cases h⟩
  cases hb with
  | base _ hb => rw [e1] at hb; cases hb
  | @step _ x h1 h2 h3 h5 =>
   obtain ⟨k, rfl, hk, hx⟩ := (turned_mem hiR).1 h3
   exact ⟨k, hk, hx, (settled_blocks (by omega)).2 h5⟩
 ·refine ⟨fun h => by have := h4 i hi; omega, fun h => ⟨e ▸ h, ?_⟩⟩
  rintro ⟨k, hk, hx, hb⟩
  have e1 : st.getD i 0 = 1 := e ▸ h
  exact hn ⟨e1, .step hi e1 ((turned_mem hiR).2 ⟨k, rfl, hk, hx⟩) ((settled_blocks (by omega)).1 hb)⟩
def back_States_s1 (n : Nat) (d0 : TK0) (x_2 : List Int) (s_1 : List Int × Int) : Option (Lp (List Int × Int) (List Int)) :=
    bif (decide (s_1.2 < ((x_2.length : Nat) : Int))) then
      ((getI x_2 s_1.2).bind fun x_3 =>
      (getI s_1.1 x_3).bind fun x_4 =>
      (forward_Task n d0 x_3 (1 : Int)).bind fun x_5 =>
      bif x_5.2 then
        (need (0 ≤ x_5.1.fState ∧ x_5.1.fState < 3) <|
        bif (decide (x_5.1.fState = 0)) then
          ((getI (s_1.1.set x_3.toNat (1 : Int)) x_3).bind fun x_6 =>
          need (inR .i64 (s_1.2 + 1)) <|
          some (.nx ((s_1.1.set x_3.toNat (1 : Int)).set x_3.toNat (2 : Int), s_1.2 + 1)))
        else
          bif (decide (x_5.1.fState = 1)) then
            ((getI (s_1.1.set x_3.toNat (1 : Int)) x_3).bind fun x_7 =>
            need (inR .i64 (s_1.2 + 1)) <|
            some (.nx ((s_1.1.set x_3.toNat (1 : Int)).set x_3.toNat (3 : Int), s_1.2 + 1)))
          else
            (getI (s_1.1.set x_3.toNat (1 : Int)) x_3).bind fun x_8 =>
            need (inR .i64 (s_1.2 + 1)) <|
            some (.nx ((s_1.1.set x_3.toNat (1 : Int)).set x_3.toNat (4 : Int), s_1.2 + 1)))
      else
        need (inR .i64 (s_1.2 + 1)) <|
        some (.nx (s_1.1.set x_3.toNat (1 : Int), s_1.2 + 1)))
    else
      some (.br s_1.1)
def back_States (n : Nat) (d0 : TK0) : Option (List Int) :=
  (forward_May n d0).bind fun x_1 =>
  bif !x_1 then
    (some (([] : List Int)))
  else
    need (0 ≤ ((d0.fChanges.length : Nat) : Int) ∧ ((d0.fChanges.length : Nat) : Int) * 1 ≤ 140737488355328 ∧ ((d0.fChanges.length : Nat) : Int) ≤ 140737488355328) <|
    (back_Goes n d0).bind fun x_2 =>
    (loopF (back_States_s1 n d0 x_2) n (List.replicate ((d0.fChanges.length : Nat) : Int).toNat (0 : Int), (0 : Int))).bind fun y_1 =>
    (back_leans n d0).bind fun x_9 =>
    (ready_Settle n x_9 y_1 (true)).bind fun x_10 =>
    some (x_10.1)
set_option maxRecDepth 20000 in
theorem back_States_ok (n : Nat) (M : Mem) (c0 : List Value) (d0 : TK0) (h0 : Rep M (emb_TK0 d0) c0) (r : List Int) (hF : back_States n d0 = some r) : Ok Tryz.prog M 10 [.agg c0.toArray] (fun M' v => ∃ (A0 : Option Addr) (k0 : Nat), v = .slice A0 r.length k0 ∧ Sli M' 1 (Dat.int .i8) A0 k0 r) := by
 unfold back_States at hF
 intro M1 hM0 w0 H w p0
 replace h0 := Rep.mono hM0 _ _ h0
 obtain ⟨A_1, cap_1, A_2, cap_2, A_3, cap_3, A_4, cap_4, A_5, cap_5, A_6, cap_6, A_7, cap_7, A_8, cap_8, A_9, cap_9, A_10, cap_10, rfl, h_1, h_2, h_3, h_4, h_5, h_6, h_7, h_8, h_9, h_10⟩ := TK0.opn h0
 refine R_enter 50 Tryz.func10 rfl rfl (by simp) fun a0 f0 => RR (Y12 (cs := #[.int .i8 d0.fKind, .int .i64 d0.fWidth, .slice A_1 d0.fOld.fOwned.length cap_1, .slice A_2 d0.fOld.fPending.length cap_2, .slice A_3 d0.fOld.fRetained.length cap_3, .slice A_4 d0.fOld.fOuts.length cap_4, S d0.fOld.fText, .slice A_5 d0.fOld.fArgs.length cap_5, .int .i64 d0.fOld.fCalls, .int .i8 d0.fOld.fStatus, .slice A_6 d0.fNew.fScopes.length cap_6, .slice A_7 d0.fNew.fNodes.length cap_7, S d0.fText, .slice A_8 d0.fArgs.length cap_8, .slice A_9 d0.fChanges.length cap_9, .slice A_10 d0.fTasks.length cap_10, .int .i8 d0.fPhase, .int .i8 d0.fStatus]) (T := 34) f0 p0 fun b_1 M_1 w_1 hM_1 hc_1 p_1 _ f => ?_)
 have hc_2 := fz_box hc_1
 refine Y f 1 fun _ f => eT (R_seq (RR (Z (v := .agg #[.int .i8 d0.fKind, .int .i64 d0.fWidth, .slice A_1 d0.fOld.fOwned.length cap_1, .slice A_2 d0.fOld.fPending.length cap_2, .slice A_3 d0.fOld.fRetained.length cap_3, .slice A_4 d0.fOld.fOuts.length cap_4, S d0.fOld.fText, .slice A_5 d0.fOld.fArgs.length cap_5, .int .i64 d0.fOld.fCalls, .int .i8 d0.fOld.fStatus, .slice A_6 d0.fNew.fScopes.length cap_6, .slice A_7 d0.fNew.fNodes.length cap_7, S d0.fText, .slice A_8 d0.fArgs.length cap_8, .slice A_9 d0.fChanges.length cap_9, .slice A_10 d0.fTasks.length cap_10, .int .i8 d0.fPhase, .int .i8 d0.fStatus]) f (Y30 (cs := [.int .i8 d0.fKind, .int .i64 d0.fWidth, .slice A_1 d0.fOld.fOwned.length cap_1, .slice A_2 d0.fOld.fPending.length cap_2, .slice A_3 d0.fOld.fRetained.length cap_3, .slice A_4 d0.fOld.fOuts.length cap_4, S d0.fOld.fText, .slice A_5 d0.fOld.fArgs.length cap_5, .int .i64 d0.fOld.fCalls, .int .i8 d0.fOld.fStatus, .slice A_6 d0.fNew.fScopes.length cap_6, .slice A_7 d0.fNew.fNodes.length cap_7, S d0.fText, .slice A_8 d0.fArgs.length cap_8, .slice A_9 d0.fChanges.length cap_9, .slice A_10 d0.fTasks.length cap_10, .int .i8 d0.fPhase, .int .i8 d0.fStatus]) rfl (ad := ⟨b_1, 0, none⟩) (fun j v h => p_1.cell (hc_2 j v h))) fun _ f => ?_)))
 obtain ⟨x_1, hx_1, hF_1⟩ := bS hF
 refine Y17 f p_1 (forward_May_ok n _ _ d0 (TK0.shutx (x := d0) (h_1.mono hM_1) (h_2.mono hM_1) (h_3.mono hM_1) (h_4.mono hM_1) (h_5.mono hM_1) (h_6.mono hM_1) (h_7.mono hM_1) (h_8.mono hM_1) (h_9.mono hM_1) (h_10.mono hM_1)) x_1 hx_1) fun w_2 p_2 _ f => Y f 1 fun _ f => eT (RcF f hF_1 (fun h_11 hF_2 => ?_) fun h_11 hF_3 => ?_)
 ·have k_1 : (x_1) = false := by simpa using h_11
  refine RR (Y f 1 fun _ f => eT (wp_ret (T_r (E_ret1 f rfl (by kernel_rfl : Vc.look _ 2 = some (.slice none 0 0)) ?_))))
  obtain rfl := sI hF_2
  exact ⟨_, rfl, M_1, hM_1, p_2, ⟨none, 0, rfl, Sli.nil⟩⟩
 ·have k_2 : (x_1) = true := by simpa using h_11
  refine wp_skip (T_n (RR (Y f 1 fun _ f => Y14 f p_2 hc_2 14 rfl fun _ f => Y f 1 fun _ f => ?_)))
  obtain ⟨g_1, hF_4⟩ := nS hF_3
  refine Y22 (f := (Dat.int .i8)) (x := (0 : Int)) (z := .int .i8 0) (m := ((d0.fChanges.length : Nat) : Int)) (bytes := 1) (e := 22) f p_2 (by exact rfl) rfl rfl rfl rfl g_1 fun A_11 cap_11 cs_1 w_3 p_3 hr_1 _ f => Y f 1 fun _ f => eT (RR (Y f 1 fun _ f => Y11 f p_3 (.cells #[.int .i8 0, .int .i8 0, .int .i8 0] 89 (0, 0)) fun b_2 w_4 p_4 _ f => Y26 (vs := [.int .i8 2, .int .i8 3, .int .i8 4]) (j := 0) f p_4 rfl rfl (by simp [Value.oneCell', S]) (by simp) (by decide) (cs' := #[.int .i8 2, .int .i8 3, .int .i8 4]) fun w_5 p_5 _ f => eT (R_seq (RR (Z (v := .agg #[.int .i8 d0.fKind, .int .i64 d0.fWidth, .slice A_1 d0.fOld.fOwned.length cap_1, .slice A_2 d0.fOld.fPending.length cap_2, .slice A_3 d0.fOld.fRetained.length cap_3, .slice A_4 d0.fOld.fOuts.length cap_4, S d0.fOld.fText, .slice A_5 d0.fOld.fArgs.length cap_5, .int .i64 d0.fOld.fCalls, .int .i8 d0.fOld.fStatus, .slice A_6 d0.fNew.fScopes.length cap_6, .slice A_7 d0.fNew.fNodes.length cap_7, S d0.fText, .slice A_8 d0.fArgs.length cap_8, .slice A_9 d0.fChanges.length cap_9, .slice A_10 d0.fTasks.length cap_10, .int .i8 d0.fPhase, .int .i8 d0.fStatus]) f (Y30 (cs := [.int .i8 d0.fKind, .int .i64 d0.fWidth, .slice A_1 d0.fOld.fOwned.length cap_1, .slice A_2 d0.fOld.fPending.length cap_2, .slice A_3 d0.fOld.fRetained.length cap_3, .slice A_4 d0.fOld.fOuts.length cap_4, S d0.fOld.fText, .slice A_5 d0.fOld.fArgs.length cap_5, .int .i64 d0.fOld.fCalls, .int .i8 d0.fOld.fStatus, .slice A_6 d0.fNew.fScopes.length cap_6, .slice A_7 d0.fNew.fNodes.length cap_7, S d0.fText, .slice A_8 d0.fArgs.length cap_8, .slice A_9 d0.fChanges.length cap_9, .slice A_10 d0.fTasks.length cap_10, .int .i8 d0.fPhase, .int .i8 d0.fStatus]) rfl (ad := ⟨b_1, 0, none⟩) (fun j v h => p_5.cell (hc_2 j v h))) fun _ f => ?_)))))
  obtain ⟨x_2, hx_2, hF_5⟩ := bS hF_4
  refine Y16 (E := []) (H := ((Ent.obj b_2 (.cells #[.int .i8 2, .int .i8 3, .int .i8 4] 89 (0, 0))) :: (Ent.row 22 1 (.slice A_11 (List.replicate ((d0.fChanges.length : Nat) : Int).toNat (0 : Int)).length cap_11) (List.replicate ((d0.fChanges.length : Nat) : Int).toNat (0 : Int)).length cs_1) :: H)) f p_5 (back_Goes_ok n _ _ d0 (TK0.shutx (x := d0) (h_1.mono hM_1) (h_2.mono hM_1) (h_3.mono hM_1) (h_4.mono hM_1) (h_5.mono hM_1) (h_6.mono hM_1) (h_7.mono hM_1) (h_8.mono hM_1) (h_9.mono hM_1) (h_10.mono hM_1)) x_2 hx_2) fun _ M_2 E_1 w_6 hM_2 p_6 q_1 _ f => ?_
  obtain ⟨A_12, cap_12, cs_2, rfl, rfl, hr_2⟩ := q_1
  refine Y f 2 fun _ f => eT (wp_block ?_)
  have p_9 := p_6.pl [1, 1, 2]
  obtain ⟨b_3, hL_1, hF_6⟩ := bS hF_5
  refine wp_mono (Q := fun e a w => (e = .exit 0 ∧ (∃ y_1 : List Int, b_3 = y_1 ∧ ∃ M_5 : Mem, M_2.le M_5 ∧ ∃ (A_15 : Option Addr), ∃ (cap_20 : Nat), ∃ (cs_4 : List Value), RepSeq M_5 (y_1.map (Dat.int .i8)) cs_4 ∧ Frm 50 [(1, .pointer (some (⟨b_1, 0, none⟩))), (3, .slice A_15 y_1.length cap_20)] a ∧ Hp w0 M_5 ((Ent.row 22 1 (.slice A_15 y_1.length cap_20) y_1.length cs_4) :: (Ent.row 3 1 (.slice A_12 x_2.length cap_12) x_2.length cs_2) :: (Ent.obj b_2 (.cells #[.int .i8 2, .int .i8 3, .int .i8 4] 89 (0, 0))) :: H) w))) (R_loop (n := 50) (w0 := w0) (M := M_2) (fun (x : Nat × (List Int × Int) × (Option Addr) × Nat × (List Value)) => match x with | (m_1, s_1, A_13, cap_13, cs_3) => [(1, .pointer (some (⟨b_1, 0, none⟩))), (3, .slice A_13 s_1.1.length cap_13), (4, .pointer (some (⟨b_2, 0, none⟩))), (18, .slice A_12 x_2.length cap_12), (19, .int .i64 ((x_2.length : Nat) : Int)), (20, .int .i64 s_1.2)]) (fun (x : Nat × (List Int × Int) × (Option Addr) × Nat × (List Value)) => match x with | (m_1, s_1, A_13, cap_13, cs_3) => ((Ent.row 22 1 (.slice A_13 s_1.1.length cap_13) s_1.1.length cs_3) :: (Ent.row 3 1 (.slice A_12 x_2.length cap_12) x_2.length cs_2) :: (Ent.obj b_2 (.cells #[.int .i8 2, .int .i8 3, .int .i8 4] 89 (0, 0))) :: H)) (fun (x : Nat × (List Int × Int) × (Option Addr) × Nat × (List Value)) (MM : Mem) => match x with | (m_1, s_1, A_13, cap_13, cs_3) => loopF (back_States_s1 n d0 x_2) m_1 s_1 = some b_3 ∧ RepSeq MM (s_1.1.map (Dat.int .i8)) cs_3) (fun (x : Nat × (List Int × Int) × (Option Addr) × Nat × (List Value)) => match x with | (m_1, s_1, A_13, cap_13, cs_3) => m_1) (n, (List.replicate ((d0.fChanges.length : Nat) : Int).toNat (0 : Int), (0 : Int)), A_11, cap_11, cs_1) (f.kp) p_9 ⟨hL_1, (RepSeq.mono hM_2 _ _ hr_1)⟩ ?_) ?_
  ·rintro ⟨m_1, s_1, A_13, cap_13, cs_3⟩ M_3 _ w_7 hM_3 I_1 f p_10
   obtain ⟨I_1L, hr_3⟩ := I_1
   obtain ⟨m_2, r_1, rfl, hs_1, hn_1⟩ := loop_step I_1L
   unfold back_States_s1 at hs_1
   refine RR (Y f 1 fun _ f => eT (R_seq (RcF f hs_1 (fun h_12 hF_7 => ?_) fun h_12 hF_25 => ?_)))
   ·have k_3 := dI.1 h_12
    refine wp_skip (T_n (R_seq (wp_block (RR ?_))))
    obtain ⟨x_3, hx_3, hF_8⟩ := bS hF_7
    obtain ⟨b_4, cap_14, hv_1, hcap_1⟩ := p_10.rowAddr 1 rfl (getI_pos hx_3)
    have f := f.st 18 (hv_1)
    refine Z f (Y27 rfl (ad := ⟨b_4, 0, none⟩) (len := x_2.length) (cap := cap_14) (k := .i64) (i := s_1.2) (e := 3) (sz := 1) (getI_nn hx_3) (getI_lt hx_3)) fun _ f => ?_
    have f := f.st 18 (hv_1.symm)
    obtain ⟨c_1, -, hr_4, hc_3⟩ := RepSeq.get s_1.2.toNat (szd_all (szd_int .i64)) (RepSeq.mono hM_3 _ _ hr_2) (getI_map hx_3)
    obtain rfl : c_1 = [.int .i64 x_3] := hr_4
    refine Z f (Y29 (v := .int .i64 x_3) rfl (ad := (⟨b_4, 0, none⟩ : Addr).add (s_1.2.toNat * 1)) (by simpa [Addr.add] using (fun j v h => row_at (p_10.rowCell 1 rfl hv_1) hc_3 j v h) 0 _ rfl)) fun _ f => Y f 1 fun _ f => eT (RR (Y f 2 fun _ f => ?_))
    obtain ⟨x_4, hx_4, hF_9⟩ := bS hF_8
    obtain ⟨b_5, cap_15, hv_2, hcap_2⟩ := p_10.rowAddr 0 rfl (getI_pos hx_4)
    have f := f.st 24 (hv_2)
    refine Z f (Y27 rfl (ad := ⟨b_5, 0, none⟩) (len := s_1.1.length) (cap := cap_15) (k := .i64) (i := x_3) (e := 22) (sz := 1) (getI_nn hx_4) (getI_lt hx_4)) fun _ f => ?_
    have f := f.st 24 (hv_2.symm)
    refine Y24 (it := x_3) (d := s_1.1) (f := (Dat.int .i8)) (xv := (1 : Int)) (v := .int .i8 1) f p_10 hv_2 rfl rfl (by exact rfl) (szd_int .i8) hx_4 hr_3 fun w_8 p_11 hr_5 _ f => ?_
    have p_12 : Hp w0 M_3 ((Ent.row 22 1 (.slice A_13 (s_1.1.set x_3.toNat (1 : Int)).length cap_13) (s_1.1.set x_3.toNat (1 : Int)).length (cs_3.set x_3.toNat (.int .i8 1))) :: (Ent.row 3 1 (.slice A_12 x_2.length cap_12) x_2.length cs_2) :: (Ent.obj b_2 (.cells #[.int .i8 2, .int .i8 3, .int .i8 4] 89 (0, 0))) :: H) w_8 := p_11.rowVal (by simp only [List.length_set])
    have f := Frm.set f 3 (v := .slice A_13 s_1.1.length cap_13) (v' := .slice A_13 (s_1.1.set x_3.toNat (1 : Int)).length cap_13) (by kernel_rfl) (by simp only [List.length_set])
    have f := Frm.set f 24 (v := .slice A_13 s_1.1.length cap_13) (v' := .slice A_13 (s_1.1.set x_3.toNat (1 : Int)).length cap_13) (by kernel_rfl) (by simp only [List.length_set])
    refine eT (RR (Z (v := .agg #[.int .i8 d0.fKind, .int .i64 d0.fWidth, .slice A_1 d0.fOld.fOwned.length cap_1, .slice A_2 d0.fOld.fPending.length cap_2, .slice A_3 d0.fOld.fRetained.length cap_3, .slice A_4 d0.fOld.fOuts.length cap_4, S d0.fOld.fText, .slice A_5 d0.fOld.fArgs.length cap_5, .int .i64 d0.fOld.fCalls, .int .i8 d0.fOld.fStatus, .slice A_6 d0.fNew.fScopes.length cap_6, .slice A_7 d0.fNew.fNodes.length cap_7, S d0.fText, .slice A_8 d0.fArgs.length cap_8, .slice A_9 d0.fChanges.length cap_9, .slice A_10 d0.fTasks.length cap_10, .int .i8 d0.fPhase, .int .i8 d0.fStatus]) f (Y30 (cs := [.int .i8 d0.fKind, .int .i64 d0.fWidth, .slice A_1 d0.fOld.fOwned.length cap_1, .slice A_2 d0.fOld.fPending.length cap_2, .slice A_3 d0.fOld.fRetained.length cap_3, .slice A_4 d0.fOld.fOuts.length cap_4, S d0.fOld.fText, .slice A_5 d0.fOld.fArgs.length cap_5, .int .i64 d0.fOld.fCalls, .int .i8 d0.fOld.fStatus, .slice A_6 d0.fNew.fScopes.length cap_6, .slice A_7 d0.fNew.fNodes.length cap_7, S d0.fText, .slice A_8 d0.fArgs.length cap_8, .slice A_9 d0.fChanges.length cap_9, .slice A_10 d0.fTasks.length cap_10, .int .i8 d0.fPhase, .int .i8 d0.fStatus]) rfl (ad := ⟨b_1, 0, none⟩) (fun j v h => p_12.cell ((fzu (hM_2.trans hM_3) hc_2) j v h))) fun _ f => Y f 1 fun _ f => ?_))
    obtain ⟨x_5, hx_5, hF_10⟩ := bS hF_9
    refine Y15 f p_12 (forward_Task_ok n _ _ d0 (TK0.shutx (x := d0) (h_1.mono ((hM_1.trans hM_2).trans hM_3)) (h_2.mono ((hM_1.trans hM_2).trans hM_3)) (h_3.mono ((hM_1.trans hM_2).trans hM_3)) (h_4.mono ((hM_1.trans hM_2).trans hM_3)) (h_5.mono ((hM_1.trans hM_2).trans hM_3)) (h_6.mono ((hM_1.trans hM_2).trans hM_3)) (h_7.mono ((hM_1.trans hM_2).trans hM_3)) (h_8.mono ((hM_1.trans hM_2).trans hM_3)) (h_9.mono ((hM_1.trans hM_2).trans hM_3)) (h_10.mono ((hM_1.trans hM_2).trans hM_3))) x_3 (1 : Int) x_5 hx_5) fun _ M_4 w_9 hM_4 p_13 q_2 _ f => ?_
    obtain ⟨c_2, rfl, hr_6⟩ := q_2
    obtain ⟨A_14, cap_16, rfl, h_13⟩ := TR0.opn hr_6
    refine Y f 3 fun _ f => Y11 f p_13 (.cells #[.int .i64 0, .int .i8 0, .int .i64 0, .int .i8 0, S [], S [], .slice none 0 0, .int .i8 0, S []] 44 (0, 0)) fun b_6 w_10 p_14 _ f => Y26 (vs := [.int .i64 x_5.1.fChange, .int .i8 x_5.1.fPhase, .int .i64 x_5.1.fCall.fToken, .int .i8 x_5.1.fCall.fKind, S x_5.1.fCall.fPhys, S x_5.1.fCall.fType, .slice A_14 x_5.1.fCall.fProps.length cap_16, .int .i8 x_5.1.fState, S x_5.1.fPhys]) (j := 0) f p_14 rfl rfl (by simp [Value.oneCell', S]) (by simp) (by decide) (cs' := #[.int .i64 x_5.1.fChange, .int .i8 x_5.1.fPhase, .int .i64 x_5.1.fCall.fToken, .int .i8 x_5.1.fCall.fKind, S x_5.1.fCall.fPhys, S x_5.1.fCall.fType, .slice A_14 x_5.1.fCall.fProps.length cap_16, .int .i8 x_5.1.fState, S x_5.1.fPhys]) fun w_11 p_15 _ f => Y f 1 fun _ f => eT (RR (Y f 1 fun _ f => eT (RcF f hF_10 (fun h_14 hF_11 => ?_) fun h_14 hF_23 => ?_)))
    ·refine R_reg (Y f 3 fun _ f => Z f (Y29 (v := .int .i8 x_5.1.fState) rfl (ad := ⟨b_6, 7, none⟩) (p_15.ownCell 0 rfl 7)) fun _ f => ?_)
     obtain ⟨g_2, hF_12⟩ := nS hF_11
     rcases cE hF_12 with ⟨h_15, hF_13⟩ | ⟨h_15, hF_16⟩
     ·have e_1 : x_5.1.fState = 0 := of_decide_eq_true h_15
      have f := Frm.set f 37 (v := .int .i8 x_5.1.fState) (v' := .int .i8 0) (by kernel_rfl) (congrArg (Value.int .i8) e_1)
      refine Z (v := .pointer (some (⟨b_2, 0, none⟩))) f (X_indexAddrP rfl (ad := ⟨b_2, 0, none⟩) (len := 3) (k := .i8) (i := 0) (by kernel_rfl) (by kernel_rfl) (e := 22) (by kernel_rfl) (sz := 1) (by kernel_rfl) (by decide) (by decide)) fun _ f => Z f (Y29 (v := .int .i8 2) rfl (ad := ⟨b_2, 0, none⟩) (p_15.ownCell 3 rfl 0)) fun _ f => ?_
      obtain ⟨x_6, hx_6, hF_14⟩ := bS hF_13
      obtain ⟨b_7, cap_17, hv_3, hcap_3⟩ := p_15.rowAddr 1 rfl (getI_pos hx_6)
      have f := f.st 34 (hv_3)
      refine Z f (Y27 rfl (ad := ⟨b_7, 0, none⟩) (len := (s_1.1.set x_3.toNat (1 : Int)).length) (cap := cap_17) (k := .i64) (i := x_3) (e := 22) (sz := 1) (getI_nn hx_6) (getI_lt hx_6)) fun _ f => ?_
      have f := f.st 34 (hv_3.symm)
      have p_16 := p_15.pl [1]
      refine Y24 (it := x_3) (d := s_1.1.set x_3.toNat (1 : Int)) (f := (Dat.int .i8)) (xv := (2 : Int)) (v := .int .i8 2) f p_16 hv_3 rfl rfl (by exact rfl) (szd_int .i8) hx_6 (RepSeq.mono hM_4 _ _ hr_5) fun w_12 p_17 hr_7 _ f => ?_
      have p_18 : Hp w0 M_4 ((Ent.row 22 1 (.slice A_13 ((s_1.1.set x_3.toNat (1 : Int)).set x_3.toNat (2 : Int)).length cap_13) ((s_1.1.set x_3.toNat (1 : Int)).set x_3.toNat (2 : Int)).length ((cs_3.set x_3.toNat (.int .i8 1)).set x_3.toNat (.int .i8 2))) :: (Ent.obj b_6 (.cells #[.int .i64 x_5.1.fChange, .int .i8 x_5.1.fPhase, .int .i64 x_5.1.fCall.fToken, .int .i8 x_5.1.fCall.fKind, S x_5.1.fCall.fPhys, S x_5.1.fCall.fType, .slice A_14 x_5.1.fCall.fProps.length cap_16, .int .i8 x_5.1.fState, S x_5.1.fPhys] 44 (0, 0))) :: (Ent.row 3 1 (.slice A_12 x_2.length cap_12) x_2.length cs_2) :: (Ent.obj b_2 (.cells #[.int .i8 2, .int .i8 3, .int .i8 4] 89 (0, 0))) :: H) w_12 := p_17.rowVal (by simp only [List.length_set])
      have f := Frm.set f 3 (v := .slice A_13 (s_1.1.set x_3.toNat (1 : Int)).length cap_13) (v' := .slice A_13 ((s_1.1.set x_3.toNat (1 : Int)).set x_3.toNat (2 : Int)).length cap_13) (by kernel_rfl) (by simp only [List.length_set])
      have f := Frm.set f 34 (v := .slice A_13 (s_1.1.set x_3.toNat (1 : Int)).length cap_13) (v' := .slice A_13 ((s_1.1.set x_3.toNat (1 : Int)).set x_3.toNat (2 : Int)).length cap_13) (by kernel_rfl) (by simp only [List.length_set])
      refine W_end rfl (B_n (T_n (R_reg ?_)))
      obtain ⟨g_3, hF_15⟩ := nS hF_14
      refine Y f 1 fun _ f => ?_
      have f := f.st 41 (congrArg (Value.int .i64) (inR_wrap g_3))
      refine Y f 1 fun _ f => W_end rfl ?_
      have p_29 := p_18.pl [3, 3, 2, 3]
      refine T_n ?_
      obtain rfl := sI hF_15
      exact ⟨⟨m_2, ((s_1.1.set x_3.toNat (1 : Int)).set x_3.toNat (2 : Int), s_1.2 + 1), A_13, cap_13, (cs_3.set x_3.toNat (.int .i8 1)).set x_3.toNat (.int .i8 2)⟩, Nat.lt_succ_self _, M_4, (hM_3.trans hM_4), ⟨hn_1, hr_7⟩, f.kp, (p_29.dropN 1)⟩
     ·have e_2 : ¬ (x_5.1.fState = 0) := of_decide_eq_false h_15
      rcases cE hF_16 with ⟨h_16, hF_17⟩ | ⟨h_16, hF_20⟩
      ·have e_3 : x_5.1.fState = 1 := of_decide_eq_true h_16
       have f := Frm.set f 37 (v := .int .i8 x_5.1.fState) (v' := .int .i8 1) (by kernel_rfl) (congrArg (Value.int .i8) e_3)
       refine Z (v := .pointer (some (⟨b_2, 1, none⟩))) f (X_indexAddrP rfl (ad := ⟨b_2, 0, none⟩) (len := 3) (k := .i8) (i := 1) (by kernel_rfl) (by kernel_rfl) (e := 22) (by kernel_rfl) (sz := 1) (by kernel_rfl) (by decide) (by decide)) fun _ f => Z f (Y29 (v := .int .i8 3) rfl (ad := ⟨b_2, 1, none⟩) (p_15.ownCell 3 rfl 1)) fun _ f => ?_
       obtain ⟨x_7, hx_7, hF_18⟩ := bS hF_17
       obtain ⟨b_8, cap_18, hv_4, hcap_4⟩ := p_15.rowAddr 1 rfl (getI_pos hx_7)
       have f := f.st 34 (hv_4)
       refine Z f (Y27 rfl (ad := ⟨b_8, 0, none⟩) (len := (s_1.1.set x_3.toNat (1 : Int)).length) (cap := cap_18) (k := .i64) (i := x_3) (e := 22) (sz := 1) (getI_nn hx_7) (getI_lt hx_7)) fun _ f => ?_
       have f := f.st 34 (hv_4.symm)
       have p_19 := p_15.pl [1]
       refine Y24 (it := x_3) (d := s_1.1.set x_3.toNat (1 : Int)) (f := (Dat.int .i8)) (xv := (3 : Int)) (v := .int .i8 3) f p_19 hv_4 rfl rfl (by exact rfl) (szd_int .i8) hx_7 (RepSeq.mono hM_4 _ _ hr_5) fun w_13 p_20 hr_8 _ f => ?_
       have p_21 : Hp w0 M_4 ((Ent.row 22 1 (.slice A_13 ((s_1.1.set x_3.toNat (1 : Int)).set x_3.toNat (3 : Int)).length cap_13) ((s_1.1.set x_3.toNat (1 : Int)).set x_3.toNat (3 : Int)).length ((cs_3.set x_3.toNat (.int .i8 1)).set x_3.toNat (.int .i8 3))) :: (Ent.obj b_6 (.cells #[.int .i64 x_5.1.fChange, .int .i8 x_5.1.fPhase, .int .i64 x_5.1.fCall.fToken, .int .i8 x_5.1.fCall.fKind, S x_5.1.fCall.fPhys, S x_5.1.fCall.fType, .slice A_14 x_5.1.fCall.fProps.length cap_16, .int .i8 x_5.1.fState, S x_5.1.fPhys] 44 (0, 0))) :: (Ent.row 3 1 (.slice A_12 x_2.length cap_12) x_2.length cs_2) :: (Ent.obj b_2 (.cells #[.int .i8 2, .int .i8 3, .int .i8 4] 89 (0, 0))) :: H) w_13 := p_20.rowVal (by simp only [List.length_set])
       have f := Frm.set f 3 (v := .slice A_13 (s_1.1.set x_3.toNat (1 : Int)).length cap_13) (v' := .slice A_13 ((s_1.1.set x_3.toNat (1 : Int)).set x_3.toNat (3 : Int)).length cap_13) (by kernel_rfl) (by simp only [List.length_set])
       have f := Frm.set f 34 (v := .slice A_13 (s_1.1.set x_3.toNat (1 : Int)).length cap_13) (v' := .slice A_13 ((s_1.1.set x_3.toNat (1 : Int)).set x_3.toNat (3 : Int)).length cap_13) (by kernel_rfl) (by simp only [List.length_set])
       refine W_end rfl (B_n (T_n (R_reg ?_)))
       obtain ⟨g_4, hF_19⟩ := nS hF_18
       refine Y f 1 fun _ f => ?_
       have f := f.st 41 (congrArg (Value.int .i64) (inR_wrap g_4))
       refine Y f 1 fun _ f => W_end rfl ?_
       have p_33 := p_21.pl [3, 3, 2, 3]
       refine T_n ?_
       obtain rfl := sI hF_19
       exact ⟨⟨m_2, ((s_1.1.set x_3.toNat (1 : Int)).set x_3.toNat (3 : Int), s_1.2 + 1), A_13, cap_13, (cs_3.set x_3.toNat (.int .i8 1)).set x_3.toNat (.int .i8 3)⟩, Nat.lt_succ_self _, M_4, (hM_3.trans hM_4), ⟨hn_1, hr_8⟩, f.kp, (p_33.dropN 1)⟩
      ·have e_4 : ¬ (x_5.1.fState = 1) := of_decide_eq_false h_16
       have e_5 : x_5.1.fState = 2 := by omega
       have f := Frm.set f 37 (v := .int .i8 x_5.1.fState) (v' := .int .i8 2) (by kernel_rfl) (congrArg (Value.int .i8) e_5)
       refine Z (v := .pointer (some (⟨b_2, 2, none⟩))) f (X_indexAddrP rfl (ad := ⟨b_2, 0, none⟩) (len := 3) (k := .i8) (i := 2) (by kernel_rfl) (by kernel_rfl) (e := 22) (by kernel_rfl) (sz := 1) (by kernel_rfl) (by decide) (by decide)) fun _ f => Z f (Y29 (v := .int .i8 4) rfl (ad := ⟨b_2, 2, none⟩) (p_15.ownCell 3 rfl 2)) fun _ f => ?_
       obtain ⟨x_8, hx_8, hF_21⟩ := bS hF_20
       obtain ⟨b_9, cap_19, hv_5, hcap_5⟩ := p_15.rowAddr 1 rfl (getI_pos hx_8)
       have f := f.st 34 (hv_5)
       refine Z f (Y27 rfl (ad := ⟨b_9, 0, none⟩) (len := (s_1.1.set x_3.toNat (1 : Int)).length) (cap := cap_19) (k := .i64) (i := x_3) (e := 22) (sz := 1) (getI_nn hx_8) (getI_lt hx_8)) fun _ f => ?_
       have f := f.st 34 (hv_5.symm)
       have p_22 := p_15.pl [1]
       refine Y24 (it := x_3) (d := s_1.1.set x_3.toNat (1 : Int)) (f := (Dat.int .i8)) (xv := (4 : Int)) (v := .int .i8 4) f p_22 hv_5 rfl rfl (by exact rfl) (szd_int .i8) hx_8 (RepSeq.mono hM_4 _ _ hr_5) fun w_14 p_23 hr_9 _ f => ?_
       have p_24 : Hp w0 M_4 ((Ent.row 22 1 (.slice A_13 ((s_1.1.set x_3.toNat (1 : Int)).set x_3.toNat (4 : Int)).length cap_13) ((s_1.1.set x_3.toNat (1 : Int)).set x_3.toNat (4 : Int)).length ((cs_3.set x_3.toNat (.int .i8 1)).set x_3.toNat (.int .i8 4))) :: (Ent.obj b_6 (.cells #[.int .i64 x_5.1.fChange, .int .i8 x_5.1.fPhase, .int .i64 x_5.1.fCall.fToken, .int .i8 x_5.1.fCall.fKind, S x_5.1.fCall.fPhys, S x_5.1.fCall.fType, .slice A_14 x_5.1.fCall.fProps.length cap_16, .int .i8 x_5.1.fState, S x_5.1.fPhys] 44 (0, 0))) :: (Ent.row 3 1 (.slice A_12 x_2.length cap_12) x_2.length cs_2) :: (Ent.obj b_2 (.cells #[.int .i8 2, .int .i8 3, .int .i8 4] 89 (0, 0))) :: H) w_14 := p_23.rowVal (by simp only [List.length_set])
       have f := Frm.set f 3 (v := .slice A_13 (s_1.1.set x_3.toNat (1 : Int)).length cap_13) (v' := .slice A_13 ((s_1.1.set x_3.toNat (1 : Int)).set x_3.toNat (4 : Int)).length cap_13) (by kernel_rfl) (by simp only [List.length_set])
       have f := Frm.set f 34 (v := .slice A_13 (s_1.1.set x_3.toNat (1 : Int)).length cap_13) (v' := .slice A_13 ((s_1.1.set x_3.toNat (1 : Int)).set x_3.toNat (4 : Int)).length cap_13) (by kernel_rfl) (by simp only [List.length_set])
       refine W_end rfl (B_n (T_n (R_reg ?_)))
       obtain ⟨g_5, hF_22⟩ := nS hF_21
       refine Y f 1 fun _ f => ?_
       have f := f.st 41 (congrArg (Value.int .i64) (inR_wrap g_5))
       refine Y f 1 fun _ f => W_end rfl ?_
       have p_37 := p_24.pl [3, 3, 2, 3]
       refine T_n ?_
       obtain rfl := sI hF_22
       exact ⟨⟨m_2, ((s_1.1.set x_3.toNat (1 : Int)).set x_3.toNat (4 : Int), s_1.2 + 1), A_13, cap_13, (cs_3.set x_3.toNat (.int .i8 1)).set x_3.toNat (.int .i8 4)⟩, Nat.lt_succ_self _, M_4, (hM_3.trans hM_4), ⟨hn_1, hr_9⟩, f.kp, (p_37.dropN 1)⟩
    ·refine wp_skip (B_n (T_n (R_reg ?_)))
     obtain ⟨g_6, hF_24⟩ := nS hF_23
     refine Y f 1 fun _ f => ?_
     have f := f.st 41 (congrArg (Value.int .i64) (inR_wrap g_6))
     refine Y f 1 fun _ f => eT ?_
     obtain rfl := sI hF_24
     exact ⟨⟨m_2, (s_1.1.set x_3.toNat (1 : Int), s_1.2 + 1), A_13, cap_13, cs_3.set x_3.toNat (.int .i8 1)⟩, Nat.lt_succ_self _, M_4, (hM_3.trans hM_4), ⟨hn_1, (RepSeq.mono hM_4 _ _ hr_5)⟩, f.kp, (p_15.dropN 1)⟩
   ·have k_6 := iff_f dI h_12
    refine wp_exit (T_x (T_x ?_))
    obtain rfl := sI hF_25
    exact ⟨rfl, s_1.1, (sI hn_1).symm, M_3, hM_3, A_13, cap_13, cs_3, hr_3, f.kp, p_10⟩
  ·rintro _ _ w_16 ⟨rfl, y_1, hq_, M_5, hM_5, A_15, cap_20, cs_4, hr_10, f, p_25⟩
   subst b_3
   refine B_x (T_n (RR (Z (v := .agg #[.int .i8 d0.fKind, .int .i64 d0.fWidth, .slice A_1 d0.fOld.fOwned.length cap_1, .slice A_2 d0.fOld.fPending.length cap_2, .slice A_3 d0.fOld.fRetained.length cap_3, .slice A_4 d0.fOld.fOuts.length cap_4, S d0.fOld.fText, .slice A_5 d0.fOld.fArgs.length cap_5, .int .i64 d0.fOld.fCalls, .int .i8 d0.fOld.fStatus, .slice A_6 d0.fNew.fScopes.length cap_6, .slice A_7 d0.fNew.fNodes.length cap_7, S d0.fText, .slice A_8 d0.fArgs.length cap_8, .slice A_9 d0.fChanges.length cap_9, .slice A_10 d0.fTasks.length cap_10, .int .i8 d0.fPhase, .int .i8 d0.fStatus]) f (Y30 (cs := [.int .i8 d0.fKind, .int .i64 d0.fWidth, .slice A_1 d0.fOld.fOwned.length cap_1, .slice A_2 d0.fOld.fPending.length cap_2, .slice A_3 d0.fOld.fRetained.length cap_3, .slice A_4 d0.fOld.fOuts.length cap_4, S d0.fOld.fText, .slice A_5 d0.fOld.fArgs.length cap_5, .int .i64 d0.fOld.fCalls, .int .i8 d0.fOld.fStatus, .slice A_6 d0.fNew.fScopes.length cap_6, .slice A_7 d0.fNew.fNodes.length cap_7, S d0.fText, .slice A_8 d0.fArgs.length cap_8, .slice A_9 d0.fChanges.length cap_9, .slice A_10 d0.fTasks.length cap_10, .int .i8 d0.fPhase, .int .i8 d0.fStatus]) rfl (ad := ⟨b_1, 0, none⟩) (fun j v h => p_25.cell ((fzu (hM_2.trans hM_5) hc_2) j v h))) fun _ f => ?_)))
   obtain ⟨x_9, hx_9, hF_26⟩ := bS hF_6
   refine Y15 f p_25 (back_leans_ok n _ _ d0 (TK0.shutx (x := d0) (h_1.mono ((hM_1.trans hM_2).trans hM_5)) (h_2.mono ((hM_1.trans hM_2).trans hM_5)) (h_3.mono ((hM_1.trans hM_2).trans hM_5)) (h_4.mono ((hM_1.trans hM_2).trans hM_5)) (h_5.mono ((hM_1.trans hM_2).trans hM_5)) (h_6.mono ((hM_1.trans hM_2).trans hM_5)) (h_7.mono ((hM_1.trans hM_2).trans hM_5)) (h_8.mono ((hM_1.trans hM_2).trans hM_5)) (h_9.mono ((hM_1.trans hM_2).trans hM_5)) (h_10.mono ((hM_1.trans hM_2).trans hM_5))) x_9 hx_9) fun _ M_6 w_17 hM_6 p_38 q_3 _ f => ?_
   obtain ⟨A_16, cap_21, rfl, h_17⟩ := q_3
   refine Y f 1 fun _ f => ?_
   obtain ⟨M_7, A_17, cap_22, hM_7, hv_6, p_39, h_18, hb_1⟩ := p_38.lend (f := (Dat.int .i8)) (xs := y_1) (szd_int .i8) (RepSeq.mono hM_6 _ _ hr_10)
   have f := f.st 45 (hv_6)
   obtain ⟨x_10, hx_10, hF_27⟩ := bS hF_26
   refine Y16 (E := []) (H := ((Ent.row 3 1 (.slice A_12 x_2.length cap_12) x_2.length cs_2) :: (Ent.obj b_2 (.cells #[.int .i8 2, .int .i8 3, .int .i8 4] 89 (0, 0))) :: H)) f p_39 (ready_Settle_ok n _ A_16 cap_21 x_9 (h_17.mono hM_7) A_17 cap_22 y_1 h_18 (true) x_10 hx_10) fun _ M_8 E_2 w_18 hM_8 p_40 q_4 _ f => ?_
   obtain ⟨A_18, cap_23, cs_5, rfl, rfl, hr_11⟩ := q_4
   have hr_12 : ∀ M, RepSeq M (x_10.1.map (Dat.int .i8)) cs_5 := fun M => RepSeq.flat (flat_int .i8) _ hr_11
   obtain ⟨M_9, hM_9, p_41⟩ := hb_1 _ _ _ hM_8 p_40
   have f := f.st 45 (hv_6.symm)
   have hr_13 := hr_12 M_9
   refine Y f 4 fun _ f => eT (RR (Y f 2 fun _ f => eT (wp_ret ?_)))
   have p_42 := p_41.pl [1]
   obtain ⟨A_19, cap_24, M_10, hv_7, hM_10, p_43, h_19⟩ := p_42.rowSli (f := (Dat.int .i8)) (xs := x_10.1) (szd_int .i8) hr_13
   have f := f.st 2 (hv_7)
   refine E_ret1 f rfl (by kernel_rfl : Vc.look _ 2 = some (.slice A_19 x_10.1.length cap_24)) ?_
   obtain rfl := sI hF_27
   exact ⟨_, rfl, M_10, (((((hM_1.trans hM_2).trans hM_5).trans hM_6).trans hM_9).trans hM_10), (p_43.dropN 3), ⟨A_19, cap_24, rfl, h_19⟩⟩
def back_Ready (n : Nat) (d0 : TK0) : Option (List Int) :=
  (back_States n d0).bind fun x_1 =>
  ((bif (!(decide (d0.fPhase = 1))) then
      (some ((true)))
    else
      (forward_Flight n d0).bind fun x_2 =>
      bif (decide (d0.fWidth ≤ ((x_2.length : Nat) : Int))) then
        (some ((true)))
      else
        need (0 < x_1.length) <|
        some ((false)) : Option Bool)).bind fun y_1 =>
  bif y_1 then
    (some (([] : List Int)))
  else
    (back_leans n d0).bind fun x_3 =>
    (ready_Ready n x_3 x_1 (true)).bind fun x_4 =>
    some (x_4.1)
theorem back_Ready_ok (n : Nat) (M : Mem) (c0 : List Value) (d0 : TK0) (h0 : Rep M (emb_TK0 d0) c0) (r : List Int) (hF : back_Ready n d0 = some r) : OkH Tryz.prog M [] 31 [.agg c0.toArray] (fun M' E' v => ∃ (A0 : Option Addr) (k0 : Nat) (s0 : List Value), v = .slice A0 r.length k0 ∧ E' = [.row 3 1 (.slice A0 r.length k0) r.length s0] ∧ RepSeq M' (r.map (Dat.int .i64)) s0) := by
 unfold back_Ready at hF
 intro M1 hM0 w0 H w p0
 replace h0 := Rep.mono hM0 _ _ h0
 obtain ⟨A_1, cap_1, A_2, cap_2, A_3, cap_3, A_4, cap_4, A_5, cap_5, A_6, cap_6, A_7, cap_7, A_8, cap_8, A_9, cap_9, A_10, cap_10, rfl, h_1, h_2, h_3, h_4, h_5, h_6, h_7, h_8, h_9, h_10⟩ := TK0.opn h0
 refine R_enter 31 Tryz.func31 rfl rfl (by simp) fun a0 f0 => RR (Y12 (cs := #[.int .i8 d0.fKind, .int .i64 d0.fWidth, .slice A_1 d0.fOld.fOwned.length cap_1, .slice A_2 d0.fOld.fPending.length cap_2, .slice A_3 d0.fOld.fRetained.length cap_3, .slice A_4 d0.fOld.fOuts.length cap_4, S d0.fOld.fText, .slice A_5 d0.fOld.fArgs.length cap_5, .int .i64 d0.fOld.fCalls, .int .i8 d0.fOld.fStatus, .slice A_6 d0.fNew.fScopes.length cap_6, .slice A_7 d0.fNew.fNodes.length cap_7, S d0.fText, .slice A_8 d0.fArgs.length cap_8, .slice A_9 d0.fChanges.length cap_9, .slice A_10 d0.fTasks.length cap_10, .int .i8 d0.fPhase, .int .i8 d0.fStatus]) (T := 34) f0 p0 fun b_1 M_1 w_1 hM_1 hc_1 p_1 _ f => ?_)
 have hc_2 := fz_box hc_1
 refine Y f 1 fun _ f => eT (RR (Z (v := .agg #[.int .i8 d0.fKind, .int .i64 d0.fWidth, .slice A_1 d0.fOld.fOwned.length cap_1, .slice A_2 d0.fOld.fPending.length cap_2, .slice A_3 d0.fOld.fRetained.length cap_3, .slice A_4 d0.fOld.fOuts.length cap_4, S d0.fOld.fText, .slice A_5 d0.fOld.fArgs.length cap_5, .int .i64 d0.fOld.fCalls, .int .i8 d0.fOld.fStatus, .slice A_6 d0.fNew.fScopes.length cap_6, .slice A_7 d0.fNew.fNodes.length cap_7, S d0.fText, .slice A_8 d0.fArgs.length cap_8, .slice A_9 d0.fChanges.length cap_9, .slice A_10 d0.fTasks.length cap_10, .int .i8 d0.fPhase, .int .i8 d0.fStatus]) f (Y30 (cs := [.int .i8 d0.fKind, .int .i64 d0.fWidth, .slice A_1 d0.fOld.fOwned.length cap_1, .slice A_2 d0.fOld.fPending.length cap_2, .slice A_3 d0.fOld.fRetained.length cap_3, .slice A_4 d0.fOld.fOuts.length cap_4, S d0.fOld.fText, .slice A_5 d0.fOld.fArgs.length cap_5, .int .i64 d0.fOld.fCalls, .int .i8 d0.fOld.fStatus, .slice A_6 d0.fNew.fScopes.length cap_6, .slice A_7 d0.fNew.fNodes.length cap_7, S d0.fText, .slice A_8 d0.fArgs.length cap_8, .slice A_9 d0.fChanges.length cap_9, .slice A_10 d0.fTasks.length cap_10, .int .i8 d0.fPhase, .int .i8 d0.fStatus]) rfl (ad := ⟨b_1, 0, none⟩) (fun j v h => p_1.cell (hc_2 j v h))) fun _ f => ?_))
 obtain ⟨x_1, hx_1, hF_1⟩ := bS hF
 refine Y15 f p_1 (back_States_ok n _ _ d0 (TK0.shutx (x := d0) (h_1.mono hM_1) (h_2.mono hM_1) (h_3.mono hM_1) (h_4.mono hM_1) (h_5.mono hM_1) (h_6.mono hM_1) (h_7.mono hM_1) (h_8.mono hM_1) (h_9.mono hM_1) (h_10.mono hM_1)) x_1 hx_1) fun _ M_2 w_2 hM_2 p_2 q_1 _ f => ?_
 obtain ⟨A_11, cap_11, rfl, h_11⟩ := q_1
 refine Y f 1 fun _ f => eT (R_seq (R_seq ?_))
 obtain ⟨j_1, hj_1, hF_2⟩ := bS hF_1
 refine R_mid (fun a_21 w_9 => ∃ y_1 : Bool, j_1 = y_1 ∧ ∃ M_4 : Mem, M_2.le M_4 ∧ Frm 31 [(1, .pointer (some (⟨b_1, 0, none⟩))), (3, .slice A_11 x_1.length cap_11), (22, .bool y_1)] a_21 ∧ Hp w0 M_4 (H) w_9) ?_ ?_
 ·refine R_mix (E := []) (Hr := (H)) [(0, true), (1, true), (2, true), (3, true), (4, true), (7, true), (8, true), (5, false), (6, true), (9, true), (10, true), (11, true), (12, true), (13, true), (14, true)] p_2 (by kernel_rfl) (by kernel_rfl) rfl (by kernel_rfl) (Y0 default f 1 fun _ f => M_eq (v := .int .i8 d0.fPhase) f (by kernel_rfl) (by kernel_rfl) rfl rfl (fun _ pq => Y29 (v := .int .i8 d0.fPhase) rfl (ad := (⟨b_1, 0, none⟩ : Addr).add 16) (pq.cell ((fzu hM_2 hc_2) 16 _ rfl))) fun _ f => Y0 default f 2 fun _ f => ?_)
  rcases cE hj_1 with ⟨h_12, hF_3⟩ | ⟨h_12, hF_4⟩
  ·have k_1 : ¬ (d0.fPhase = 1) := (not_iff dI).1 h_12
   have f := f.st 11 (cB h_12)
   refine Y0 default f 3 fun _ f => M_fix (E := []) fun w_3 p_3 => Y f 1 fun _ f => W_end rfl (M_go (M1 := M_2) (E := []) (mR _) p_3 (Y0 default f 7 fun _ f => M_end rfl fun w_4 p_4 => T_n ?_))
   exact ⟨(true), (sI hF_3).symm, M_2, (mR _), f.kp, p_4⟩
  ·have k_2 : ¬ (¬ (d0.fPhase = 1)) := iff_f (not_iff dI) h_12
   have f := f.st 11 (cB h_12)
   refine M_eq (v := .agg #[.int .i8 d0.fKind, .int .i64 d0.fWidth, .slice A_1 d0.fOld.fOwned.length cap_1, .slice A_2 d0.fOld.fPending.length cap_2, .slice A_3 d0.fOld.fRetained.length cap_3, .slice A_4 d0.fOld.fOuts.length cap_4, S d0.fOld.fText, .slice A_5 d0.fOld.fArgs.length cap_5, .int .i64 d0.fOld.fCalls, .int .i8 d0.fOld.fStatus, .slice A_6 d0.fNew.fScopes.length cap_6, .slice A_7 d0.fNew.fNodes.length cap_7, S d0.fText, .slice A_8 d0.fArgs.length cap_8, .slice A_9 d0.fChanges.length cap_9, .slice A_10 d0.fTasks.length cap_10, .int .i8 d0.fPhase, .int .i8 d0.fStatus]) f (by kernel_rfl) (by kernel_rfl) rfl rfl (fun _ pq => Y30 (cs := [.int .i8 d0.fKind, .int .i64 d0.fWidth, .slice A_1 d0.fOld.fOwned.length cap_1, .slice A_2 d0.fOld.fPending.length cap_2, .slice A_3 d0.fOld.fRetained.length cap_3, .slice A_4 d0.fOld.fOuts.length cap_4, S d0.fOld.fText, .slice A_5 d0.fOld.fArgs.length cap_5, .int .i64 d0.fOld.fCalls, .int .i8 d0.fOld.fStatus, .slice A_6 d0.fNew.fScopes.length cap_6, .slice A_7 d0.fNew.fNodes.length cap_7, S d0.fText, .slice A_8 d0.fArgs.length cap_8, .slice A_9 d0.fChanges.length cap_9, .slice A_10 d0.fTasks.length cap_10, .int .i8 d0.fPhase, .int .i8 d0.fStatus]) rfl (ad := ⟨b_1, 0, none⟩) (fun j v h => pq.cell ((fzu hM_2 hc_2) j v h))) fun _ f => Y0 default f 1 fun _ f => M_eq (v := .int .i64 d0.fWidth) f (by kernel_rfl) (by kernel_rfl) rfl rfl (fun _ pq => Y29 (v := .int .i64 d0.fWidth) rfl (ad := (⟨b_1, 0, none⟩ : Addr).add 1) (pq.cell ((fzu hM_2 hc_2) 1 _ rfl))) fun _ f => M_fix (E := []) fun w_5 p_5 => ?_
   obtain ⟨x_2, hx_2, hF_5⟩ := bS hF_4
   refine Y16 (E := []) (H := (H)) f p_5 (forward_Flight_ok n _ _ d0 (TK0.shutx (x := d0) (h_1.mono (hM_1.trans hM_2)) (h_2.mono (hM_1.trans hM_2)) (h_3.mono (hM_1.trans hM_2)) (h_4.mono (hM_1.trans hM_2)) (h_5.mono (hM_1.trans hM_2)) (h_6.mono (hM_1.trans hM_2)) (h_7.mono (hM_1.trans hM_2)) (h_8.mono (hM_1.trans hM_2)) (h_9.mono (hM_1.trans hM_2)) (h_10.mono (hM_1.trans hM_2))) x_2 hx_2) fun _ M_3 E_1 w_6 hM_3 p_6 q_2 _ f => ?_
   obtain ⟨A_12, cap_12, cs_1, rfl, rfl, hr_1⟩ := q_2
   refine W_end rfl (M_go (M1 := M_3) (E := [Ent.row 3 1 (.slice A_12 x_2.length cap_12) x_2.length cs_1]) hM_3 p_6 (Y0 default f 4 fun _ f => ?_))
   rcases cE hF_5 with ⟨h_13, hF_6⟩ | ⟨h_13, hF_7⟩
   ·have k_3 := dI.1 h_13
    have f := f.st 19 (cB h_13)
    refine Y0 default f 3 fun _ f => M_end rfl fun w_7 p_7 => T_n ?_
    exact ⟨(true), (sI hF_6).symm, M_3, hM_3, f.kp, (p_7.dropN 1)⟩
   ·have k_4 := iff_f dI h_13
    have f := f.st 19 (cB h_13)
    refine Y0 default f 1 fun _ f => ?_
    obtain ⟨g_1, hF_8⟩ := nS hF_7
    have hn_1 := sli_some (h_11.mono hM_3) g_1
    refine M_eq (v := .bool A_11.isNone) f (by kernel_rfl) (by kernel_rfl) rfl rfl (fun _ pq => X_slicenil (A := A_11) (n := x_1.length) (c := cap_11) (e := 22) rfl (by kernel_rfl) (by kernel_rfl) (by kernel_rfl) _) fun _ f => ?_
    have f := Frm.set f 21 (v := .bool A_11.isNone) (v' := .bool false) (by kernel_rfl) (cB hn_1)
    refine Y0 default f 1 fun _ f => M_end rfl fun w_8 p_8 => T_n ?_
    exact ⟨(false), (sI hF_8).symm, M_3, hM_3, f.kp, (p_8.dropN 1)⟩
 ·rintro a_21 w_9 ⟨y_1, hq_1, M_4, hM_4, f, p_9⟩
  subst j_1
  refine T_n (RcF f hF_2 (fun h_14 hF_9 => ?_) fun h_14 hF_10 => ?_)
  ·refine RR (Y f 1 fun _ f => eT (wp_ret (T_r ?_)))
   obtain ⟨A_13, cap_13, hv_1⟩ : ∃ A cap, Value.slice none 0 0 = .slice A ([] : List Int).length cap := ⟨none, 0, rfl⟩
   have p_10 : Hp w0 M_4 ((Ent.row 3 1 (.slice A_13 ([] : List Int).length cap_13) ([] : List Int).length []) :: H) w_9 := by rw [← hv_1]; exact p_9.nilRow 3 1
   have f := f.st 2 (hv_1)
   have hr_2 : RepSeq M_4 (([] : List Int).map (Dat.int .i64)) [] := rfl
   refine E_ret1 f rfl (by kernel_rfl : Vc.look _ 2 = some (.slice A_13 ([] : List Int).length cap_13)) ?_
   obtain rfl := sI hF_9
   exact ⟨_, rfl, M_4, _, ((hM_1.trans hM_2).trans hM_4), p_10, ⟨A_13, cap_13, [], rfl, rfl, hr_2⟩⟩
  ·refine wp_skip (T_n (RR (Z (v := .agg #[.int .i8 d0.fKind, .int .i64 d0.fWidth, .slice A_1 d0.fOld.fOwned.length cap_1, .slice A_2 d0.fOld.fPending.length cap_2, .slice A_3 d0.fOld.fRetained.length cap_3, .slice A_4 d0.fOld.fOuts.length cap_4, S d0.fOld.fText, .slice A_5 d0.fOld.fArgs.length cap_5, .int .i64 d0.fOld.fCalls, .int .i8 d0.fOld.fStatus, .slice A_6 d0.fNew.fScopes.length cap_6, .slice A_7 d0.fNew.fNodes.length cap_7, S d0.fText, .slice A_8 d0.fArgs.length cap_8, .slice A_9 d0.fChanges.length cap_9, .slice A_10 d0.fTasks.length cap_10, .int .i8 d0.fPhase, .int .i8 d0.fStatus]) f (Y30 (cs := [.int .i8 d0.fKind, .int .i64 d0.fWidth, .slice A_1 d0.fOld.fOwned.length cap_1, .slice A_2 d0.fOld.fPending.length cap_2, .slice A_3 d0.fOld.fRetained.length cap_3, .slice A_4 d0.fOld.fOuts.length cap_4, S d0.fOld.fText, .slice A_5 d0.fOld.fArgs.length cap_5, .int .i64 d0.fOld.fCalls, .int .i8 d0.fOld.fStatus, .slice A_6 d0.fNew.fScopes.length cap_6, .slice A_7 d0.fNew.fNodes.length cap_7, S d0.fText, .slice A_8 d0.fArgs.length cap_8, .slice A_9 d0.fChanges.length cap_9, .slice A_10 d0.fTasks.length cap_10, .int .i8 d0.fPhase, .int .i8 d0.fStatus]) rfl (ad := ⟨b_1, 0, none⟩) (fun j v h => p_9.cell ((fzu (hM_2.trans hM_4) hc_2) j v h))) fun _ f => ?_)))
   obtain ⟨x_3, hx_3, hF_11⟩ := bS hF_10
   refine Y15 f p_9 (back_leans_ok n _ _ d0 (TK0.shutx (x := d0) (h_1.mono ((hM_1.trans hM_2).trans hM_4)) (h_2.mono ((hM_1.trans hM_2).trans hM_4)) (h_3.mono ((hM_1.trans hM_2).trans hM_4)) (h_4.mono ((hM_1.trans hM_2).trans hM_4)) (h_5.mono ((hM_1.trans hM_2).trans hM_4)) (h_6.mono ((hM_1.trans hM_2).trans hM_4)) (h_7.mono ((hM_1.trans hM_2).trans hM_4)) (h_8.mono ((hM_1.trans hM_2).trans hM_4)) (h_9.mono ((hM_1.trans hM_2).trans hM_4)) (h_10.mono ((hM_1.trans hM_2).trans hM_4))) x_3 hx_3) fun _ M_5 w_10 hM_5 p_11 q_3 _ f => ?_
   obtain ⟨A_14, cap_14, rfl, h_15⟩ := q_3
   refine Y f 1 fun _ f => ?_
   obtain ⟨x_4, hx_4, hF_12⟩ := bS hF_11
   refine Y16 (E := []) (H := (H)) f p_11 (ready_Ready_ok n _ A_14 cap_14 x_3 h_15 A_11 cap_11 x_1 (h_11.mono (hM_4.trans hM_5)) (true) x_4 hx_4) fun _ M_6 E_2 w_11 hM_6 p_12 q_4 _ f => ?_
   obtain ⟨A_15, cap_15, cs_2, rfl, rfl, hr_3⟩ := q_4
   refine Y f 5 fun _ f => eT (RR (Y f 2 fun _ f => eT (wp_ret (E_ret1 f rfl (by kernel_rfl : Vc.look _ 2 = some (.slice A_15 x_4.1.length cap_15)) ?_))))
   obtain rfl := sI hF_12
   exact ⟨_, rfl, M_6, _, ((((hM_1.trans hM_2).trans hM_4).trans hM_5).trans hM_6), p_12, ⟨A_15, cap_15, cs_2, rfl, rfl, hr_3⟩⟩
def back_maker_remove (n : Nat) (d0 : T_back_maker) : Option TQ0 :=
  (forward_Task n (⟨d0.w.fKind, d0.w.fWidth, (⟨d0.w.fOld.fOwned, d0.w.fOld.fPending, d0.w.fOld.fRetained, d0.w.fOld.fOuts, d0.w.fOld.fText, d0.w.fOld.fArgs, d0.w.fOld.fCalls, d0.w.fOld.fStatus⟩ : TF0), (⟨d0.w.fNew.fScopes, d0.w.fNew.fNodes⟩ : TL0), d0.w.fText, d0.w.fArgs, d0.w.fChanges, d0.w.fTasks, d0.w.fPhase, d0.w.fStatus⟩ : TK0) d0.n (0 : Int)).bind fun x_1 =>
  (getI d0.w.fChanges d0.n).bind fun x_2 =>
  some ((⟨(0 : Int), (2 : Int), x_1.1.fPhys, x_2.fType, ([] : List TE0)⟩ : TQ0))
set_option maxRecDepth 20000 in
theorem back_maker_remove_ok (n : Nat) (M : Mem) (c0 : List Value) (d0 : T_back_maker) (h0 : Rep M (emb_T_back_maker d0) c0) (r : TQ0) (hF : back_maker_remove n d0 = some r) : Ok Tryz.prog M 62 [.agg c0.toArray] (fun M' v => ∃ (c0 : List Value), v = .agg c0.toArray ∧ Rep M' (emb_TQ0 r) c0) := by
 unfold back_maker_remove at hF
 intro M1 hM0 w0 H w p0
 replace h0 := Rep.mono hM0 _ _ h0
 obtain ⟨A_1, cap_1, A_2, cap_2, A_3, cap_3, A_4, cap_4, A_5, cap_5, A_6, cap_6, A_7, cap_7, A_8, cap_8, A_9, cap_9, A_10, cap_10, rfl, h_1, h_2, h_3, h_4, h_5, h_6, h_7, h_8, h_9, h_10⟩ := T_back_maker.opn h0
 refine R_enter 24 Tryz.func62 rfl rfl (by simp) fun a0 f0 => RR (Y12 (cs := #[.int .i8 d0.w.fKind, .int .i64 d0.w.fWidth, .slice A_1 d0.w.fOld.fOwned.length cap_1, .slice A_2 d0.w.fOld.fPending.length cap_2, .slice A_3 d0.w.fOld.fRetained.length cap_3, .slice A_4 d0.w.fOld.fOuts.length cap_4, S d0.w.fOld.fText, .slice A_5 d0.w.fOld.fArgs.length cap_5, .int .i64 d0.w.fOld.fCalls, .int .i8 d0.w.fOld.fStatus, .slice A_6 d0.w.fNew.fScopes.length cap_6, .slice A_7 d0.w.fNew.fNodes.length cap_7, S d0.w.fText, .slice A_8 d0.w.fArgs.length cap_8, .slice A_9 d0.w.fChanges.length cap_9, .slice A_10 d0.w.fTasks.length cap_10, .int .i8 d0.w.fPhase, .int .i8 d0.w.fStatus, .int .i64 d0.n]) (T := 122) f0 p0 fun b_1 M_1 w_1 hM_1 hc_1 p_1 _ f => ?_)
 have hc_2 := fz_box hc_1
 refine Y11 f p_1 (.cells #[.int .i64 0, .int .i8 0, S [], S [], .slice none 0 0] 42 (0, 0)) fun b_2 w_2 p_2 _ f => eT (RR (Y f 1 fun _ f => Z (v := .agg #[.int .i8 d0.w.fKind, .int .i64 d0.w.fWidth, .slice A_1 d0.w.fOld.fOwned.length cap_1, .slice A_2 d0.w.fOld.fPending.length cap_2, .slice A_3 d0.w.fOld.fRetained.length cap_3, .slice A_4 d0.w.fOld.fOuts.length cap_4, S d0.w.fOld.fText, .slice A_5 d0.w.fOld.fArgs.length cap_5, .int .i64 d0.w.fOld.fCalls, .int .i8 d0.w.fOld.fStatus, .slice A_6 d0.w.fNew.fScopes.length cap_6, .slice A_7 d0.w.fNew.fNodes.length cap_7, S d0.w.fText, .slice A_8 d0.w.fArgs.length cap_8, .slice A_9 d0.w.fChanges.length cap_9, .slice A_10 d0.w.fTasks.length cap_10, .int .i8 d0.w.fPhase, .int .i8 d0.w.fStatus]) f (Y30 (cs := [.int .i8 d0.w.fKind, .int .i64 d0.w.fWidth, .slice A_1 d0.w.fOld.fOwned.length cap_1, .slice A_2 d0.w.fOld.fPending.length cap_2, .slice A_3 d0.w.fOld.fRetained.length cap_3, .slice A_4 d0.w.fOld.fOuts.length cap_4, S d0.w.fOld.fText, .slice A_5 d0.w.fOld.fArgs.length cap_5, .int .i64 d0.w.fOld.fCalls, .int .i8 d0.w.fOld.fStatus, .slice A_6 d0.w.fNew.fScopes.length cap_6, .slice A_7 d0.w.fNew.fNodes.length cap_7, S d0.w.fText, .slice A_8 d0.w.fArgs.length cap_8, .slice A_9 d0.w.fChanges.length cap_9, .slice A_10 d0.w.fTasks.length cap_10, .int .i8 d0.w.fPhase, .int .i8 d0.w.fStatus]) rfl (ad := (⟨b_1, 0, none⟩ : Addr).add 0) (fz_part (base := (⟨b_1, 0, none⟩ : Addr)) (fun j v h => p_2.cell (hc_2 j v h)) 0 rfl)) fun _ f => Y f 1 fun _ f => Y14 f p_2 hc_2 18 rfl fun _ f => ?_))
 obtain ⟨x_1, hx_1, hF_1⟩ := bS hF
 refine Y15 f p_2 (forward_Task_ok n _ _ (⟨d0.w.fKind, d0.w.fWidth, (⟨d0.w.fOld.fOwned, d0.w.fOld.fPending, d0.w.fOld.fRetained, d0.w.fOld.fOuts, d0.w.fOld.fText, d0.w.fOld.fArgs, d0.w.fOld.fCalls, d0.w.fOld.fStatus⟩ : TF0), (⟨d0.w.fNew.fScopes, d0.w.fNew.fNodes⟩ : TL0), d0.w.fText, d0.w.fArgs, d0.w.fChanges, d0.w.fTasks, d0.w.fPhase, d0.w.fStatus⟩ : TK0) (TK0.shut (h_1.mono hM_1) (h_2.mono hM_1) (h_3.mono hM_1) (h_4.mono hM_1) (h_5.mono hM_1) (h_6.mono hM_1) (h_7.mono hM_1) (h_8.mono hM_1) (h_9.mono hM_1) (h_10.mono hM_1)) d0.n (0 : Int) x_1 hx_1) fun _ M_2 w_3 hM_2 p_3 q_1 _ f => ?_
 obtain ⟨c_1, rfl, hr_1⟩ := q_1
 obtain ⟨A_11, cap_11, rfl, h_11⟩ := TR0.opn hr_1
 refine Y f 3 fun _ f => Y11 f p_3 (.cells #[.int .i64 0, .int .i8 0, .int .i64 0, .int .i8 0, S [], S [], .slice none 0 0, .int .i8 0, S []] 44 (0, 0)) fun b_3 w_4 p_4 _ f => Y26 (vs := [.int .i64 x_1.1.fChange, .int .i8 x_1.1.fPhase, .int .i64 x_1.1.fCall.fToken, .int .i8 x_1.1.fCall.fKind, S x_1.1.fCall.fPhys, S x_1.1.fCall.fType, .slice A_11 x_1.1.fCall.fProps.length cap_11, .int .i8 x_1.1.fState, S x_1.1.fPhys]) (j := 0) f p_4 rfl rfl (by simp [Value.oneCell', S]) (by simp) (by decide) (cs' := #[.int .i64 x_1.1.fChange, .int .i8 x_1.1.fPhase, .int .i64 x_1.1.fCall.fToken, .int .i8 x_1.1.fCall.fKind, S x_1.1.fCall.fPhys, S x_1.1.fCall.fType, .slice A_11 x_1.1.fCall.fProps.length cap_11, .int .i8 x_1.1.fState, S x_1.1.fPhys]) fun w_5 p_5 _ f => Y f 1 fun _ f => eT (R_seq (R_drawT 11 p_5 (by kernel_rfl) (by kernel_rfl) fun w_6 p_6 => ST_eq (v := .pointer (some (⟨b_3, 8, none⟩))) f (by kernel_rfl) (by kernel_rfl) rfl rfl (by kernel_rfl) fun _ f => ST_eq (v := S x_1.1.fPhys) f (by kernel_rfl) (by kernel_rfl) rfl rfl (Y29 (v := S x_1.1.fPhys) rfl (ad := ⟨b_3, 8, none⟩) (p_6.ownCell 0 rfl 8)) fun _ f => ST_eq (v := .pointer (some ((⟨b_1, 0, none⟩ : Addr).add 0))) f (by kernel_rfl) (by kernel_rfl) rfl rfl (by kernel_rfl) fun _ f => ST_eq (v := .pointer (some ((⟨b_1, 0, none⟩ : Addr).add 14))) f (by kernel_rfl) (by kernel_rfl) rfl rfl (by kernel_rfl) fun _ f => ST_eq (v := .slice A_9 d0.w.fChanges.length cap_9) f (by kernel_rfl) (by kernel_rfl) rfl rfl (Y29 (v := .slice A_9 d0.w.fChanges.length cap_9) rfl (ad := (⟨b_1, 0, none⟩ : Addr).add 14) (p_6.cell ((fzu hM_2 hc_2) 14 _ rfl))) fun _ f => ?_))
 refine ST_eq (v := .pointer (some ((⟨b_1, 0, none⟩ : Addr).add 18))) f (by kernel_rfl) (by kernel_rfl) rfl rfl (by kernel_rfl) fun _ f => ST_eq (v := .int .i64 d0.n) f (by kernel_rfl) (by kernel_rfl) rfl rfl (Y29 (v := .int .i64 d0.n) rfl (ad := (⟨b_1, 0, none⟩ : Addr).add 18) (p_6.cell ((fzu hM_2 hc_2) 18 _ rfl))) fun _ f => ?_
 obtain ⟨x_2, hx_2, hF_2⟩ := bS hF_1
 obtain ⟨ad_1, c_2, e_1, -, hr_2, hc_3⟩ := Sli.at_ (h_9.mono (hM_1.trans hM_2)) hx_2
 obtain ⟨A_12, cap_12, A_13, cap_13, rfl, h_12, h_13⟩ := TC0.opn hr_2
 refine ST_eq (v := .pointer (some (ad_1.add (d0.n.toNat * 8)))) f (by kernel_rfl) (by kernel_rfl) rfl rfl (Y28 e_1 rfl (len := d0.w.fChanges.length) (cap := cap_9) (k := .i64) (i := d0.n) (e := 72) (sz := 8) (getI_nn hx_2) (getI_lt hx_2)) fun _ f => ST_eq (v := .pointer (some ((ad_1.add (d0.n.toNat * 8)).add 2))) f (by kernel_rfl) (by kernel_rfl) rfl rfl (by kernel_rfl) fun _ f => ST_eq (v := S x_2.fType) f (by kernel_rfl) (by kernel_rfl) rfl rfl (Y29 (v := S x_2.fType) rfl (ad := (ad_1.add (d0.n.toNat * 8)).add 2) (p_6.cell (hc_3 2 _ rfl))) fun _ f => ST_eq (v := .agg #[.int .i64 0, .int .i8 2, S x_1.1.fPhys, S x_2.fType, .slice none 0 0]) f (by kernel_rfl) (by kernel_rfl) rfl rfl (by kernel_rfl) fun _ f => ST_end rfl ?_
 have p_7 := p_6.pl [1]
 refine Y26 (vs := [.int .i64 0, .int .i8 2, S x_1.1.fPhys, S x_2.fType, .slice none 0 0]) (j := 0) f p_7 rfl rfl (by simp [Value.oneCell', S]) (by simp) (by decide) (cs' := #[.int .i64 0, .int .i8 2, S x_1.1.fPhys, S x_2.fType, .slice none 0 0]) fun w_7 p_8 _ f => eT (wp_ret (E_rv1 f rfl (Y9 (cs := [.int .i64 0, .int .i8 2, S x_1.1.fPhys, S x_2.fType, .slice none 0 0]) (ad := ⟨b_2, 0, none⟩) f (own_cells (p_8.ownCell 0 rfl) 0 rfl)) ?_))
 obtain rfl := sI hF_2
 exact ⟨_, rfl, M_2, (hM_1.trans hM_2), (p_8.dropN 2), ⟨[.int .i64 0, .int .i8 2, S x_1.1.fPhys, S x_2.fType, .slice none 0 0], rfl, (TQ0.shut Sli.nil)⟩⟩
def back_Start_s1 (n : Nat) (d0 : TK0) (d1 : Int) (x_2 : List Int) (s_1 : Int × List TR0 × Int × Int × List TS0 × List TS0 × List TS0 × List TE0 × List UInt8 × List TE0 × Int × Int × List TG0 × List TN0 × List UInt8 × List TE0 × List TC0 × List TR0 × Int × Int × Int × Int × List UInt8 × List UInt8 × List TE0) : Option (Lp (Int × List TR0 × Int × Int × List TS0 × List TS0 × List TS0 × List TE0 × List UInt8 × List TE0 × Int × Int × List TG0 × List TN0 × List UInt8 × List TE0 × List TC0 × List TR0 × Int × Int × Int × Int × List UInt8 × List UInt8 × List TE0) (Sum (Int × Int × List UInt8 × List UInt8 × List TE0 × List TR0 × List TR0) (Int × Int × List UInt8 × List UInt8 × List TE0 × Int × Int × List TS0 × List TS0 × List TS0 × List TE0 × List UInt8 × List TE0 × Int × Int × List TG0 × List TN0 × List UInt8 × List TE0 × List TC0 × List TR0 × Int × Int × List TR0))) :=
    bif (decide (s_1.1 < ((x_2.length : Nat) : Int))) then
      ((getI x_2 s_1.1).bind fun x_3 =>
      bif (!(decide (x_3 = d1))) then
        (need (inR .i64 (s_1.1 + 1)) <|
        some (.nx (s_1.1 + 1, s_1.2.1, s_1.2.2.1, s_1.2.2.2.1, s_1.2.2.2.2.1, s_1.2.2.2.2.2.1, s_1.2.2.2.2.2.2.1, s_1.2.2.2.2.2.2.2.1, s_1.2.2.2.2.2.2.2.2.1, s_1.2.2.2.2.2.2.2.2.2.1, s_1.2.2.2.2.2.2.2.2.2.2.1, s_1.2.2.2.2.2.2.2.2.2.2.2.1, s_1.2.2.2.2.2.2.2.2.2.2.2.2.1, s_1.2.2.2.2.2.2.2.2.2.2.2.2.2.1, s_1.2.2.2.2.2.2.2.2.2.2.2.2.2.2.1, s_1.2.2.2.2.2.2.2.2.2.2.2.2.2.2.2.1, s_1.2.2.2.2.2.2.2.2.2.2.2.2.2.2.2.2.1, s_1.2.2.2.2.2.2.2.2.2.2.2.2.2.2.2.2.2.1, s_1.2.2.2.2.2.2.2.2.2.2.2.2.2.2.2.2.2.2.1, s_1.2.2.2.2.2.2.2.2.2.2.2.2.2.2.2.2.2.2.2.1, s_1.2.2.2.2.2.2.2.2.2.2.2.2.2.2.2.2.2.2.2.2.1, s_1.2.2.2.2.2.2.2.2.2.2.2.2.2.2.2.2.2.2.2.2.2.1, s_1.2.2.2.2.2.2.2.2.2.2.2.2.2.2.2.2.2.2.2.2.2.2.1, s_1.2.2.2.2.2.2.2.2.2.2.2.2.2.2.2.2.2.2.2.2.2.2.2.1, s_1.2.2.2.2.2.2.2.2.2.2.2.2.2.2.2.2.2.2.2.2.2.2.2.2)))
      else
        (getI d0.fChanges d1).bind fun x_4 =>
        need (x_4.fKind = 1) <|
        (back_maker_remove n (⟨(⟨d0.fKind, d0.fWidth, (⟨d0.fOld.fOwned, d0.fOld.fPending, d0.fOld.fRetained, d0.fOld.fOuts, d0.fOld.fText, d0.fOld.fArgs, d0.fOld.fCalls, d0.fOld.fStatus⟩ : TF0), (⟨d0.fNew.fScopes, d0.fNew.fNodes⟩ : TL0), d0.fText, d0.fArgs, d0.fChanges, s_1.2.1, d0.fPhase, d0.fStatus⟩ : TK0), d1⟩ : T_back_maker)).bind fun x_5 =>
        need (inR .i64 (((s_1.2.1.length : Nat) : Int) + 1)) <|
        ((need (0 ≤ ((s_1.2.1.length : Nat) : Int) ∧ ((s_1.2.1.length : Nat) : Int) ≤ (s_1.2.1.length : Int)) <|
          need (((s_1.2.1.take ((s_1.2.1.length : Nat) : Int).toNat).length + 1) * 112 ≤ 140737488355328) <|
          some ((s_1.2.1.take ((s_1.2.1.length : Nat) : Int).toNat) ++ [(⟨d1, (1 : Int), (⟨((s_1.2.1.length : Nat) : Int) + 1, x_5.fKind, x_5.fPhys, x_5.fType, x_5.fProps⟩ : TQ0), (0 : Int), ([] : List UInt8)⟩ : TR0)]) : Option (List TR0))).bind fun y_2 =>
        some (.br (.inl (((s_1.2.1.length : Nat) : Int) + 1, x_5.fKind, x_5.fPhys, x_5.fType, x_5.fProps, y_2, y_2))))
    else
      some (.br (.inr (s_1.2.2.2.2.2.2.2.2.2.2.2.2.2.2.2.2.2.2.2.2.1, s_1.2.2.2.2.2.2.2.2.2.2.2.2.2.2.2.2.2.2.2.2.2.1, s_1.2.2.2.2.2.2.2.2.2.2.2.2.2.2.2.2.2.2.2.2.2.2.1, s_1.2.2.2.2.2.2.2.2.2.2.2.2.2.2.2.2.2.2.2.2.2.2.2.1, s_1.2.2.2.2.2.2.2.2.2.2.2.2.2.2.2.2.2.2.2.2.2.2.2.2, s_1.2.2.1, s_1.2.2.2.1, s_1.2.2.2.2.1, s_1.2.2.2.2.2.1, s_1.2.2.2.2.2.2.1, s_1.2.2.2.2.2.2.2.1, s_1.2.2.2.2.2.2.2.2.1, s_1.2.2.2.2.2.2.2.2.2.1, s_1.2.2.2.2.2.2.2.2.2.2.1, s_1.2.2.2.2.2.2.2.2.2.2.2.1, s_1.2.2.2.2.2.2.2.2.2.2.2.2.1, s_1.2.2.2.2.2.2.2.2.2.2.2.2.2.1, s_1.2.2.2.2.2.2.2.2.2.2.2.2.2.2.1, s_1.2.2.2.2.2.2.2.2.2.2.2.2.2.2.2.1, s_1.2.2.2.2.2.2.2.2.2.2.2.2.2.2.2.2.1, s_1.2.2.2.2.2.2.2.2.2.2.2.2.2.2.2.2.2.1, s_1.2.2.2.2.2.2.2.2.2.2.2.2.2.2.2.2.2.2.1, s_1.2.2.2.2.2.2.2.2.2.2.2.2.2.2.2.2.2.2.2.1, s_1.2.1)))
def back_Start (n : Nat) (d0 : TK0) (d1 : Int) : Option (TK0 × TQ0 × Int) :=
  (((forward_May n (⟨d0.fKind, d0.fWidth, (⟨d0.fOld.fOwned, d0.fOld.fPending, d0.fOld.fRetained, d0.fOld.fOuts, d0.fOld.fText, d0.fOld.fArgs, d0.fOld.fCalls, d0.fOld.fStatus⟩ : TF0), (⟨d0.fNew.fScopes, d0.fNew.fNodes⟩ : TL0), d0.fText, d0.fArgs, d0.fChanges, d0.fTasks, d0.fPhase, d0.fStatus⟩ : TK0)).bind fun x_1 =>
    bif !x_1 then
      (some ((2 : Int)))
    else
      bif (!(decide (d0.fPhase = 1))) then
        (some ((290 : Int)))
      else
        some ((4 : Int)) : Option Int)).bind fun y_1 =>
  (back_Ready n (⟨d0.fKind, d0.fWidth, (⟨d0.fOld.fOwned, d0.fOld.fPending, d0.fOld.fRetained, d0.fOld.fOuts, d0.fOld.fText, d0.fOld.fArgs, d0.fOld.fCalls, d0.fOld.fStatus⟩ : TF0), (⟨d0.fNew.fScopes, d0.fNew.fNodes⟩ : TL0), d0.fText, d0.fArgs, d0.fChanges, d0.fTasks, d0.fPhase, d0.fStatus⟩ : TK0)).bind fun x_2 =>
  (loopF (back_Start_s1 n d0 d1 x_2) n ((0 : Int), d0.fTasks, (0 : Int), (0 : Int), ([] : List TS0), ([] : List TS0), ([] : List TS0), ([] : List TE0), ([] : List UInt8), ([] : List TE0), (0 : Int), (0 : Int), ([] : List TG0), ([] : List TN0), ([] : List UInt8), ([] : List TE0), ([] : List TC0), ([] : List TR0), (0 : Int), (0 : Int), (0 : Int), (0 : Int), ([] : List UInt8), ([] : List UInt8), ([] : List TE0))).bind fun b_4 =>
  (match b_4 with 
  | .inl y_3 => some (((⟨d0.fKind, d0.fWidth, (⟨d0.fOld.fOwned, d0.fOld.fPending, d0.fOld.fRetained, d0.fOld.fOuts, d0.fOld.fText, d0.fOld.fArgs, d0.fOld.fCalls, d0.fOld.fStatus⟩ : TF0), (⟨d0.fNew.fScopes, d0.fNew.fNodes⟩ : TL0), d0.fText, d0.fArgs, d0.fChanges, y_3.2.2.2.2.2.1, d0.fPhase, d0.fStatus⟩ : TK0), (⟨y_3.1, y_3.2.1, y_3.2.2.1, y_3.2.2.2.1, y_3.2.2.2.2.1⟩ : TQ0), (0 : Int))) 
  | .inr y_4 => some (((⟨(0 : Int), (0 : Int), z_TF0, z_TL0, ([] : List UInt8), ([] : List TE0), ([] : List TC0), ([] : List TR0), (0 : Int), (0 : Int)⟩ : TK0), z_TQ0, y_1)))
set_option maxRecDepth 20000 in
theorem back_Start_ok (n : Nat) (M : Mem) (c0 : List Value) (d0 : TK0) (h0 : Rep M (emb_TK0 d0) c0) (d1 : Int) (r : TK0 × TQ0 × Int) (hF : back_Start n d0 d1 = some r) : Ok Tryz.prog M 32 [.agg c0.toArray, .int .i64 d1] (fun M' v => ∃ (c0 : List Value) (c1 : List Value), v = .tuple #[.agg c0.toArray, .agg c1.toArray, .int .i64 r.2.2] ∧ Rep M' (emb_TK0 r.1) c0 ∧ Rep M' (emb_TQ0 r.2.1) c1) := by
 unfold back_Start at hF
 intro M1 hM0 w0 H w p0
 replace h0 := Rep.mono hM0 _ _ h0
 obtain ⟨A_1, cap_1, A_2, cap_2, A_3, cap_3, A_4, cap_4, A_5, cap_5, A_6, cap_6, A_7, cap_7, A_8, cap_8, A_9, cap_9, A_10, cap_10, rfl, h_1, h_2, h_3, h_4, h_5, h_6, h_7, h_8, h_9, h_10⟩ := TK0.opn h0
 refine R_enter 76 Tryz.func32 rfl rfl (by simp) fun a0 f0 => RR (Y11 f0 p0 (.cells #[.int .i8 d0.fKind, .int .i64 d0.fWidth, .slice A_1 d0.fOld.fOwned.length cap_1, .slice A_2 d0.fOld.fPending.length cap_2, .slice A_3 d0.fOld.fRetained.length cap_3, .slice A_4 d0.fOld.fOuts.length cap_4, S d0.fOld.fText, .slice A_5 d0.fOld.fArgs.length cap_5, .int .i64 d0.fOld.fCalls, .int .i8 d0.fOld.fStatus, .slice A_6 d0.fNew.fScopes.length cap_6, .slice A_7 d0.fNew.fNodes.length cap_7, S d0.fText, .slice A_8 d0.fArgs.length cap_8, .slice A_9 d0.fChanges.length cap_9, .slice A_10 d0.fTasks.length cap_10, .int .i8 d0.fPhase, .int .i8 d0.fStatus] 34 (0, 0)) fun b_1 w_1 p_1 _ f => Y11 f p_1 (.cells #[.int .i8 0, .int .i64 0, .slice none 0 0, .slice none 0 0, .slice none 0 0, .slice none 0 0, S [], .slice none 0 0, .int .i64 0, .int .i8 0, .slice none 0 0, .slice none 0 0, S [], .slice none 0 0, .slice none 0 0, .slice none 0 0, .int .i8 0, .int .i8 0] 34 (0, 0)) fun b_2 w_2 p_2 _ f => Y11 f p_2 (.cells #[.int .i64 0, .int .i8 0, S [], S [], .slice none 0 0] 42 (0, 0)) fun b_3 w_3 p_3 _ f => Y f 1 fun _ f => eT (RR (Y f 1 fun _ f => eT (R_seq ?_))))
 obtain ⟨j_1, hj_1, hF_1⟩ := bS hF
 refine R_mid (fun a_14 w_5 => ∃ y_1 : Int, j_1 = y_1 ∧ ∃ M_1 : Mem, M1.le M_1 ∧ Frm 76 [(1, .int .i64 d1), (2, .pointer (some (⟨b_1, 0, none⟩))), (4, .pointer (some (⟨b_2, 0, none⟩))), (5, .pointer (some (⟨b_3, 0, none⟩))), (7, .int .i64 y_1)] a_14 ∧ Hp w0 M_1 ((Ent.obj b_3 (.cells #[.int .i64 0, .int .i8 0, S [], S [], .slice none 0 0] 42 (0, 0))) :: (Ent.obj b_2 (.cells #[.int .i8 0, .int .i64 0, .slice none 0 0, .slice none 0 0, .slice none 0 0, .slice none 0 0, S [], .slice none 0 0, .int .i64 0, .int .i8 0, .slice none 0 0, .slice none 0 0, S [], .slice none 0 0, .slice none 0 0, .slice none 0 0, .int .i8 0, .int .i8 0] 34 (0, 0))) :: (Ent.obj b_1 (.cells #[.int .i8 d0.fKind, .int .i64 d0.fWidth, .slice A_1 d0.fOld.fOwned.length cap_1, .slice A_2 d0.fOld.fPending.length cap_2, .slice A_3 d0.fOld.fRetained.length cap_3, .slice A_4 d0.fOld.fOuts.length cap_4, S d0.fOld.fText, .slice A_5 d0.fOld.fArgs.length cap_5, .int .i64 d0.fOld.fCalls, .int .i8 d0.fOld.fStatus, .slice A_6 d0.fNew.fScopes.length cap_6, .slice A_7 d0.fNew.fNodes.length cap_7, S d0.fText, .slice A_8 d0.fArgs.length cap_8, .slice A_9 d0.fChanges.length cap_9, .slice A_10 d0.fTasks.length cap_10, .int .i8 d0.fPhase, .int .i8 d0.fStatus] 34 (0, 0))) :: H) w_5) ?_ ?_
 ·refine wp_block (RR (Z (v := .agg #[.int .i8 d0.fKind, .int .i64 d0.fWidth, .slice A_1 d0.fOld.fOwned.length cap_1, .slice A_2 d0.fOld.fPending.length cap_2, .slice A_3 d0.fOld.fRetained.length cap_3, .slice A_4 d0.fOld.fOuts.length cap_4, S d0.fOld.fText, .slice A_5 d0.fOld.fArgs.length cap_5, .int .i64 d0.fOld.fCalls, .int .i8 d0.fOld.fStatus, .slice A_6 d0.fNew.fScopes.length cap_6, .slice A_7 d0.fNew.fNodes.length cap_7, S d0.fText, .slice A_8 d0.fArgs.length cap_8, .slice A_9 d0.fChanges.length cap_9, .slice A_10 d0.fTasks.length cap_10, .int .i8 d0.fPhase, .int .i8 d0.fStatus]) f (Y30 (cs := [.int .i8 d0.fKind, .int .i64 d0.fWidth, .slice A_1 d0.fOld.fOwned.length cap_1, .slice A_2 d0.fOld.fPending.length cap_2, .slice A_3 d0.fOld.fRetained.length cap_3, .slice A_4 d0.fOld.fOuts.length cap_4, S d0.fOld.fText, .slice A_5 d0.fOld.fArgs.length cap_5, .int .i64 d0.fOld.fCalls, .int .i8 d0.fOld.fStatus, .slice A_6 d0.fNew.fScopes.length cap_6, .slice A_7 d0.fNew.fNodes.length cap_7, S d0.fText, .slice A_8 d0.fArgs.length cap_8, .slice A_9 d0.fChanges.length cap_9, .slice A_10 d0.fTasks.length cap_10, .int .i8 d0.fPhase, .int .i8 d0.fStatus]) rfl (ad := ⟨b_1, 0, none⟩) (own_cells (p_3.ownCell 2 rfl) 0 rfl)) fun _ f => ?_))
  obtain ⟨x_1, hx_1, hF_2⟩ := bS hj_1
  refine Y17 f p_3 (forward_May_ok n _ _ (⟨d0.fKind, d0.fWidth, (⟨d0.fOld.fOwned, d0.fOld.fPending, d0.fOld.fRetained, d0.fOld.fOuts, d0.fOld.fText, d0.fOld.fArgs, d0.fOld.fCalls, d0.fOld.fStatus⟩ : TF0), (⟨d0.fNew.fScopes, d0.fNew.fNodes⟩ : TL0), d0.fText, d0.fArgs, d0.fChanges, d0.fTasks, d0.fPhase, d0.fStatus⟩ : TK0) (TK0.shut h_1 h_2 h_3 h_4 h_5 h_6 h_7 h_8 h_9 h_10) x_1 hx_1) fun w_4 p_4 _ f => Y f 2 fun _ f => eT (RcF f hF_2 (fun h_11 hF_3 => ?_) fun h_11 hF_4 => ?_)
  ·have k_1 : (x_1) = false := by simpa using h_11
   refine R_reg (Y f 1 fun _ f => W_end rfl (B_n (T_n ?_)))
   exact ⟨(2 : Int), (sI hF_3).symm, M1, (mR _), f.kp, p_4⟩
  ·have k_2 : (x_1) = true := by simpa using h_11
   refine RR (Y f 1 fun _ f => Z f (Y29 (v := .int .i8 d0.fPhase) rfl (ad := ⟨b_1, 16, none⟩) (p_4.ownCell 2 rfl 16)) fun _ f => Y f 2 fun _ f => eT (RcF f hF_4 (fun h_12 hF_5 => ?_) fun h_12 hF_6 => ?_))
   ·have k_3 : ¬ (d0.fPhase = 1) := (not_iff dI).1 h_12
    refine R_reg (Y f 1 fun _ f => W_end rfl (B_n (T_n ?_)))
    exact ⟨(290 : Int), (sI hF_5).symm, M1, (mR _), f.kp, p_4⟩
   ·have k_4 : ¬ (¬ (d0.fPhase = 1)) := iff_f (not_iff dI) h_12
    refine wp_skip (B_n (T_n ?_))
    exact ⟨(4 : Int), (sI hF_6).symm, M1, (mR _), f.kp, p_4⟩
 ·rintro a_14 w_5 ⟨y_1, hq_1, M_1, hM_1, f, p_5⟩
  subst j_1
  refine T_n (R_seq (RR (Z (v := .agg #[.int .i8 d0.fKind, .int .i64 d0.fWidth, .slice A_1 d0.fOld.fOwned.length cap_1, .slice A_2 d0.fOld.fPending.length cap_2, .slice A_3 d0.fOld.fRetained.length cap_3, .slice A_4 d0.fOld.fOuts.length cap_4, S d0.fOld.fText, .slice A_5 d0.fOld.fArgs.length cap_5, .int .i64 d0.fOld.fCalls, .int .i8 d0.fOld.fStatus, .slice A_6 d0.fNew.fScopes.length cap_6, .slice A_7 d0.fNew.fNodes.length cap_7, S d0.fText, .slice A_8 d0.fArgs.length cap_8, .slice A_9 d0.fChanges.length cap_9, .slice A_10 d0.fTasks.length cap_10, .int .i8 d0.fPhase, .int .i8 d0.fStatus]) f (Y30 (cs := [.int .i8 d0.fKind, .int .i64 d0.fWidth, .slice A_1 d0.fOld.fOwned.length cap_1, .slice A_2 d0.fOld.fPending.length cap_2, .slice A_3 d0.fOld.fRetained.length cap_3, .slice A_4 d0.fOld.fOuts.length cap_4, S d0.fOld.fText, .slice A_5 d0.fOld.fArgs.length cap_5, .int .i64 d0.fOld.fCalls, .int .i8 d0.fOld.fStatus, .slice A_6 d0.fNew.fScopes.length cap_6, .slice A_7 d0.fNew.fNodes.length cap_7, S d0.fText, .slice A_8 d0.fArgs.length cap_8, .slice A_9 d0.fChanges.length cap_9, .slice A_10 d0.fTasks.length cap_10, .int .i8 d0.fPhase, .int .i8 d0.fStatus]) rfl (ad := ⟨b_1, 0, none⟩) (own_cells (p_5.ownCell 2 rfl) 0 rfl)) fun _ f => ?_)))
  obtain ⟨x_2, hx_2, hF_7⟩ := bS hF_1
  refine Y16 (E := []) (H := ((Ent.obj b_3 (.cells #[.int .i64 0, .int .i8 0, S [], S [], .slice none 0 0] 42 (0, 0))) :: (Ent.obj b_2 (.cells #[.int .i8 0, .int .i64 0, .slice none 0 0, .slice none 0 0, .slice none 0 0, .slice none 0 0, S [], .slice none 0 0, .int .i64 0, .int .i8 0, .slice none 0 0, .slice none 0 0, S [], .slice none 0 0, .slice none 0 0, .slice none 0 0, .int .i8 0, .int .i8 0] 34 (0, 0))) :: (Ent.obj b_1 (.cells #[.int .i8 d0.fKind, .int .i64 d0.fWidth, .slice A_1 d0.fOld.fOwned.length cap_1, .slice A_2 d0.fOld.fPending.length cap_2, .slice A_3 d0.fOld.fRetained.length cap_3, .slice A_4 d0.fOld.fOuts.length cap_4, S d0.fOld.fText, .slice A_5 d0.fOld.fArgs.length cap_5, .int .i64 d0.fOld.fCalls, .int .i8 d0.fOld.fStatus, .slice A_6 d0.fNew.fScopes.length cap_6, .slice A_7 d0.fNew.fNodes.length cap_7, S d0.fText, .slice A_8 d0.fArgs.length cap_8, .slice A_9 d0.fChanges.length cap_9, .slice A_10 d0.fTasks.length cap_10, .int .i8 d0.fPhase, .int .i8 d0.fStatus] 34 (0, 0))) :: H)) f p_5 (back_Ready_ok n _ _ (⟨d0.fKind, d0.fWidth, (⟨d0.fOld.fOwned, d0.fOld.fPending, d0.fOld.fRetained, d0.fOld.fOuts, d0.fOld.fText, d0.fOld.fArgs, d0.fOld.fCalls, d0.fOld.fStatus⟩ : TF0), (⟨d0.fNew.fScopes, d0.fNew.fNodes⟩ : TL0), d0.fText, d0.fArgs, d0.fChanges, d0.fTasks, d0.fPhase, d0.fStatus⟩ : TK0) (TK0.shut (h_1.mono hM_1) (h_2.mono hM_1) (h_3.mono hM_1) (h_4.mono hM_1) (h_5.mono hM_1) (h_6.mono hM_1) (h_7.mono hM_1) (h_8.mono hM_1) (h_9.mono hM_1) (h_10.mono hM_1)) x_2 hx_2) fun _ M_2 E_1 w_6 hM_2 p_6 q_1 _ f => ?_
  obtain ⟨A_11, cap_11, cs_1, rfl, rfl, hr_1⟩ := q_1
  refine Y f 2 fun _ f => eT (wp_block ?_)
  obtain ⟨b_4, hL_1, hF_8⟩ := bS hF_7
  refine wp_mono (Q := fun e a w => (e = .ret ∧ (∃ y_3 : Int × Int × List UInt8 × List UInt8 × List TE0 × List TR0 × List TR0, b_4 = .inl y_3 ∧ ∃ M_7 : Mem, M_2.le M_7 ∧ ∃ (A_31 : Option Addr), ∃ (cap_32 : Nat), ∃ (A_32 : Option Addr), ∃ (cap_33 : Nat), ∃ (A_33 : Option Addr), ∃ (cap_34 : Nat), Sli M_7 8 emb_TE0 A_31 cap_32 y_3.2.2.2.2.1 ∧ Sli M_7 9 emb_TR0 A_32 cap_33 y_3.2.2.2.2.2.1 ∧ Sli M_7 9 emb_TR0 A_33 cap_34 y_3.2.2.2.2.2.2 ∧ Frm 76 [(4, .pointer (some (⟨b_2, 0, none⟩))), (5, .pointer (some (⟨b_3, 0, none⟩))), (6, .int .i64 0)] a ∧ Hp w0 M_7 ((Ent.obj b_3 (.cells #[.int .i64 y_3.1, .int .i8 y_3.2.1, S y_3.2.2.1, S y_3.2.2.2.1, .slice A_31 y_3.2.2.2.2.1.length cap_32] 42 (0, 0))) :: (Ent.obj b_2 (.cells #[.int .i8 d0.fKind, .int .i64 d0.fWidth, .slice A_1 d0.fOld.fOwned.length cap_1, .slice A_2 d0.fOld.fPending.length cap_2, .slice A_3 d0.fOld.fRetained.length cap_3, .slice A_4 d0.fOld.fOuts.length cap_4, S d0.fOld.fText, .slice A_5 d0.fOld.fArgs.length cap_5, .int .i64 d0.fOld.fCalls, .int .i8 d0.fOld.fStatus, .slice A_6 d0.fNew.fScopes.length cap_6, .slice A_7 d0.fNew.fNodes.length cap_7, S d0.fText, .slice A_8 d0.fArgs.length cap_8, .slice A_9 d0.fChanges.length cap_9, .slice A_32 y_3.2.2.2.2.2.1.length cap_33, .int .i8 d0.fPhase, .int .i8 d0.fStatus] 34 (0, 0))) :: (Ent.obj b_1 (.cells #[.int .i8 d0.fKind, .int .i64 d0.fWidth, .slice A_1 d0.fOld.fOwned.length cap_1, .slice A_2 d0.fOld.fPending.length cap_2, .slice A_3 d0.fOld.fRetained.length cap_3, .slice A_4 d0.fOld.fOuts.length cap_4, S d0.fOld.fText, .slice A_5 d0.fOld.fArgs.length cap_5, .int .i64 d0.fOld.fCalls, .int .i8 d0.fOld.fStatus, .slice A_6 d0.fNew.fScopes.length cap_6, .slice A_7 d0.fNew.fNodes.length cap_7, S d0.fText, .slice A_8 d0.fArgs.length cap_8, .slice A_9 d0.fChanges.length cap_9, .slice A_33 y_3.2.2.2.2.2.2.length cap_34, .int .i8 d0.fPhase, .int .i8 d0.fStatus] 34 (0, 0))) :: (Ent.row 3 1 (.slice A_11 x_2.length cap_11) x_2.length cs_1) :: H) w)) ∨ (e = .exit 1 ∧ (∃ y_4 : Int × Int × List UInt8 × List UInt8 × List TE0 × Int × Int × List TS0 × List TS0 × List TS0 × List TE0 × List UInt8 × List TE0 × Int × Int × List TG0 × List TN0 × List UInt8 × List TE0 × List TC0 × List TR0 × Int × Int × List TR0, b_4 = .inr y_4 ∧ ∃ M_8 : Mem, M_2.le M_8 ∧ ∃ (A_34 : Option Addr), ∃ (cap_35 : Nat), ∃ (A_35 : Option Addr), ∃ (cap_36 : Nat), ∃ (A_36 : Option Addr), ∃ (cap_37 : Nat), ∃ (A_37 : Option Addr), ∃ (cap_38 : Nat), ∃ (A_38 : Option Addr), ∃ (cap_39 : Nat), ∃ (A_39 : Option Addr), ∃ (cap_40 : Nat), ∃ (A_40 : Option Addr), ∃ (cap_41 : Nat), ∃ (A_41 : Option Addr), ∃ (cap_42 : Nat), ∃ (A_42 : Option Addr), ∃ (cap_43 : Nat), ∃ (A_43 : Option Addr), ∃ (cap_44 : Nat), ∃ (A_44 : Option Addr), ∃ (cap_45 : Nat), ∃ (A_45 : Option Addr), ∃ (cap_46 : Nat), Sli M_8 8 emb_TE0 A_34 cap_35 y_4.2.2.2.2.1 ∧ Sli M_8 6 emb_TS0 A_35 cap_36 y_4.2.2.2.2.2.2.2.1 ∧ Sli M_8 6 emb_TS0 A_36 cap_37 y_4.2.2.2.2.2.2.2.2.1 ∧ Sli M_8 6 emb_TS0 A_37 cap_38 y_4.2.2.2.2.2.2.2.2.2.1 ∧ Sli M_8 8 emb_TE0 A_38 cap_39 y_4.2.2.2.2.2.2.2.2.2.2.1 ∧ Sli M_8 8 emb_TE0 A_39 cap_40 y_4.2.2.2.2.2.2.2.2.2.2.2.2.1 ∧ Sli M_8 7 emb_TG0 A_40 cap_41 y_4.2.2.2.2.2.2.2.2.2.2.2.2.2.2.2.1 ∧ Sli M_8 11 emb_TN0 A_41 cap_42 y_4.2.2.2.2.2.2.2.2.2.2.2.2.2.2.2.2.1 ∧ Sli M_8 8 emb_TE0 A_42 cap_43 y_4.2.2.2.2.2.2.2.2.2.2.2.2.2.2.2.2.2.2.1 ∧ Sli M_8 8 emb_TC0 A_43 cap_44 y_4.2.2.2.2.2.2.2.2.2.2.2.2.2.2.2.2.2.2.2.1 ∧ Sli M_8 9 emb_TR0 A_44 cap_45 y_4.2.2.2.2.2.2.2.2.2.2.2.2.2.2.2.2.2.2.2.2.1 ∧ Sli M_8 9 emb_TR0 A_45 cap_46 y_4.2.2.2.2.2.2.2.2.2.2.2.2.2.2.2.2.2.2.2.2.2.2.2 ∧ Frm 76 [(4, .pointer (some (⟨b_2, 0, none⟩))), (5, .pointer (some (⟨b_3, 0, none⟩))), (7, .int .i64 y_1)] a ∧ Hp w0 M_8 ((Ent.row 3 1 (.slice A_11 x_2.length cap_11) x_2.length cs_1) :: (Ent.obj b_3 (.cells #[.int .i64 y_4.1, .int .i8 y_4.2.1, S y_4.2.2.1, S y_4.2.2.2.1, .slice A_34 y_4.2.2.2.2.1.length cap_35] 42 (0, 0))) :: (Ent.obj b_2 (.cells #[.int .i8 y_4.2.2.2.2.2.1, .int .i64 y_4.2.2.2.2.2.2.1, .slice A_35 y_4.2.2.2.2.2.2.2.1.length cap_36, .slice A_36 y_4.2.2.2.2.2.2.2.2.1.length cap_37, .slice A_37 y_4.2.2.2.2.2.2.2.2.2.1.length cap_38, .slice A_38 y_4.2.2.2.2.2.2.2.2.2.2.1.length cap_39, S y_4.2.2.2.2.2.2.2.2.2.2.2.1, .slice A_39 y_4.2.2.2.2.2.2.2.2.2.2.2.2.1.length cap_40, .int .i64 y_4.2.2.2.2.2.2.2.2.2.2.2.2.2.1, .int .i8 y_4.2.2.2.2.2.2.2.2.2.2.2.2.2.2.1, .slice A_40 y_4.2.2.2.2.2.2.2.2.2.2.2.2.2.2.2.1.length cap_41, .slice A_41 y_4.2.2.2.2.2.2.2.2.2.2.2.2.2.2.2.2.1.length cap_42, S y_4.2.2.2.2.2.2.2.2.2.2.2.2.2.2.2.2.2.1, .slice A_42 y_4.2.2.2.2.2.2.2.2.2.2.2.2.2.2.2.2.2.2.1.length cap_43, .slice A_43 y_4.2.2.2.2.2.2.2.2.2.2.2.2.2.2.2.2.2.2.2.1.length cap_44, .slice A_44 y_4.2.2.2.2.2.2.2.2.2.2.2.2.2.2.2.2.2.2.2.2.1.length cap_45, .int .i8 y_4.2.2.2.2.2.2.2.2.2.2.2.2.2.2.2.2.2.2.2.2.2.1, .int .i8 y_4.2.2.2.2.2.2.2.2.2.2.2.2.2.2.2.2.2.2.2.2.2.2.1] 34 (0, 0))) :: (Ent.obj b_1 (.cells #[.int .i8 d0.fKind, .int .i64 d0.fWidth, .slice A_1 d0.fOld.fOwned.length cap_1, .slice A_2 d0.fOld.fPending.length cap_2, .slice A_3 d0.fOld.fRetained.length cap_3, .slice A_4 d0.fOld.fOuts.length cap_4, S d0.fOld.fText, .slice A_5 d0.fOld.fArgs.length cap_5, .int .i64 d0.fOld.fCalls, .int .i8 d0.fOld.fStatus, .slice A_6 d0.fNew.fScopes.length cap_6, .slice A_7 d0.fNew.fNodes.length cap_7, S d0.fText, .slice A_8 d0.fArgs.length cap_8, .slice A_9 d0.fChanges.length cap_9, .slice A_45 y_4.2.2.2.2.2.2.2.2.2.2.2.2.2.2.2.2.2.2.2.2.2.2.2.length cap_46, .int .i8 d0.fPhase, .int .i8 d0.fStatus] 34 (0, 0))) :: H) w))) (R_loop (n := 76) (w0 := w0) (M := M_2) (fun (x : Nat × (Int × List TR0 × Int × Int × List TS0 × List TS0 × List TS0 × List TE0 × List UInt8 × List TE0 × Int × Int × List TG0 × List TN0 × List UInt8 × List TE0 × List TC0 × List TR0 × Int × Int × Int × Int × List UInt8 × List UInt8 × List TE0) × (Option Addr) × Nat × (Option Addr) × Nat × (Option Addr) × Nat × (Option Addr) × Nat × (Option Addr) × Nat × (Option Addr) × Nat × (Option Addr) × Nat × (Option Addr) × Nat × (Option Addr) × Nat × (Option Addr) × Nat × (Option Addr) × Nat × (Option Addr) × Nat) => match x with | (m_1, s_1, A_12, cap_12, A_13, cap_13, A_14, cap_14, A_15, cap_15, A_16, cap_16, A_17, cap_17, A_18, cap_18, A_19, cap_19, A_20, cap_20, A_21, cap_21, A_22, cap_22, A_23, cap_23) => [(1, .int .i64 d1), (2, .pointer (some (⟨b_1, 0, none⟩))), (4, .pointer (some (⟨b_2, 0, none⟩))), (5, .pointer (some (⟨b_3, 0, none⟩))), (7, .int .i64 y_1), (22, .slice A_11 x_2.length cap_11), (23, .int .i64 ((x_2.length : Nat) : Int)), (24, .int .i64 s_1.1)]) (fun (x : Nat × (Int × List TR0 × Int × Int × List TS0 × List TS0 × List TS0 × List TE0 × List UInt8 × List TE0 × Int × Int × List TG0 × List TN0 × List UInt8 × List TE0 × List TC0 × List TR0 × Int × Int × Int × Int × List UInt8 × List UInt8 × List TE0) × (Option Addr) × Nat × (Option Addr) × Nat × (Option Addr) × Nat × (Option Addr) × Nat × (Option Addr) × Nat × (Option Addr) × Nat × (Option Addr) × Nat × (Option Addr) × Nat × (Option Addr) × Nat × (Option Addr) × Nat × (Option Addr) × Nat × (Option Addr) × Nat) => match x with | (m_1, s_1, A_12, cap_12, A_13, cap_13, A_14, cap_14, A_15, cap_15, A_16, cap_16, A_17, cap_17, A_18, cap_18, A_19, cap_19, A_20, cap_20, A_21, cap_21, A_22, cap_22, A_23, cap_23) => ((Ent.row 3 1 (.slice A_11 x_2.length cap_11) x_2.length cs_1) :: (Ent.obj b_3 (.cells #[.int .i64 s_1.2.2.2.2.2.2.2.2.2.2.2.2.2.2.2.2.2.2.2.2.1, .int .i8 s_1.2.2.2.2.2.2.2.2.2.2.2.2.2.2.2.2.2.2.2.2.2.1, S s_1.2.2.2.2.2.2.2.2.2.2.2.2.2.2.2.2.2.2.2.2.2.2.1, S s_1.2.2.2.2.2.2.2.2.2.2.2.2.2.2.2.2.2.2.2.2.2.2.2.1, .slice A_23 s_1.2.2.2.2.2.2.2.2.2.2.2.2.2.2.2.2.2.2.2.2.2.2.2.2.length cap_23] 42 (0, 0))) :: (Ent.obj b_2 (.cells #[.int .i8 s_1.2.2.1, .int .i64 s_1.2.2.2.1, .slice A_13 s_1.2.2.2.2.1.length cap_13, .slice A_14 s_1.2.2.2.2.2.1.length cap_14, .slice A_15 s_1.2.2.2.2.2.2.1.length cap_15, .slice A_16 s_1.2.2.2.2.2.2.2.1.length cap_16, S s_1.2.2.2.2.2.2.2.2.1, .slice A_17 s_1.2.2.2.2.2.2.2.2.2.1.length cap_17, .int .i64 s_1.2.2.2.2.2.2.2.2.2.2.1, .int .i8 s_1.2.2.2.2.2.2.2.2.2.2.2.1, .slice A_18 s_1.2.2.2.2.2.2.2.2.2.2.2.2.1.length cap_18, .slice A_19 s_1.2.2.2.2.2.2.2.2.2.2.2.2.2.1.length cap_19, S s_1.2.2.2.2.2.2.2.2.2.2.2.2.2.2.1, .slice A_20 s_1.2.2.2.2.2.2.2.2.2.2.2.2.2.2.2.1.length cap_20, .slice A_21 s_1.2.2.2.2.2.2.2.2.2.2.2.2.2.2.2.2.1.length cap_21, .slice A_22 s_1.2.2.2.2.2.2.2.2.2.2.2.2.2.2.2.2.2.1.length cap_22, .int .i8 s_1.2.2.2.2.2.2.2.2.2.2.2.2.2.2.2.2.2.2.1, .int .i8 s_1.2.2.2.2.2.2.2.2.2.2.2.2.2.2.2.2.2.2.2.1] 34 (0, 0))) :: (Ent.obj b_1 (.cells #[.int .i8 d0.fKind, .int .i64 d0.fWidth, .slice A_1 d0.fOld.fOwned.length cap_1, .slice A_2 d0.fOld.fPending.length cap_2, .slice A_3 d0.fOld.fRetained.length cap_3, .slice A_4 d0.fOld.fOuts.length cap_4, S d0.fOld.fText, .slice A_5 d0.fOld.fArgs.length cap_5, .int .i64 d0.fOld.fCalls, .int .i8 d0.fOld.fStatus, .slice A_6 d0.fNew.fScopes.length cap_6, .slice A_7 d0.fNew.fNodes.length cap_7, S d0.fText, .slice A_8 d0.fArgs.length cap_8, .slice A_9 d0.fChanges.length cap_9, .slice A_12 s_1.2.1.length cap_12, .int .i8 d0.fPhase, .int .i8 d0.fStatus] 34 (0, 0))) :: H)) (fun (x : Nat × (Int × List TR0 × Int × Int × List TS0 × List TS0 × List TS0 × List TE0 × List UInt8 × List TE0 × Int × Int × List TG0 × List TN0 × List UInt8 × List TE0 × List TC0 × List TR0 × Int × Int × Int × Int × List UInt8 × List UInt8 × List TE0) × (Option Addr) × Nat × (Option Addr) × Nat × (Option Addr) × Nat × (Option Addr) × Nat × (Option Addr) × Nat × (Option Addr) × Nat × (Option Addr) × Nat × (Option Addr) × Nat × (Option Addr) × Nat × (Option Addr) × Nat × (Option Addr) × Nat × (Option Addr) × Nat) (MM : Mem) => match x with | (m_1, s_1, A_12, cap_12, A_13, cap_13, A_14, cap_14, A_15, cap_15, A_16, cap_16, A_17, cap_17, A_18, cap_18, A_19, cap_19, A_20, cap_20, A_21, cap_21, A_22, cap_22, A_23, cap_23) => loopF (back_Start_s1 n d0 d1 x_2) m_1 s_1 = some b_4 ∧ Sli MM 9 emb_TR0 A_12 cap_12 s_1.2.1 ∧ Sli MM 6 emb_TS0 A_13 cap_13 s_1.2.2.2.2.1 ∧ Sli MM 6 emb_TS0 A_14 cap_14 s_1.2.2.2.2.2.1 ∧ Sli MM 6 emb_TS0 A_15 cap_15 s_1.2.2.2.2.2.2.1 ∧ Sli MM 8 emb_TE0 A_16 cap_16 s_1.2.2.2.2.2.2.2.1 ∧ Sli MM 8 emb_TE0 A_17 cap_17 s_1.2.2.2.2.2.2.2.2.2.1 ∧ Sli MM 7 emb_TG0 A_18 cap_18 s_1.2.2.2.2.2.2.2.2.2.2.2.2.1 ∧ Sli MM 11 emb_TN0 A_19 cap_19 s_1.2.2.2.2.2.2.2.2.2.2.2.2.2.1 ∧ Sli MM 8 emb_TE0 A_20 cap_20 s_1.2.2.2.2.2.2.2.2.2.2.2.2.2.2.2.1 ∧ Sli MM 8 emb_TC0 A_21 cap_21 s_1.2.2.2.2.2.2.2.2.2.2.2.2.2.2.2.2.1 ∧ Sli MM 9 emb_TR0 A_22 cap_22 s_1.2.2.2.2.2.2.2.2.2.2.2.2.2.2.2.2.2.1 ∧ Sli MM 8 emb_TE0 A_23 cap_23 s_1.2.2.2.2.2.2.2.2.2.2.2.2.2.2.2.2.2.2.2.2.2.2.2.2) (fun (x : Nat × (Int × List TR0 × Int × Int × List TS0 × List TS0 × List TS0 × List TE0 × List UInt8 × List TE0 × Int × Int × List TG0 × List TN0 × List UInt8 × List TE0 × List TC0 × List TR0 × Int × Int × Int × Int × List UInt8 × List UInt8 × List TE0) × (Option Addr) × Nat × (Option Addr) × Nat × (Option Addr) × Nat × (Option Addr) × Nat × (Option Addr) × Nat × (Option Addr) × Nat × (Option Addr) × Nat × (Option Addr) × Nat × (Option Addr) × Nat × (Option Addr) × Nat × (Option Addr) × Nat × (Option Addr) × Nat) => match x with | (m_1, s_1, A_12, cap_12, A_13, cap_13, A_14, cap_14, A_15, cap_15, A_16, cap_16, A_17, cap_17, A_18, cap_18, A_19, cap_19, A_20, cap_20, A_21, cap_21, A_22, cap_22, A_23, cap_23) => m_1) (n, ((0 : Int), d0.fTasks, (0 : Int), (0 : Int), ([] : List TS0), ([] : List TS0), ([] : List TS0), ([] : List TE0), ([] : List UInt8), ([] : List TE0), (0 : Int), (0 : Int), ([] : List TG0), ([] : List TN0), ([] : List UInt8), ([] : List TE0), ([] : List TC0), ([] : List TR0), (0 : Int), (0 : Int), (0 : Int), (0 : Int), ([] : List UInt8), ([] : List UInt8), ([] : List TE0)), A_10, cap_10, none, 0, none, 0, none, 0, none, 0, none, 0, none, 0, none, 0, none, 0, none, 0, none, 0, none, 0) (f.kp) p_6 ⟨hL_1, (h_10.mono (hM_1.trans hM_2)), Sli.nil, Sli.nil, Sli.nil, Sli.nil, Sli.nil, Sli.nil, Sli.nil, Sli.nil, Sli.nil, Sli.nil, Sli.nil⟩ ?_) ?_
  ·rintro ⟨m_1, s_1, A_12, cap_12, A_13, cap_13, A_14, cap_14, A_15, cap_15, A_16, cap_16, A_17, cap_17, A_18, cap_18, A_19, cap_19, A_20, cap_20, A_21, cap_21, A_22, cap_22, A_23, cap_23⟩ M_3 _ w_7 hM_3 I_1 f p_7
   obtain ⟨I_1L, h_13, h_14, h_15, h_16, h_17, h_18, h_19, h_20, h_21, h_22, h_23, h_24⟩ := I_1
   obtain ⟨m_2, r_1, rfl, hs_1, hn_1⟩ := loop_step I_1L
   unfold back_Start_s1 at hs_1
   refine RR (Y f 1 fun _ f => eT (R_seq (RcF f hs_1 (fun h_25 hF_9 => ?_) fun h_25 hF_21 => ?_)))
   ·have k_5 := dI.1 h_25
    refine wp_skip (T_n (R_seq (wp_block (RR ?_))))
    obtain ⟨x_3, hx_3, hF_10⟩ := bS hF_9
    obtain ⟨b_5, cap_24, hv_1, hcap_1⟩ := p_7.rowAddr 0 rfl (getI_pos hx_3)
    have f := f.st 22 (hv_1)
    refine Z f (Y27 rfl (ad := ⟨b_5, 0, none⟩) (len := x_2.length) (cap := cap_24) (k := .i64) (i := s_1.1) (e := 3) (sz := 1) (getI_nn hx_3) (getI_lt hx_3)) fun _ f => ?_
    have f := f.st 22 (hv_1.symm)
    obtain ⟨c_1, -, hr_2, hc_1⟩ := RepSeq.get s_1.1.toNat (szd_all (szd_int .i64)) (RepSeq.mono hM_3 _ _ hr_1) (getI_map hx_3)
    obtain rfl : c_1 = [.int .i64 x_3] := hr_2
    refine Z f (Y29 (v := .int .i64 x_3) rfl (ad := (⟨b_5, 0, none⟩ : Addr).add (s_1.1.toNat * 1)) (by simpa [Addr.add] using (fun j v h => row_at (p_7.rowCell 0 rfl hv_1) hc_1 j v h) 0 _ rfl)) fun _ f => Y f 1 fun _ f => eT (R_seq (RR (Y f 3 fun _ f => eT (RcF f hF_10 (fun h_26 hF_11 => ?_) fun h_26 hF_13 => ?_))))
    ·have k_6 : ¬ (x_3 = d1) := (not_iff dI).1 h_26
     refine wp_exit (T_x (B_x (T_n (R_reg ?_))))
     obtain ⟨g_1, hF_12⟩ := nS hF_11
     refine Y f 1 fun _ f => ?_
     have f := f.st 72 (congrArg (Value.int .i64) (inR_wrap g_1))
     refine Y f 1 fun _ f => eT ?_
     obtain rfl := sI hF_12
     exact ⟨⟨m_2, (s_1.1 + 1, s_1.2.1, s_1.2.2.1, s_1.2.2.2.1, s_1.2.2.2.2.1, s_1.2.2.2.2.2.1, s_1.2.2.2.2.2.2.1, s_1.2.2.2.2.2.2.2.1, s_1.2.2.2.2.2.2.2.2.1, s_1.2.2.2.2.2.2.2.2.2.1, s_1.2.2.2.2.2.2.2.2.2.2.1, s_1.2.2.2.2.2.2.2.2.2.2.2.1, s_1.2.2.2.2.2.2.2.2.2.2.2.2.1, s_1.2.2.2.2.2.2.2.2.2.2.2.2.2.1, s_1.2.2.2.2.2.2.2.2.2.2.2.2.2.2.1, s_1.2.2.2.2.2.2.2.2.2.2.2.2.2.2.2.1, s_1.2.2.2.2.2.2.2.2.2.2.2.2.2.2.2.2.1, s_1.2.2.2.2.2.2.2.2.2.2.2.2.2.2.2.2.2.1, s_1.2.2.2.2.2.2.2.2.2.2.2.2.2.2.2.2.2.2.1, s_1.2.2.2.2.2.2.2.2.2.2.2.2.2.2.2.2.2.2.2.1, s_1.2.2.2.2.2.2.2.2.2.2.2.2.2.2.2.2.2.2.2.2.1, s_1.2.2.2.2.2.2.2.2.2.2.2.2.2.2.2.2.2.2.2.2.2.1, s_1.2.2.2.2.2.2.2.2.2.2.2.2.2.2.2.2.2.2.2.2.2.2.1, s_1.2.2.2.2.2.2.2.2.2.2.2.2.2.2.2.2.2.2.2.2.2.2.2.1, s_1.2.2.2.2.2.2.2.2.2.2.2.2.2.2.2.2.2.2.2.2.2.2.2.2), A_12, cap_12, A_13, cap_13, A_14, cap_14, A_15, cap_15, A_16, cap_16, A_17, cap_17, A_18, cap_18, A_19, cap_19, A_20, cap_20, A_21, cap_21, A_22, cap_22, A_23, cap_23⟩, Nat.lt_succ_self _, M_3, hM_3, ⟨hn_1, h_13, h_14, h_15, h_16, h_17, h_18, h_19, h_20, h_21, h_22, h_23, h_24⟩, f.kp, p_7⟩
    ·have k_7 : ¬ (¬ (x_3 = d1)) := iff_f (not_iff dI) h_26
     refine wp_skip (T_n (RR (Z (v := .agg #[.int .i8 d0.fKind, .int .i64 d0.fWidth, .slice A_1 d0.fOld.fOwned.length cap_1, .slice A_2 d0.fOld.fPending.length cap_2, .slice A_3 d0.fOld.fRetained.length cap_3, .slice A_4 d0.fOld.fOuts.length cap_4, S d0.fOld.fText, .slice A_5 d0.fOld.fArgs.length cap_5, .int .i64 d0.fOld.fCalls, .int .i8 d0.fOld.fStatus, .slice A_6 d0.fNew.fScopes.length cap_6, .slice A_7 d0.fNew.fNodes.length cap_7, S d0.fText, .slice A_8 d0.fArgs.length cap_8, .slice A_9 d0.fChanges.length cap_9, .slice A_12 s_1.2.1.length cap_12, .int .i8 d0.fPhase, .int .i8 d0.fStatus]) f (Y30 (cs := [.int .i8 d0.fKind, .int .i64 d0.fWidth, .slice A_1 d0.fOld.fOwned.length cap_1, .slice A_2 d0.fOld.fPending.length cap_2, .slice A_3 d0.fOld.fRetained.length cap_3, .slice A_4 d0.fOld.fOuts.length cap_4, S d0.fOld.fText, .slice A_5 d0.fOld.fArgs.length cap_5, .int .i64 d0.fOld.fCalls, .int .i8 d0.fOld.fStatus, .slice A_6 d0.fNew.fScopes.length cap_6, .slice A_7 d0.fNew.fNodes.length cap_7, S d0.fText, .slice A_8 d0.fArgs.length cap_8, .slice A_9 d0.fChanges.length cap_9, .slice A_12 s_1.2.1.length cap_12, .int .i8 d0.fPhase, .int .i8 d0.fStatus]) rfl (ad := ⟨b_1, 0, none⟩) (own_cells (p_7.ownCell 3 rfl) 0 rfl)) fun _ f => Y f 2 fun _ f => Y11 f p_7 (.cells #[.int .i8 0, .int .i64 0, .slice none 0 0, .slice none 0 0, .slice none 0 0, .slice none 0 0, S [], .slice none 0 0, .int .i64 0, .int .i8 0, .slice none 0 0, .slice none 0 0, S [], .slice none 0 0, .slice none 0 0, .slice none 0 0, .int .i8 0, .int .i8 0, .int .i64 0] 122 (0, 0)) fun b_6 w_8 p_8 _ f => Y26 (vs := [.int .i8 d0.fKind, .int .i64 d0.fWidth, .slice A_1 d0.fOld.fOwned.length cap_1, .slice A_2 d0.fOld.fPending.length cap_2, .slice A_3 d0.fOld.fRetained.length cap_3, .slice A_4 d0.fOld.fOuts.length cap_4, S d0.fOld.fText, .slice A_5 d0.fOld.fArgs.length cap_5, .int .i64 d0.fOld.fCalls, .int .i8 d0.fOld.fStatus, .slice A_6 d0.fNew.fScopes.length cap_6, .slice A_7 d0.fNew.fNodes.length cap_7, S d0.fText, .slice A_8 d0.fArgs.length cap_8, .slice A_9 d0.fChanges.length cap_9, .slice A_12 s_1.2.1.length cap_12, .int .i8 d0.fPhase, .int .i8 d0.fStatus, .int .i64 d1]) (j := 0) f p_8 rfl rfl (by simp [Value.oneCell', S]) (by simp) (by decide) (cs' := #[.int .i8 d0.fKind, .int .i64 d0.fWidth, .slice A_1 d0.fOld.fOwned.length cap_1, .slice A_2 d0.fOld.fPending.length cap_2, .slice A_3 d0.fOld.fRetained.length cap_3, .slice A_4 d0.fOld.fOuts.length cap_4, S d0.fOld.fText, .slice A_5 d0.fOld.fArgs.length cap_5, .int .i64 d0.fOld.fCalls, .int .i8 d0.fOld.fStatus, .slice A_6 d0.fNew.fScopes.length cap_6, .slice A_7 d0.fNew.fNodes.length cap_7, S d0.fText, .slice A_8 d0.fArgs.length cap_8, .slice A_9 d0.fChanges.length cap_9, .slice A_12 s_1.2.1.length cap_12, .int .i8 d0.fPhase, .int .i8 d0.fStatus, .int .i64 d1]) fun w_9 p_9 _ f => eT (RR (Z (v := .agg #[.int .i8 d0.fKind, .int .i64 d0.fWidth, .slice A_1 d0.fOld.fOwned.length cap_1, .slice A_2 d0.fOld.fPending.length cap_2, .slice A_3 d0.fOld.fRetained.length cap_3, .slice A_4 d0.fOld.fOuts.length cap_4, S d0.fOld.fText, .slice A_5 d0.fOld.fArgs.length cap_5, .int .i64 d0.fOld.fCalls, .int .i8 d0.fOld.fStatus, .slice A_6 d0.fNew.fScopes.length cap_6, .slice A_7 d0.fNew.fNodes.length cap_7, S d0.fText, .slice A_8 d0.fArgs.length cap_8, .slice A_9 d0.fChanges.length cap_9, .slice A_12 s_1.2.1.length cap_12, .int .i8 d0.fPhase, .int .i8 d0.fStatus, .int .i64 d1]) f (Y30 (cs := [.int .i8 d0.fKind, .int .i64 d0.fWidth, .slice A_1 d0.fOld.fOwned.length cap_1, .slice A_2 d0.fOld.fPending.length cap_2, .slice A_3 d0.fOld.fRetained.length cap_3, .slice A_4 d0.fOld.fOuts.length cap_4, S d0.fOld.fText, .slice A_5 d0.fOld.fArgs.length cap_5, .int .i64 d0.fOld.fCalls, .int .i8 d0.fOld.fStatus, .slice A_6 d0.fNew.fScopes.length cap_6, .slice A_7 d0.fNew.fNodes.length cap_7, S d0.fText, .slice A_8 d0.fArgs.length cap_8, .slice A_9 d0.fChanges.length cap_9, .slice A_12 s_1.2.1.length cap_12, .int .i8 d0.fPhase, .int .i8 d0.fStatus, .int .i64 d1]) rfl (ad := ⟨b_6, 0, none⟩) (own_cells (p_9.ownCell 0 rfl) 0 rfl)) fun _ f => Y f 1 fun _ f => Z (v := .agg #[.int .i8 d0.fKind, .int .i64 d0.fWidth, .slice A_1 d0.fOld.fOwned.length cap_1, .slice A_2 d0.fOld.fPending.length cap_2, .slice A_3 d0.fOld.fRetained.length cap_3, .slice A_4 d0.fOld.fOuts.length cap_4, S d0.fOld.fText, .slice A_5 d0.fOld.fArgs.length cap_5, .int .i64 d0.fOld.fCalls, .int .i8 d0.fOld.fStatus, .slice A_6 d0.fNew.fScopes.length cap_6, .slice A_7 d0.fNew.fNodes.length cap_7, S d0.fText, .slice A_8 d0.fArgs.length cap_8, .slice A_9 d0.fChanges.length cap_9, .slice A_12 s_1.2.1.length cap_12, .int .i8 d0.fPhase, .int .i8 d0.fStatus, .int .i64 d1]) f (Y30 (cs := [.int .i8 d0.fKind, .int .i64 d0.fWidth, .slice A_1 d0.fOld.fOwned.length cap_1, .slice A_2 d0.fOld.fPending.length cap_2, .slice A_3 d0.fOld.fRetained.length cap_3, .slice A_4 d0.fOld.fOuts.length cap_4, S d0.fOld.fText, .slice A_5 d0.fOld.fArgs.length cap_5, .int .i64 d0.fOld.fCalls, .int .i8 d0.fOld.fStatus, .slice A_6 d0.fNew.fScopes.length cap_6, .slice A_7 d0.fNew.fNodes.length cap_7, S d0.fText, .slice A_8 d0.fArgs.length cap_8, .slice A_9 d0.fChanges.length cap_9, .slice A_12 s_1.2.1.length cap_12, .int .i8 d0.fPhase, .int .i8 d0.fStatus, .int .i64 d1]) rfl (ad := ⟨b_6, 0, none⟩) (own_cells (p_9.ownCell 0 rfl) 0 rfl)) fun _ f => Y f 1 fun _ f => Z (v := .agg #[.int .i8 d0.fKind, .int .i64 d0.fWidth, .slice A_1 d0.fOld.fOwned.length cap_1, .slice A_2 d0.fOld.fPending.length cap_2, .slice A_3 d0.fOld.fRetained.length cap_3, .slice A_4 d0.fOld.fOuts.length cap_4, S d0.fOld.fText, .slice A_5 d0.fOld.fArgs.length cap_5, .int .i64 d0.fOld.fCalls, .int .i8 d0.fOld.fStatus, .slice A_6 d0.fNew.fScopes.length cap_6, .slice A_7 d0.fNew.fNodes.length cap_7, S d0.fText, .slice A_8 d0.fArgs.length cap_8, .slice A_9 d0.fChanges.length cap_9, .slice A_12 s_1.2.1.length cap_12, .int .i8 d0.fPhase, .int .i8 d0.fStatus, .int .i64 d1]) f (Y30 (cs := [.int .i8 d0.fKind, .int .i64 d0.fWidth, .slice A_1 d0.fOld.fOwned.length cap_1, .slice A_2 d0.fOld.fPending.length cap_2, .slice A_3 d0.fOld.fRetained.length cap_3, .slice A_4 d0.fOld.fOuts.length cap_4, S d0.fOld.fText, .slice A_5 d0.fOld.fArgs.length cap_5, .int .i64 d0.fOld.fCalls, .int .i8 d0.fOld.fStatus, .slice A_6 d0.fNew.fScopes.length cap_6, .slice A_7 d0.fNew.fNodes.length cap_7, S d0.fText, .slice A_8 d0.fArgs.length cap_8, .slice A_9 d0.fChanges.length cap_9, .slice A_12 s_1.2.1.length cap_12, .int .i8 d0.fPhase, .int .i8 d0.fStatus, .int .i64 d1]) rfl (ad := ⟨b_6, 0, none⟩) (own_cells (p_9.ownCell 0 rfl) 0 rfl)) fun _ f => ?_)))))
     refine Y f 2 fun _ f => Y11 f p_9 (.cells #[.nilFunc, .nilFunc, .nilFunc, .nilFunc] 124 (0, 0)) fun b_7 w_10 p_10 _ f => Y26 (vs := [.nilFunc, .func (.func 62) #[.agg #[.int .i8 d0.fKind, .int .i64 d0.fWidth, .slice A_1 d0.fOld.fOwned.length cap_1, .slice A_2 d0.fOld.fPending.length cap_2, .slice A_3 d0.fOld.fRetained.length cap_3, .slice A_4 d0.fOld.fOuts.length cap_4, S d0.fOld.fText, .slice A_5 d0.fOld.fArgs.length cap_5, .int .i64 d0.fOld.fCalls, .int .i8 d0.fOld.fStatus, .slice A_6 d0.fNew.fScopes.length cap_6, .slice A_7 d0.fNew.fNodes.length cap_7, S d0.fText, .slice A_8 d0.fArgs.length cap_8, .slice A_9 d0.fChanges.length cap_9, .slice A_12 s_1.2.1.length cap_12, .int .i8 d0.fPhase, .int .i8 d0.fStatus, .int .i64 d1]] #[], .func (.func 63) #[.agg #[.int .i8 d0.fKind, .int .i64 d0.fWidth, .slice A_1 d0.fOld.fOwned.length cap_1, .slice A_2 d0.fOld.fPending.length cap_2, .slice A_3 d0.fOld.fRetained.length cap_3, .slice A_4 d0.fOld.fOuts.length cap_4, S d0.fOld.fText, .slice A_5 d0.fOld.fArgs.length cap_5, .int .i64 d0.fOld.fCalls, .int .i8 d0.fOld.fStatus, .slice A_6 d0.fNew.fScopes.length cap_6, .slice A_7 d0.fNew.fNodes.length cap_7, S d0.fText, .slice A_8 d0.fArgs.length cap_8, .slice A_9 d0.fChanges.length cap_9, .slice A_12 s_1.2.1.length cap_12, .int .i8 d0.fPhase, .int .i8 d0.fStatus, .int .i64 d1]] #[], .func (.func 62) #[.agg #[.int .i8 d0.fKind, .int .i64 d0.fWidth, .slice A_1 d0.fOld.fOwned.length cap_1, .slice A_2 d0.fOld.fPending.length cap_2, .slice A_3 d0.fOld.fRetained.length cap_3, .slice A_4 d0.fOld.fOuts.length cap_4, S d0.fOld.fText, .slice A_5 d0.fOld.fArgs.length cap_5, .int .i64 d0.fOld.fCalls, .int .i8 d0.fOld.fStatus, .slice A_6 d0.fNew.fScopes.length cap_6, .slice A_7 d0.fNew.fNodes.length cap_7, S d0.fText, .slice A_8 d0.fArgs.length cap_8, .slice A_9 d0.fChanges.length cap_9, .slice A_12 s_1.2.1.length cap_12, .int .i8 d0.fPhase, .int .i8 d0.fStatus, .int .i64 d1]] #[]]) (j := 0) f p_10 rfl rfl (by simp [Value.oneCell', S]) (by simp) (by decide) (cs' := #[.nilFunc, .func (.func 62) #[.agg #[.int .i8 d0.fKind, .int .i64 d0.fWidth, .slice A_1 d0.fOld.fOwned.length cap_1, .slice A_2 d0.fOld.fPending.length cap_2, .slice A_3 d0.fOld.fRetained.length cap_3, .slice A_4 d0.fOld.fOuts.length cap_4, S d0.fOld.fText, .slice A_5 d0.fOld.fArgs.length cap_5, .int .i64 d0.fOld.fCalls, .int .i8 d0.fOld.fStatus, .slice A_6 d0.fNew.fScopes.length cap_6, .slice A_7 d0.fNew.fNodes.length cap_7, S d0.fText, .slice A_8 d0.fArgs.length cap_8, .slice A_9 d0.fChanges.length cap_9, .slice A_12 s_1.2.1.length cap_12, .int .i8 d0.fPhase, .int .i8 d0.fStatus, .int .i64 d1]] #[], .func (.func 63) #[.agg #[.int .i8 d0.fKind, .int .i64 d0.fWidth, .slice A_1 d0.fOld.fOwned.length cap_1, .slice A_2 d0.fOld.fPending.length cap_2, .slice A_3 d0.fOld.fRetained.length cap_3, .slice A_4 d0.fOld.fOuts.length cap_4, S d0.fOld.fText, .slice A_5 d0.fOld.fArgs.length cap_5, .int .i64 d0.fOld.fCalls, .int .i8 d0.fOld.fStatus, .slice A_6 d0.fNew.fScopes.length cap_6, .slice A_7 d0.fNew.fNodes.length cap_7, S d0.fText, .slice A_8 d0.fArgs.length cap_8, .slice A_9 d0.fChanges.length cap_9, .slice A_12 s_1.2.1.length cap_12, .int .i8 d0.fPhase, .int .i8 d0.fStatus, .int .i64 d1]] #[], .func (.func 62) #[.agg #[.int .i8 d0.fKind, .int .i64 d0.fWidth, .slice A_1 d0.fOld.fOwned.length cap_1, .slice A_2 d0.fOld.fPending.length cap_2, .slice A_3 d0.fOld.fRetained.length cap_3, .slice A_4 d0.fOld.fOuts.length cap_4, S d0.fOld.fText, .slice A_5 d0.fOld.fArgs.length cap_5, .int .i64 d0.fOld.fCalls, .int .i8 d0.fOld.fStatus, .slice A_6 d0.fNew.fScopes.length cap_6, .slice A_7 d0.fNew.fNodes.length cap_7, S d0.fText, .slice A_8 d0.fArgs.length cap_8, .slice A_9 d0.fChanges.length cap_9, .slice A_12 s_1.2.1.length cap_12, .int .i8 d0.fPhase, .int .i8 d0.fStatus, .int .i64 d1]] #[]]) fun w_11 p_11 _ f => eT (RR (Y f 1 fun _ f => Z f (Y29 (v := .slice A_9 d0.fChanges.length cap_9) rfl (ad := ⟨b_1, 14, none⟩) (p_11.ownCell 5 rfl 14)) fun _ f => Y f 1 fun _ f => ?_))
     obtain ⟨x_4, hx_4, hF_14⟩ := bS hF_13
     obtain ⟨ad_1, c_2, e_1, -, hr_3, hc_2⟩ := Sli.at_ (h_9.mono ((hM_1.trans hM_2).trans hM_3)) hx_4
     obtain ⟨A_24, cap_25, A_25, cap_26, rfl, h_27, h_28⟩ := TC0.opn hr_3
     refine Z f (Y28 e_1 rfl (len := d0.fChanges.length) (cap := cap_9) (k := .i64) (i := d1) (e := 72) (sz := 8) (getI_nn hx_4) (getI_lt hx_4)) fun _ f => Y f 1 fun _ f => Y14 f p_11 hc_2 1 rfl fun _ f => ?_
     obtain ⟨g_2, hF_15⟩ := nS hF_14
     have f := Frm.set f 46 (v := .int .i8 x_4.fKind) (v' := .int .i8 1) (by kernel_rfl) (congrArg (Value.int .i8) g_2)
     refine Z (v := .pointer (some (⟨b_7, 1, none⟩))) f (X_indexAddrP rfl (ad := ⟨b_7, 0, none⟩) (len := 4) (k := .i8) (i := 1) (by kernel_rfl) (by kernel_rfl) (e := 123) (by kernel_rfl) (sz := 1) (by kernel_rfl) (by decide) (by decide)) fun _ f => Z f (Y29 (v := .func (.func 62) #[.agg #[.int .i8 d0.fKind, .int .i64 d0.fWidth, .slice A_1 d0.fOld.fOwned.length cap_1, .slice A_2 d0.fOld.fPending.length cap_2, .slice A_3 d0.fOld.fRetained.length cap_3, .slice A_4 d0.fOld.fOuts.length cap_4, S d0.fOld.fText, .slice A_5 d0.fOld.fArgs.length cap_5, .int .i64 d0.fOld.fCalls, .int .i8 d0.fOld.fStatus, .slice A_6 d0.fNew.fScopes.length cap_6, .slice A_7 d0.fNew.fNodes.length cap_7, S d0.fText, .slice A_8 d0.fArgs.length cap_8, .slice A_9 d0.fChanges.length cap_9, .slice A_12 s_1.2.1.length cap_12, .int .i8 d0.fPhase, .int .i8 d0.fStatus, .int .i64 d1]] #[]) rfl (ad := ⟨b_7, 1, none⟩) (p_11.ownCell 0 rfl 1)) fun _ f => ?_
     obtain ⟨x_5, hx_5, hF_16⟩ := bS hF_15
     refine Y15 f p_11 (back_maker_remove_ok n _ _ (⟨(⟨d0.fKind, d0.fWidth, (⟨d0.fOld.fOwned, d0.fOld.fPending, d0.fOld.fRetained, d0.fOld.fOuts, d0.fOld.fText, d0.fOld.fArgs, d0.fOld.fCalls, d0.fOld.fStatus⟩ : TF0), (⟨d0.fNew.fScopes, d0.fNew.fNodes⟩ : TL0), d0.fText, d0.fArgs, d0.fChanges, s_1.2.1, d0.fPhase, d0.fStatus⟩ : TK0), d1⟩ : T_back_maker) (T_back_maker.shut (h_1.mono ((hM_1.trans hM_2).trans hM_3)) (h_2.mono ((hM_1.trans hM_2).trans hM_3)) (h_3.mono ((hM_1.trans hM_2).trans hM_3)) (h_4.mono ((hM_1.trans hM_2).trans hM_3)) (h_5.mono ((hM_1.trans hM_2).trans hM_3)) (h_6.mono ((hM_1.trans hM_2).trans hM_3)) (h_7.mono ((hM_1.trans hM_2).trans hM_3)) (h_8.mono ((hM_1.trans hM_2).trans hM_3)) (h_9.mono ((hM_1.trans hM_2).trans hM_3)) h_13) x_5 hx_5) fun _ M_4 w_12 hM_4 p_12 q_2 _ f => ?_
     obtain ⟨c_3, rfl, hr_4⟩ := q_2
     obtain ⟨A_26, cap_27, rfl, h_29⟩ := TQ0.opn hr_4
     refine Y11 f p_12 (.cells #[.int .i64 0, .int .i8 0, S [], S [], .slice none 0 0] 42 (0, 0)) fun b_8 w_13 p_13 _ f => Y26 (vs := [.int .i64 x_5.fToken, .int .i8 x_5.fKind, S x_5.fPhys, S x_5.fType, .slice A_26 x_5.fProps.length cap_27]) (j := 0) f p_13 rfl rfl (by simp [Value.oneCell', S]) (by simp) (by decide) (cs' := #[.int .i64 x_5.fToken, .int .i8 x_5.fKind, S x_5.fPhys, S x_5.fType, .slice A_26 x_5.fProps.length cap_27]) fun w_14 p_14 _ f => eT (RR (Y f 1 fun _ f => Z f (Y29 (v := .slice A_12 s_1.2.1.length cap_12) rfl (ad := ⟨b_1, 15, none⟩) (p_14.ownCell 6 rfl 15)) fun _ f => Y f 1 fun _ f => ?_))
     obtain ⟨g_3, hF_17⟩ := nS hF_16
     refine Y f 1 fun _ f => ?_
     have f := f.st 53 (congrArg (Value.int .i64) (inR_wrap g_3))
     refine Y f 1 fun _ f => Y25 f p_14 0 rfl rfl (b := b_8) (j := 0) (v := .int .i64 (((s_1.2.1.length : Nat) : Int) + 1)) rfl (by exact rfl) (by simp) (by simp) ((Ent.obj b_8 (.cells #[.int .i64 (((s_1.2.1.length : Nat) : Int) + 1), .int .i8 x_5.fKind, S x_5.fPhys, S x_5.fType, .slice A_26 x_5.fProps.length cap_27] 42 (0, 0))) :: (Ent.obj b_7 (.cells #[.nilFunc, .func (.func 62) #[.agg #[.int .i8 d0.fKind, .int .i64 d0.fWidth, .slice A_1 d0.fOld.fOwned.length cap_1, .slice A_2 d0.fOld.fPending.length cap_2, .slice A_3 d0.fOld.fRetained.length cap_3, .slice A_4 d0.fOld.fOuts.length cap_4, S d0.fOld.fText, .slice A_5 d0.fOld.fArgs.length cap_5, .int .i64 d0.fOld.fCalls, .int .i8 d0.fOld.fStatus, .slice A_6 d0.fNew.fScopes.length cap_6, .slice A_7 d0.fNew.fNodes.length cap_7, S d0.fText, .slice A_8 d0.fArgs.length cap_8, .slice A_9 d0.fChanges.length cap_9, .slice A_12 s_1.2.1.length cap_12, .int .i8 d0.fPhase, .int .i8 d0.fStatus, .int .i64 d1]] #[], .func (.func 63) #[.agg #[.int .i8 d0.fKind, .int .i64 d0.fWidth, .slice A_1 d0.fOld.fOwned.length cap_1, .slice A_2 d0.fOld.fPending.length cap_2, .slice A_3 d0.fOld.fRetained.length cap_3, .slice A_4 d0.fOld.fOuts.length cap_4, S d0.fOld.fText, .slice A_5 d0.fOld.fArgs.length cap_5, .int .i64 d0.fOld.fCalls, .int .i8 d0.fOld.fStatus, .slice A_6 d0.fNew.fScopes.length cap_6, .slice A_7 d0.fNew.fNodes.length cap_7, S d0.fText, .slice A_8 d0.fArgs.length cap_8, .slice A_9 d0.fChanges.length cap_9, .slice A_12 s_1.2.1.length cap_12, .int .i8 d0.fPhase, .int .i8 d0.fStatus, .int .i64 d1]] #[], .func (.func 62) #[.agg #[.int .i8 d0.fKind, .int .i64 d0.fWidth, .slice A_1 d0.fOld.fOwned.length cap_1, .slice A_2 d0.fOld.fPending.length cap_2, .slice A_3 d0.fOld.fRetained.length cap_3, .slice A_4 d0.fOld.fOuts.length cap_4, S d0.fOld.fText, .slice A_5 d0.fOld.fArgs.length cap_5, .int .i64 d0.fOld.fCalls, .int .i8 d0.fOld.fStatus, .slice A_6 d0.fNew.fScopes.length cap_6, .slice A_7 d0.fNew.fNodes.length cap_7, S d0.fText, .slice A_8 d0.fArgs.length cap_8, .slice A_9 d0.fChanges.length cap_9, .slice A_12 s_1.2.1.length cap_12, .int .i8 d0.fPhase, .int .i8 d0.fStatus, .int .i64 d1]] #[]] 124 (0, 0))) :: (Ent.obj b_6 (.cells #[.int .i8 d0.fKind, .int .i64 d0.fWidth, .slice A_1 d0.fOld.fOwned.length cap_1, .slice A_2 d0.fOld.fPending.length cap_2, .slice A_3 d0.fOld.fRetained.length cap_3, .slice A_4 d0.fOld.fOuts.length cap_4, S d0.fOld.fText, .slice A_5 d0.fOld.fArgs.length cap_5, .int .i64 d0.fOld.fCalls, .int .i8 d0.fOld.fStatus, .slice A_6 d0.fNew.fScopes.length cap_6, .slice A_7 d0.fNew.fNodes.length cap_7, S d0.fText, .slice A_8 d0.fArgs.length cap_8, .slice A_9 d0.fChanges.length cap_9, .slice A_12 s_1.2.1.length cap_12, .int .i8 d0.fPhase, .int .i8 d0.fStatus, .int .i64 d1] 122 (0, 0))) :: (Ent.row 3 1 (.slice A_11 x_2.length cap_11) x_2.length cs_1) :: (Ent.obj b_3 (.cells #[.int .i64 s_1.2.2.2.2.2.2.2.2.2.2.2.2.2.2.2.2.2.2.2.2.1, .int .i8 s_1.2.2.2.2.2.2.2.2.2.2.2.2.2.2.2.2.2.2.2.2.2.1, S s_1.2.2.2.2.2.2.2.2.2.2.2.2.2.2.2.2.2.2.2.2.2.2.1, S s_1.2.2.2.2.2.2.2.2.2.2.2.2.2.2.2.2.2.2.2.2.2.2.2.1, .slice A_23 s_1.2.2.2.2.2.2.2.2.2.2.2.2.2.2.2.2.2.2.2.2.2.2.2.2.length cap_23] 42 (0, 0))) :: (Ent.obj b_2 (.cells #[.int .i8 s_1.2.2.1, .int .i64 s_1.2.2.2.1, .slice A_13 s_1.2.2.2.2.1.length cap_13, .slice A_14 s_1.2.2.2.2.2.1.length cap_14, .slice A_15 s_1.2.2.2.2.2.2.1.length cap_15, .slice A_16 s_1.2.2.2.2.2.2.2.1.length cap_16, S s_1.2.2.2.2.2.2.2.2.1, .slice A_17 s_1.2.2.2.2.2.2.2.2.2.1.length cap_17, .int .i64 s_1.2.2.2.2.2.2.2.2.2.2.1, .int .i8 s_1.2.2.2.2.2.2.2.2.2.2.2.1, .slice A_18 s_1.2.2.2.2.2.2.2.2.2.2.2.2.1.length cap_18, .slice A_19 s_1.2.2.2.2.2.2.2.2.2.2.2.2.2.1.length cap_19, S s_1.2.2.2.2.2.2.2.2.2.2.2.2.2.2.1, .slice A_20 s_1.2.2.2.2.2.2.2.2.2.2.2.2.2.2.2.1.length cap_20, .slice A_21 s_1.2.2.2.2.2.2.2.2.2.2.2.2.2.2.2.2.1.length cap_21, .slice A_22 s_1.2.2.2.2.2.2.2.2.2.2.2.2.2.2.2.2.2.1.length cap_22, .int .i8 s_1.2.2.2.2.2.2.2.2.2.2.2.2.2.2.2.2.2.2.1, .int .i8 s_1.2.2.2.2.2.2.2.2.2.2.2.2.2.2.2.2.2.2.2.1] 34 (0, 0))) :: (Ent.obj b_1 (.cells #[.int .i8 d0.fKind, .int .i64 d0.fWidth, .slice A_1 d0.fOld.fOwned.length cap_1, .slice A_2 d0.fOld.fPending.length cap_2, .slice A_3 d0.fOld.fRetained.length cap_3, .slice A_4 d0.fOld.fOuts.length cap_4, S d0.fOld.fText, .slice A_5 d0.fOld.fArgs.length cap_5, .int .i64 d0.fOld.fCalls, .int .i8 d0.fOld.fStatus, .slice A_6 d0.fNew.fScopes.length cap_6, .slice A_7 d0.fNew.fNodes.length cap_7, S d0.fText, .slice A_8 d0.fArgs.length cap_8, .slice A_9 d0.fChanges.length cap_9, .slice A_12 s_1.2.1.length cap_12, .int .i8 d0.fPhase, .int .i8 d0.fStatus] 34 (0, 0))) :: H) rfl fun w_15 p_15 _ f => eT (R_seq ?_)
     obtain ⟨j_2, hj_2, hF_18⟩ := bS hF_17
     refine R_mid (fun a_84 w_24 => ∃ y_2 : List TR0, j_2 = y_2 ∧ ∃ M_5 : Mem, M_4.le M_5 ∧ ∃ (A_29 : Option Addr), ∃ (cap_30 : Nat), ∃ (cs_4 : List Value), RepSeq M_5 (y_2.map emb_TR0) cs_4 ∧ Frm 76 [(2, .pointer (some (⟨b_1, 0, none⟩))), (4, .pointer (some (⟨b_2, 0, none⟩))), (5, .pointer (some (⟨b_3, 0, none⟩))), (12, .pointer (some (⟨b_8, 0, none⟩)))] a_84 ∧ Hp w0 M_5 ((Ent.row 44 9 (.slice A_29 y_2.length cap_30) y_2.length cs_4) :: (Ent.obj b_8 (.cells #[.int .i64 (((s_1.2.1.length : Nat) : Int) + 1), .int .i8 x_5.fKind, S x_5.fPhys, S x_5.fType, .slice A_26 x_5.fProps.length cap_27] 42 (0, 0))) :: (Ent.obj b_7 (.cells #[.nilFunc, .func (.func 62) #[.agg #[.int .i8 d0.fKind, .int .i64 d0.fWidth, .slice A_1 d0.fOld.fOwned.length cap_1, .slice A_2 d0.fOld.fPending.length cap_2, .slice A_3 d0.fOld.fRetained.length cap_3, .slice A_4 d0.fOld.fOuts.length cap_4, S d0.fOld.fText, .slice A_5 d0.fOld.fArgs.length cap_5, .int .i64 d0.fOld.fCalls, .int .i8 d0.fOld.fStatus, .slice A_6 d0.fNew.fScopes.length cap_6, .slice A_7 d0.fNew.fNodes.length cap_7, S d0.fText, .slice A_8 d0.fArgs.length cap_8, .slice A_9 d0.fChanges.length cap_9, .slice A_12 s_1.2.1.length cap_12, .int .i8 d0.fPhase, .int .i8 d0.fStatus, .int .i64 d1]] #[], .func (.func 63) #[.agg #[.int .i8 d0.fKind, .int .i64 d0.fWidth, .slice A_1 d0.fOld.fOwned.length cap_1, .slice A_2 d0.fOld.fPending.length cap_2, .slice A_3 d0.fOld.fRetained.length cap_3, .slice A_4 d0.fOld.fOuts.length cap_4, S d0.fOld.fText, .slice A_5 d0.fOld.fArgs.length cap_5, .int .i64 d0.fOld.fCalls, .int .i8 d0.fOld.fStatus, .slice A_6 d0.fNew.fScopes.length cap_6, .slice A_7 d0.fNew.fNodes.length cap_7, S d0.fText, .slice A_8 d0.fArgs.length cap_8, .slice A_9 d0.fChanges.length cap_9, .slice A_12 s_1.2.1.length cap_12, .int .i8 d0.fPhase, .int .i8 d0.fStatus, .int .i64 d1]] #[], .func (.func 62) #[.agg #[.int .i8 d0.fKind, .int .i64 d0.fWidth, .slice A_1 d0.fOld.fOwned.length cap_1, .slice A_2 d0.fOld.fPending.length cap_2, .slice A_3 d0.fOld.fRetained.length cap_3, .slice A_4 d0.fOld.fOuts.length cap_4, S d0.fOld.fText, .slice A_5 d0.fOld.fArgs.length cap_5, .int .i64 d0.fOld.fCalls, .int .i8 d0.fOld.fStatus, .slice A_6 d0.fNew.fScopes.length cap_6, .slice A_7 d0.fNew.fNodes.length cap_7, S d0.fText, .slice A_8 d0.fArgs.length cap_8, .slice A_9 d0.fChanges.length cap_9, .slice A_12 s_1.2.1.length cap_12, .int .i8 d0.fPhase, .int .i8 d0.fStatus, .int .i64 d1]] #[]] 124 (0, 0))) :: (Ent.obj b_6 (.cells #[.int .i8 d0.fKind, .int .i64 d0.fWidth, .slice A_1 d0.fOld.fOwned.length cap_1, .slice A_2 d0.fOld.fPending.length cap_2, .slice A_3 d0.fOld.fRetained.length cap_3, .slice A_4 d0.fOld.fOuts.length cap_4, S d0.fOld.fText, .slice A_5 d0.fOld.fArgs.length cap_5, .int .i64 d0.fOld.fCalls, .int .i8 d0.fOld.fStatus, .slice A_6 d0.fNew.fScopes.length cap_6, .slice A_7 d0.fNew.fNodes.length cap_7, S d0.fText, .slice A_8 d0.fArgs.length cap_8, .slice A_9 d0.fChanges.length cap_9, .slice A_12 s_1.2.1.length cap_12, .int .i8 d0.fPhase, .int .i8 d0.fStatus, .int .i64 d1] 122 (0, 0))) :: (Ent.row 3 1 (.slice A_11 x_2.length cap_11) x_2.length cs_1) :: (Ent.obj b_3 (.cells #[.int .i64 s_1.2.2.2.2.2.2.2.2.2.2.2.2.2.2.2.2.2.2.2.2.1, .int .i8 s_1.2.2.2.2.2.2.2.2.2.2.2.2.2.2.2.2.2.2.2.2.2.1, S s_1.2.2.2.2.2.2.2.2.2.2.2.2.2.2.2.2.2.2.2.2.2.2.1, S s_1.2.2.2.2.2.2.2.2.2.2.2.2.2.2.2.2.2.2.2.2.2.2.2.1, .slice A_23 s_1.2.2.2.2.2.2.2.2.2.2.2.2.2.2.2.2.2.2.2.2.2.2.2.2.length cap_23] 42 (0, 0))) :: (Ent.obj b_2 (.cells #[.int .i8 s_1.2.2.1, .int .i64 s_1.2.2.2.1, .slice A_13 s_1.2.2.2.2.1.length cap_13, .slice A_14 s_1.2.2.2.2.2.1.length cap_14, .slice A_15 s_1.2.2.2.2.2.2.1.length cap_15, .slice A_16 s_1.2.2.2.2.2.2.2.1.length cap_16, S s_1.2.2.2.2.2.2.2.2.1, .slice A_17 s_1.2.2.2.2.2.2.2.2.2.1.length cap_17, .int .i64 s_1.2.2.2.2.2.2.2.2.2.2.1, .int .i8 s_1.2.2.2.2.2.2.2.2.2.2.2.1, .slice A_18 s_1.2.2.2.2.2.2.2.2.2.2.2.2.1.length cap_18, .slice A_19 s_1.2.2.2.2.2.2.2.2.2.2.2.2.2.1.length cap_19, S s_1.2.2.2.2.2.2.2.2.2.2.2.2.2.2.1, .slice A_20 s_1.2.2.2.2.2.2.2.2.2.2.2.2.2.2.2.1.length cap_20, .slice A_21 s_1.2.2.2.2.2.2.2.2.2.2.2.2.2.2.2.2.1.length cap_21, .slice A_22 s_1.2.2.2.2.2.2.2.2.2.2.2.2.2.2.2.2.2.1.length cap_22, .int .i8 s_1.2.2.2.2.2.2.2.2.2.2.2.2.2.2.2.2.2.2.1, .int .i8 s_1.2.2.2.2.2.2.2.2.2.2.2.2.2.2.2.2.2.2.2.1] 34 (0, 0))) :: (Ent.obj b_1 (.cells #[.int .i8 d0.fKind, .int .i64 d0.fWidth, .slice A_1 d0.fOld.fOwned.length cap_1, .slice A_2 d0.fOld.fPending.length cap_2, .slice A_3 d0.fOld.fRetained.length cap_3, .slice A_4 d0.fOld.fOuts.length cap_4, S d0.fOld.fText, .slice A_5 d0.fOld.fArgs.length cap_5, .int .i64 d0.fOld.fCalls, .int .i8 d0.fOld.fStatus, .slice A_6 d0.fNew.fScopes.length cap_6, .slice A_7 d0.fNew.fNodes.length cap_7, S d0.fText, .slice A_8 d0.fArgs.length cap_8, .slice A_9 d0.fChanges.length cap_9, .slice A_29 y_2.length cap_30, .int .i8 d0.fPhase, .int .i8 d0.fStatus] 34 (0, 0))) :: H) w_24) ?_ ?_
     ·obtain ⟨g_4, hF_19⟩ := nS hj_2
      obtain ⟨g_5, hF_20⟩ := nS hF_19
      refine R_plan (ks := [14, 15]) (E := []) (Hr := ((Ent.obj b_8 (.cells #[.int .i64 (((s_1.2.1.length : Nat) : Int) + 1), .int .i8 x_5.fKind, S x_5.fPhys, S x_5.fType, .slice A_26 x_5.fProps.length cap_27] 42 (0, 0))) :: (Ent.obj b_7 (.cells #[.nilFunc, .func (.func 62) #[.agg #[.int .i8 d0.fKind, .int .i64 d0.fWidth, .slice A_1 d0.fOld.fOwned.length cap_1, .slice A_2 d0.fOld.fPending.length cap_2, .slice A_3 d0.fOld.fRetained.length cap_3, .slice A_4 d0.fOld.fOuts.length cap_4, S d0.fOld.fText, .slice A_5 d0.fOld.fArgs.length cap_5, .int .i64 d0.fOld.fCalls, .int .i8 d0.fOld.fStatus, .slice A_6 d0.fNew.fScopes.length cap_6, .slice A_7 d0.fNew.fNodes.length cap_7, S d0.fText, .slice A_8 d0.fArgs.length cap_8, .slice A_9 d0.fChanges.length cap_9, .slice A_12 s_1.2.1.length cap_12, .int .i8 d0.fPhase, .int .i8 d0.fStatus, .int .i64 d1]] #[], .func (.func 63) #[.agg #[.int .i8 d0.fKind, .int .i64 d0.fWidth, .slice A_1 d0.fOld.fOwned.length cap_1, .slice A_2 d0.fOld.fPending.length cap_2, .slice A_3 d0.fOld.fRetained.length cap_3, .slice A_4 d0.fOld.fOuts.length cap_4, S d0.fOld.fText, .slice A_5 d0.fOld.fArgs.length cap_5, .int .i64 d0.fOld.fCalls, .int .i8 d0.fOld.fStatus, .slice A_6 d0.fNew.fScopes.length cap_6, .slice A_7 d0.fNew.fNodes.length cap_7, S d0.fText, .slice A_8 d0.fArgs.length cap_8, .slice A_9 d0.fChanges.length cap_9, .slice A_12 s_1.2.1.length cap_12, .int .i8 d0.fPhase, .int .i8 d0.fStatus, .int .i64 d1]] #[], .func (.func 62) #[.agg #[.int .i8 d0.fKind, .int .i64 d0.fWidth, .slice A_1 d0.fOld.fOwned.length cap_1, .slice A_2 d0.fOld.fPending.length cap_2, .slice A_3 d0.fOld.fRetained.length cap_3, .slice A_4 d0.fOld.fOuts.length cap_4, S d0.fOld.fText, .slice A_5 d0.fOld.fArgs.length cap_5, .int .i64 d0.fOld.fCalls, .int .i8 d0.fOld.fStatus, .slice A_6 d0.fNew.fScopes.length cap_6, .slice A_7 d0.fNew.fNodes.length cap_7, S d0.fText, .slice A_8 d0.fArgs.length cap_8, .slice A_9 d0.fChanges.length cap_9, .slice A_12 s_1.2.1.length cap_12, .int .i8 d0.fPhase, .int .i8 d0.fStatus, .int .i64 d1]] #[]] 124 (0, 0))) :: (Ent.obj b_6 (.cells #[.int .i8 d0.fKind, .int .i64 d0.fWidth, .slice A_1 d0.fOld.fOwned.length cap_1, .slice A_2 d0.fOld.fPending.length cap_2, .slice A_3 d0.fOld.fRetained.length cap_3, .slice A_4 d0.fOld.fOuts.length cap_4, S d0.fOld.fText, .slice A_5 d0.fOld.fArgs.length cap_5, .int .i64 d0.fOld.fCalls, .int .i8 d0.fOld.fStatus, .slice A_6 d0.fNew.fScopes.length cap_6, .slice A_7 d0.fNew.fNodes.length cap_7, S d0.fText, .slice A_8 d0.fArgs.length cap_8, .slice A_9 d0.fChanges.length cap_9, .slice A_12 s_1.2.1.length cap_12, .int .i8 d0.fPhase, .int .i8 d0.fStatus, .int .i64 d1] 122 (0, 0))) :: (Ent.row 3 1 (.slice A_11 x_2.length cap_11) x_2.length cs_1) :: (Ent.obj b_3 (.cells #[.int .i64 s_1.2.2.2.2.2.2.2.2.2.2.2.2.2.2.2.2.2.2.2.2.1, .int .i8 s_1.2.2.2.2.2.2.2.2.2.2.2.2.2.2.2.2.2.2.2.2.2.1, S s_1.2.2.2.2.2.2.2.2.2.2.2.2.2.2.2.2.2.2.2.2.2.2.1, S s_1.2.2.2.2.2.2.2.2.2.2.2.2.2.2.2.2.2.2.2.2.2.2.2.1, .slice A_23 s_1.2.2.2.2.2.2.2.2.2.2.2.2.2.2.2.2.2.2.2.2.2.2.2.2.length cap_23] 42 (0, 0))) :: (Ent.obj b_2 (.cells #[.int .i8 s_1.2.2.1, .int .i64 s_1.2.2.2.1, .slice A_13 s_1.2.2.2.2.1.length cap_13, .slice A_14 s_1.2.2.2.2.2.1.length cap_14, .slice A_15 s_1.2.2.2.2.2.2.1.length cap_15, .slice A_16 s_1.2.2.2.2.2.2.2.1.length cap_16, S s_1.2.2.2.2.2.2.2.2.1, .slice A_17 s_1.2.2.2.2.2.2.2.2.2.1.length cap_17, .int .i64 s_1.2.2.2.2.2.2.2.2.2.2.1, .int .i8 s_1.2.2.2.2.2.2.2.2.2.2.2.1, .slice A_18 s_1.2.2.2.2.2.2.2.2.2.2.2.2.1.length cap_18, .slice A_19 s_1.2.2.2.2.2.2.2.2.2.2.2.2.2.1.length cap_19, S s_1.2.2.2.2.2.2.2.2.2.2.2.2.2.2.1, .slice A_20 s_1.2.2.2.2.2.2.2.2.2.2.2.2.2.2.2.1.length cap_20, .slice A_21 s_1.2.2.2.2.2.2.2.2.2.2.2.2.2.2.2.2.1.length cap_21, .slice A_22 s_1.2.2.2.2.2.2.2.2.2.2.2.2.2.2.2.2.2.1.length cap_22, .int .i8 s_1.2.2.2.2.2.2.2.2.2.2.2.2.2.2.2.2.2.2.1, .int .i8 s_1.2.2.2.2.2.2.2.2.2.2.2.2.2.2.2.2.2.2.2.1] 34 (0, 0))) :: (Ent.obj b_1 (.cells #[.int .i8 d0.fKind, .int .i64 d0.fWidth, .slice A_1 d0.fOld.fOwned.length cap_1, .slice A_2 d0.fOld.fPending.length cap_2, .slice A_3 d0.fOld.fRetained.length cap_3, .slice A_4 d0.fOld.fOuts.length cap_4, S d0.fOld.fText, .slice A_5 d0.fOld.fArgs.length cap_5, .int .i64 d0.fOld.fCalls, .int .i8 d0.fOld.fStatus, .slice A_6 d0.fNew.fScopes.length cap_6, .slice A_7 d0.fNew.fNodes.length cap_7, S d0.fText, .slice A_8 d0.fArgs.length cap_8, .slice A_9 d0.fChanges.length cap_9, .slice A_12 s_1.2.1.length cap_12, .int .i8 d0.fPhase, .int .i8 d0.fStatus] 34 (0, 0))) :: H)) (.quiet 0 (.quiet 1 (.quiet 2 (.quiet 3 (.quiet 4 (.quiet 5 (.quiet 6 (.quiet 7 (.quiet 8 (.quiet 9 (.quiet 10 (.quiet 11 (.alt 12 (.alt 13 .done .none) .none))))))))))))) p_15 (by kernel_rfl) (by kernel_rfl) (by kernel_rfl) (Y1 (v := .pointer (some (⟨b_1, 15, none⟩))) rfl f rfl rfl (fun _ _ => by kernel_rfl) fun _ f => Y1 (v := .slice A_12 s_1.2.1.length cap_12) rfl f rfl rfl (fun _ pq => Y29 (v := .slice A_12 s_1.2.1.length cap_12) rfl (ad := ⟨b_1, 15, none⟩) (pq.ownCell 6 rfl 15)) fun _ f => Y1 (v := .pointer (some (⟨b_1, 15, none⟩))) rfl f rfl rfl (fun _ _ => by kernel_rfl) fun _ f => Y1 (v := .slice A_12 s_1.2.1.length cap_12) rfl f rfl rfl (fun _ pq => Y29 (v := .slice A_12 s_1.2.1.length cap_12) rfl (ad := ⟨b_1, 15, none⟩) (pq.ownCell 6 rfl 15)) fun _ f => Y1 (v := .int .i64 ((s_1.2.1.length : Nat) : Int)) rfl f rfl rfl (fun _ _ => by kernel_rfl) fun _ f => Y1 (v := .pointer (some (⟨b_1, 15, none⟩))) rfl f rfl rfl (fun _ _ => by kernel_rfl) fun _ f => Y1 (v := .slice A_12 s_1.2.1.length cap_12) rfl f rfl rfl (fun _ pq => Y29 (v := .slice A_12 s_1.2.1.length cap_12) rfl (ad := ⟨b_1, 15, none⟩) (pq.ownCell 6 rfl 15)) fun _ f => Y1 (v := .int .i64 ((s_1.2.1.length : Nat) : Int)) rfl f rfl rfl (fun _ _ => by kernel_rfl) fun _ f => ?_)
      have h_31 : Sli M_4 9 emb_TR0 (cutA A_12 9 0 ((s_1.2.1.length : Nat) : Int).toNat) (s_1.2.1.take ((s_1.2.1.length : Nat) : Int).toNat).length (s_1.2.1.take ((s_1.2.1.length : Nat) : Int).toNat) := Sli.full (cap := cap_12) (h_13.mono hM_4) (by omega)
      have hl_4 := Sli.len (cap := cap_12) (h_13.mono hM_4)
      have he_2 : ((s_1.2.1.length : Nat) : Int).toNat = (s_1.2.1.take ((s_1.2.1.length : Nat) : Int).toNat).length := by rw [List.length_take]; omega
      refine Y1 (v := .slice (cutA A_12 9 0 ((s_1.2.1.length : Nat) : Int).toNat) ((s_1.2.1.length : Nat) : Int).toNat ((s_1.2.1.length : Nat) : Int).toNat) rfl f rfl rfl (fun _ pq => Y32 rfl (A := A_12) (len := s_1.2.1.length) (cap := cap_12) (k := .i64) (k' := .i64) (b := ((s_1.2.1.length : Nat) : Int)) (e := 44) (sz := 9) g_4.1 (by omega)) fun _ f => ?_
      have f := Frm.set f 63 (v := .slice (cutA A_12 9 0 ((s_1.2.1.length : Nat) : Int).toNat) ((s_1.2.1.length : Nat) : Int).toNat ((s_1.2.1.length : Nat) : Int).toNat) (v' := .slice (cutA A_12 9 0 ((s_1.2.1.length : Nat) : Int).toNat) (s_1.2.1.take ((s_1.2.1.length : Nat) : Int).toNat).length (s_1.2.1.take ((s_1.2.1.length : Nat) : Int).toNat).length) (by kernel_rfl) (by rw [← he_2])
      refine Y1 (v := .int .i64 d1) rfl f rfl rfl (fun _ _ => by kernel_rfl) fun _ f => Y1 (v := .agg #[.int .i64 (((s_1.2.1.length : Nat) : Int) + 1), .int .i8 x_5.fKind, S x_5.fPhys, S x_5.fType, .slice A_26 x_5.fProps.length cap_27]) rfl f rfl rfl (fun _ pq => Y30 (cs := [.int .i64 (((s_1.2.1.length : Nat) : Int) + 1), .int .i8 x_5.fKind, S x_5.fPhys, S x_5.fType, .slice A_26 x_5.fProps.length cap_27]) rfl (ad := ⟨b_8, 0, none⟩) (own_cells (pq.ownCell 0 rfl) 0 rfl)) fun _ f => Y1 (v := .agg #[.int .i64 d1, .int .i8 1, .int .i64 (((s_1.2.1.length : Nat) : Int) + 1), .int .i8 x_5.fKind, S x_5.fPhys, S x_5.fType, .slice A_26 x_5.fProps.length cap_27, .int .i8 0, S []]) rfl f rfl rfl (fun _ _ => by kernel_rfl) fun _ f => N_alt rfl (fun w_18 p_20 => ?_) ?_
      ·refine V_allocS (k := 1) (c := 1) f p_20 (.cells #[.int .i64 d1, .int .i8 1, .int .i64 (((s_1.2.1.length : Nat) : Int) + 1), .int .i8 x_5.fKind, S x_5.fPhys, S x_5.fType, .slice A_26 x_5.fProps.length cap_27, .int .i8 0, S []] 44 (0, 0)) (by kernel_rfl) (fun _ => by kernel_rfl) fun b_10 w_19 p_21 _ f => W_end rfl (N_goN 1 (mR _) p_21 rfl (N_alt rfl (fun w_20 p_22 => ?_) ?_))
       ·refine Y19 (e := 44) (bytes := 112) (z := .agg #[.int .i64 0, .int .i8 0, .int .i64 0, .int .i8 0, S [], S [], .slice none 0 0, .int .i8 0, S []]) (f := emb_TR0) (xs := s_1.2.1.take ((s_1.2.1.length : Nat) : Int).toNat) (ys := [(⟨d1, (1 : Int), (⟨((s_1.2.1.length : Nat) : Int) + 1, x_5.fKind, x_5.fPhys, x_5.fType, x_5.fProps⟩ : TQ0), (0 : Int), ([] : List UInt8)⟩ : TR0)]) (news := [.int .i64 d1, .int .i8 1, .int .i64 (((s_1.2.1.length : Nat) : Int) + 1), .int .i8 x_5.fKind, S x_5.fPhys, S x_5.fType, .slice A_26 x_5.fProps.length cap_27, .int .i8 0, S []]) (ad := ⟨b_10, 0, none⟩) (m := 1) (c := 1) f p_22 (by decide) (by decide) h_31 (by exact ⟨_, _, rfl, TR0.shut h_29, rfl⟩) rfl rfl rfl rfl (own_cells (p_22.ownCell 0 rfl) 0 rfl) g_5 (by have hg_ := g_5; omega) fun A_28 cap_29 cs_3 w_21 p_23 hr_6 _ f => ?_
        have p_24 := p_23.pl [1]
        have p_25 := p_24.drop
        refine W_end rfl (N_goN 1 (mR _) p_25 rfl (N_tail fun w_22 p_26 => Y f 1 fun _ f => Y25 f p_26 7 rfl rfl (b := b_1) (j := 15) (v := .slice A_28 ((s_1.2.1.take ((s_1.2.1.length : Nat) : Int).toNat) ++ [(⟨d1, (1 : Int), (⟨((s_1.2.1.length : Nat) : Int) + 1, x_5.fKind, x_5.fPhys, x_5.fType, x_5.fProps⟩ : TQ0), (0 : Int), ([] : List UInt8)⟩ : TR0)]).length cap_29) rfl (by exact rfl) (by simp) (by simp) ((Ent.row 44 9 (.slice A_28 ((s_1.2.1.take ((s_1.2.1.length : Nat) : Int).toNat) ++ [(⟨d1, (1 : Int), (⟨((s_1.2.1.length : Nat) : Int) + 1, x_5.fKind, x_5.fPhys, x_5.fType, x_5.fProps⟩ : TQ0), (0 : Int), ([] : List UInt8)⟩ : TR0)]).length cap_29) ((s_1.2.1.take ((s_1.2.1.length : Nat) : Int).toNat) ++ [(⟨d1, (1 : Int), (⟨((s_1.2.1.length : Nat) : Int) + 1, x_5.fKind, x_5.fPhys, x_5.fType, x_5.fProps⟩ : TQ0), (0 : Int), ([] : List UInt8)⟩ : TR0)]).length cs_3) :: (Ent.obj b_8 (.cells #[.int .i64 (((s_1.2.1.length : Nat) : Int) + 1), .int .i8 x_5.fKind, S x_5.fPhys, S x_5.fType, .slice A_26 x_5.fProps.length cap_27] 42 (0, 0))) :: (Ent.obj b_7 (.cells #[.nilFunc, .func (.func 62) #[.agg #[.int .i8 d0.fKind, .int .i64 d0.fWidth, .slice A_1 d0.fOld.fOwned.length cap_1, .slice A_2 d0.fOld.fPending.length cap_2, .slice A_3 d0.fOld.fRetained.length cap_3, .slice A_4 d0.fOld.fOuts.length cap_4, S d0.fOld.fText, .slice A_5 d0.fOld.fArgs.length cap_5, .int .i64 d0.fOld.fCalls, .int .i8 d0.fOld.fStatus, .slice A_6 d0.fNew.fScopes.length cap_6, .slice A_7 d0.fNew.fNodes.length cap_7, S d0.fText, .slice A_8 d0.fArgs.length cap_8, .slice A_9 d0.fChanges.length cap_9, .slice A_12 s_1.2.1.length cap_12, .int .i8 d0.fPhase, .int .i8 d0.fStatus, .int .i64 d1]] #[], .func (.func 63) #[.agg #[.int .i8 d0.fKind, .int .i64 d0.fWidth, .slice A_1 d0.fOld.fOwned.length cap_1, .slice A_2 d0.fOld.fPending.length cap_2, .slice A_3 d0.fOld.fRetained.length cap_3, .slice A_4 d0.fOld.fOuts.length cap_4, S d0.fOld.fText, .slice A_5 d0.fOld.fArgs.length cap_5, .int .i64 d0.fOld.fCalls, .int .i8 d0.fOld.fStatus, .slice A_6 d0.fNew.fScopes.length cap_6, .slice A_7 d0.fNew.fNodes.length cap_7, S d0.fText, .slice A_8 d0.fArgs.length cap_8, .slice A_9 d0.fChanges.length cap_9, .slice A_12 s_1.2.1.length cap_12, .int .i8 d0.fPhase, .int .i8 d0.fStatus, .int .i64 d1]] #[], .func (.func 62) #[.agg #[.int .i8 d0.fKind, .int .i64 d0.fWidth, .slice A_1 d0.fOld.fOwned.length cap_1, .slice A_2 d0.fOld.fPending.length cap_2, .slice A_3 d0.fOld.fRetained.length cap_3, .slice A_4 d0.fOld.fOuts.length cap_4, S d0.fOld.fText, .slice A_5 d0.fOld.fArgs.length cap_5, .int .i64 d0.fOld.fCalls, .int .i8 d0.fOld.fStatus, .slice A_6 d0.fNew.fScopes.length cap_6, .slice A_7 d0.fNew.fNodes.length cap_7, S d0.fText, .slice A_8 d0.fArgs.length cap_8, .slice A_9 d0.fChanges.length cap_9, .slice A_12 s_1.2.1.length cap_12, .int .i8 d0.fPhase, .int .i8 d0.fStatus, .int .i64 d1]] #[]] 124 (0, 0))) :: (Ent.obj b_6 (.cells #[.int .i8 d0.fKind, .int .i64 d0.fWidth, .slice A_1 d0.fOld.fOwned.length cap_1, .slice A_2 d0.fOld.fPending.length cap_2, .slice A_3 d0.fOld.fRetained.length cap_3, .slice A_4 d0.fOld.fOuts.length cap_4, S d0.fOld.fText, .slice A_5 d0.fOld.fArgs.length cap_5, .int .i64 d0.fOld.fCalls, .int .i8 d0.fOld.fStatus, .slice A_6 d0.fNew.fScopes.length cap_6, .slice A_7 d0.fNew.fNodes.length cap_7, S d0.fText, .slice A_8 d0.fArgs.length cap_8, .slice A_9 d0.fChanges.length cap_9, .slice A_12 s_1.2.1.length cap_12, .int .i8 d0.fPhase, .int .i8 d0.fStatus, .int .i64 d1] 122 (0, 0))) :: (Ent.row 3 1 (.slice A_11 x_2.length cap_11) x_2.length cs_1) :: (Ent.obj b_3 (.cells #[.int .i64 s_1.2.2.2.2.2.2.2.2.2.2.2.2.2.2.2.2.2.2.2.2.1, .int .i8 s_1.2.2.2.2.2.2.2.2.2.2.2.2.2.2.2.2.2.2.2.2.2.1, S s_1.2.2.2.2.2.2.2.2.2.2.2.2.2.2.2.2.2.2.2.2.2.2.1, S s_1.2.2.2.2.2.2.2.2.2.2.2.2.2.2.2.2.2.2.2.2.2.2.2.1, .slice A_23 s_1.2.2.2.2.2.2.2.2.2.2.2.2.2.2.2.2.2.2.2.2.2.2.2.2.length cap_23] 42 (0, 0))) :: (Ent.obj b_2 (.cells #[.int .i8 s_1.2.2.1, .int .i64 s_1.2.2.2.1, .slice A_13 s_1.2.2.2.2.1.length cap_13, .slice A_14 s_1.2.2.2.2.2.1.length cap_14, .slice A_15 s_1.2.2.2.2.2.2.1.length cap_15, .slice A_16 s_1.2.2.2.2.2.2.2.1.length cap_16, S s_1.2.2.2.2.2.2.2.2.1, .slice A_17 s_1.2.2.2.2.2.2.2.2.2.1.length cap_17, .int .i64 s_1.2.2.2.2.2.2.2.2.2.2.1, .int .i8 s_1.2.2.2.2.2.2.2.2.2.2.2.1, .slice A_18 s_1.2.2.2.2.2.2.2.2.2.2.2.2.1.length cap_18, .slice A_19 s_1.2.2.2.2.2.2.2.2.2.2.2.2.2.1.length cap_19, S s_1.2.2.2.2.2.2.2.2.2.2.2.2.2.2.1, .slice A_20 s_1.2.2.2.2.2.2.2.2.2.2.2.2.2.2.2.1.length cap_20, .slice A_21 s_1.2.2.2.2.2.2.2.2.2.2.2.2.2.2.2.2.1.length cap_21, .slice A_22 s_1.2.2.2.2.2.2.2.2.2.2.2.2.2.2.2.2.2.1.length cap_22, .int .i8 s_1.2.2.2.2.2.2.2.2.2.2.2.2.2.2.2.2.2.2.1, .int .i8 s_1.2.2.2.2.2.2.2.2.2.2.2.2.2.2.2.2.2.2.2.1] 34 (0, 0))) :: (Ent.obj b_1 (.cells #[.int .i8 d0.fKind, .int .i64 d0.fWidth, .slice A_1 d0.fOld.fOwned.length cap_1, .slice A_2 d0.fOld.fPending.length cap_2, .slice A_3 d0.fOld.fRetained.length cap_3, .slice A_4 d0.fOld.fOuts.length cap_4, S d0.fOld.fText, .slice A_5 d0.fOld.fArgs.length cap_5, .int .i64 d0.fOld.fCalls, .int .i8 d0.fOld.fStatus, .slice A_6 d0.fNew.fScopes.length cap_6, .slice A_7 d0.fNew.fNodes.length cap_7, S d0.fText, .slice A_8 d0.fArgs.length cap_8, .slice A_9 d0.fChanges.length cap_9, .slice A_28 ((s_1.2.1.take ((s_1.2.1.length : Nat) : Int).toNat) ++ [(⟨d1, (1 : Int), (⟨((s_1.2.1.length : Nat) : Int) + 1, x_5.fKind, x_5.fPhys, x_5.fType, x_5.fProps⟩ : TQ0), (0 : Int), ([] : List UInt8)⟩ : TR0)]).length cap_29, .int .i8 d0.fPhase, .int .i8 d0.fStatus] 34 (0, 0))) :: H) rfl fun w_23 p_27 _ f => W_end rfl (N_te (T_n ?_))))
        exact ⟨(s_1.2.1.take ((s_1.2.1.length : Nat) : Int).toNat) ++ [(⟨d1, (1 : Int), (⟨((s_1.2.1.length : Nat) : Int) + 1, x_5.fKind, x_5.fPhys, x_5.fType, x_5.fProps⟩ : TQ0), (0 : Int), ([] : List UInt8)⟩ : TR0)], (sI hF_20).symm, M_4, (mR _), A_28, cap_29, cs_3, hr_6, f.kp, p_27⟩
       exact N_none
      exact N_none
     ·rintro a_84 w_24 ⟨y_2, hq_2, M_5, hM_5, A_29, cap_30, cs_4, hr_7, f, p_28⟩
      subst j_2
      refine T_n (R_seq ?_)
      have p_36 := p_28.pl [4, 4, 4, 4, 7, 7, 7, 7]
      refine R_mix (E := [Ent.row 44 9 (.slice A_29 y_2.length cap_30) y_2.length cs_4, Ent.obj b_3 (.cells #[.int .i64 s_1.2.2.2.2.2.2.2.2.2.2.2.2.2.2.2.2.2.2.2.2.1, .int .i8 s_1.2.2.2.2.2.2.2.2.2.2.2.2.2.2.2.2.2.2.2.2.2.1, S s_1.2.2.2.2.2.2.2.2.2.2.2.2.2.2.2.2.2.2.2.2.2.2.1, S s_1.2.2.2.2.2.2.2.2.2.2.2.2.2.2.2.2.2.2.2.2.2.2.2.1, .slice A_23 s_1.2.2.2.2.2.2.2.2.2.2.2.2.2.2.2.2.2.2.2.2.2.2.2.2.length cap_23] 42 (0, 0)), Ent.obj b_2 (.cells #[.int .i8 s_1.2.2.1, .int .i64 s_1.2.2.2.1, .slice A_13 s_1.2.2.2.2.1.length cap_13, .slice A_14 s_1.2.2.2.2.2.1.length cap_14, .slice A_15 s_1.2.2.2.2.2.2.1.length cap_15, .slice A_16 s_1.2.2.2.2.2.2.2.1.length cap_16, S s_1.2.2.2.2.2.2.2.2.1, .slice A_17 s_1.2.2.2.2.2.2.2.2.2.1.length cap_17, .int .i64 s_1.2.2.2.2.2.2.2.2.2.2.1, .int .i8 s_1.2.2.2.2.2.2.2.2.2.2.2.1, .slice A_18 s_1.2.2.2.2.2.2.2.2.2.2.2.2.1.length cap_18, .slice A_19 s_1.2.2.2.2.2.2.2.2.2.2.2.2.2.1.length cap_19, S s_1.2.2.2.2.2.2.2.2.2.2.2.2.2.2.1, .slice A_20 s_1.2.2.2.2.2.2.2.2.2.2.2.2.2.2.2.1.length cap_20, .slice A_21 s_1.2.2.2.2.2.2.2.2.2.2.2.2.2.2.2.2.1.length cap_21, .slice A_22 s_1.2.2.2.2.2.2.2.2.2.2.2.2.2.2.2.2.2.1.length cap_22, .int .i8 s_1.2.2.2.2.2.2.2.2.2.2.2.2.2.2.2.2.2.2.1, .int .i8 s_1.2.2.2.2.2.2.2.2.2.2.2.2.2.2.2.2.2.2.2.1] 34 (0, 0)), Ent.obj b_1 (.cells #[.int .i8 d0.fKind, .int .i64 d0.fWidth, .slice A_1 d0.fOld.fOwned.length cap_1, .slice A_2 d0.fOld.fPending.length cap_2, .slice A_3 d0.fOld.fRetained.length cap_3, .slice A_4 d0.fOld.fOuts.length cap_4, S d0.fOld.fText, .slice A_5 d0.fOld.fArgs.length cap_5, .int .i64 d0.fOld.fCalls, .int .i8 d0.fOld.fStatus, .slice A_6 d0.fNew.fScopes.length cap_6, .slice A_7 d0.fNew.fNodes.length cap_7, S d0.fText, .slice A_8 d0.fArgs.length cap_8, .slice A_9 d0.fChanges.length cap_9, .slice A_29 y_2.length cap_30, .int .i8 d0.fPhase, .int .i8 d0.fStatus] 34 (0, 0))]) (Hr := ((Ent.obj b_8 (.cells #[.int .i64 (((s_1.2.1.length : Nat) : Int) + 1), .int .i8 x_5.fKind, S x_5.fPhys, S x_5.fType, .slice A_26 x_5.fProps.length cap_27] 42 (0, 0))) :: (Ent.obj b_7 (.cells #[.nilFunc, .func (.func 62) #[.agg #[.int .i8 d0.fKind, .int .i64 d0.fWidth, .slice A_1 d0.fOld.fOwned.length cap_1, .slice A_2 d0.fOld.fPending.length cap_2, .slice A_3 d0.fOld.fRetained.length cap_3, .slice A_4 d0.fOld.fOuts.length cap_4, S d0.fOld.fText, .slice A_5 d0.fOld.fArgs.length cap_5, .int .i64 d0.fOld.fCalls, .int .i8 d0.fOld.fStatus, .slice A_6 d0.fNew.fScopes.length cap_6, .slice A_7 d0.fNew.fNodes.length cap_7, S d0.fText, .slice A_8 d0.fArgs.length cap_8, .slice A_9 d0.fChanges.length cap_9, .slice A_12 s_1.2.1.length cap_12, .int .i8 d0.fPhase, .int .i8 d0.fStatus, .int .i64 d1]] #[], .func (.func 63) #[.agg #[.int .i8 d0.fKind, .int .i64 d0.fWidth, .slice A_1 d0.fOld.fOwned.length cap_1, .slice A_2 d0.fOld.fPending.length cap_2, .slice A_3 d0.fOld.fRetained.length cap_3, .slice A_4 d0.fOld.fOuts.length cap_4, S d0.fOld.fText, .slice A_5 d0.fOld.fArgs.length cap_5, .int .i64 d0.fOld.fCalls, .int .i8 d0.fOld.fStatus, .slice A_6 d0.fNew.fScopes.length cap_6, .slice A_7 d0.fNew.fNodes.length cap_7, S d0.fText, .slice A_8 d0.fArgs.length cap_8, .slice A_9 d0.fChanges.length cap_9, .slice A_12 s_1.2.1.length cap_12, .int .i8 d0.fPhase, .int .i8 d0.fStatus, .int .i64 d1]] #[], .func (.func 62) #[.agg #[.int .i8 d0.fKind, .int .i64 d0.fWidth, .slice A_1 d0.fOld.fOwned.length cap_1, .slice A_2 d0.fOld.fPending.length cap_2, .slice A_3 d0.fOld.fRetained.length cap_3, .slice A_4 d0.fOld.fOuts.length cap_4, S d0.fOld.fText, .slice A_5 d0.fOld.fArgs.length cap_5, .int .i64 d0.fOld.fCalls, .int .i8 d0.fOld.fStatus, .slice A_6 d0.fNew.fScopes.length cap_6, .slice A_7 d0.fNew.fNodes.length cap_7, S d0.fText, .slice A_8 d0.fArgs.length cap_8, .slice A_9 d0.fChanges.length cap_9, .slice A_12 s_1.2.1.length cap_12, .int .i8 d0.fPhase, .int .i8 d0.fStatus, .int .i64 d1]] #[]] 124 (0, 0))) :: (Ent.obj b_6 (.cells #[.int .i8 d0.fKind, .int .i64 d0.fWidth, .slice A_1 d0.fOld.fOwned.length cap_1, .slice A_2 d0.fOld.fPending.length cap_2, .slice A_3 d0.fOld.fRetained.length cap_3, .slice A_4 d0.fOld.fOuts.length cap_4, S d0.fOld.fText, .slice A_5 d0.fOld.fArgs.length cap_5, .int .i64 d0.fOld.fCalls, .int .i8 d0.fOld.fStatus, .slice A_6 d0.fNew.fScopes.length cap_6, .slice A_7 d0.fNew.fNodes.length cap_7, S d0.fText, .slice A_8 d0.fArgs.length cap_8, .slice A_9 d0.fChanges.length cap_9, .slice A_12 s_1.2.1.length cap_12, .int .i8 d0.fPhase, .int .i8 d0.fStatus, .int .i64 d1] 122 (0, 0))) :: (Ent.row 3 1 (.slice A_11 x_2.length cap_11) x_2.length cs_1) :: H)) [(1, true), (0, false), (2, false), (3, false), (4, true)] p_36 (by kernel_rfl) (by kernel_rfl) rfl (by kernel_rfl) (M_eq (v := .agg #[.int .i64 (((s_1.2.1.length : Nat) : Int) + 1), .int .i8 x_5.fKind, S x_5.fPhys, S x_5.fType, .slice A_26 x_5.fProps.length cap_27]) f (by kernel_rfl) (by kernel_rfl) rfl rfl (fun _ pq => Y30 (cs := [.int .i64 (((s_1.2.1.length : Nat) : Int) + 1), .int .i8 x_5.fKind, S x_5.fPhys, S x_5.fType, .slice A_26 x_5.fProps.length cap_27]) rfl (ad := ⟨b_8, 0, none⟩) (own_cells (pq.ownCell 0 rfl) 0 rfl)) fun _ f => M_fix (E := [Ent.row 44 9 (.slice A_29 y_2.length cap_30) y_2.length cs_4, Ent.obj b_3 (.cells #[.int .i64 s_1.2.2.2.2.2.2.2.2.2.2.2.2.2.2.2.2.2.2.2.2.1, .int .i8 s_1.2.2.2.2.2.2.2.2.2.2.2.2.2.2.2.2.2.2.2.2.2.1, S s_1.2.2.2.2.2.2.2.2.2.2.2.2.2.2.2.2.2.2.2.2.2.2.1, S s_1.2.2.2.2.2.2.2.2.2.2.2.2.2.2.2.2.2.2.2.2.2.2.2.1, .slice A_23 s_1.2.2.2.2.2.2.2.2.2.2.2.2.2.2.2.2.2.2.2.2.2.2.2.2.length cap_23] 42 (0, 0)), Ent.obj b_2 (.cells #[.int .i8 s_1.2.2.1, .int .i64 s_1.2.2.2.1, .slice A_13 s_1.2.2.2.2.1.length cap_13, .slice A_14 s_1.2.2.2.2.2.1.length cap_14, .slice A_15 s_1.2.2.2.2.2.2.1.length cap_15, .slice A_16 s_1.2.2.2.2.2.2.2.1.length cap_16, S s_1.2.2.2.2.2.2.2.2.1, .slice A_17 s_1.2.2.2.2.2.2.2.2.2.1.length cap_17, .int .i64 s_1.2.2.2.2.2.2.2.2.2.2.1, .int .i8 s_1.2.2.2.2.2.2.2.2.2.2.2.1, .slice A_18 s_1.2.2.2.2.2.2.2.2.2.2.2.2.1.length cap_18, .slice A_19 s_1.2.2.2.2.2.2.2.2.2.2.2.2.2.1.length cap_19, S s_1.2.2.2.2.2.2.2.2.2.2.2.2.2.2.1, .slice A_20 s_1.2.2.2.2.2.2.2.2.2.2.2.2.2.2.2.1.length cap_20, .slice A_21 s_1.2.2.2.2.2.2.2.2.2.2.2.2.2.2.2.2.1.length cap_21, .slice A_22 s_1.2.2.2.2.2.2.2.2.2.2.2.2.2.2.2.2.2.1.length cap_22, .int .i8 s_1.2.2.2.2.2.2.2.2.2.2.2.2.2.2.2.2.2.2.1, .int .i8 s_1.2.2.2.2.2.2.2.2.2.2.2.2.2.2.2.2.2.2.2.1] 34 (0, 0)), Ent.obj b_1 (.cells #[.int .i8 d0.fKind, .int .i64 d0.fWidth, .slice A_1 d0.fOld.fOwned.length cap_1, .slice A_2 d0.fOld.fPending.length cap_2, .slice A_3 d0.fOld.fRetained.length cap_3, .slice A_4 d0.fOld.fOuts.length cap_4, S d0.fOld.fText, .slice A_5 d0.fOld.fArgs.length cap_5, .int .i64 d0.fOld.fCalls, .int .i8 d0.fOld.fStatus, .slice A_6 d0.fNew.fScopes.length cap_6, .slice A_7 d0.fNew.fNodes.length cap_7, S d0.fText, .slice A_8 d0.fArgs.length cap_8, .slice A_9 d0.fChanges.length cap_9, .slice A_29 y_2.length cap_30, .int .i8 d0.fPhase, .int .i8 d0.fStatus] 34 (0, 0))]) fun w_25 p_37 => Z (v := .agg #[.int .i8 d0.fKind, .int .i64 d0.fWidth, .slice A_1 d0.fOld.fOwned.length cap_1, .slice A_2 d0.fOld.fPending.length cap_2, .slice A_3 d0.fOld.fRetained.length cap_3, .slice A_4 d0.fOld.fOuts.length cap_4, S d0.fOld.fText, .slice A_5 d0.fOld.fArgs.length cap_5, .int .i64 d0.fOld.fCalls, .int .i8 d0.fOld.fStatus, .slice A_6 d0.fNew.fScopes.length cap_6, .slice A_7 d0.fNew.fNodes.length cap_7, S d0.fText, .slice A_8 d0.fArgs.length cap_8, .slice A_9 d0.fChanges.length cap_9, .slice A_29 y_2.length cap_30, .int .i8 d0.fPhase, .int .i8 d0.fStatus]) f (Y30 (cs := [.int .i8 d0.fKind, .int .i64 d0.fWidth, .slice A_1 d0.fOld.fOwned.length cap_1, .slice A_2 d0.fOld.fPending.length cap_2, .slice A_3 d0.fOld.fRetained.length cap_3, .slice A_4 d0.fOld.fOuts.length cap_4, S d0.fOld.fText, .slice A_5 d0.fOld.fArgs.length cap_5, .int .i64 d0.fOld.fCalls, .int .i8 d0.fOld.fStatus, .slice A_6 d0.fNew.fScopes.length cap_6, .slice A_7 d0.fNew.fNodes.length cap_7, S d0.fText, .slice A_8 d0.fArgs.length cap_8, .slice A_9 d0.fChanges.length cap_9, .slice A_29 y_2.length cap_30, .int .i8 d0.fPhase, .int .i8 d0.fStatus]) rfl (ad := ⟨b_1, 0, none⟩) (own_cells (p_37.ownCell 3 rfl) 0 rfl)) fun _ f => W_end rfl (M_go (M1 := M_5) (E := [Ent.row 44 9 (.slice A_29 y_2.length cap_30) y_2.length cs_4, Ent.obj b_3 (.cells #[.int .i64 s_1.2.2.2.2.2.2.2.2.2.2.2.2.2.2.2.2.2.2.2.2.1, .int .i8 s_1.2.2.2.2.2.2.2.2.2.2.2.2.2.2.2.2.2.2.2.2.2.1, S s_1.2.2.2.2.2.2.2.2.2.2.2.2.2.2.2.2.2.2.2.2.2.2.1, S s_1.2.2.2.2.2.2.2.2.2.2.2.2.2.2.2.2.2.2.2.2.2.2.2.1, .slice A_23 s_1.2.2.2.2.2.2.2.2.2.2.2.2.2.2.2.2.2.2.2.2.2.2.2.2.length cap_23] 42 (0, 0)), Ent.obj b_2 (.cells #[.int .i8 s_1.2.2.1, .int .i64 s_1.2.2.2.1, .slice A_13 s_1.2.2.2.2.1.length cap_13, .slice A_14 s_1.2.2.2.2.2.1.length cap_14, .slice A_15 s_1.2.2.2.2.2.2.1.length cap_15, .slice A_16 s_1.2.2.2.2.2.2.2.1.length cap_16, S s_1.2.2.2.2.2.2.2.2.1, .slice A_17 s_1.2.2.2.2.2.2.2.2.2.1.length cap_17, .int .i64 s_1.2.2.2.2.2.2.2.2.2.2.1, .int .i8 s_1.2.2.2.2.2.2.2.2.2.2.2.1, .slice A_18 s_1.2.2.2.2.2.2.2.2.2.2.2.2.1.length cap_18, .slice A_19 s_1.2.2.2.2.2.2.2.2.2.2.2.2.2.1.length cap_19, S s_1.2.2.2.2.2.2.2.2.2.2.2.2.2.2.1, .slice A_20 s_1.2.2.2.2.2.2.2.2.2.2.2.2.2.2.2.1.length cap_20, .slice A_21 s_1.2.2.2.2.2.2.2.2.2.2.2.2.2.2.2.2.1.length cap_21, .slice A_22 s_1.2.2.2.2.2.2.2.2.2.2.2.2.2.2.2.2.2.1.length cap_22, .int .i8 s_1.2.2.2.2.2.2.2.2.2.2.2.2.2.2.2.2.2.2.1, .int .i8 s_1.2.2.2.2.2.2.2.2.2.2.2.2.2.2.2.2.2.2.2.1] 34 (0, 0)), Ent.obj b_1 (.cells #[.int .i8 d0.fKind, .int .i64 d0.fWidth, .slice A_1 d0.fOld.fOwned.length cap_1, .slice A_2 d0.fOld.fPending.length cap_2, .slice A_3 d0.fOld.fRetained.length cap_3, .slice A_4 d0.fOld.fOuts.length cap_4, S d0.fOld.fText, .slice A_5 d0.fOld.fArgs.length cap_5, .int .i64 d0.fOld.fCalls, .int .i8 d0.fOld.fStatus, .slice A_6 d0.fNew.fScopes.length cap_6, .slice A_7 d0.fNew.fNodes.length cap_7, S d0.fText, .slice A_8 d0.fArgs.length cap_8, .slice A_9 d0.fChanges.length cap_9, .slice A_29 y_2.length cap_30, .int .i8 d0.fPhase, .int .i8 d0.fStatus] 34 (0, 0))]) (mR _) p_37 (M_fix (E := [Ent.row 44 9 (.slice A_29 y_2.length cap_30) y_2.length cs_4, Ent.obj b_3 (.cells #[.int .i64 s_1.2.2.2.2.2.2.2.2.2.2.2.2.2.2.2.2.2.2.2.2.1, .int .i8 s_1.2.2.2.2.2.2.2.2.2.2.2.2.2.2.2.2.2.2.2.2.2.1, S s_1.2.2.2.2.2.2.2.2.2.2.2.2.2.2.2.2.2.2.2.2.2.2.1, S s_1.2.2.2.2.2.2.2.2.2.2.2.2.2.2.2.2.2.2.2.2.2.2.2.1, .slice A_23 s_1.2.2.2.2.2.2.2.2.2.2.2.2.2.2.2.2.2.2.2.2.2.2.2.2.length cap_23] 42 (0, 0)), Ent.obj b_2 (.cells #[.int .i8 s_1.2.2.1, .int .i64 s_1.2.2.2.1, .slice A_13 s_1.2.2.2.2.1.length cap_13, .slice A_14 s_1.2.2.2.2.2.1.length cap_14, .slice A_15 s_1.2.2.2.2.2.2.1.length cap_15, .slice A_16 s_1.2.2.2.2.2.2.2.1.length cap_16, S s_1.2.2.2.2.2.2.2.2.1, .slice A_17 s_1.2.2.2.2.2.2.2.2.2.1.length cap_17, .int .i64 s_1.2.2.2.2.2.2.2.2.2.2.1, .int .i8 s_1.2.2.2.2.2.2.2.2.2.2.2.1, .slice A_18 s_1.2.2.2.2.2.2.2.2.2.2.2.2.1.length cap_18, .slice A_19 s_1.2.2.2.2.2.2.2.2.2.2.2.2.2.1.length cap_19, S s_1.2.2.2.2.2.2.2.2.2.2.2.2.2.2.1, .slice A_20 s_1.2.2.2.2.2.2.2.2.2.2.2.2.2.2.2.1.length cap_20, .slice A_21 s_1.2.2.2.2.2.2.2.2.2.2.2.2.2.2.2.2.1.length cap_21, .slice A_22 s_1.2.2.2.2.2.2.2.2.2.2.2.2.2.2.2.2.2.1.length cap_22, .int .i8 s_1.2.2.2.2.2.2.2.2.2.2.2.2.2.2.2.2.2.2.1, .int .i8 s_1.2.2.2.2.2.2.2.2.2.2.2.2.2.2.2.2.2.2.2.1] 34 (0, 0)), Ent.obj b_1 (.cells #[.int .i8 d0.fKind, .int .i64 d0.fWidth, .slice A_1 d0.fOld.fOwned.length cap_1, .slice A_2 d0.fOld.fPending.length cap_2, .slice A_3 d0.fOld.fRetained.length cap_3, .slice A_4 d0.fOld.fOuts.length cap_4, S d0.fOld.fText, .slice A_5 d0.fOld.fArgs.length cap_5, .int .i64 d0.fOld.fCalls, .int .i8 d0.fOld.fStatus, .slice A_6 d0.fNew.fScopes.length cap_6, .slice A_7 d0.fNew.fNodes.length cap_7, S d0.fText, .slice A_8 d0.fArgs.length cap_8, .slice A_9 d0.fChanges.length cap_9, .slice A_29 y_2.length cap_30, .int .i8 d0.fPhase, .int .i8 d0.fStatus] 34 (0, 0))]) fun w_26 p_38 => ?_)))
      obtain ⟨A_30, cap_31, M_6, hv_2, hM_6, p_39, h_32⟩ := p_38.rowSli (f := emb_TR0) (xs := y_2) szd_TR0 hr_7
      have f := Frm.set f 70 (v := .agg #[.int .i8 d0.fKind, .int .i64 d0.fWidth, .slice A_1 d0.fOld.fOwned.length cap_1, .slice A_2 d0.fOld.fPending.length cap_2, .slice A_3 d0.fOld.fRetained.length cap_3, .slice A_4 d0.fOld.fOuts.length cap_4, S d0.fOld.fText, .slice A_5 d0.fOld.fArgs.length cap_5, .int .i64 d0.fOld.fCalls, .int .i8 d0.fOld.fStatus, .slice A_6 d0.fNew.fScopes.length cap_6, .slice A_7 d0.fNew.fNodes.length cap_7, S d0.fText, .slice A_8 d0.fArgs.length cap_8, .slice A_9 d0.fChanges.length cap_9, .slice A_29 y_2.length cap_30, .int .i8 d0.fPhase, .int .i8 d0.fStatus]) (v' := .agg #[.int .i8 d0.fKind, .int .i64 d0.fWidth, .slice A_1 d0.fOld.fOwned.length cap_1, .slice A_2 d0.fOld.fPending.length cap_2, .slice A_3 d0.fOld.fRetained.length cap_3, .slice A_4 d0.fOld.fOuts.length cap_4, S d0.fOld.fText, .slice A_5 d0.fOld.fArgs.length cap_5, .int .i64 d0.fOld.fCalls, .int .i8 d0.fOld.fStatus, .slice A_6 d0.fNew.fScopes.length cap_6, .slice A_7 d0.fNew.fNodes.length cap_7, S d0.fText, .slice A_8 d0.fArgs.length cap_8, .slice A_9 d0.fChanges.length cap_9, .slice A_30 y_2.length cap_31, .int .i8 d0.fPhase, .int .i8 d0.fStatus]) (by kernel_rfl) (by rw [hv_2])
      have p_40 : Hp w0 M_6 ((Ent.obj b_3 (.cells #[.int .i64 s_1.2.2.2.2.2.2.2.2.2.2.2.2.2.2.2.2.2.2.2.2.1, .int .i8 s_1.2.2.2.2.2.2.2.2.2.2.2.2.2.2.2.2.2.2.2.2.2.1, S s_1.2.2.2.2.2.2.2.2.2.2.2.2.2.2.2.2.2.2.2.2.2.2.1, S s_1.2.2.2.2.2.2.2.2.2.2.2.2.2.2.2.2.2.2.2.2.2.2.2.1, .slice A_23 s_1.2.2.2.2.2.2.2.2.2.2.2.2.2.2.2.2.2.2.2.2.2.2.2.2.length cap_23] 42 (0, 0))) :: (Ent.obj b_2 (.cells #[.int .i8 s_1.2.2.1, .int .i64 s_1.2.2.2.1, .slice A_13 s_1.2.2.2.2.1.length cap_13, .slice A_14 s_1.2.2.2.2.2.1.length cap_14, .slice A_15 s_1.2.2.2.2.2.2.1.length cap_15, .slice A_16 s_1.2.2.2.2.2.2.2.1.length cap_16, S s_1.2.2.2.2.2.2.2.2.1, .slice A_17 s_1.2.2.2.2.2.2.2.2.2.1.length cap_17, .int .i64 s_1.2.2.2.2.2.2.2.2.2.2.1, .int .i8 s_1.2.2.2.2.2.2.2.2.2.2.2.1, .slice A_18 s_1.2.2.2.2.2.2.2.2.2.2.2.2.1.length cap_18, .slice A_19 s_1.2.2.2.2.2.2.2.2.2.2.2.2.2.1.length cap_19, S s_1.2.2.2.2.2.2.2.2.2.2.2.2.2.2.1, .slice A_20 s_1.2.2.2.2.2.2.2.2.2.2.2.2.2.2.2.1.length cap_20, .slice A_21 s_1.2.2.2.2.2.2.2.2.2.2.2.2.2.2.2.2.1.length cap_21, .slice A_22 s_1.2.2.2.2.2.2.2.2.2.2.2.2.2.2.2.2.2.1.length cap_22, .int .i8 s_1.2.2.2.2.2.2.2.2.2.2.2.2.2.2.2.2.2.2.1, .int .i8 s_1.2.2.2.2.2.2.2.2.2.2.2.2.2.2.2.2.2.2.2.1] 34 (0, 0))) :: (Ent.obj b_1 (.cells #[.int .i8 d0.fKind, .int .i64 d0.fWidth, .slice A_1 d0.fOld.fOwned.length cap_1, .slice A_2 d0.fOld.fPending.length cap_2, .slice A_3 d0.fOld.fRetained.length cap_3, .slice A_4 d0.fOld.fOuts.length cap_4, S d0.fOld.fText, .slice A_5 d0.fOld.fArgs.length cap_5, .int .i64 d0.fOld.fCalls, .int .i8 d0.fOld.fStatus, .slice A_6 d0.fNew.fScopes.length cap_6, .slice A_7 d0.fNew.fNodes.length cap_7, S d0.fText, .slice A_8 d0.fArgs.length cap_8, .slice A_9 d0.fChanges.length cap_9, .slice A_30 y_2.length cap_31, .int .i8 d0.fPhase, .int .i8 d0.fStatus] 34 (0, 0))) :: (Ent.obj b_8 (.cells #[.int .i64 (((s_1.2.1.length : Nat) : Int) + 1), .int .i8 x_5.fKind, S x_5.fPhys, S x_5.fType, .slice A_26 x_5.fProps.length cap_27] 42 (0, 0))) :: (Ent.obj b_7 (.cells #[.nilFunc, .func (.func 62) #[.agg #[.int .i8 d0.fKind, .int .i64 d0.fWidth, .slice A_1 d0.fOld.fOwned.length cap_1, .slice A_2 d0.fOld.fPending.length cap_2, .slice A_3 d0.fOld.fRetained.length cap_3, .slice A_4 d0.fOld.fOuts.length cap_4, S d0.fOld.fText, .slice A_5 d0.fOld.fArgs.length cap_5, .int .i64 d0.fOld.fCalls, .int .i8 d0.fOld.fStatus, .slice A_6 d0.fNew.fScopes.length cap_6, .slice A_7 d0.fNew.fNodes.length cap_7, S d0.fText, .slice A_8 d0.fArgs.length cap_8, .slice A_9 d0.fChanges.length cap_9, .slice A_12 s_1.2.1.length cap_12, .int .i8 d0.fPhase, .int .i8 d0.fStatus, .int .i64 d1]] #[], .func (.func 63) #[.agg #[.int .i8 d0.fKind, .int .i64 d0.fWidth, .slice A_1 d0.fOld.fOwned.length cap_1, .slice A_2 d0.fOld.fPending.length cap_2, .slice A_3 d0.fOld.fRetained.length cap_3, .slice A_4 d0.fOld.fOuts.length cap_4, S d0.fOld.fText, .slice A_5 d0.fOld.fArgs.length cap_5, .int .i64 d0.fOld.fCalls, .int .i8 d0.fOld.fStatus, .slice A_6 d0.fNew.fScopes.length cap_6, .slice A_7 d0.fNew.fNodes.length cap_7, S d0.fText, .slice A_8 d0.fArgs.length cap_8, .slice A_9 d0.fChanges.length cap_9, .slice A_12 s_1.2.1.length cap_12, .int .i8 d0.fPhase, .int .i8 d0.fStatus, .int .i64 d1]] #[], .func (.func 62) #[.agg #[.int .i8 d0.fKind, .int .i64 d0.fWidth, .slice A_1 d0.fOld.fOwned.length cap_1, .slice A_2 d0.fOld.fPending.length cap_2, .slice A_3 d0.fOld.fRetained.length cap_3, .slice A_4 d0.fOld.fOuts.length cap_4, S d0.fOld.fText, .slice A_5 d0.fOld.fArgs.length cap_5, .int .i64 d0.fOld.fCalls, .int .i8 d0.fOld.fStatus, .slice A_6 d0.fNew.fScopes.length cap_6, .slice A_7 d0.fNew.fNodes.length cap_7, S d0.fText, .slice A_8 d0.fArgs.length cap_8, .slice A_9 d0.fChanges.length cap_9, .slice A_12 s_1.2.1.length cap_12, .int .i8 d0.fPhase, .int .i8 d0.fStatus, .int .i64 d1]] #[]] 124 (0, 0))) :: (Ent.obj b_6 (.cells #[.int .i8 d0.fKind, .int .i64 d0.fWidth, .slice A_1 d0.fOld.fOwned.length cap_1, .slice A_2 d0.fOld.fPending.length cap_2, .slice A_3 d0.fOld.fRetained.length cap_3, .slice A_4 d0.fOld.fOuts.length cap_4, S d0.fOld.fText, .slice A_5 d0.fOld.fArgs.length cap_5, .int .i64 d0.fOld.fCalls, .int .i8 d0.fOld.fStatus, .slice A_6 d0.fNew.fScopes.length cap_6, .slice A_7 d0.fNew.fNodes.length cap_7, S d0.fText, .slice A_8 d0.fArgs.length cap_8, .slice A_9 d0.fChanges.length cap_9, .slice A_12 s_1.2.1.length cap_12, .int .i8 d0.fPhase, .int .i8 d0.fStatus, .int .i64 d1] 122 (0, 0))) :: (Ent.row 3 1 (.slice A_11 x_2.length cap_11) x_2.length cs_1) :: H) w_26 := by rw [hv_2] at p_39; exact p_39
      have p_41 := p_40.pl [1]
      refine Y26 (vs := [.int .i8 d0.fKind, .int .i64 d0.fWidth, .slice A_1 d0.fOld.fOwned.length cap_1, .slice A_2 d0.fOld.fPending.length cap_2, .slice A_3 d0.fOld.fRetained.length cap_3, .slice A_4 d0.fOld.fOuts.length cap_4, S d0.fOld.fText, .slice A_5 d0.fOld.fArgs.length cap_5, .int .i64 d0.fOld.fCalls, .int .i8 d0.fOld.fStatus, .slice A_6 d0.fNew.fScopes.length cap_6, .slice A_7 d0.fNew.fNodes.length cap_7, S d0.fText, .slice A_8 d0.fArgs.length cap_8, .slice A_9 d0.fChanges.length cap_9, .slice A_30 y_2.length cap_31, .int .i8 d0.fPhase, .int .i8 d0.fStatus]) (j := 0) f p_41 rfl rfl (by simp [Value.oneCell', S]) (by simp) (by decide) (cs' := #[.int .i8 d0.fKind, .int .i64 d0.fWidth, .slice A_1 d0.fOld.fOwned.length cap_1, .slice A_2 d0.fOld.fPending.length cap_2, .slice A_3 d0.fOld.fRetained.length cap_3, .slice A_4 d0.fOld.fOuts.length cap_4, S d0.fOld.fText, .slice A_5 d0.fOld.fArgs.length cap_5, .int .i64 d0.fOld.fCalls, .int .i8 d0.fOld.fStatus, .slice A_6 d0.fNew.fScopes.length cap_6, .slice A_7 d0.fNew.fNodes.length cap_7, S d0.fText, .slice A_8 d0.fArgs.length cap_8, .slice A_9 d0.fChanges.length cap_9, .slice A_30 y_2.length cap_31, .int .i8 d0.fPhase, .int .i8 d0.fStatus]) fun w_27 p_42 _ f => W_end rfl (M_go (M1 := M_6) (E := [Ent.obj b_2 (.cells #[.int .i8 d0.fKind, .int .i64 d0.fWidth, .slice A_1 d0.fOld.fOwned.length cap_1, .slice A_2 d0.fOld.fPending.length cap_2, .slice A_3 d0.fOld.fRetained.length cap_3, .slice A_4 d0.fOld.fOuts.length cap_4, S d0.fOld.fText, .slice A_5 d0.fOld.fArgs.length cap_5, .int .i64 d0.fOld.fCalls, .int .i8 d0.fOld.fStatus, .slice A_6 d0.fNew.fScopes.length cap_6, .slice A_7 d0.fNew.fNodes.length cap_7, S d0.fText, .slice A_8 d0.fArgs.length cap_8, .slice A_9 d0.fChanges.length cap_9, .slice A_30 y_2.length cap_31, .int .i8 d0.fPhase, .int .i8 d0.fStatus] 34 (0, 0)), Ent.obj b_3 (.cells #[.int .i64 s_1.2.2.2.2.2.2.2.2.2.2.2.2.2.2.2.2.2.2.2.2.1, .int .i8 s_1.2.2.2.2.2.2.2.2.2.2.2.2.2.2.2.2.2.2.2.2.2.1, S s_1.2.2.2.2.2.2.2.2.2.2.2.2.2.2.2.2.2.2.2.2.2.2.1, S s_1.2.2.2.2.2.2.2.2.2.2.2.2.2.2.2.2.2.2.2.2.2.2.2.1, .slice A_23 s_1.2.2.2.2.2.2.2.2.2.2.2.2.2.2.2.2.2.2.2.2.2.2.2.2.length cap_23] 42 (0, 0)), Ent.obj b_1 (.cells #[.int .i8 d0.fKind, .int .i64 d0.fWidth, .slice A_1 d0.fOld.fOwned.length cap_1, .slice A_2 d0.fOld.fPending.length cap_2, .slice A_3 d0.fOld.fRetained.length cap_3, .slice A_4 d0.fOld.fOuts.length cap_4, S d0.fOld.fText, .slice A_5 d0.fOld.fArgs.length cap_5, .int .i64 d0.fOld.fCalls, .int .i8 d0.fOld.fStatus, .slice A_6 d0.fNew.fScopes.length cap_6, .slice A_7 d0.fNew.fNodes.length cap_7, S d0.fText, .slice A_8 d0.fArgs.length cap_8, .slice A_9 d0.fChanges.length cap_9, .slice A_30 y_2.length cap_31, .int .i8 d0.fPhase, .int .i8 d0.fStatus] 34 (0, 0))]) hM_6 p_42 (M_fix (E := [Ent.obj b_2 (.cells #[.int .i8 d0.fKind, .int .i64 d0.fWidth, .slice A_1 d0.fOld.fOwned.length cap_1, .slice A_2 d0.fOld.fPending.length cap_2, .slice A_3 d0.fOld.fRetained.length cap_3, .slice A_4 d0.fOld.fOuts.length cap_4, S d0.fOld.fText, .slice A_5 d0.fOld.fArgs.length cap_5, .int .i64 d0.fOld.fCalls, .int .i8 d0.fOld.fStatus, .slice A_6 d0.fNew.fScopes.length cap_6, .slice A_7 d0.fNew.fNodes.length cap_7, S d0.fText, .slice A_8 d0.fArgs.length cap_8, .slice A_9 d0.fChanges.length cap_9, .slice A_30 y_2.length cap_31, .int .i8 d0.fPhase, .int .i8 d0.fStatus] 34 (0, 0)), Ent.obj b_3 (.cells #[.int .i64 s_1.2.2.2.2.2.2.2.2.2.2.2.2.2.2.2.2.2.2.2.2.1, .int .i8 s_1.2.2.2.2.2.2.2.2.2.2.2.2.2.2.2.2.2.2.2.2.2.1, S s_1.2.2.2.2.2.2.2.2.2.2.2.2.2.2.2.2.2.2.2.2.2.2.1, S s_1.2.2.2.2.2.2.2.2.2.2.2.2.2.2.2.2.2.2.2.2.2.2.2.1, .slice A_23 s_1.2.2.2.2.2.2.2.2.2.2.2.2.2.2.2.2.2.2.2.2.2.2.2.2.length cap_23] 42 (0, 0)), Ent.obj b_1 (.cells #[.int .i8 d0.fKind, .int .i64 d0.fWidth, .slice A_1 d0.fOld.fOwned.length cap_1, .slice A_2 d0.fOld.fPending.length cap_2, .slice A_3 d0.fOld.fRetained.length cap_3, .slice A_4 d0.fOld.fOuts.length cap_4, S d0.fOld.fText, .slice A_5 d0.fOld.fArgs.length cap_5, .int .i64 d0.fOld.fCalls, .int .i8 d0.fOld.fStatus, .slice A_6 d0.fNew.fScopes.length cap_6, .slice A_7 d0.fNew.fNodes.length cap_7, S d0.fText, .slice A_8 d0.fArgs.length cap_8, .slice A_9 d0.fChanges.length cap_9, .slice A_30 y_2.length cap_31, .int .i8 d0.fPhase, .int .i8 d0.fStatus] 34 (0, 0))]) fun w_28 p_43 => ?_))
      have p_44 := p_43.pl [1]
      refine Y26 (vs := [.int .i64 (((s_1.2.1.length : Nat) : Int) + 1), .int .i8 x_5.fKind, S x_5.fPhys, S x_5.fType, .slice A_26 x_5.fProps.length cap_27]) (j := 0) f p_44 rfl rfl (by simp [Value.oneCell', S]) (by simp) (by decide) (cs' := #[.int .i64 (((s_1.2.1.length : Nat) : Int) + 1), .int .i8 x_5.fKind, S x_5.fPhys, S x_5.fType, .slice A_26 x_5.fProps.length cap_27]) fun w_29 p_45 _ f => W_end rfl (M_go (M1 := M_6) (E := [Ent.obj b_3 (.cells #[.int .i64 (((s_1.2.1.length : Nat) : Int) + 1), .int .i8 x_5.fKind, S x_5.fPhys, S x_5.fType, .slice A_26 x_5.fProps.length cap_27] 42 (0, 0)), Ent.obj b_2 (.cells #[.int .i8 d0.fKind, .int .i64 d0.fWidth, .slice A_1 d0.fOld.fOwned.length cap_1, .slice A_2 d0.fOld.fPending.length cap_2, .slice A_3 d0.fOld.fRetained.length cap_3, .slice A_4 d0.fOld.fOuts.length cap_4, S d0.fOld.fText, .slice A_5 d0.fOld.fArgs.length cap_5, .int .i64 d0.fOld.fCalls, .int .i8 d0.fOld.fStatus, .slice A_6 d0.fNew.fScopes.length cap_6, .slice A_7 d0.fNew.fNodes.length cap_7, S d0.fText, .slice A_8 d0.fArgs.length cap_8, .slice A_9 d0.fChanges.length cap_9, .slice A_30 y_2.length cap_31, .int .i8 d0.fPhase, .int .i8 d0.fStatus] 34 (0, 0)), Ent.obj b_1 (.cells #[.int .i8 d0.fKind, .int .i64 d0.fWidth, .slice A_1 d0.fOld.fOwned.length cap_1, .slice A_2 d0.fOld.fPending.length cap_2, .slice A_3 d0.fOld.fRetained.length cap_3, .slice A_4 d0.fOld.fOuts.length cap_4, S d0.fOld.fText, .slice A_5 d0.fOld.fArgs.length cap_5, .int .i64 d0.fOld.fCalls, .int .i8 d0.fOld.fStatus, .slice A_6 d0.fNew.fScopes.length cap_6, .slice A_7 d0.fNew.fNodes.length cap_7, S d0.fText, .slice A_8 d0.fArgs.length cap_8, .slice A_9 d0.fChanges.length cap_9, .slice A_30 y_2.length cap_31, .int .i8 d0.fPhase, .int .i8 d0.fStatus] 34 (0, 0))]) hM_6 p_45 (Y0 default f 1 fun _ f => M_end rfl fun w_30 p_46 => T_n (wp_ret (B_r (T_r ?_)))))
      have p_55 := p_46.pl [6, 3, 3, 3, 6, 6, 6]
      refine T_r ?_
      obtain rfl := sI hF_18
      exact .inl ⟨rfl, (((s_1.2.1.length : Nat) : Int) + 1, x_5.fKind, x_5.fPhys, x_5.fType, x_5.fProps, y_2, y_2), (sI hn_1).symm, M_6, (((hM_3.trans hM_4).trans hM_5).trans hM_6), A_26, cap_27, A_30, cap_31, A_30, cap_31, (h_29.mono (hM_5.trans hM_6)), h_32, h_32, f.kp, (p_55.dropN 3)⟩
   ·have k_8 := iff_f dI h_25
    refine wp_exit (T_x (T_x ?_))
    obtain rfl := sI hF_21
    exact .inr ⟨rfl, (s_1.2.2.2.2.2.2.2.2.2.2.2.2.2.2.2.2.2.2.2.2.1, s_1.2.2.2.2.2.2.2.2.2.2.2.2.2.2.2.2.2.2.2.2.2.1, s_1.2.2.2.2.2.2.2.2.2.2.2.2.2.2.2.2.2.2.2.2.2.2.1, s_1.2.2.2.2.2.2.2.2.2.2.2.2.2.2.2.2.2.2.2.2.2.2.2.1, s_1.2.2.2.2.2.2.2.2.2.2.2.2.2.2.2.2.2.2.2.2.2.2.2.2, s_1.2.2.1, s_1.2.2.2.1, s_1.2.2.2.2.1, s_1.2.2.2.2.2.1, s_1.2.2.2.2.2.2.1, s_1.2.2.2.2.2.2.2.1, s_1.2.2.2.2.2.2.2.2.1, s_1.2.2.2.2.2.2.2.2.2.1, s_1.2.2.2.2.2.2.2.2.2.2.1, s_1.2.2.2.2.2.2.2.2.2.2.2.1, s_1.2.2.2.2.2.2.2.2.2.2.2.2.1, s_1.2.2.2.2.2.2.2.2.2.2.2.2.2.1, s_1.2.2.2.2.2.2.2.2.2.2.2.2.2.2.1, s_1.2.2.2.2.2.2.2.2.2.2.2.2.2.2.2.1, s_1.2.2.2.2.2.2.2.2.2.2.2.2.2.2.2.2.1, s_1.2.2.2.2.2.2.2.2.2.2.2.2.2.2.2.2.2.1, s_1.2.2.2.2.2.2.2.2.2.2.2.2.2.2.2.2.2.2.1, s_1.2.2.2.2.2.2.2.2.2.2.2.2.2.2.2.2.2.2.2.1, s_1.2.1), (sI hn_1).symm, M_3, hM_3, A_23, cap_23, A_13, cap_13, A_14, cap_14, A_15, cap_15, A_16, cap_16, A_17, cap_17, A_18, cap_18, A_19, cap_19, A_20, cap_20, A_21, cap_21, A_22, cap_22, A_12, cap_12, h_24, h_14, h_15, h_16, h_17, h_18, h_19, h_20, h_21, h_22, h_23, h_13, f.kp, p_7⟩
  ·rintro _ _ w_33 (⟨rfl, y_3, rfl, M_7, hM_7, A_31, cap_32, A_32, cap_33, A_33, cap_34, h_33, h_34, h_35, f, p_47⟩ | ⟨rfl, y_4, rfl, M_8, hM_8, A_34, cap_35, A_35, cap_36, A_36, cap_37, A_37, cap_38, A_38, cap_39, A_39, cap_40, A_40, cap_41, A_41, cap_42, A_42, cap_43, A_43, cap_44, A_44, cap_45, A_45, cap_46, h_36, h_37, h_38, h_39, h_40, h_41, h_42, h_43, h_44, h_45, h_46, h_47, f, p_48⟩)
   ·refine B_r (T_r (E_rv3 f rfl (Y9 (cs := [.int .i8 d0.fKind, .int .i64 d0.fWidth, .slice A_1 d0.fOld.fOwned.length cap_1, .slice A_2 d0.fOld.fPending.length cap_2, .slice A_3 d0.fOld.fRetained.length cap_3, .slice A_4 d0.fOld.fOuts.length cap_4, S d0.fOld.fText, .slice A_5 d0.fOld.fArgs.length cap_5, .int .i64 d0.fOld.fCalls, .int .i8 d0.fOld.fStatus, .slice A_6 d0.fNew.fScopes.length cap_6, .slice A_7 d0.fNew.fNodes.length cap_7, S d0.fText, .slice A_8 d0.fArgs.length cap_8, .slice A_9 d0.fChanges.length cap_9, .slice A_32 y_3.2.2.2.2.2.1.length cap_33, .int .i8 d0.fPhase, .int .i8 d0.fStatus]) (ad := ⟨b_2, 0, none⟩) f (own_cells (p_47.ownCell 1 rfl) 0 rfl)) (Y9 (cs := [.int .i64 y_3.1, .int .i8 y_3.2.1, S y_3.2.2.1, S y_3.2.2.2.1, .slice A_31 y_3.2.2.2.2.1.length cap_32]) (ad := ⟨b_3, 0, none⟩) f (own_cells (p_47.ownCell 0 rfl) 0 rfl)) (Y10 (v := .int .i64 0) f) ?_))
    obtain rfl := sI hF_8
    exact ⟨_, rfl, M_7, ((hM_1.trans hM_2).trans hM_7), (p_47.dropN 4), ⟨[.int .i8 d0.fKind, .int .i64 d0.fWidth, .slice A_1 d0.fOld.fOwned.length cap_1, .slice A_2 d0.fOld.fPending.length cap_2, .slice A_3 d0.fOld.fRetained.length cap_3, .slice A_4 d0.fOld.fOuts.length cap_4, S d0.fOld.fText, .slice A_5 d0.fOld.fArgs.length cap_5, .int .i64 d0.fOld.fCalls, .int .i8 d0.fOld.fStatus, .slice A_6 d0.fNew.fScopes.length cap_6, .slice A_7 d0.fNew.fNodes.length cap_7, S d0.fText, .slice A_8 d0.fArgs.length cap_8, .slice A_9 d0.fChanges.length cap_9, .slice A_32 y_3.2.2.2.2.2.1.length cap_33, .int .i8 d0.fPhase, .int .i8 d0.fStatus], [.int .i64 y_3.1, .int .i8 y_3.2.1, S y_3.2.2.1, S y_3.2.2.2.1, .slice A_31 y_3.2.2.2.2.1.length cap_32], rfl, (TK0.shut (h_1.mono ((hM_1.trans hM_2).trans hM_7)) (h_2.mono ((hM_1.trans hM_2).trans hM_7)) (h_3.mono ((hM_1.trans hM_2).trans hM_7)) (h_4.mono ((hM_1.trans hM_2).trans hM_7)) (h_5.mono ((hM_1.trans hM_2).trans hM_7)) (h_6.mono ((hM_1.trans hM_2).trans hM_7)) (h_7.mono ((hM_1.trans hM_2).trans hM_7)) (h_8.mono ((hM_1.trans hM_2).trans hM_7)) (h_9.mono ((hM_1.trans hM_2).trans hM_7)) h_34), (TQ0.shut h_33)⟩⟩
   ·refine B_x (T_n (RR (Y f 3 fun _ f => ?_)))
    have p_56 := p_48.pl [2]
    refine Y26 (vs := [.int .i8 0, .int .i64 0, .slice none 0 0, .slice none 0 0, .slice none 0 0, .slice none 0 0, S [], .slice none 0 0, .int .i64 0, .int .i8 0, .slice none 0 0, .slice none 0 0, S [], .slice none 0 0, .slice none 0 0, .slice none 0 0, .int .i8 0, .int .i8 0]) (j := 0) f p_56 rfl rfl (by simp [Value.oneCell', S]) (by simp) (by decide) (cs' := #[.int .i8 0, .int .i64 0, .slice none 0 0, .slice none 0 0, .slice none 0 0, .slice none 0 0, S [], .slice none 0 0, .int .i64 0, .int .i8 0, .slice none 0 0, .slice none 0 0, S [], .slice none 0 0, .slice none 0 0, .slice none 0 0, .int .i8 0, .int .i8 0]) fun w_34 p_57 _ f => ?_
    have p_58 := p_57.pl [2]
    refine Y26 (vs := [.int .i64 0, .int .i8 0, S [], S [], .slice none 0 0]) (j := 0) f p_58 rfl rfl (by simp [Value.oneCell', S]) (by simp) (by decide) (cs' := #[.int .i64 0, .int .i8 0, S [], S [], .slice none 0 0]) fun w_35 p_59 _ f => Y f 1 fun _ f => eT (wp_ret (E_rv3 f rfl (Y9 (cs := [.int .i8 0, .int .i64 0, .slice none 0 0, .slice none 0 0, .slice none 0 0, .slice none 0 0, S [], .slice none 0 0, .int .i64 0, .int .i8 0, .slice none 0 0, .slice none 0 0, S [], .slice none 0 0, .slice none 0 0, .slice none 0 0, .int .i8 0, .int .i8 0]) (ad := ⟨b_2, 0, none⟩) f (own_cells (p_59.ownCell 1 rfl) 0 rfl)) (Y9 (cs := [.int .i64 0, .int .i8 0, S [], S [], .slice none 0 0]) (ad := ⟨b_3, 0, none⟩) f (own_cells (p_59.ownCell 0 rfl) 0 rfl)) (Y10 (v := .int .i64 y_1) f) ?_))
    obtain rfl := sI hF_8
    exact ⟨_, rfl, M_8, ((hM_1.trans hM_2).trans hM_8), (p_59.dropN 4), ⟨[.int .i8 0, .int .i64 0, .slice none 0 0, .slice none 0 0, .slice none 0 0, .slice none 0 0, S [], .slice none 0 0, .int .i64 0, .int .i8 0, .slice none 0 0, .slice none 0 0, S [], .slice none 0 0, .slice none 0 0, .slice none 0 0, .int .i8 0, .int .i8 0], [.int .i64 0, .int .i8 0, S [], S [], .slice none 0 0], rfl, (TK0.shut Sli.nil Sli.nil Sli.nil Sli.nil Sli.nil Sli.nil Sli.nil Sli.nil Sli.nil Sli.nil), (TQ0.shut Sli.nil)⟩⟩
end Go.Proofs.YtfdmlionhbeebaaGreat
end
