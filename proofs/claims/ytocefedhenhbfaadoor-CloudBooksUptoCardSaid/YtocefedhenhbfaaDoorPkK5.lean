/-
  Texts of this claim, packed (what nothing names is left out): C1, C2, CloudP1, CloudP3, LBooks, CloudP2, CloudP4, StoreP3. Own work, partly printed by own programs. No condition.
-/
import Derived.Test.YtocefedhenhbfaaDoorPkK4
import Derived.Test.YtocefedhenhbfaaDoorPkK3
set_option linter.unusedVariables false
set_option linter.unusedSimpArgs false
set_option maxHeartbeats 2000000
namespace Go.Proofs.YtocefedhenhbfaaDoor
open Go Go.Vc Go.RowKit
def cloud_New (n : Nat) : Option Unit :=
  some (())
theorem cloud_New_ok (n : Nat) (M : Mem) (hG : GL M) (r : Unit) (hF : cloud_New n = some r) : OkH Tryd.prog M [] 18 [] (fun M' E' v => ∃ (b0 : Nat) (b0m0 : Nat), v = .pointer (some ⟨b0, 0, none⟩) ∧ E' = [Ent.obj b0 (.cells #[.slice none 0 0, .int .i64 0, .slice none 0 0, .map (some b0m0), .slice none 0 0, .int .i64 0] 74 (0, 0)), Ent.obj b0m0 (mapO (Value.int .i64) (fun x : TC0 => Value.agg #[.bool x.fEnded, .bool x.fOk, S x.fPhys]) ([] : List (Int × TC0)))]) := by
 unfold cloud_New at hF
 intro M1 hM0 w0 H w p0
 replace hG := GL.mono hM0 hG
 refine R_enter 4 Tryd.func18 rfl rfl (by simp) fun a0 f0 => RR (Y f0 1 fun _ f => eT (RR (W_newmap (Value.int .i64) (fun x : TC0 => Value.agg #[.bool x.fEnded, .bool x.fOk, S x.fPhys]) f p0 (by kernel_rfl) (by kernel_rfl) rfl rfl rfl fun bm_1 w_1 p_1 _ f => Y f 1 fun _ f => Y12 f p_1 (.cells #[.slice none 0 0, .int .i64 0, .slice none 0 0, .map (some bm_1), .slice none 0 0, .int .i64 0] 74 (0, 0)) fun b_1 w_2 p_2 _ f => Y f 1 fun _ f => eT (wp_ret (E_ret1 f rfl (by kernel_rfl : Vc.look _ 0 = some (.pointer (some (⟨b_1, 0, none⟩)))) ?_)))))
 obtain rfl := sI hF
 exact ⟨_, rfl, M1, _, (mR _), p_2, ⟨b_1, bm_1, rfl, rfl⟩⟩
def cloud_check_1 (n : Nat) (d0 : TE0) : Option Bool :=
  some ((d0.fUnknown))
theorem cloud_check_1_ok (n : Nat) (M : Mem) (hG : GL M) (c0 : List Value) (d0 : TE0) (h0 : Rep M (emb_TE0 d0) c0) (r : Bool) (hF : cloud_check_1 n d0 = some r) : Ok Tryd.prog M 51 [.agg c0.toArray] (fun _ v => v = .bool r) := by
 unfold cloud_check_1 at hF
 intro M1 hM0 w0 H w p0
 replace hG := GL.mono hM0 hG
 replace h0 := Rep.mono hM0 _ _ h0
 obtain ⟨A_1, cap_1, A_2, cap_2, rfl, h_1, h_2⟩ := TE0.opn h0
 refine R_enter 5 Tryd.func51 rfl rfl (by simp) fun a0 f0 => RR (Y13 (cs := #[S d0.fName, .bool d0.fUnknown, .int .i8 d0.fV.fKind, .bool d0.fV.fBool, .int .i64 d0.fV.fNum, S d0.fV.fText, .slice A_1 d0.fV.fList.length cap_1, .slice A_2 d0.fV.fKeys.length cap_2]) (T := 79) f0 p0 fun b_1 M_1 w_1 hM_1 hc_1 p_1 _ f => ?_)
 have hc_2 := fz_box hc_1
 refine Y f 1 fun _ f => eT (RR (Y f 1 fun _ f => Y15 f p_1 hc_2 1 rfl fun _ f => Y f 1 fun _ f => eT (wp_ret (E_ret1 f rfl (by kernel_rfl : Vc.look _ 2 = some (.bool d0.fUnknown)) ?_))))
 obtain rfl := sI hF
 exact ⟨_, rfl, M_1, hM_1, p_1, rfl⟩
def slices_IndexFuncapi_Given_api_Given_2_s1 (n : Nat) (d0 : List TE0) (s_1 : Int) : Option (Lp Int (Sum Int Unit)) :=
    bif (decide (s_1 < ((d0.length : Nat) : Int))) then
      ((getI d0 s_1).bind fun x_1 =>
      (cloud_check_1 n x_1).bind fun x_2 =>
      bif x_2 then
        (some (.br (.inl s_1)))
      else
        need (inR .i64 (s_1 + 1)) <|
        some (.nx (s_1 + 1)))
    else
      some (.br (.inr ()))
def slices_IndexFuncapi_Given_api_Given_2 (n : Nat) (d0 : List TE0) : Option Int :=
  (loopF (slices_IndexFuncapi_Given_api_Given_2_s1 n d0) n (0 : Int)).bind fun b_1 =>
  (match b_1 with 
  | .inl y_1 => some (y_1) 
  | .inr y_2 => some ((-1 : Int)))
theorem slices_IndexFuncapi_Given_api_Given_2_ok (n : Nat) (M : Mem) (hG : GL M) (A0 : Option Addr) (cap0 : Nat) (d0 : List TE0) (h0 : Sli M 8 emb_TE0 A0 cap0 d0) (r : Int) (hF : slices_IndexFuncapi_Given_api_Given_2 n d0 = some r) : Ok Tryd.prog M 72 [.slice A0 d0.length cap0, .func (.func 51) #[] #[]] (fun _ v => v = .int .i64 r) := by
 unfold slices_IndexFuncapi_Given_api_Given_2 at hF
 intro M1 hM0 w0 H w p0
 replace hG := GL.mono hM0 hG
 replace h0 := h0.mono hM0
 refine R_enter 19 Tryd.func72 rfl rfl (by simp) fun a0 f0 => RR (Y f0 1 fun _ f => eT (R_seq (RR (Y f 3 fun _ f => eT (wp_block ?_)))))
 obtain ⟨b_1, hL_1, hF_1⟩ := bS hF
 refine wp_mono (Q := fun e a w => (e = .ret ∧ (∃ y_1 : Int, b_1 = .inl y_1 ∧ ∃ M_2 : Mem, M1.le M_2 ∧ Frm 19 [(4, .int .i64 y_1)] a ∧ Hp w0 M_2 (H) w)) ∨ (e = .exit 0 ∧ (∃ y_2 : Unit, b_1 = .inr y_2 ∧ ∃ M_3 : Mem, M1.le M_3 ∧ Frm 19 [] a ∧ Hp w0 M_3 (H) w))) (R_loop (n := 19) (w0 := w0) (M := M1) (fun (x : Nat × Int) => match x with | (m_1, s_1) => [(0, .slice A0 d0.length cap0), (1, .func (.func 51) #[] #[]), (7, .int .i64 ((d0.length : Nat) : Int)), (8, .int .i64 s_1)]) (fun (x : Nat × Int) => match x with | (m_1, s_1) => (H)) (fun (x : Nat × Int) (MM : Mem) => match x with | (m_1, s_1) => loopF (slices_IndexFuncapi_Given_api_Given_2_s1 n d0) m_1 s_1 = some b_1) (fun (x : Nat × Int) => match x with | (m_1, s_1) => m_1) (n, (0 : Int)) (f.kp) p0 hL_1 ?_) ?_
 ·rintro ⟨m_1, s_1⟩ M_1 _ w_1 hM_1 I_1 f p_1
  have I_1L := I_1
  obtain ⟨m_2, r_1, rfl, hs_1, hn_1⟩ := loop_step I_1L
  unfold slices_IndexFuncapi_Given_api_Given_2_s1 at hs_1
  refine RR (Y f 1 fun _ f => eT (R_seq (RcF f hs_1 (fun h_1 hF_2 => ?_) fun h_1 hF_8 => ?_)))
  ·have k_1 := dI.1 h_1
   refine wp_skip (T_n (R_seq (wp_block (RR (Y f 2 fun _ f => eT (RR (Y f 3 fun _ f => ?_)))))))
   obtain ⟨x_1, hx_1, hF_3⟩ := bS hF_2
   obtain ⟨ad_1, c_1, e_1, -, hr_1, hc_1⟩ := Sli.at_ (h0.mono hM_1) hx_1
   obtain ⟨A_1, cap_1, A_2, cap_2, rfl, h_2, h_3⟩ := TE0.opn hr_1
   refine Z f (Y31 e_1 rfl (len := d0.length) (cap := cap0) (k := .i64) (i := s_1) (e := 79) (sz := 8) (getI_nn hx_1) (getI_lt hx_1)) fun _ f => Z (v := .agg #[S x_1.fName, .bool x_1.fUnknown, .int .i8 x_1.fV.fKind, .bool x_1.fV.fBool, .int .i64 x_1.fV.fNum, S x_1.fV.fText, .slice A_1 x_1.fV.fList.length cap_1, .slice A_2 x_1.fV.fKeys.length cap_2]) f (Y33 (cs := [S x_1.fName, .bool x_1.fUnknown, .int .i8 x_1.fV.fKind, .bool x_1.fV.fBool, .int .i64 x_1.fV.fNum, S x_1.fV.fText, .slice A_1 x_1.fV.fList.length cap_1, .slice A_2 x_1.fV.fKeys.length cap_2]) rfl (ad := ad_1.add (s_1.toNat * 8)) (fun j v h => p_1.cell (hc_1 j v h))) fun _ f => ?_
   obtain ⟨x_2, hx_2, hF_4⟩ := bS hF_3
   refine Y18 f p_1 (cloud_check_1_ok n _ (GL.mono hM_1 hG) _ x_1 (TE0.shutx (x := x_1) h_2 h_3) x_2 hx_2) fun w_2 p_2 _ f => eT (RcF f hF_4 (fun h_4 hF_5 => ?_) fun h_4 hF_6 => ?_)
   ·refine RR (Y f 2 fun _ f => eT (wp_ret (B_r (T_r (T_r ?_)))))
    obtain rfl := sI hF_5
    exact .inl ⟨rfl, s_1, (sI hn_1).symm, M_1, hM_1, f.kp, p_2⟩
   ·refine wp_skip (B_n (T_n (R_reg ?_)))
    obtain ⟨g_1, hF_7⟩ := nS hF_6
    refine Y f 1 fun _ f => ?_
    have f := f.st 18 (congrArg (Value.int .i64) (inR_wrap g_1))
    refine Y f 1 fun _ f => eT ?_
    obtain rfl := sI hF_7
    exact ⟨⟨m_2, s_1 + 1⟩, Nat.lt_succ_self _, M_1, hM_1, hn_1, f.kp, p_2⟩
  ·have k_4 := iff_f dI h_1
   refine wp_exit (T_x (T_x ?_))
   obtain rfl := sI hF_8
   exact .inr ⟨rfl, (), (sI hn_1).symm, M_1, hM_1, f.kp, p_1⟩
 ·rintro _ _ w_5 (⟨rfl, y_1, rfl, M_2, hM_2, f, p_3⟩ | ⟨rfl, y_2, rfl, M_3, hM_3, f, p_4⟩)
  ·refine B_r (T_r (E_ret1 f rfl (by kernel_rfl : Vc.look _ 4 = some (.int .i64 y_1)) ?_))
   obtain rfl := sI hF_1
   exact ⟨_, rfl, M_2, hM_2, p_3, rfl⟩
  ·refine B_x (T_n (RR (Y f 1 fun _ f => eT (wp_ret (E_ret1 f rfl (by kernel_rfl : Vc.look _ 4 = some (.int .i64 (-1))) ?_)))))
   obtain rfl := sI hF_1
   exact ⟨_, rfl, M_3, hM_3, p_4, rfl⟩
def slices_ContainsFuncapi_Given_api_Given_2 (n : Nat) (d0 : List TE0) : Option Bool :=
  (slices_IndexFuncapi_Given_api_Given_2 n d0).bind fun x_1 =>
  some ((decide ((0 : Int) ≤ x_1)))
theorem slices_ContainsFuncapi_Given_api_Given_2_ok (n : Nat) (M : Mem) (hG : GL M) (A0 : Option Addr) (cap0 : Nat) (d0 : List TE0) (h0 : Sli M 8 emb_TE0 A0 cap0 d0) (r : Bool) (hF : slices_ContainsFuncapi_Given_api_Given_2 n d0 = some r) : Ok Tryd.prog M 50 [.slice A0 d0.length cap0, .func (.func 51) #[] #[]] (fun _ v => v = .bool r) := by
 unfold slices_ContainsFuncapi_Given_api_Given_2 at hF
 intro M1 hM0 w0 H w p0
 replace hG := GL.mono hM0 hG
 replace h0 := h0.mono hM0
 refine R_enter 9 Tryd.func50 rfl rfl (by simp) fun a0 f0 => RR (Y f0 1 fun _ f => eT (RR (Y f 2 fun _ f => ?_)))
 obtain ⟨x_1, hx_1, hF_1⟩ := bS hF
 refine Y18 f p0 (slices_IndexFuncapi_Given_api_Given_2_ok n _ hG A0 cap0 d0 h0 x_1 hx_1) fun w_1 p_1 _ f => Y f 2 fun _ f => eT (wp_ret (E_ret1 f rfl (by kernel_rfl : Vc.look _ 4 = some (.bool (decide ((0 : Int) ≤ x_1)))) ?_))
 obtain rfl := sI hF_1
 exact ⟨_, rfl, M1, (mR _), p_1, rfl⟩
def cloud_check (n : Nat) (d0_0 : Int) (d0_1 : Int) (d0_2 : List UInt8) (d0_3 : List UInt8) (d0_4 : List TE0) : Option (Int × Int × Int × List UInt8 × List UInt8 × List TE0) :=
  ((((bif (decide (d0_0 < 1)) then
        (some ((decide (d0_0 < 1))))
      else
        bif (decide (d0_1 < 0)) then
          (some ((decide (d0_1 < 0))))
        else
          bif (decide ((2 : Int) < d0_1)) then
            (some ((decide ((2 : Int) < d0_1))))
          else
            some ((!((decide (d0_1 = 0)) == (decide (d0_2 = []))))) : Option Bool)).bind fun y_1 =>
    bif y_1 then
      (((some (((2 : Int), d0_0, d0_1, d0_2, d0_3, d0_4)) : Option (Int × Int × Int × List UInt8 × List UInt8 × List TE0))).map Lp.br)
    else
      ((bif (decide (d0_1 = 2)) then
          (some ((decide ((0 : Int) < ((d0_4.length : Nat) : Int)))))
        else
          some ((false)) : Option Bool)).bind fun y_2 =>
      ((bif y_2 then
          (some ((y_2)))
        else
          bif (decide (d0_1 = 1)) then
            (some ((decide (d0_3 = []))))
          else
            some ((false)) : Option Bool)).bind fun y_3 =>
      bif y_3 then
        (((some (((2 : Int), d0_0, d0_1, d0_2, d0_3, d0_4)) : Option (Int × Int × Int × List UInt8 × List UInt8 × List TE0))).map Lp.br)
      else
        bif (decide (d0_1 = 2)) then
          (((some (((0 : Int), d0_0, d0_1, d0_2, d0_3, d0_4)) : Option (Int × Int × Int × List UInt8 × List UInt8 × List TE0))).map Lp.br)
        else
          (slices_ContainsFuncapi_Given_api_Given_2 n d0_4).bind fun x_1 =>
          bif x_1 then
            (((some (((2 : Int), d0_0, d0_1, d0_2, d0_3, d0_4)) : Option (Int × Int × Int × List UInt8 × List UInt8 × List TE0))).map Lp.br)
          else
            some (.nx ()) : Option (Lp Unit (Int × Int × Int × List UInt8 × List UInt8 × List TE0)))).bind fun j => joinF j fun y_4 =>
  (schema_Check n d0_3 d0_4).bind fun x_2 =>
  some ((x_2, d0_0, d0_1, d0_2, d0_3, d0_4))
set_option maxRecDepth 20000 in
theorem cloud_check_ok (n : Nat) (M : Mem) (hG : GL M) (b0 : Nat) (d0_0 : Int) (d0_1 : Int) (d0_2 : List UInt8) (d0_3 : List UInt8) (d0_4 : List TE0) (A_1 : Option Addr) (cap_1 : Nat) (h_1 : Sli M 8 emb_TE0 A_1 cap_1 d0_4) (r : Int × Int × Int × List UInt8 × List UInt8 × List TE0) (hF : cloud_check n d0_0 d0_1 d0_2 d0_3 d0_4 = some r) : OkH Tryd.prog M [Ent.obj b0 (.cells #[.int .i64 d0_0, .int .i8 d0_1, S d0_2, S d0_3, .slice A_1 d0_4.length cap_1] 44 (0, 0))] 34 [.pointer (some (⟨b0, 0, none⟩))] (fun M' E' v => ∃ (A_2 : Option Addr) (cap_2 : Nat), v = .int .i64 r.1 ∧ E' = [Ent.obj b0 (.cells #[.int .i64 r.2.1, .int .i8 r.2.2.1, S r.2.2.2.1, S r.2.2.2.2.1, .slice A_2 r.2.2.2.2.2.length cap_2] 44 (0, 0))] ∧ Sli M' 8 emb_TE0 A_2 cap_2 r.2.2.2.2.2) := by
 unfold cloud_check at hF
 intro M1 hM0 w0 H w p0
 replace hG := GL.mono hM0 hG
 replace h_1 := h_1.mono hM0
 refine R_enter 77 Tryd.func34 rfl rfl (by simp) fun a0 f0 => RR (Y f0 1 fun _ f => eT (R_seq (R_draw p0 (by kernel_rfl) (by kernel_rfl) (Y5 default f 3 fun _ f => Y2 (v := .int .i8 d0_1) f (fun _ pq => Y32 (v := .int .i8 d0_1) rfl (ad := ⟨b0, 1, none⟩) (pq.ownCell 0 rfl 1)) fun _ f => Y5 default f 4 fun _ f => Y2 (v := .int .i8 d0_1) f (fun _ pq => Y32 (v := .int .i8 d0_1) rfl (ad := ⟨b0, 1, none⟩) (pq.ownCell 0 rfl 1)) fun _ f => Y5 default f 3 fun _ f => Q_end rfl ?_))))
 intro w_1 p_1
 refine T_n (R_seq ?_)
 obtain ⟨j_1, hj_1, hF_1⟩ := bS hF
 refine R_mid (fun a_45 w_6 => ∃ y_4 : Unit, j_1 = .nx y_4 ∧ ∃ M_4 : Mem, M1.le M_4 ∧ Frm 77 [(0, .pointer (some (⟨b0, 0, none⟩)))] a_45 ∧ Hp w0 M_4 ((Ent.obj b0 (.cells #[.int .i64 d0_0, .int .i8 d0_1, S d0_2, S d0_3, .slice A_1 d0_4.length cap_1] 44 (0, 0))) :: H) w_6) ?_ ?_
 ·refine wp_block (R_seq (RR (Y f 3 fun _ f => Z f (Y32 (v := .int .i64 d0_0) rfl (ad := ⟨b0, 0, none⟩) (p_1.ownCell 0 rfl 0)) fun _ f => Y f 2 fun _ f => eT ?_)))
  obtain ⟨j_2, hj_2, hF_2⟩ := bS hj_1
  refine R_mid (fun a_20 w_2 => ∃ y_1 : Bool, j_2 = y_1 ∧ ∃ M_1 : Mem, M1.le M_1 ∧ Frm 77 [(0, .pointer (some (⟨b0, 0, none⟩))), (4, .bool (decide (d0_1 = 2))), (15, .bool y_1)] a_20 ∧ Hp w0 M_1 ((Ent.obj b0 (.cells #[.int .i64 d0_0, .int .i8 d0_1, S d0_2, S d0_3, .slice A_1 d0_4.length cap_1] 44 (0, 0))) :: H) w_2) ?_ ?_
  ·refine RcF f hj_2 (fun h_2 hF_3 => ?_) fun h_2 hF_4 => ?_
   ·have k_1 := dI.1 h_2
    refine wp_skip (T_n ?_)
    exact ⟨(decide (d0_0 < 1)), (sI hF_3).symm, M1, (mR _), f.kp, p_1⟩
   ·have k_2 := iff_f dI h_2
    refine RR (Y f 3 fun _ f => Z f (Y32 (v := .int .i8 d0_1) rfl (ad := ⟨b0, 1, none⟩) (p_1.ownCell 0 rfl 1)) fun _ f => Y f 2 fun _ f => eT (RcF f hF_4 (fun h_3 hF_5 => ?_) fun h_3 hF_6 => ?_))
    ·have k_3 := dI.1 h_3
     refine wp_skip (T_n ?_)
     exact ⟨(decide (d0_1 < 0)), (sI hF_5).symm, M1, (mR _), f.kp, p_1⟩
    ·have k_4 := iff_f dI h_3
     refine RR (Y f 3 fun _ f => Z f (Y32 (v := .int .i8 d0_1) rfl (ad := ⟨b0, 1, none⟩) (p_1.ownCell 0 rfl 1)) fun _ f => Y f 2 fun _ f => eT (RcF f hF_6 (fun h_4 hF_7 => ?_) fun h_4 hF_8 => ?_))
     ·have k_5 := dI.1 h_4
      refine wp_skip (T_n ?_)
      exact ⟨(decide ((2 : Int) < d0_1)), (sI hF_7).symm, M1, (mR _), f.kp, p_1⟩
     ·have k_6 := iff_f dI h_4
      refine R_reg (Y f 4 fun _ f => Z f (Y32 (v := S d0_2) rfl (ad := ⟨b0, 2, none⟩) (p_1.ownCell 0 rfl 2)) fun _ f => Z f (Y38 rfl (l := d0_2) (m := [])) fun _ f => Y f 2 fun _ f => eT ?_)
      exact ⟨(!((decide (d0_1 = 0)) == (decide (d0_2 = [])))), (sI hF_8).symm, M1, (mR _), f.kp, p_1⟩
  ·rintro a_20 w_2 ⟨y_1, hq_1, M_1, hM_1, f, p_2⟩
   subst j_2
   refine T_n (RcF f hF_2 (fun h_5 hF_9 => ?_) fun h_5 hF_11 => ?_)
   ·refine RR (Y f 1 fun _ f => eT (wp_ret (B_r ?_)))
    have hF_10 := br_elim hF_9 hF_1
    refine T_r (T_r (E_ret1 f rfl (by kernel_rfl : Vc.look _ 2 = some (.int .i64 2)) ?_))
    obtain rfl := sI hF_10
    exact ⟨_, rfl, M_1, _, hM_1, p_2, ⟨A_1, cap_1, rfl, rfl, (h_1.mono hM_1)⟩⟩
   ·refine R_seq (R_seq ?_)
    obtain ⟨j_3, hj_3, hF_12⟩ := bS hF_11
    refine R_mid (fun a_27 w_3 => ∃ y_2 : Bool, j_3 = y_2 ∧ ∃ M_2 : Mem, M_1.le M_2 ∧ Frm 77 [(0, .pointer (some (⟨b0, 0, none⟩))), (4, .bool (decide (d0_1 = 2))), (38, .bool y_2)] a_27 ∧ Hp w0 M_2 ((Ent.obj b0 (.cells #[.int .i64 d0_0, .int .i8 d0_1, S d0_2, S d0_3, .slice A_1 d0_4.length cap_1] 44 (0, 0))) :: H) w_3) ?_ ?_
    ·refine R_reg (Y f 2 fun _ f => ?_)
     rcases cE hj_3 with ⟨h_6, hF_13⟩ | ⟨h_6, hF_14⟩
     ·have k_9 := dI.1 h_6
      have f := f.st 40 (cB h_6)
      refine Y f 3 fun _ f => Z f (Y32 (v := .slice A_1 d0_4.length cap_1) rfl (ad := ⟨b0, 4, none⟩) (p_2.ownCell 0 rfl 4)) fun _ f => Y f 4 fun _ f => eT ?_
      exact ⟨(decide ((0 : Int) < ((d0_4.length : Nat) : Int))), (sI hF_13).symm, M_1, (mR _), f.kp, p_2⟩
     ·have k_10 := iff_f dI h_6
      have f := f.st 40 (cB h_6)
      refine Y f 8 fun _ f => eT ?_
      exact ⟨(false), (sI hF_14).symm, M_1, (mR _), f.kp, p_2⟩
    ·rintro a_27 w_3 ⟨y_2, hq_2, M_2, hM_2, f, p_3⟩
     subst j_3
     refine T_n ?_
     obtain ⟨j_4, hj_4, hF_15⟩ := bS hF_12
     refine R_mid (fun a_36 w_4 => ∃ y_3 : Bool, j_4 = y_3 ∧ ∃ M_3 : Mem, M_2.le M_3 ∧ Frm 77 [(0, .pointer (some (⟨b0, 0, none⟩))), (4, .bool (decide (d0_1 = 2))), (38, .bool y_3)] a_36 ∧ Hp w0 M_3 ((Ent.obj b0 (.cells #[.int .i64 d0_0, .int .i8 d0_1, S d0_2, S d0_3, .slice A_1 d0_4.length cap_1] 44 (0, 0))) :: H) w_4) ?_ ?_
     ·refine RcF f hj_4 (fun h_7 hF_16 => ?_) fun h_7 hF_17 => ?_
      ·refine wp_skip (T_n ?_)
       exact ⟨(y_2), (sI hF_16).symm, M_2, (mR _), f.kp, p_3⟩
      ·refine R_reg (Y f 3 fun _ f => Z f (Y32 (v := .int .i8 d0_1) rfl (ad := ⟨b0, 1, none⟩) (p_3.ownCell 0 rfl 1)) fun _ f => Y f 2 fun _ f => ?_)
       rcases cE hF_17 with ⟨h_8, hF_18⟩ | ⟨h_8, hF_19⟩
       ·have k_13 := dI.1 h_8
        have f := f.st 53 (cB h_8)
        refine Y f 3 fun _ f => Z f (Y32 (v := S d0_3) rfl (ad := ⟨b0, 3, none⟩) (p_3.ownCell 0 rfl 3)) fun _ f => Z f (Y38 rfl (l := d0_3) (m := [])) fun _ f => Y f 2 fun _ f => eT ?_
        exact ⟨(decide (d0_3 = [])), (sI hF_18).symm, M_2, (mR _), f.kp, p_3⟩
       ·have k_14 := iff_f dI h_8
        have f := f.st 53 (cB h_8)
        refine Y f 7 fun _ f => eT ?_
        exact ⟨(false), (sI hF_19).symm, M_2, (mR _), f.kp, p_3⟩
     ·rintro a_36 w_4 ⟨y_3, hq_3, M_3, hM_3, f, p_4⟩
      subst j_4
      refine T_n (RcF f hF_15 (fun h_9 hF_20 => ?_) fun h_9 hF_22 => ?_)
      ·refine RR (Y f 1 fun _ f => eT (wp_ret (B_r ?_)))
       have hF_21 := br_elim hF_20 hF_1
       refine T_r (T_r (E_ret1 f rfl (by kernel_rfl : Vc.look _ 2 = some (.int .i64 2)) ?_))
       obtain rfl := sI hF_21
       exact ⟨_, rfl, M_3, _, ((hM_1.trans hM_2).trans hM_3), p_4, ⟨A_1, cap_1, rfl, rfl, (h_1.mono ((hM_1.trans hM_2).trans hM_3))⟩⟩
      ·refine RR (Y f 2 fun _ f => eT (RcF f hF_22 (fun h_10 hF_23 => ?_) fun h_10 hF_25 => ?_))
       ·have k_17 := dI.1 h_10
        refine RR (Y f 1 fun _ f => eT (wp_ret (B_r ?_)))
        have hF_24 := br_elim hF_23 hF_1
        refine T_r (T_r (E_ret1 f rfl (by kernel_rfl : Vc.look _ 2 = some (.int .i64 0)) ?_))
        obtain rfl := sI hF_24
        exact ⟨_, rfl, M_3, _, ((hM_1.trans hM_2).trans hM_3), p_4, ⟨A_1, cap_1, rfl, rfl, (h_1.mono ((hM_1.trans hM_2).trans hM_3))⟩⟩
       ·have k_18 := iff_f dI h_10
        refine RR (Y f 3 fun _ f => Z f (Y32 (v := .slice A_1 d0_4.length cap_1) rfl (ad := ⟨b0, 4, none⟩) (p_4.ownCell 0 rfl 4)) fun _ f => ?_)
        obtain ⟨x_1, hx_1, hF_26⟩ := bS hF_25
        refine Y18 f p_4 (slices_ContainsFuncapi_Given_api_Given_2_ok n _ (GL.mono ((hM_1.trans hM_2).trans hM_3) hG) A_1 cap_1 d0_4 (h_1.mono ((hM_1.trans hM_2).trans hM_3)) x_1 hx_1) fun w_5 p_5 _ f => Y f 1 fun _ f => eT (RcF f hF_26 (fun h_11 hF_27 => ?_) fun h_11 hF_29 => ?_)
        ·refine RR (Y f 1 fun _ f => eT (wp_ret (B_r ?_)))
         have hF_28 := br_elim hF_27 hF_1
         refine T_r (T_r (E_ret1 f rfl (by kernel_rfl : Vc.look _ 2 = some (.int .i64 2)) ?_))
         obtain rfl := sI hF_28
         exact ⟨_, rfl, M_3, _, ((hM_1.trans hM_2).trans hM_3), p_5, ⟨A_1, cap_1, rfl, rfl, (h_1.mono ((hM_1.trans hM_2).trans hM_3))⟩⟩
        ·refine wp_skip (B_n (T_n ?_))
         exact ⟨(), (sI hF_29).symm, M_3, ((hM_1.trans hM_2).trans hM_3), f.kp, p_5⟩
 ·rintro a_45 w_6 ⟨y_4, rfl, M_4, hM_4, f, p_6⟩
  refine T_n (R_seq (R_draw p_6 (by kernel_rfl) (by kernel_rfl) (Y5 default f 3 fun _ f => Y2 (v := S d0_3) f (fun _ pq => Y32 (v := S d0_3) rfl (ad := ⟨b0, 3, none⟩) (pq.ownCell 0 rfl 3)) fun _ f => Y5 default f 3 fun _ f => Y2 (v := .slice A_1 d0_4.length cap_1) f (fun _ pq => Y32 (v := .slice A_1 d0_4.length cap_1) rfl (ad := ⟨b0, 4, none⟩) (pq.ownCell 0 rfl 4)) fun _ f => ?_)))
  obtain ⟨x_2, hx_2, hF_30⟩ := bS hF_1
  refine Y3 f (schema_Check_ok n _ (GL.mono hM_4 hG) d0_3 A_1 cap_1 d0_4 (h_1.mono hM_4) x_2 hx_2) fun _ f => Y5 default f 1 fun _ f => Q_end rfl ?_
  intro w_8 p_8
  refine T_n (wp_ret (E_ret1 f rfl (by kernel_rfl : Vc.look _ 2 = some (.int .i64 x_2)) ?_))
  obtain rfl := sI hF_30
  exact ⟨_, rfl, M_4, _, hM_4, p_8, ⟨A_1, cap_1, rfl, rfl, (h_1.mono hM_4)⟩⟩
def slices_Cloneapi_Given_api_Given_z (n : Nat) (d0 : List TE0) (z0 : Bool) : Option (List TE0) :=
  bif z0 then
    (some (([] : List TE0)))
  else
    need ((([] : List TE0).length + d0.length) * 104 ≤ 140737488355328) <|
    some (([] : List TE0) ++ d0)
theorem slices_Cloneapi_Given_api_Given_z_ok (n : Nat) (M : Mem) (A0 : Option Addr) (cap0 : Nat) (d0 : List TE0) (h0 : Sli M 8 emb_TE0 A0 cap0 d0) (z0 : Bool) (hz0 : A0.isNone = z0) (r : List TE0) (hF : slices_Cloneapi_Given_api_Given_z n d0 z0 = some r) : OkH Tryd.prog M [] 35 [.slice A0 d0.length cap0] (fun M' E' v => ∃ (A0 : Option Addr) (k0 : Nat) (s0 : List Value), v = .slice A0 r.length k0 ∧ E' = [.row 79 8 (.slice A0 r.length k0) r.length s0] ∧ RepSeq M' (r.map emb_TE0) s0) := by
 unfold slices_Cloneapi_Given_api_Given_z at hF
 intro M1 hM0 w0 H w p0
 replace h0 := h0.mono hM0
 refine R_enter 8 Tryd.func35 rfl rfl (by simp) fun a0 f0 => RR (Y f0 1 fun _ f => eT (R_seq (RR (Y f 1 fun _ f => Z (v := .bool A0.isNone) f (X_slicenil (A := A0) (n := d0.length) (c := cap0) (e := 79) rfl (by kernel_rfl) (by kernel_rfl) (by kernel_rfl) _) fun _ f => ?_))))
 have f := Frm.set f 4 (v := .bool A0.isNone) (v' := .bool z0) (by kernel_rfl) (cB hz0)
 refine eT (RcF f hF (fun h_1 hF_1 => ?_) fun h_1 hF_2 => ?_)
 ·refine RR (Y f 1 fun _ f => eT (wp_ret (T_r ?_)))
  obtain ⟨A_1, cap_1, hv_1⟩ : ∃ A cap, Value.slice none 0 0 = .slice A ([] : List TE0).length cap := ⟨none, 0, rfl⟩
  have p_1 : Hp w0 M1 ((Ent.row 79 8 (.slice A_1 ([] : List TE0).length cap_1) ([] : List TE0).length []) :: H) w := by rw [← hv_1]; exact p0.nilRow 79 8
  have f := f.st 2 (hv_1)
  have hr_1 : RepSeq M1 (([] : List TE0).map emb_TE0) [] := rfl
  refine E_ret1 f rfl (by kernel_rfl : Vc.look _ 2 = some (.slice A_1 ([] : List TE0).length cap_1)) ?_
  obtain rfl := sI hF_1
  exact ⟨_, rfl, M1, _, (mR _), p_1, ⟨A_1, cap_1, [], rfl, rfl, hr_1⟩⟩
 ·refine wp_skip (T_n (RR (V_allocS (k := 0) (c := 0) f p0 (.cells #[] 79 (0, 0)) (by kernel_rfl) (fun _ => by kernel_rfl) fun b_1 w_1 p_2 _ f => Y f 1 fun _ f => ?_)))
  have hr_2 : RepSeq M1 (([] : List TE0).map emb_TE0) [] := rfl
  have p_3 : Hp w0 M1 ((Ent.row 79 8 (.slice (some ⟨b_1, 0, none⟩) 0 0) ([] : List TE0).length []) :: H) w_1 := p_2.objRow (n := 0) (cap := 0) (size := 8) (by decide) (by decide) (blk_eq (by decide) rfl) rfl rfl
  obtain ⟨g_1, hF_3⟩ := nS hF_2
  refine Y23 (z := .agg #[S [], .bool false, .int .i8 0, .bool false, .int .i64 0, S [], .slice none 0 0, .slice none 0 0]) (f := emb_TE0) (xs := ([] : List TE0)) (ys := d0) (c := cap0) f p_3 hr_2 h0 rfl rfl rfl g_1 (by omega) fun A_2 cap_2 cs_1 w_2 p_4 hr_3 _ f => Y f 1 fun _ f => eT (wp_ret (E_ret1 f rfl (by kernel_rfl : Vc.look _ 2 = some (.slice A_2 (([] : List TE0) ++ d0).length cap_2)) ?_))
  obtain rfl := sI hF_3
  exact ⟨_, rfl, M1, _, (mR _), p_4, ⟨A_2, cap_2, cs_1, rfl, rfl, hr_3⟩⟩
def slices_Cloneapi_Given_api_Given (_ : Nat) (d0 : List TE0) : Option (List TE0) := need (d0.length * 104 ≤ 140737488355328) (some d0)
theorem slices_Cloneapi_Given_api_Given_ok (n : Nat) (M : Mem) (A0 : Option Addr) (cap0 : Nat) (d0 : List TE0) (h0 : Sli M 8 emb_TE0 A0 cap0 d0) (r : List TE0) (hF : slices_Cloneapi_Given_api_Given n d0 = some r) : OkH Tryd.prog M [] 35 [.slice A0 d0.length cap0] (fun M' E' v => ∃ (A0 : Option Addr) (k0 : Nat) (s0 : List Value), v = .slice A0 r.length k0 ∧ E' = [.row 79 8 (.slice A0 r.length k0) r.length s0] ∧ RepSeq M' (r.map emb_TE0) s0) := by
 unfold slices_Cloneapi_Given_api_Given at hF
 obtain ⟨g, hF⟩ := nS hF
 obtain rfl := sI hF
 refine slices_Cloneapi_Given_api_Given_z_ok n M A0 cap0 d0 h0 A0.isNone rfl d0 ?_
 unfold slices_Cloneapi_Given_api_Given_z
 cases A0 with
 | none =>
  obtain ⟨h1, h2, _⟩ := h0
  have h3 := h2 rfl
  obtain rfl : d0 = [] := List.eq_nil_of_length_eq_zero (by omega)
  rfl
 | some a => simp [need]; omega
def cloud_Cloud_Submit (n : Nat) (d0_0 : List TF0) (d0_1 : Int) (d0_2 : List TH0) (d0_3 : List (Int × TC0)) (d0_4 : List TH0) (d0_5 : Int) (d1 : TH0) : Option (Int × List TF0 × Int × List TH0 × (List (Int × TC0)) × List TH0 × Int) :=
  (cloud_check n d1.fToken d1.fKind d1.fPhys d1.fType d1.fProps).bind fun x_1 =>
  bif (!(decide (x_1.1 = 0))) then
    (some ((x_1.1, d0_0, d0_1, d0_2, d0_3, d0_4, d0_5)))
  else
    bif (!(mget d0_3 x_1.2.1).isSome) then
      ((slices_Cloneapi_Given_api_Given n x_1.2.2.2.2.2).bind fun x_2 =>
      ((need ((d0_2.length + 1) * 72 ≤ 140737488355328) <|
        some ((x_2, d0_2 ++ [(⟨x_1.2.1, x_1.2.2.1, x_1.2.2.2.1, x_1.2.2.2.2.1, x_2⟩ : TH0)])) : Option (List TE0 × List TH0))).bind fun y_1 =>
      ((need ((d0_4.length + 1) * 72 ≤ 140737488355328) <|
        some (d0_4 ++ [(⟨x_1.2.1, x_1.2.2.1, x_1.2.2.2.1, x_1.2.2.2.2.1, y_1.1⟩ : TH0)]) : Option (List TH0))).bind fun y_2 =>
      some (((0 : Int), d0_0, d0_1, y_1.2, mput d0_3 x_1.2.1 z_TC0, y_2, d0_5)))
    else
      some (((0 : Int), d0_0, d0_1, d0_2, d0_3, d0_4, d0_5))
set_option maxRecDepth 20000 in
theorem cloud_Cloud_Submit_ok (n : Nat) (M : Mem) (hG : GL M) (b0 : Nat) (d0_0 : List TF0) (A_1 : Option Addr) (cap_1 : Nat) (h_1 : Sli M 3 emb_TF0 A_1 cap_1 d0_0) (d0_1 : Int) (d0_2 : List TH0) (A_2 : Option Addr) (cap_2 : Nat) (cs_1 : List Value) (hr_1 : RepSeq M (d0_2.map emb_TH0) cs_1) (m0_3 : Nat) (d0_3 : List (Int × TC0)) (d0_4 : List TH0) (A_3 : Option Addr) (cap_3 : Nat) (cs_2 : List Value) (hr_2 : RepSeq M (d0_4.map emb_TH0) cs_2) (d0_5 : Int) (c1 : List Value) (d1 : TH0) (h1 : Rep M (emb_TH0 d1) c1) (r : Int × List TF0 × Int × List TH0 × (List (Int × TC0)) × List TH0 × Int) (hF : cloud_Cloud_Submit n d0_0 d0_1 d0_2 d0_3 d0_4 d0_5 d1 = some r) : OkH Tryd.prog M [Ent.obj b0 (.cells #[.slice A_1 d0_0.length cap_1, .int .i64 d0_1, .slice A_2 d0_2.length cap_2, .map (some m0_3), .slice A_3 d0_4.length cap_3, .int .i64 d0_5] 74 (0, 0)), Ent.row 44 5 (.slice A_2 d0_2.length cap_2) d0_2.length cs_1, Ent.obj m0_3 (mapO (Value.int .i64) (fun x : TC0 => Value.agg #[.bool x.fEnded, .bool x.fOk, S x.fPhys]) d0_3), Ent.row 44 5 (.slice A_3 d0_4.length cap_3) d0_4.length cs_2] 19 [.pointer (some (⟨b0, 0, none⟩)), .agg c1.toArray] (fun M' E' v => ∃ (A_21 : Option Addr) (cap_21 : Nat) (A_22 : Option Addr) (cap_22 : Nat) (cs_13 : List Value) (A_23 : Option Addr) (cap_23 : Nat) (cs_14 : List Value), v = .int .i64 r.1 ∧ E' = [Ent.obj b0 (.cells #[.slice A_21 r.2.1.length cap_21, .int .i64 r.2.2.1, .slice A_22 r.2.2.2.1.length cap_22, .map (some m0_3), .slice A_23 r.2.2.2.2.2.1.length cap_23, .int .i64 r.2.2.2.2.2.2] 74 (0, 0)), Ent.row 44 5 (.slice A_22 r.2.2.2.1.length cap_22) r.2.2.2.1.length cs_13, Ent.obj m0_3 (mapO (Value.int .i64) (fun x : TC0 => Value.agg #[.bool x.fEnded, .bool x.fOk, S x.fPhys]) r.2.2.2.2.1), Ent.row 44 5 (.slice A_23 r.2.2.2.2.2.1.length cap_23) r.2.2.2.2.2.1.length cs_14] ∧ Sli M' 3 emb_TF0 A_21 cap_21 r.2.1 ∧ RepSeq M' (r.2.2.2.1.map emb_TH0) cs_13 ∧ RepSeq M' (r.2.2.2.2.2.1.map emb_TH0) cs_14) := by
 unfold cloud_Cloud_Submit at hF
 intro M1 hM0 w0 H w p0
 replace hG := GL.mono hM0 hG
 replace h_1 := h_1.mono hM0
 replace hr_1 := RepSeq.mono hM0 _ _ hr_1
 replace hr_2 := RepSeq.mono hM0 _ _ hr_2
 replace h1 := Rep.mono hM0 _ _ h1
 obtain ⟨A_4, cap_4, rfl, h_2⟩ := TH0.opn h1
 refine R_enter 57 Tryd.func19 rfl rfl (by simp) fun a0 f0 => RR (Y12 f0 p0 (.cells #[.int .i64 d1.fToken, .int .i8 d1.fKind, S d1.fPhys, S d1.fType, .slice A_4 d1.fProps.length cap_4] 44 (0, 0)) fun b_1 w_1 p_1 _ f => Y f 1 fun _ f => eT (R_seq (RR (Y f 1 fun _ f => Z (v := .bool false) f (X_ptrNil (q := some (⟨b0, 0, none⟩)) (e := 74) rfl (by kernel_rfl) (by kernel_rfl) (by kernel_rfl) _) fun _ f => eT (Y7 f (wp_skip (T_n (R_seq (RR ?_)))))))))
 obtain ⟨x_1, hx_1, hF_1⟩ := bS hF
 refine Y17 (E := [Ent.obj b_1 (.cells #[.int .i64 d1.fToken, .int .i8 d1.fKind, S d1.fPhys, S d1.fType, .slice A_4 d1.fProps.length cap_4] 44 (0, 0))]) (H := ((Ent.obj b0 (.cells #[.slice A_1 d0_0.length cap_1, .int .i64 d0_1, .slice A_2 d0_2.length cap_2, .map (some m0_3), .slice A_3 d0_4.length cap_3, .int .i64 d0_5] 74 (0, 0))) :: (Ent.row 44 5 (.slice A_2 d0_2.length cap_2) d0_2.length cs_1) :: (Ent.obj m0_3 (mapO (Value.int .i64) (fun x : TC0 => Value.agg #[.bool x.fEnded, .bool x.fOk, S x.fPhys]) d0_3)) :: (Ent.row 44 5 (.slice A_3 d0_4.length cap_3) d0_4.length cs_2) :: H)) f p_1 (cloud_check_ok n _ hG b_1 d1.fToken d1.fKind d1.fPhys d1.fType d1.fProps A_4 cap_4 h_2 x_1 hx_1) fun _ M_1 E_1 w_2 hM_1 p_2 q_1 _ f => ?_
 obtain ⟨A_5, cap_5, rfl, rfl, h_3⟩ := q_1
 refine Y f 1 fun _ f => eT (RR (Y f 2 fun _ f => eT (RcF f hF_1 (fun h_4 hF_2 => ?_) fun h_4 hF_3 => ?_)))
 ·have k_1 : ¬ (x_1.1 = 0) := (not_iff dI).1 h_4
  refine RR (Y f 2 fun _ f => eT (wp_ret (T_r (E_ret1 f rfl (by kernel_rfl : Vc.look _ 4 = some (.int .i64 x_1.1)) ?_))))
  obtain rfl := sI hF_2
  exact ⟨_, rfl, M_1, _, hM_1, (p_2.dropN 1), ⟨A_1, cap_1, A_2, cap_2, cs_1, A_3, cap_3, cs_2, rfl, rfl, (h_1.mono hM_1), (RepSeq.mono hM_1 _ _ hr_1), (RepSeq.mono hM_1 _ _ hr_2)⟩⟩
 ·have k_2 : ¬ (¬ (x_1.1 = 0)) := iff_f (not_iff dI) h_4
  refine wp_skip (T_n (R_seq (R_seq (R_mix (E := []) (Hr := ((Ent.obj b_1 (.cells #[.int .i64 x_1.2.1, .int .i8 x_1.2.2.1, S x_1.2.2.2.1, S x_1.2.2.2.2.1, .slice A_5 x_1.2.2.2.2.2.length cap_5] 44 (0, 0))) :: (Ent.obj b0 (.cells #[.slice A_1 d0_0.length cap_1, .int .i64 d0_1, .slice A_2 d0_2.length cap_2, .map (some m0_3), .slice A_3 d0_4.length cap_3, .int .i64 d0_5] 74 (0, 0))) :: (Ent.row 44 5 (.slice A_2 d0_2.length cap_2) d0_2.length cs_1) :: (Ent.obj m0_3 (mapO (Value.int .i64) (fun x : TC0 => Value.agg #[.bool x.fEnded, .bool x.fOk, S x.fPhys]) d0_3)) :: (Ent.row 44 5 (.slice A_3 d0_4.length cap_3) d0_4.length cs_2) :: H)) [(0, true), (1, true), (2, true), (3, true), (4, true), (5, true), (6, true), (7, true), (8, true), (9, true), (10, false), (11, false), (12, true)] p_2 (by kernel_rfl) (by kernel_rfl) rfl (by kernel_rfl) (Y0 default f 3 fun _ f => M_eq (v := .map (some m0_3)) f (by kernel_rfl) (by kernel_rfl) rfl rfl (fun _ pq => Y32 (v := .map (some m0_3)) rfl (ad := ⟨b0, 3, none⟩) (pq.ownCell 1 rfl 3)) fun _ f => Y0 default f 1 fun _ f => M_eq (v := .int .i64 x_1.2.1) f (by kernel_rfl) (by kernel_rfl) rfl rfl (fun _ pq => Y32 (v := .int .i64 x_1.2.1) rfl (ad := ⟨b_1, 0, none⟩) (pq.ownCell 0 rfl 0)) fun _ f => M_eq (v := .tuple #[.agg #[.bool ((mget d0_3 x_1.2.1).getD z_TC0).fEnded, .bool ((mget d0_3 x_1.2.1).getD z_TC0).fOk, S ((mget d0_3 x_1.2.1).getD z_TC0).fPhys], .bool (mget d0_3 x_1.2.1).isSome]) f (by kernel_rfl) (by kernel_rfl) rfl rfl (fun _ pq => Y34 (ek := (Value.int .i64)) (ev := (fun x : TC0 => Value.agg #[.bool x.fEnded, .bool x.fOk, S x.fPhys])) (m := d0_3) (k := x_1.2.1) (z := z_TC0) (kt := 3) (et := 49) rfl (intKey (by kernel_rfl)) (pq.ownObj 3 rfl)) fun _ f => Y0 default f 3 fun _ f => M_fix (E := []) fun w_3 p_3 => Y12 f p_3 (.cells #[.bool false, .bool false, S []] 49 (0, 0)) fun b_2 w_4 p_4 _ f => W_end rfl ?_)))))
  refine M_go (M1 := M_1) (E := [Ent.obj b_2 (.cells #[.bool false, .bool false, S []] 49 (0, 0))]) (mR _) p_4 (M_fix (E := [Ent.obj b_2 (.cells #[.bool false, .bool false, S []] 49 (0, 0))]) fun w_5 p_5 => Y27 (vs := [.bool ((mget d0_3 x_1.2.1).getD z_TC0).fEnded, .bool ((mget d0_3 x_1.2.1).getD z_TC0).fOk, S ((mget d0_3 x_1.2.1).getD z_TC0).fPhys]) (j := 0) f p_5 rfl rfl (by simp [Value.oneCell', S]) (by simp) (by decide) (cs' := #[.bool ((mget d0_3 x_1.2.1).getD z_TC0).fEnded, .bool ((mget d0_3 x_1.2.1).getD z_TC0).fOk, S ((mget d0_3 x_1.2.1).getD z_TC0).fPhys]) (by kernel_rfl) fun w_6 p_6 _ f => W_end rfl (M_go (M1 := M_1) (E := [Ent.obj b_2 (.cells #[.bool ((mget d0_3 x_1.2.1).getD z_TC0).fEnded, .bool ((mget d0_3 x_1.2.1).getD z_TC0).fOk, S ((mget d0_3 x_1.2.1).getD z_TC0).fPhys] 49 (0, 0))]) (mR _) p_6 (Y0 default f 1 fun _ f => M_end rfl fun w_7 p_7 => T_n (RR (Y f 2 fun _ f => eT (RcF f hF_3 (fun h_5 hF_4 => ?_) fun h_5 hF_10 => ?_))))))
  ·have k_3 : ((mget d0_3 x_1.2.1).isSome) = false := by simpa using h_5
   refine RR (Y f 1 fun _ f => Z f (Y32 (v := .slice A_5 x_1.2.2.2.2.2.length cap_5) rfl (ad := ⟨b_1, 4, none⟩) (p_7.ownCell 1 rfl 4)) fun _ f => ?_)
   obtain ⟨x_2, hx_2, hF_5⟩ := bS hF_4
   refine Y17 (E := []) (H := ((Ent.obj b_2 (.cells #[.bool ((mget d0_3 x_1.2.1).getD z_TC0).fEnded, .bool ((mget d0_3 x_1.2.1).getD z_TC0).fOk, S ((mget d0_3 x_1.2.1).getD z_TC0).fPhys] 49 (0, 0))) :: (Ent.obj b_1 (.cells #[.int .i64 x_1.2.1, .int .i8 x_1.2.2.1, S x_1.2.2.2.1, S x_1.2.2.2.2.1, .slice A_5 x_1.2.2.2.2.2.length cap_5] 44 (0, 0))) :: (Ent.obj b0 (.cells #[.slice A_1 d0_0.length cap_1, .int .i64 d0_1, .slice A_2 d0_2.length cap_2, .map (some m0_3), .slice A_3 d0_4.length cap_3, .int .i64 d0_5] 74 (0, 0))) :: (Ent.row 44 5 (.slice A_2 d0_2.length cap_2) d0_2.length cs_1) :: (Ent.obj m0_3 (mapO (Value.int .i64) (fun x : TC0 => Value.agg #[.bool x.fEnded, .bool x.fOk, S x.fPhys]) d0_3)) :: (Ent.row 44 5 (.slice A_3 d0_4.length cap_3) d0_4.length cs_2) :: H)) f p_7 (slices_Cloneapi_Given_api_Given_ok n _ A_5 cap_5 x_1.2.2.2.2.2 h_3 x_2 hx_2) fun _ M_2 E_2 w_8 hM_2 p_8 q_2 _ f => ?_
   obtain ⟨A_6, cap_6, cs_3, rfl, rfl, hr_3⟩ := q_2
   refine Y f 1 fun _ f => Y26 f p_8 2 rfl rfl (b := b_1) (j := 4) (v := .slice A_6 x_2.length cap_6) rfl (by exact rfl) (by simp) (by simp) ((Ent.row 79 8 (.slice A_6 x_2.length cap_6) x_2.length cs_3) :: (Ent.obj b_2 (.cells #[.bool ((mget d0_3 x_1.2.1).getD z_TC0).fEnded, .bool ((mget d0_3 x_1.2.1).getD z_TC0).fOk, S ((mget d0_3 x_1.2.1).getD z_TC0).fPhys] 49 (0, 0))) :: (Ent.obj b_1 (.cells #[.int .i64 x_1.2.1, .int .i8 x_1.2.2.1, S x_1.2.2.2.1, S x_1.2.2.2.2.1, .slice A_6 x_2.length cap_6] 44 (0, 0))) :: (Ent.obj b0 (.cells #[.slice A_1 d0_0.length cap_1, .int .i64 d0_1, .slice A_2 d0_2.length cap_2, .map (some m0_3), .slice A_3 d0_4.length cap_3, .int .i64 d0_5] 74 (0, 0))) :: (Ent.row 44 5 (.slice A_2 d0_2.length cap_2) d0_2.length cs_1) :: (Ent.obj m0_3 (mapO (Value.int .i64) (fun x : TC0 => Value.agg #[.bool x.fEnded, .bool x.fOk, S x.fPhys]) d0_3)) :: (Ent.row 44 5 (.slice A_3 d0_4.length cap_3) d0_4.length cs_2) :: H) rfl fun w_9 p_9 _ f => eT (R_seq (R_drawT 7 p_9 (by kernel_rfl) (by kernel_rfl) fun w_10 p_10 => ST_eq (v := .pointer (some (⟨b0, 0, none⟩))) f (by kernel_rfl) (by kernel_rfl) rfl rfl (by kernel_rfl) fun _ f => ST_eq (v := .pointer (some (⟨b0, 0, none⟩))) f (by kernel_rfl) (by kernel_rfl) rfl rfl (by kernel_rfl) fun _ f => ST_eq (v := .pointer (some (⟨b0, 3, none⟩))) f (by kernel_rfl) (by kernel_rfl) rfl rfl (by kernel_rfl) fun _ f => ST_eq (v := .map (some m0_3)) f (by kernel_rfl) (by kernel_rfl) rfl rfl (Y32 (v := .map (some m0_3)) rfl (ad := ⟨b0, 3, none⟩) (p_10.ownCell 3 rfl 3)) fun _ f => ST_eq (v := .pointer (some (⟨b_1, 0, none⟩))) f (by kernel_rfl) (by kernel_rfl) rfl rfl (by kernel_rfl) fun _ f => ST_eq (v := .int .i64 x_1.2.1) f (by kernel_rfl) (by kernel_rfl) rfl rfl (Y32 (v := .int .i64 x_1.2.1) rfl (ad := ⟨b_1, 0, none⟩) (p_10.ownCell 2 rfl 0)) fun _ f => ST_eq (v := .agg #[.bool false, .bool false, S []]) f (by kernel_rfl) (by kernel_rfl) rfl rfl (by kernel_rfl) fun _ f => ?_))
   refine ST_end rfl ?_
   have p_11 := p_10.pl [5]
   refine W_mapput (ek := (Value.int .i64)) (ev := (fun x : TC0 => Value.agg #[.bool x.fEnded, .bool x.fOk, S x.fPhys])) (m := d0_3) (k := x_1.2.1) (v := z_TC0) (kt := 3) (et := 49) f p_11 (by kernel_rfl) (by kernel_rfl) rfl (.inl rfl) (by kernel_rfl) (by kernel_rfl) (by kernel_rfl) (by kernel_rfl) (intKey (by kernel_rfl)) fun w_11 p_12 _ f => eT (R_seq ?_)
   obtain ⟨j_1, hj_1, hF_6⟩ := bS hF_5
   refine R_mid (fun a_63 w_41 => ∃ y_1 : List TE0 × List TH0, j_1 = y_1 ∧ ∃ M_7 : Mem, M_2.le M_7 ∧ ∃ (A_15 : Option Addr), ∃ (cap_15 : Nat), ∃ (A_16 : Option Addr), ∃ (cap_16 : Nat), ∃ (cs_8 : List Value), Sli M_7 8 emb_TE0 A_15 cap_15 y_1.1 ∧ RepSeq M_7 (y_1.2.map emb_TH0) cs_8 ∧ Frm 57 [(0, .pointer (some (⟨b0, 0, none⟩))), (3, .pointer (some (⟨b_1, 0, none⟩)))] a_63 ∧ Hp w0 M_7 ((Ent.row 44 5 (.slice A_16 y_1.2.length cap_16) y_1.2.length cs_8) :: (Ent.obj b_1 (.cells #[.int .i64 x_1.2.1, .int .i8 x_1.2.2.1, S x_1.2.2.2.1, S x_1.2.2.2.2.1, .slice A_15 y_1.1.length cap_15] 44 (0, 0))) :: (Ent.obj b0 (.cells #[.slice A_1 d0_0.length cap_1, .int .i64 d0_1, .slice A_16 y_1.2.length cap_16, .map (some m0_3), .slice A_3 d0_4.length cap_3, .int .i64 d0_5] 74 (0, 0))) :: (Ent.obj m0_3 (mapO (Value.int .i64) (fun x : TC0 => Value.agg #[.bool x.fEnded, .bool x.fOk, S x.fPhys]) (mput d0_3 x_1.2.1 z_TC0))) :: (Ent.obj b_2 (.cells #[.bool ((mget d0_3 x_1.2.1).getD z_TC0).fEnded, .bool ((mget d0_3 x_1.2.1).getD z_TC0).fOk, S ((mget d0_3 x_1.2.1).getD z_TC0).fPhys] 49 (0, 0))) :: (Ent.row 44 5 (.slice A_3 d0_4.length cap_3) d0_4.length cs_2) :: H) w_41) ?_ ?_
   ·have p_28 := p_12.pl [6, 3, 2, 6, 6, 6, 6]
    obtain ⟨g_1, hF_7⟩ := nS hj_1
    refine R_plan (ks := []) (E := [Ent.row 79 8 (.slice A_6 x_2.length cap_6) x_2.length cs_3, Ent.obj b_1 (.cells #[.int .i64 x_1.2.1, .int .i8 x_1.2.2.1, S x_1.2.2.2.1, S x_1.2.2.2.2.1, .slice A_6 x_2.length cap_6] 44 (0, 0)), Ent.obj b0 (.cells #[.slice A_1 d0_0.length cap_1, .int .i64 d0_1, .slice A_2 d0_2.length cap_2, .map (some m0_3), .slice A_3 d0_4.length cap_3, .int .i64 d0_5] 74 (0, 0)), Ent.row 44 5 (.slice A_2 d0_2.length cap_2) d0_2.length cs_1]) (Hr := ((Ent.obj m0_3 (mapO (Value.int .i64) (fun x : TC0 => Value.agg #[.bool x.fEnded, .bool x.fOk, S x.fPhys]) (mput d0_3 x_1.2.1 z_TC0))) :: (Ent.obj b_2 (.cells #[.bool ((mget d0_3 x_1.2.1).getD z_TC0).fEnded, .bool ((mget d0_3 x_1.2.1).getD z_TC0).fOk, S ((mget d0_3 x_1.2.1).getD z_TC0).fPhys] 49 (0, 0))) :: (Ent.row 44 5 (.slice A_3 d0_4.length cap_3) d0_4.length cs_2) :: H)) (.quiet 0 (.quiet 1 (.quiet 2 (.quiet 3 (.alt 4 (.alt 5 (.alt 6 (.alt 7 (.quiet 8 (.quiet 9 (.alt 10 .done .none))) .none) .none) .none) (.alt 5 (.alt 4 (.alt 6 (.alt 7 (.quiet 8 (.quiet 9 (.alt 10 .done .none))) .none) .none) (.alt 6 (.alt 4 (.alt 7 (.quiet 8 (.quiet 9 (.alt 10 .done .none))) .none) .none) .none)) .none)))))) p_28 (by kernel_rfl) (by kernel_rfl) (by kernel_rfl) (Y1 (v := .pointer (some (⟨b0, 0, none⟩))) rfl f rfl rfl (fun _ _ => by kernel_rfl) fun _ f => Y1 (v := .pointer (some (⟨b0, 0, none⟩))) rfl f rfl rfl (fun _ _ => by kernel_rfl) fun _ f => Y1 (v := .pointer (some (⟨b0, 0, none⟩))) rfl f rfl rfl (fun _ _ => by kernel_rfl) fun _ f => Y1 (v := .pointer (some (⟨b0, 2, none⟩))) rfl f rfl rfl (fun _ _ => by kernel_rfl) fun _ f => N_alt rfl (fun w_15 p_29 => ?_) ?_)
    ·refine Z f (Y32 (v := .slice A_2 d0_2.length cap_2) rfl (ad := ⟨b0, 2, none⟩) (p_29.ownCell 2 rfl 2)) fun _ f => W_end rfl (N_goN 4 (mR _) p_29 rfl (N_alt rfl (fun w_16 p_30 => ?_) ?_))
     ·refine Z (v := .agg #[.int .i64 x_1.2.1, .int .i8 x_1.2.2.1, S x_1.2.2.2.1, S x_1.2.2.2.2.1, .slice A_6 x_2.length cap_6]) f (Y33 (cs := [.int .i64 x_1.2.1, .int .i8 x_1.2.2.1, S x_1.2.2.2.1, S x_1.2.2.2.2.1, .slice A_6 x_2.length cap_6]) rfl (ad := ⟨b_1, 0, none⟩) (own_cells (p_30.ownCell 1 rfl) 0 rfl)) fun _ f => W_end rfl (N_goN 4 (mR _) p_30 rfl (N_alt rfl (fun w_17 p_31 => ?_) ?_))
      ·refine V_allocS (k := 1) (c := 1) f p_31 (.cells #[.int .i64 x_1.2.1, .int .i8 x_1.2.2.1, S x_1.2.2.2.1, S x_1.2.2.2.2.1, .slice A_6 x_2.length cap_6] 44 (0, 0)) (by kernel_rfl) (fun _ => by kernel_rfl) fun b_4 w_18 p_32 _ f => W_end rfl (N_goN 5 (mR _) p_32 rfl (N_alt rfl (fun w_19 p_33 => ?_) ?_))
       ·have p_34 := p_33.pl [1]
        obtain ⟨A_9, cap_9, M_4, hv_2, hM_4, p_35, h_7⟩ := p_34.rowSli (f := emb_TE0) (xs := x_2) szd_TE0 hr_3
        have f := Frm.set f 42 (v := .agg #[.int .i64 x_1.2.1, .int .i8 x_1.2.2.1, S x_1.2.2.2.1, S x_1.2.2.2.2.1, .slice A_6 x_2.length cap_6]) (v' := .agg #[.int .i64 x_1.2.1, .int .i8 x_1.2.2.1, S x_1.2.2.2.1, S x_1.2.2.2.2.1, .slice A_9 x_2.length cap_9]) (by kernel_rfl) (by rw [hv_2])
        have p_36 : Hp w0 M_4 ((Ent.obj b_4 (.cells #[.int .i64 x_1.2.1, .int .i8 x_1.2.2.1, S x_1.2.2.2.1, S x_1.2.2.2.2.1, .slice A_9 x_2.length cap_9] 44 (0, 0))) :: (Ent.obj b_1 (.cells #[.int .i64 x_1.2.1, .int .i8 x_1.2.2.1, S x_1.2.2.2.1, S x_1.2.2.2.2.1, .slice A_9 x_2.length cap_9] 44 (0, 0))) :: (Ent.obj b0 (.cells #[.slice A_1 d0_0.length cap_1, .int .i64 d0_1, .slice A_2 d0_2.length cap_2, .map (some m0_3), .slice A_3 d0_4.length cap_3, .int .i64 d0_5] 74 (0, 0))) :: (Ent.row 44 5 (.slice A_2 d0_2.length cap_2) d0_2.length cs_1) :: (Ent.obj m0_3 (mapO (Value.int .i64) (fun x : TC0 => Value.agg #[.bool x.fEnded, .bool x.fOk, S x.fPhys]) (mput d0_3 x_1.2.1 z_TC0))) :: (Ent.obj b_2 (.cells #[.bool ((mget d0_3 x_1.2.1).getD z_TC0).fEnded, .bool ((mget d0_3 x_1.2.1).getD z_TC0).fOk, S ((mget d0_3 x_1.2.1).getD z_TC0).fPhys] 49 (0, 0))) :: (Ent.row 44 5 (.slice A_3 d0_4.length cap_3) d0_4.length cs_2) :: H) w_19 := by rw [hv_2] at p_35; exact p_35
        have p_37 := p_36.pl [3]
        refine Y22 (z := .agg #[.int .i64 0, .int .i8 0, S [], S [], .slice none 0 0]) (f := emb_TH0) (xs := d0_2) (ys := [(⟨x_1.2.1, x_1.2.2.1, x_1.2.2.2.1, x_1.2.2.2.2.1, x_2⟩ : TH0)]) (news := [.int .i64 x_1.2.1, .int .i8 x_1.2.2.1, S x_1.2.2.2.1, S x_1.2.2.2.2.1, .slice A_9 x_2.length cap_9]) (ad := ⟨b_4, 0, none⟩) (m := 1) (c := 1) f p_37 (RepSeq.mono ((hM_1.trans hM_2).trans hM_4) _ _ hr_1) (by exact ⟨_, _, rfl, TH0.shut h_7, rfl⟩) rfl rfl rfl rfl (own_cells (p_37.ownCell 1 rfl) 0 rfl) (by exact g_1) (by have hg_ := g_1; first | omega | (simp only [List.length_cons, List.length_nil] at *; omega)) fun A_10 cap_10 cs_5 w_20 p_38 hr_5 _ f => ?_
        have p_39 := p_38.pl [1]
        have p_40 := p_39.drop
        refine W_end rfl (N_goN 3 hM_4 p_40 rfl (Y1 (v := .pointer (some (⟨b0, 0, none⟩))) rfl f rfl rfl (fun _ _ => by kernel_rfl) fun _ f => Y1 (v := .pointer (some (⟨b0, 2, none⟩))) rfl f rfl rfl (fun _ _ => by kernel_rfl) fun _ f => N_alt rfl (fun w_21 p_41 => ?_) ?_))
        ·refine Y26 f p_41 2 rfl rfl (b := b0) (j := 2) (v := .slice A_10 (d0_2 ++ [(⟨x_1.2.1, x_1.2.2.1, x_1.2.2.2.1, x_1.2.2.2.2.1, x_2⟩ : TH0)]).length cap_10) rfl (by exact rfl) (by simp) (by simp) ((Ent.row 44 5 (.slice A_10 (d0_2 ++ [(⟨x_1.2.1, x_1.2.2.1, x_1.2.2.2.1, x_1.2.2.2.2.1, x_2⟩ : TH0)]).length cap_10) (d0_2 ++ [(⟨x_1.2.1, x_1.2.2.1, x_1.2.2.2.1, x_1.2.2.2.2.1, x_2⟩ : TH0)]).length cs_5) :: (Ent.obj b_1 (.cells #[.int .i64 x_1.2.1, .int .i8 x_1.2.2.1, S x_1.2.2.2.1, S x_1.2.2.2.2.1, .slice A_9 x_2.length cap_9] 44 (0, 0))) :: (Ent.obj b0 (.cells #[.slice A_1 d0_0.length cap_1, .int .i64 d0_1, .slice A_10 (d0_2 ++ [(⟨x_1.2.1, x_1.2.2.1, x_1.2.2.2.1, x_1.2.2.2.2.1, x_2⟩ : TH0)]).length cap_10, .map (some m0_3), .slice A_3 d0_4.length cap_3, .int .i64 d0_5] 74 (0, 0))) :: (Ent.obj m0_3 (mapO (Value.int .i64) (fun x : TC0 => Value.agg #[.bool x.fEnded, .bool x.fOk, S x.fPhys]) (mput d0_3 x_1.2.1 z_TC0))) :: (Ent.obj b_2 (.cells #[.bool ((mget d0_3 x_1.2.1).getD z_TC0).fEnded, .bool ((mget d0_3 x_1.2.1).getD z_TC0).fOk, S ((mget d0_3 x_1.2.1).getD z_TC0).fPhys] 49 (0, 0))) :: (Ent.row 44 5 (.slice A_3 d0_4.length cap_3) d0_4.length cs_2) :: H) rfl fun w_22 p_42 _ f => W_end rfl (N_goN 3 hM_4 p_42 rfl (N_end fun w_23 p_43 => T_n ?_))
         exact ⟨(x_2, d0_2 ++ [(⟨x_1.2.1, x_1.2.2.1, x_1.2.2.2.1, x_1.2.2.2.2.1, x_2⟩ : TH0)]), (sI hF_7).symm, M_4, hM_4, A_9, cap_9, A_10, cap_10, cs_5, h_7, hr_5, f.kp, p_43⟩
        exact N_none
       exact N_none
      exact N_none
     exact N_none
    refine N_alt rfl (fun w_24 p_44 => ?_) ?_
    ·refine Z (v := .agg #[.int .i64 x_1.2.1, .int .i8 x_1.2.2.1, S x_1.2.2.2.1, S x_1.2.2.2.2.1, .slice A_6 x_2.length cap_6]) f (Y33 (cs := [.int .i64 x_1.2.1, .int .i8 x_1.2.2.1, S x_1.2.2.2.1, S x_1.2.2.2.2.1, .slice A_6 x_2.length cap_6]) rfl (ad := ⟨b_1, 0, none⟩) (own_cells (p_44.ownCell 1 rfl) 0 rfl)) fun _ f => W_end rfl (N_goN 4 (mR _) p_44 rfl (N_alt rfl (fun w_25 p_45 => ?_) ?_))
     ·refine Z f (Y32 (v := .slice A_2 d0_2.length cap_2) rfl (ad := ⟨b0, 2, none⟩) (p_45.ownCell 2 rfl 2)) fun _ f => W_end rfl (N_goN 4 (mR _) p_45 rfl (N_alt rfl (fun w_26 p_46 => ?_) ?_))
      ·refine V_allocS (k := 1) (c := 1) f p_46 (.cells #[.int .i64 x_1.2.1, .int .i8 x_1.2.2.1, S x_1.2.2.2.1, S x_1.2.2.2.2.1, .slice A_6 x_2.length cap_6] 44 (0, 0)) (by kernel_rfl) (fun _ => by kernel_rfl) fun b_5 w_27 p_47 _ f => W_end rfl (N_goN 5 (mR _) p_47 rfl (N_alt rfl (fun w_28 p_48 => ?_) ?_))
       ·have p_49 := p_48.pl [1]
        obtain ⟨A_11, cap_11, M_5, hv_3, hM_5, p_50, h_8⟩ := p_49.rowSli (f := emb_TE0) (xs := x_2) szd_TE0 hr_3
        have f := Frm.set f 42 (v := .agg #[.int .i64 x_1.2.1, .int .i8 x_1.2.2.1, S x_1.2.2.2.1, S x_1.2.2.2.2.1, .slice A_6 x_2.length cap_6]) (v' := .agg #[.int .i64 x_1.2.1, .int .i8 x_1.2.2.1, S x_1.2.2.2.1, S x_1.2.2.2.2.1, .slice A_11 x_2.length cap_11]) (by kernel_rfl) (by rw [hv_3])
        have p_51 : Hp w0 M_5 ((Ent.obj b_5 (.cells #[.int .i64 x_1.2.1, .int .i8 x_1.2.2.1, S x_1.2.2.2.1, S x_1.2.2.2.2.1, .slice A_11 x_2.length cap_11] 44 (0, 0))) :: (Ent.obj b_1 (.cells #[.int .i64 x_1.2.1, .int .i8 x_1.2.2.1, S x_1.2.2.2.1, S x_1.2.2.2.2.1, .slice A_11 x_2.length cap_11] 44 (0, 0))) :: (Ent.obj b0 (.cells #[.slice A_1 d0_0.length cap_1, .int .i64 d0_1, .slice A_2 d0_2.length cap_2, .map (some m0_3), .slice A_3 d0_4.length cap_3, .int .i64 d0_5] 74 (0, 0))) :: (Ent.row 44 5 (.slice A_2 d0_2.length cap_2) d0_2.length cs_1) :: (Ent.obj m0_3 (mapO (Value.int .i64) (fun x : TC0 => Value.agg #[.bool x.fEnded, .bool x.fOk, S x.fPhys]) (mput d0_3 x_1.2.1 z_TC0))) :: (Ent.obj b_2 (.cells #[.bool ((mget d0_3 x_1.2.1).getD z_TC0).fEnded, .bool ((mget d0_3 x_1.2.1).getD z_TC0).fOk, S ((mget d0_3 x_1.2.1).getD z_TC0).fPhys] 49 (0, 0))) :: (Ent.row 44 5 (.slice A_3 d0_4.length cap_3) d0_4.length cs_2) :: H) w_28 := by rw [hv_3] at p_50; exact p_50
        have p_52 := p_51.pl [3]
        refine Y22 (z := .agg #[.int .i64 0, .int .i8 0, S [], S [], .slice none 0 0]) (f := emb_TH0) (xs := d0_2) (ys := [(⟨x_1.2.1, x_1.2.2.1, x_1.2.2.2.1, x_1.2.2.2.2.1, x_2⟩ : TH0)]) (news := [.int .i64 x_1.2.1, .int .i8 x_1.2.2.1, S x_1.2.2.2.1, S x_1.2.2.2.2.1, .slice A_11 x_2.length cap_11]) (ad := ⟨b_5, 0, none⟩) (m := 1) (c := 1) f p_52 (RepSeq.mono ((hM_1.trans hM_2).trans hM_5) _ _ hr_1) (by exact ⟨_, _, rfl, TH0.shut h_8, rfl⟩) rfl rfl rfl rfl (own_cells (p_52.ownCell 1 rfl) 0 rfl) (by exact g_1) (by have hg_ := g_1; first | omega | (simp only [List.length_cons, List.length_nil] at *; omega)) fun A_12 cap_12 cs_6 w_29 p_53 hr_6 _ f => ?_
        have p_54 := p_53.pl [1]
        have p_55 := p_54.drop
        refine W_end rfl (N_goN 3 hM_5 p_55 rfl (Y1 (v := .pointer (some (⟨b0, 0, none⟩))) rfl f rfl rfl (fun _ _ => by kernel_rfl) fun _ f => Y1 (v := .pointer (some (⟨b0, 2, none⟩))) rfl f rfl rfl (fun _ _ => by kernel_rfl) fun _ f => N_alt rfl (fun w_30 p_56 => ?_) ?_))
        ·refine Y26 f p_56 2 rfl rfl (b := b0) (j := 2) (v := .slice A_12 (d0_2 ++ [(⟨x_1.2.1, x_1.2.2.1, x_1.2.2.2.1, x_1.2.2.2.2.1, x_2⟩ : TH0)]).length cap_12) rfl (by exact rfl) (by simp) (by simp) ((Ent.row 44 5 (.slice A_12 (d0_2 ++ [(⟨x_1.2.1, x_1.2.2.1, x_1.2.2.2.1, x_1.2.2.2.2.1, x_2⟩ : TH0)]).length cap_12) (d0_2 ++ [(⟨x_1.2.1, x_1.2.2.1, x_1.2.2.2.1, x_1.2.2.2.2.1, x_2⟩ : TH0)]).length cs_6) :: (Ent.obj b_1 (.cells #[.int .i64 x_1.2.1, .int .i8 x_1.2.2.1, S x_1.2.2.2.1, S x_1.2.2.2.2.1, .slice A_11 x_2.length cap_11] 44 (0, 0))) :: (Ent.obj b0 (.cells #[.slice A_1 d0_0.length cap_1, .int .i64 d0_1, .slice A_12 (d0_2 ++ [(⟨x_1.2.1, x_1.2.2.1, x_1.2.2.2.1, x_1.2.2.2.2.1, x_2⟩ : TH0)]).length cap_12, .map (some m0_3), .slice A_3 d0_4.length cap_3, .int .i64 d0_5] 74 (0, 0))) :: (Ent.obj m0_3 (mapO (Value.int .i64) (fun x : TC0 => Value.agg #[.bool x.fEnded, .bool x.fOk, S x.fPhys]) (mput d0_3 x_1.2.1 z_TC0))) :: (Ent.obj b_2 (.cells #[.bool ((mget d0_3 x_1.2.1).getD z_TC0).fEnded, .bool ((mget d0_3 x_1.2.1).getD z_TC0).fOk, S ((mget d0_3 x_1.2.1).getD z_TC0).fPhys] 49 (0, 0))) :: (Ent.row 44 5 (.slice A_3 d0_4.length cap_3) d0_4.length cs_2) :: H) rfl fun w_31 p_57 _ f => W_end rfl (N_goN 3 hM_5 p_57 rfl (N_end fun w_32 p_58 => T_n ?_))
         exact ⟨(x_2, d0_2 ++ [(⟨x_1.2.1, x_1.2.2.1, x_1.2.2.2.1, x_1.2.2.2.2.1, x_2⟩ : TH0)]), (sI hF_7).symm, M_5, hM_5, A_11, cap_11, A_12, cap_12, cs_6, h_8, hr_6, f.kp, p_58⟩
        exact N_none
       exact N_none
      exact N_none
     refine N_alt rfl (fun w_33 p_59 => ?_) ?_
     ·refine V_allocS (k := 1) (c := 1) f p_59 (.cells #[.int .i64 x_1.2.1, .int .i8 x_1.2.2.1, S x_1.2.2.2.1, S x_1.2.2.2.2.1, .slice A_6 x_2.length cap_6] 44 (0, 0)) (by kernel_rfl) (fun _ => by kernel_rfl) fun b_6 w_34 p_60 _ f => W_end rfl (N_goN 5 (mR _) p_60 rfl (N_alt rfl (fun w_35 p_61 => ?_) ?_))
      ·refine Z f (Y32 (v := .slice A_2 d0_2.length cap_2) rfl (ad := ⟨b0, 2, none⟩) (p_61.ownCell 3 rfl 2)) fun _ f => W_end rfl (N_goN 5 (mR _) p_61 rfl (N_alt rfl (fun w_36 p_62 => ?_) ?_))
       ·have p_63 := p_62.pl [1]
        obtain ⟨A_13, cap_13, M_6, hv_4, hM_6, p_64, h_9⟩ := p_63.rowSli (f := emb_TE0) (xs := x_2) szd_TE0 hr_3
        have f := Frm.set f 42 (v := .agg #[.int .i64 x_1.2.1, .int .i8 x_1.2.2.1, S x_1.2.2.2.1, S x_1.2.2.2.2.1, .slice A_6 x_2.length cap_6]) (v' := .agg #[.int .i64 x_1.2.1, .int .i8 x_1.2.2.1, S x_1.2.2.2.1, S x_1.2.2.2.2.1, .slice A_13 x_2.length cap_13]) (by kernel_rfl) (by rw [hv_4])
        have p_65 : Hp w0 M_6 ((Ent.obj b_6 (.cells #[.int .i64 x_1.2.1, .int .i8 x_1.2.2.1, S x_1.2.2.2.1, S x_1.2.2.2.2.1, .slice A_13 x_2.length cap_13] 44 (0, 0))) :: (Ent.obj b_1 (.cells #[.int .i64 x_1.2.1, .int .i8 x_1.2.2.1, S x_1.2.2.2.1, S x_1.2.2.2.2.1, .slice A_13 x_2.length cap_13] 44 (0, 0))) :: (Ent.obj b0 (.cells #[.slice A_1 d0_0.length cap_1, .int .i64 d0_1, .slice A_2 d0_2.length cap_2, .map (some m0_3), .slice A_3 d0_4.length cap_3, .int .i64 d0_5] 74 (0, 0))) :: (Ent.row 44 5 (.slice A_2 d0_2.length cap_2) d0_2.length cs_1) :: (Ent.obj m0_3 (mapO (Value.int .i64) (fun x : TC0 => Value.agg #[.bool x.fEnded, .bool x.fOk, S x.fPhys]) (mput d0_3 x_1.2.1 z_TC0))) :: (Ent.obj b_2 (.cells #[.bool ((mget d0_3 x_1.2.1).getD z_TC0).fEnded, .bool ((mget d0_3 x_1.2.1).getD z_TC0).fOk, S ((mget d0_3 x_1.2.1).getD z_TC0).fPhys] 49 (0, 0))) :: (Ent.row 44 5 (.slice A_3 d0_4.length cap_3) d0_4.length cs_2) :: H) w_36 := by rw [hv_4] at p_64; exact p_64
        have p_66 := p_65.pl [3]
        refine Y22 (z := .agg #[.int .i64 0, .int .i8 0, S [], S [], .slice none 0 0]) (f := emb_TH0) (xs := d0_2) (ys := [(⟨x_1.2.1, x_1.2.2.1, x_1.2.2.2.1, x_1.2.2.2.2.1, x_2⟩ : TH0)]) (news := [.int .i64 x_1.2.1, .int .i8 x_1.2.2.1, S x_1.2.2.2.1, S x_1.2.2.2.2.1, .slice A_13 x_2.length cap_13]) (ad := ⟨b_6, 0, none⟩) (m := 1) (c := 1) f p_66 (RepSeq.mono ((hM_1.trans hM_2).trans hM_6) _ _ hr_1) (by exact ⟨_, _, rfl, TH0.shut h_9, rfl⟩) rfl rfl rfl rfl (own_cells (p_66.ownCell 1 rfl) 0 rfl) (by exact g_1) (by have hg_ := g_1; first | omega | (simp only [List.length_cons, List.length_nil] at *; omega)) fun A_14 cap_14 cs_7 w_37 p_67 hr_7 _ f => ?_
        have p_68 := p_67.pl [1]
        have p_69 := p_68.drop
        refine W_end rfl (N_goN 3 hM_6 p_69 rfl (Y1 (v := .pointer (some (⟨b0, 0, none⟩))) rfl f rfl rfl (fun _ _ => by kernel_rfl) fun _ f => Y1 (v := .pointer (some (⟨b0, 2, none⟩))) rfl f rfl rfl (fun _ _ => by kernel_rfl) fun _ f => N_alt rfl (fun w_38 p_70 => ?_) ?_))
        ·refine Y26 f p_70 2 rfl rfl (b := b0) (j := 2) (v := .slice A_14 (d0_2 ++ [(⟨x_1.2.1, x_1.2.2.1, x_1.2.2.2.1, x_1.2.2.2.2.1, x_2⟩ : TH0)]).length cap_14) rfl (by exact rfl) (by simp) (by simp) ((Ent.row 44 5 (.slice A_14 (d0_2 ++ [(⟨x_1.2.1, x_1.2.2.1, x_1.2.2.2.1, x_1.2.2.2.2.1, x_2⟩ : TH0)]).length cap_14) (d0_2 ++ [(⟨x_1.2.1, x_1.2.2.1, x_1.2.2.2.1, x_1.2.2.2.2.1, x_2⟩ : TH0)]).length cs_7) :: (Ent.obj b_1 (.cells #[.int .i64 x_1.2.1, .int .i8 x_1.2.2.1, S x_1.2.2.2.1, S x_1.2.2.2.2.1, .slice A_13 x_2.length cap_13] 44 (0, 0))) :: (Ent.obj b0 (.cells #[.slice A_1 d0_0.length cap_1, .int .i64 d0_1, .slice A_14 (d0_2 ++ [(⟨x_1.2.1, x_1.2.2.1, x_1.2.2.2.1, x_1.2.2.2.2.1, x_2⟩ : TH0)]).length cap_14, .map (some m0_3), .slice A_3 d0_4.length cap_3, .int .i64 d0_5] 74 (0, 0))) :: (Ent.obj m0_3 (mapO (Value.int .i64) (fun x : TC0 => Value.agg #[.bool x.fEnded, .bool x.fOk, S x.fPhys]) (mput d0_3 x_1.2.1 z_TC0))) :: (Ent.obj b_2 (.cells #[.bool ((mget d0_3 x_1.2.1).getD z_TC0).fEnded, .bool ((mget d0_3 x_1.2.1).getD z_TC0).fOk, S ((mget d0_3 x_1.2.1).getD z_TC0).fPhys] 49 (0, 0))) :: (Ent.row 44 5 (.slice A_3 d0_4.length cap_3) d0_4.length cs_2) :: H) rfl fun w_39 p_71 _ f => W_end rfl (N_goN 3 hM_6 p_71 rfl (N_end fun w_40 p_72 => T_n ?_))
         exact ⟨(x_2, d0_2 ++ [(⟨x_1.2.1, x_1.2.2.1, x_1.2.2.2.1, x_1.2.2.2.2.1, x_2⟩ : TH0)]), (sI hF_7).symm, M_6, hM_6, A_13, cap_13, A_14, cap_14, cs_7, h_9, hr_7, f.kp, p_72⟩
        exact N_none
       exact N_none
      exact N_none
     exact N_none
    exact N_none
   ·rintro a_63 w_41 ⟨y_1, hq_1, M_7, hM_7, A_15, cap_15, A_16, cap_16, cs_8, h_10, hr_8, f, p_73⟩
    subst j_1
    refine T_n ?_
    obtain ⟨j_2, hj_2, hF_8⟩ := bS hF_6
    refine R_mid (fun a_88 w_61 => ∃ y_2 : List TH0, j_2 = y_2 ∧ ∃ M_8 : Mem, M_7.le M_8 ∧ ∃ (A_20 : Option Addr), ∃ (cap_20 : Nat), ∃ (cs_12 : List Value), RepSeq M_8 (y_2.map emb_TH0) cs_12 ∧ Frm 57 [] a_88 ∧ Hp w0 M_8 ((Ent.row 44 5 (.slice A_20 y_2.length cap_20) y_2.length cs_12) :: (Ent.obj b0 (.cells #[.slice A_1 d0_0.length cap_1, .int .i64 d0_1, .slice A_16 y_1.2.length cap_16, .map (some m0_3), .slice A_20 y_2.length cap_20, .int .i64 d0_5] 74 (0, 0))) :: (Ent.row 44 5 (.slice A_16 y_1.2.length cap_16) y_1.2.length cs_8) :: (Ent.obj b_1 (.cells #[.int .i64 x_1.2.1, .int .i8 x_1.2.2.1, S x_1.2.2.2.1, S x_1.2.2.2.2.1, .slice A_15 y_1.1.length cap_15] 44 (0, 0))) :: (Ent.obj m0_3 (mapO (Value.int .i64) (fun x : TC0 => Value.agg #[.bool x.fEnded, .bool x.fOk, S x.fPhys]) (mput d0_3 x_1.2.1 z_TC0))) :: (Ent.obj b_2 (.cells #[.bool ((mget d0_3 x_1.2.1).getD z_TC0).fEnded, .bool ((mget d0_3 x_1.2.1).getD z_TC0).fOk, S ((mget d0_3 x_1.2.1).getD z_TC0).fPhys] 49 (0, 0))) :: H) w_61) ?_ ?_
    ·have p_85 := p_73.pl [4, 4, 3, 3, 5, 5]
     obtain ⟨g_2, hF_9⟩ := nS hj_2
     refine R_plan (ks := []) (E := [Ent.obj b0 (.cells #[.slice A_1 d0_0.length cap_1, .int .i64 d0_1, .slice A_16 y_1.2.length cap_16, .map (some m0_3), .slice A_3 d0_4.length cap_3, .int .i64 d0_5] 74 (0, 0)), Ent.row 44 5 (.slice A_3 d0_4.length cap_3) d0_4.length cs_2]) (Hr := ((Ent.row 44 5 (.slice A_16 y_1.2.length cap_16) y_1.2.length cs_8) :: (Ent.obj b_1 (.cells #[.int .i64 x_1.2.1, .int .i8 x_1.2.2.1, S x_1.2.2.2.1, S x_1.2.2.2.2.1, .slice A_15 y_1.1.length cap_15] 44 (0, 0))) :: (Ent.obj m0_3 (mapO (Value.int .i64) (fun x : TC0 => Value.agg #[.bool x.fEnded, .bool x.fOk, S x.fPhys]) (mput d0_3 x_1.2.1 z_TC0))) :: (Ent.obj b_2 (.cells #[.bool ((mget d0_3 x_1.2.1).getD z_TC0).fEnded, .bool ((mget d0_3 x_1.2.1).getD z_TC0).fOk, S ((mget d0_3 x_1.2.1).getD z_TC0).fPhys] 49 (0, 0))) :: H)) (.quiet 0 (.quiet 1 (.quiet 2 (.quiet 3 (.quiet 5 (.alt 4 (.alt 6 (.alt 7 (.quiet 8 (.quiet 9 (.alt 10 .done .none))) .none) .none) (.alt 6 (.alt 4 (.alt 7 (.quiet 8 (.quiet 9 (.alt 10 .done .none))) .none) .none) .none))))))) p_85 (by kernel_rfl) (by kernel_rfl) (by kernel_rfl) (Y1 (v := .pointer (some (⟨b0, 0, none⟩))) rfl f rfl rfl (fun _ _ => by kernel_rfl) fun _ f => Y1 (v := .pointer (some (⟨b0, 0, none⟩))) rfl f rfl rfl (fun _ _ => by kernel_rfl) fun _ f => Y1 (v := .pointer (some (⟨b0, 0, none⟩))) rfl f rfl rfl (fun _ _ => by kernel_rfl) fun _ f => Y1 (v := .pointer (some (⟨b0, 4, none⟩))) rfl f rfl rfl (fun _ _ => by kernel_rfl) fun _ f => Y1 (v := .agg #[.int .i64 x_1.2.1, .int .i8 x_1.2.2.1, S x_1.2.2.2.1, S x_1.2.2.2.2.1, .slice A_15 y_1.1.length cap_15]) rfl f rfl rfl (fun _ pq => Y33 (cs := [.int .i64 x_1.2.1, .int .i8 x_1.2.2.1, S x_1.2.2.2.1, S x_1.2.2.2.2.1, .slice A_15 y_1.1.length cap_15]) rfl (ad := ⟨b_1, 0, none⟩) (own_cells (pq.ownCell 1 rfl) 0 rfl)) fun _ f => N_alt rfl (fun w_45 p_86 => ?_) ?_)
     ·refine Z f (Y32 (v := .slice A_3 d0_4.length cap_3) rfl (ad := ⟨b0, 4, none⟩) (p_86.ownCell 0 rfl 4)) fun _ f => W_end rfl (N_goN 2 (mR _) p_86 rfl (N_alt rfl (fun w_46 p_87 => ?_) ?_))
      ·refine V_allocS (k := 1) (c := 1) f p_87 (.cells #[.int .i64 x_1.2.1, .int .i8 x_1.2.2.1, S x_1.2.2.2.1, S x_1.2.2.2.2.1, .slice A_15 y_1.1.length cap_15] 44 (0, 0)) (by kernel_rfl) (fun _ => by kernel_rfl) fun b_8 w_47 p_88 _ f => W_end rfl (N_goN 3 (mR _) p_88 rfl (N_alt rfl (fun w_48 p_89 => ?_) ?_))
       ·have p_90 := p_89.pl [2]
        refine Y22 (z := .agg #[.int .i64 0, .int .i8 0, S [], S [], .slice none 0 0]) (f := emb_TH0) (xs := d0_4) (ys := [(⟨x_1.2.1, x_1.2.2.1, x_1.2.2.2.1, x_1.2.2.2.2.1, y_1.1⟩ : TH0)]) (news := [.int .i64 x_1.2.1, .int .i8 x_1.2.2.1, S x_1.2.2.2.1, S x_1.2.2.2.2.1, .slice A_15 y_1.1.length cap_15]) (ad := ⟨b_8, 0, none⟩) (m := 1) (c := 1) f p_90 (RepSeq.mono ((hM_1.trans hM_2).trans hM_7) _ _ hr_2) (by exact ⟨_, _, rfl, TH0.shut h_10, rfl⟩) rfl rfl rfl rfl (own_cells (p_90.ownCell 1 rfl) 0 rfl) (by exact g_2) (by have hg_ := g_2; first | omega | (simp only [List.length_cons, List.length_nil] at *; omega)) fun A_18 cap_18 cs_10 w_49 p_91 hr_10 _ f => ?_
        have p_92 := p_91.pl [1]
        have p_93 := p_92.drop
        refine W_end rfl (N_goN 2 (mR _) p_93 rfl (Y1 (v := .pointer (some (⟨b0, 0, none⟩))) rfl f rfl rfl (fun _ _ => by kernel_rfl) fun _ f => Y1 (v := .pointer (some (⟨b0, 4, none⟩))) rfl f rfl rfl (fun _ _ => by kernel_rfl) fun _ f => N_alt rfl (fun w_50 p_94 => ?_) ?_))
        ·refine Y26 f p_94 1 rfl rfl (b := b0) (j := 4) (v := .slice A_18 (d0_4 ++ [(⟨x_1.2.1, x_1.2.2.1, x_1.2.2.2.1, x_1.2.2.2.2.1, y_1.1⟩ : TH0)]).length cap_18) rfl (by exact rfl) (by simp) (by simp) ((Ent.row 44 5 (.slice A_18 (d0_4 ++ [(⟨x_1.2.1, x_1.2.2.1, x_1.2.2.2.1, x_1.2.2.2.2.1, y_1.1⟩ : TH0)]).length cap_18) (d0_4 ++ [(⟨x_1.2.1, x_1.2.2.1, x_1.2.2.2.1, x_1.2.2.2.2.1, y_1.1⟩ : TH0)]).length cs_10) :: (Ent.obj b0 (.cells #[.slice A_1 d0_0.length cap_1, .int .i64 d0_1, .slice A_16 y_1.2.length cap_16, .map (some m0_3), .slice A_18 (d0_4 ++ [(⟨x_1.2.1, x_1.2.2.1, x_1.2.2.2.1, x_1.2.2.2.2.1, y_1.1⟩ : TH0)]).length cap_18, .int .i64 d0_5] 74 (0, 0))) :: (Ent.row 44 5 (.slice A_16 y_1.2.length cap_16) y_1.2.length cs_8) :: (Ent.obj b_1 (.cells #[.int .i64 x_1.2.1, .int .i8 x_1.2.2.1, S x_1.2.2.2.1, S x_1.2.2.2.2.1, .slice A_15 y_1.1.length cap_15] 44 (0, 0))) :: (Ent.obj m0_3 (mapO (Value.int .i64) (fun x : TC0 => Value.agg #[.bool x.fEnded, .bool x.fOk, S x.fPhys]) (mput d0_3 x_1.2.1 z_TC0))) :: (Ent.obj b_2 (.cells #[.bool ((mget d0_3 x_1.2.1).getD z_TC0).fEnded, .bool ((mget d0_3 x_1.2.1).getD z_TC0).fOk, S ((mget d0_3 x_1.2.1).getD z_TC0).fPhys] 49 (0, 0))) :: H) rfl fun w_51 p_95 _ f => W_end rfl (N_goN 2 (mR _) p_95 rfl (N_end fun w_52 p_96 => T_n ?_))
         exact ⟨d0_4 ++ [(⟨x_1.2.1, x_1.2.2.1, x_1.2.2.2.1, x_1.2.2.2.2.1, y_1.1⟩ : TH0)], (sI hF_9).symm, M_7, (mR _), A_18, cap_18, cs_10, hr_10, f.kp, p_96⟩
        exact N_none
       exact N_none
      exact N_none
     refine N_alt rfl (fun w_53 p_97 => ?_) ?_
     ·refine V_allocS (k := 1) (c := 1) f p_97 (.cells #[.int .i64 x_1.2.1, .int .i8 x_1.2.2.1, S x_1.2.2.2.1, S x_1.2.2.2.2.1, .slice A_15 y_1.1.length cap_15] 44 (0, 0)) (by kernel_rfl) (fun _ => by kernel_rfl) fun b_9 w_54 p_98 _ f => W_end rfl (N_goN 3 (mR _) p_98 rfl (N_alt rfl (fun w_55 p_99 => ?_) ?_))
      ·refine Z f (Y32 (v := .slice A_3 d0_4.length cap_3) rfl (ad := ⟨b0, 4, none⟩) (p_99.ownCell 1 rfl 4)) fun _ f => W_end rfl (N_goN 3 (mR _) p_99 rfl (N_alt rfl (fun w_56 p_100 => ?_) ?_))
       ·have p_101 := p_100.pl [2]
        refine Y22 (z := .agg #[.int .i64 0, .int .i8 0, S [], S [], .slice none 0 0]) (f := emb_TH0) (xs := d0_4) (ys := [(⟨x_1.2.1, x_1.2.2.1, x_1.2.2.2.1, x_1.2.2.2.2.1, y_1.1⟩ : TH0)]) (news := [.int .i64 x_1.2.1, .int .i8 x_1.2.2.1, S x_1.2.2.2.1, S x_1.2.2.2.2.1, .slice A_15 y_1.1.length cap_15]) (ad := ⟨b_9, 0, none⟩) (m := 1) (c := 1) f p_101 (RepSeq.mono ((hM_1.trans hM_2).trans hM_7) _ _ hr_2) (by exact ⟨_, _, rfl, TH0.shut h_10, rfl⟩) rfl rfl rfl rfl (own_cells (p_101.ownCell 1 rfl) 0 rfl) (by exact g_2) (by have hg_ := g_2; first | omega | (simp only [List.length_cons, List.length_nil] at *; omega)) fun A_19 cap_19 cs_11 w_57 p_102 hr_11 _ f => ?_
        have p_103 := p_102.pl [1]
        have p_104 := p_103.drop
        refine W_end rfl (N_goN 2 (mR _) p_104 rfl (Y1 (v := .pointer (some (⟨b0, 0, none⟩))) rfl f rfl rfl (fun _ _ => by kernel_rfl) fun _ f => Y1 (v := .pointer (some (⟨b0, 4, none⟩))) rfl f rfl rfl (fun _ _ => by kernel_rfl) fun _ f => N_alt rfl (fun w_58 p_105 => ?_) ?_))
        ·refine Y26 f p_105 1 rfl rfl (b := b0) (j := 4) (v := .slice A_19 (d0_4 ++ [(⟨x_1.2.1, x_1.2.2.1, x_1.2.2.2.1, x_1.2.2.2.2.1, y_1.1⟩ : TH0)]).length cap_19) rfl (by exact rfl) (by simp) (by simp) ((Ent.row 44 5 (.slice A_19 (d0_4 ++ [(⟨x_1.2.1, x_1.2.2.1, x_1.2.2.2.1, x_1.2.2.2.2.1, y_1.1⟩ : TH0)]).length cap_19) (d0_4 ++ [(⟨x_1.2.1, x_1.2.2.1, x_1.2.2.2.1, x_1.2.2.2.2.1, y_1.1⟩ : TH0)]).length cs_11) :: (Ent.obj b0 (.cells #[.slice A_1 d0_0.length cap_1, .int .i64 d0_1, .slice A_16 y_1.2.length cap_16, .map (some m0_3), .slice A_19 (d0_4 ++ [(⟨x_1.2.1, x_1.2.2.1, x_1.2.2.2.1, x_1.2.2.2.2.1, y_1.1⟩ : TH0)]).length cap_19, .int .i64 d0_5] 74 (0, 0))) :: (Ent.row 44 5 (.slice A_16 y_1.2.length cap_16) y_1.2.length cs_8) :: (Ent.obj b_1 (.cells #[.int .i64 x_1.2.1, .int .i8 x_1.2.2.1, S x_1.2.2.2.1, S x_1.2.2.2.2.1, .slice A_15 y_1.1.length cap_15] 44 (0, 0))) :: (Ent.obj m0_3 (mapO (Value.int .i64) (fun x : TC0 => Value.agg #[.bool x.fEnded, .bool x.fOk, S x.fPhys]) (mput d0_3 x_1.2.1 z_TC0))) :: (Ent.obj b_2 (.cells #[.bool ((mget d0_3 x_1.2.1).getD z_TC0).fEnded, .bool ((mget d0_3 x_1.2.1).getD z_TC0).fOk, S ((mget d0_3 x_1.2.1).getD z_TC0).fPhys] 49 (0, 0))) :: H) rfl fun w_59 p_106 _ f => W_end rfl (N_goN 2 (mR _) p_106 rfl (N_end fun w_60 p_107 => T_n ?_))
         exact ⟨d0_4 ++ [(⟨x_1.2.1, x_1.2.2.1, x_1.2.2.2.1, x_1.2.2.2.2.1, y_1.1⟩ : TH0)], (sI hF_9).symm, M_7, (mR _), A_19, cap_19, cs_11, hr_11, f.kp, p_107⟩
        exact N_none
       exact N_none
      exact N_none
     exact N_none
    ·rintro a_88 w_61 ⟨y_2, hq_2, M_8, hM_8, A_20, cap_20, cs_12, hr_12, f, p_108⟩
     subst j_2
     refine T_n (RR (Y f 1 fun _ f => eT (wp_ret (E_ret1 f rfl (by kernel_rfl : Vc.look _ 4 = some (.int .i64 0)) ?_))))
     obtain rfl := sI hF_8
     have p_113 := p_108.pl [4, 3, 3, 5, 5]
     exact ⟨_, rfl, M_8, _, (((hM_1.trans hM_2).trans hM_7).trans hM_8), (p_113.dropN 2), ⟨A_1, cap_1, A_16, cap_16, cs_8, A_20, cap_20, cs_12, rfl, rfl, (h_1.mono (((hM_1.trans hM_2).trans hM_7).trans hM_8)), (RepSeq.mono hM_8 _ _ hr_8), hr_12⟩⟩
  ·have k_4 : ((mget d0_3 x_1.2.1).isSome) = true := by simpa using h_5
   refine wp_skip (T_n (RR (Y f 1 fun _ f => eT (wp_ret (E_ret1 f rfl (by kernel_rfl : Vc.look _ 4 = some (.int .i64 0)) ?_)))))
   obtain rfl := sI hF_10
   exact ⟨_, rfl, M_1, _, hM_1, (p_7.dropN 2), ⟨A_1, cap_1, A_2, cap_2, cs_1, A_3, cap_3, cs_2, rfl, rfl, (h_1.mono hM_1), (RepSeq.mono hM_1 _ _ hr_1), (RepSeq.mono hM_1 _ _ hr_2)⟩⟩
def cloud_Cloud_effect (n : Nat) (d0_0 : List TF0) (d0_1 : Int) (d0_2 : List TH0) (d0_3 : List (Int × TC0)) (d0_4 : List TH0) (d0_5 : Int) (d1_0 : Int) (d1_1 : Int) (d1_2 : List UInt8) (d1_3 : List UInt8) (d1_4 : List TE0) : Option (TC0 × List TF0 × Int × List TH0 × (List (Int × TC0)) × List TH0 × Int × Int × Int × List UInt8 × List UInt8 × List TE0) :=
  ((bif (decide (d1_1 = 0)) then
      ((store_Create n (⟨d0_0, d0_1⟩ : TB0) d1_3 d1_4).bind fun x_1 =>
      some ((x_1.2.1, x_1.2.2, x_1.1.fL, x_1.1.fMade)))
    else
      bif (decide (d1_1 = 1)) then
        ((store_Update n (⟨d0_0, d0_1⟩ : TB0) d1_2 d1_4).bind fun x_2 =>
        some ((([] : List UInt8), x_2.2, x_2.1.fL, x_2.1.fMade)))
      else
        bif (decide (d1_1 = 2)) then
          ((store_Delete n (⟨d0_0, d0_1⟩ : TB0) d1_2).bind fun x_3 =>
          some ((([] : List UInt8), x_3.2, x_3.1.fL, x_3.1.fMade)))
        else
          some ((([] : List UInt8), (0 : Int), d0_0, d0_1)) : Option (List UInt8 × Int × List TF0 × Int))).bind fun y_1 =>
  bif (!(decide (y_1.2.1 = 0))) then
    (some (((⟨(true), (false), ([] : List UInt8)⟩ : TC0), d0_0, d0_1, d0_2, d0_3, d0_4, d0_5, d1_0, d1_1, d1_2, d1_3, d1_4)))
  else
    bif (decide (d1_1 = 0)) then
      (need (inR .i64 (d0_5 + 1)) <|
      some (((⟨(true), (true), y_1.1⟩ : TC0), y_1.2.2.1, y_1.2.2.2, d0_2, d0_3, d0_4, d0_5 + 1, d1_0, d1_1, d1_2, d1_3, d1_4)))
    else
      some (((⟨(true), (true), y_1.1⟩ : TC0), y_1.2.2.1, y_1.2.2.2, d0_2, d0_3, d0_4, d0_5, d1_0, d1_1, d1_2, d1_3, d1_4))
set_option maxRecDepth 20000 in
theorem cloud_Cloud_effect_ok (n : Nat) (M : Mem) (hG : GL M) (b0 : Nat) (d0_0 : List TF0) (A_1 : Option Addr) (cap_1 : Nat) (h_1 : Sli M 3 emb_TF0 A_1 cap_1 d0_0) (d0_1 : Int) (d0_2 : List TH0) (A_2 : Option Addr) (cap_2 : Nat) (cs_1 : List Value) (hr_1 : RepSeq M (d0_2.map emb_TH0) cs_1) (m0_3 : Nat) (d0_3 : List (Int × TC0)) (d0_4 : List TH0) (A_3 : Option Addr) (cap_3 : Nat) (cs_2 : List Value) (hr_2 : RepSeq M (d0_4.map emb_TH0) cs_2) (d0_5 : Int) (b1 : Nat) (d1_0 : Int) (d1_1 : Int) (d1_2 : List UInt8) (d1_3 : List UInt8) (d1_4 : List TE0) (A_4 : Option Addr) (cap_4 : Nat) (h_2 : Sli M 8 emb_TE0 A_4 cap_4 d1_4) (r : TC0 × List TF0 × Int × List TH0 × (List (Int × TC0)) × List TH0 × Int × Int × Int × List UInt8 × List UInt8 × List TE0) (hF : cloud_Cloud_effect n d0_0 d0_1 d0_2 d0_3 d0_4 d0_5 d1_0 d1_1 d1_2 d1_3 d1_4 = some r) : OkH Tryd.prog M [Ent.obj b0 (.cells #[.slice A_1 d0_0.length cap_1, .int .i64 d0_1, .slice A_2 d0_2.length cap_2, .map (some m0_3), .slice A_3 d0_4.length cap_3, .int .i64 d0_5] 74 (0, 0)), Ent.row 44 5 (.slice A_2 d0_2.length cap_2) d0_2.length cs_1, Ent.obj m0_3 (mapO (Value.int .i64) (fun x : TC0 => Value.agg #[.bool x.fEnded, .bool x.fOk, S x.fPhys]) d0_3), Ent.row 44 5 (.slice A_3 d0_4.length cap_3) d0_4.length cs_2, Ent.obj b1 (.cells #[.int .i64 d1_0, .int .i8 d1_1, S d1_2, S d1_3, .slice A_4 d1_4.length cap_4] 44 (0, 0))] 36 [.pointer (some (⟨b0, 0, none⟩)), .pointer (some (⟨b1, 0, none⟩))] (fun M' E' v => ∃ (c0 : List Value) (A_9 : Option Addr) (cap_9 : Nat) (A_10 : Option Addr) (cap_10 : Nat) (cs_3 : List Value) (A_11 : Option Addr) (cap_11 : Nat) (cs_4 : List Value) (A_12 : Option Addr) (cap_12 : Nat), v = .agg c0.toArray ∧ E' = [Ent.obj b0 (.cells #[.slice A_9 r.2.1.length cap_9, .int .i64 r.2.2.1, .slice A_10 r.2.2.2.1.length cap_10, .map (some m0_3), .slice A_11 r.2.2.2.2.2.1.length cap_11, .int .i64 r.2.2.2.2.2.2.1] 74 (0, 0)), Ent.row 44 5 (.slice A_10 r.2.2.2.1.length cap_10) r.2.2.2.1.length cs_3, Ent.obj m0_3 (mapO (Value.int .i64) (fun x : TC0 => Value.agg #[.bool x.fEnded, .bool x.fOk, S x.fPhys]) r.2.2.2.2.1), Ent.row 44 5 (.slice A_11 r.2.2.2.2.2.1.length cap_11) r.2.2.2.2.2.1.length cs_4, Ent.obj b1 (.cells #[.int .i64 r.2.2.2.2.2.2.2.1, .int .i8 r.2.2.2.2.2.2.2.2.1, S r.2.2.2.2.2.2.2.2.2.1, S r.2.2.2.2.2.2.2.2.2.2.1, .slice A_12 r.2.2.2.2.2.2.2.2.2.2.2.length cap_12] 44 (0, 0))] ∧ Rep M' (emb_TC0 r.1) c0 ∧ Sli M' 3 emb_TF0 A_9 cap_9 r.2.1 ∧ RepSeq M' (r.2.2.2.1.map emb_TH0) cs_3 ∧ RepSeq M' (r.2.2.2.2.2.1.map emb_TH0) cs_4 ∧ Sli M' 8 emb_TE0 A_12 cap_12 r.2.2.2.2.2.2.2.2.2.2.2) := by
 unfold cloud_Cloud_effect at hF
 intro M1 hM0 w0 H w p0
 replace hG := GL.mono hM0 hG
 replace h_1 := h_1.mono hM0
 replace hr_1 := RepSeq.mono hM0 _ _ hr_1
 replace hr_2 := RepSeq.mono hM0 _ _ hr_2
 replace h_2 := h_2.mono hM0
 refine R_enter 91 Tryd.func36 rfl rfl (by simp) fun a0 f0 => RR (Y12 f0 p0 (.cells #[.bool false, .bool false, S []] 49 (0, 0)) fun b_1 w_1 p_1 _ f => eT (RR (Y f 1 fun _ f => Y26 f p_1 0 rfl rfl (b := b_1) (j := 0) (v := .bool true) rfl (by exact rfl) (by simp) (by simp) ((Ent.obj b_1 (.cells #[.bool true, .bool false, S []] 49 (0, 0))) :: (Ent.obj b0 (.cells #[.slice A_1 d0_0.length cap_1, .int .i64 d0_1, .slice A_2 d0_2.length cap_2, .map (some m0_3), .slice A_3 d0_4.length cap_3, .int .i64 d0_5] 74 (0, 0))) :: (Ent.row 44 5 (.slice A_2 d0_2.length cap_2) d0_2.length cs_1) :: (Ent.obj m0_3 (mapO (Value.int .i64) (fun x : TC0 => Value.agg #[.bool x.fEnded, .bool x.fOk, S x.fPhys]) d0_3)) :: (Ent.row 44 5 (.slice A_3 d0_4.length cap_3) d0_4.length cs_2) :: (Ent.obj b1 (.cells #[.int .i64 d1_0, .int .i8 d1_1, S d1_2, S d1_3, .slice A_4 d1_4.length cap_4] 44 (0, 0))) :: H) rfl fun w_2 p_2 _ f => eT (RR (Y f 3 fun _ f => Z (v := .agg #[.slice A_1 d0_0.length cap_1, .int .i64 d0_1]) f (Y33 (cs := [.slice A_1 d0_0.length cap_1, .int .i64 d0_1]) rfl (ad := ⟨b0, 0, none⟩) (own_cells (p_2.ownCell 1 rfl) 0 rfl)) fun _ f => Y12 f p_2 (.cells #[.slice none 0 0, .int .i64 0] 72 (0, 0)) fun b_2 w_3 p_3 _ f => Y27 (vs := [.slice A_1 d0_0.length cap_1, .int .i64 d0_1]) (j := 0) f p_3 rfl rfl (by simp [Value.oneCell', S]) (by simp) (by decide) (cs' := #[.slice A_1 d0_0.length cap_1, .int .i64 d0_1]) (by kernel_rfl) fun w_4 p_4 _ f => ?_)))))
 refine Y f 2 fun _ f => eT (R_seq (RR (Y f 3 fun _ f => Z f (Y32 (v := .int .i8 d1_1) rfl (ad := ⟨b1, 1, none⟩) (p_4.ownCell 6 rfl 1)) fun _ f => eT ?_)))
 obtain ⟨j_1, hj_1, hF_1⟩ := bS hF
 refine R_mid (fun a_42 w_20 => ∃ y_1 : List UInt8 × Int × List TF0 × Int, j_1 = y_1 ∧ ∃ M_4 : Mem, M1.le M_4 ∧ ∃ (A_8 : Option Addr), ∃ (cap_8 : Nat), Sli M_4 3 emb_TF0 A_8 cap_8 y_1.2.2.1 ∧ Frm 91 [(0, .pointer (some (⟨b0, 0, none⟩))), (1, .pointer (some (⟨b1, 0, none⟩))), (4, .pointer (some (⟨b_1, 0, none⟩))), (5, .pointer (some (⟨b_2, 0, none⟩))), (6, S y_1.1), (7, .int .i64 y_1.2.1)] a_42 ∧ Hp w0 M_4 ((Ent.obj b_2 (.cells #[.slice A_8 y_1.2.2.1.length cap_8, .int .i64 y_1.2.2.2] 72 (0, 0))) :: (Ent.obj b_1 (.cells #[.bool true, .bool false, S []] 49 (0, 0))) :: (Ent.obj b0 (.cells #[.slice A_1 d0_0.length cap_1, .int .i64 d0_1, .slice A_2 d0_2.length cap_2, .map (some m0_3), .slice A_3 d0_4.length cap_3, .int .i64 d0_5] 74 (0, 0))) :: (Ent.row 44 5 (.slice A_2 d0_2.length cap_2) d0_2.length cs_1) :: (Ent.obj m0_3 (mapO (Value.int .i64) (fun x : TC0 => Value.agg #[.bool x.fEnded, .bool x.fOk, S x.fPhys]) d0_3)) :: (Ent.row 44 5 (.slice A_3 d0_4.length cap_3) d0_4.length cs_2) :: (Ent.obj b1 (.cells #[.int .i64 d1_0, .int .i8 d1_1, S d1_2, S d1_3, .slice A_4 d1_4.length cap_4] 44 (0, 0))) :: H) w_20) ?_ ?_
 ·refine wp_block (RR (Y f 2 fun _ f => eT (RcF f hj_1 (fun h_3 hF_2 => ?_) fun h_3 hF_4 => ?_)))
  ·have k_1 := dI.1 h_3
   refine R_mix (E := [Ent.obj b_2 (.cells #[.slice A_1 d0_0.length cap_1, .int .i64 d0_1] 72 (0, 0))]) (Hr := ((Ent.obj b_1 (.cells #[.bool true, .bool false, S []] 49 (0, 0))) :: (Ent.obj b0 (.cells #[.slice A_1 d0_0.length cap_1, .int .i64 d0_1, .slice A_2 d0_2.length cap_2, .map (some m0_3), .slice A_3 d0_4.length cap_3, .int .i64 d0_5] 74 (0, 0))) :: (Ent.row 44 5 (.slice A_2 d0_2.length cap_2) d0_2.length cs_1) :: (Ent.obj m0_3 (mapO (Value.int .i64) (fun x : TC0 => Value.agg #[.bool x.fEnded, .bool x.fOk, S x.fPhys]) d0_3)) :: (Ent.row 44 5 (.slice A_3 d0_4.length cap_3) d0_4.length cs_2) :: (Ent.obj b1 (.cells #[.int .i64 d1_0, .int .i8 d1_1, S d1_2, S d1_3, .slice A_4 d1_4.length cap_4] 44 (0, 0))) :: H)) [(0, true), (1, true), (2, true), (3, true), (4, true), (5, true), (6, true), (7, true), (8, true), (9, true), (10, true), (11, true), (12, false), (13, true), (14, true), (15, true), (16, true), (17, false), (18, true), (19, true)] p_4 (by kernel_rfl) (by kernel_rfl) rfl (by kernel_rfl) (Y0 default f 3 fun _ f => M_eq (v := .agg #[.slice A_1 d0_0.length cap_1, .int .i64 d0_1]) f (by kernel_rfl) (by kernel_rfl) rfl rfl (fun _ pq => Y33 (cs := [.slice A_1 d0_0.length cap_1, .int .i64 d0_1]) rfl (ad := ⟨b0, 0, none⟩) (own_cells (pq.ownCell 1 rfl) 0 rfl)) fun _ f => Y0 default f 3 fun _ f => M_eq (v := S d1_3) f (by kernel_rfl) (by kernel_rfl) rfl rfl (fun _ pq => Y32 (v := S d1_3) rfl (ad := ⟨b1, 3, none⟩) (pq.ownCell 5 rfl 3)) fun _ f => Y0 default f 3 fun _ f => M_eq (v := .slice A_4 d1_4.length cap_4) f (by kernel_rfl) (by kernel_rfl) rfl rfl (fun _ pq => Y32 (v := .slice A_4 d1_4.length cap_4) rfl (ad := ⟨b1, 4, none⟩) (pq.ownCell 5 rfl 4)) fun _ f => M_fix (E := [Ent.obj b_2 (.cells #[.slice A_1 d0_0.length cap_1, .int .i64 d0_1] 72 (0, 0))]) fun w_5 p_5 => ?_)
   obtain ⟨x_1, hx_1, hF_3⟩ := bS hF_2
   refine Y16 f p_5 (store_Create_ok n _ hG _ (⟨d0_0, d0_1⟩ : TB0) (TB0.shut h_1) d1_3 A_4 cap_4 d1_4 h_2 x_1 hx_1) fun _ M_1 w_6 hM_1 p_6 q_1 _ f => ?_
   obtain ⟨c_1, rfl, hr_3⟩ := q_1
   obtain ⟨A_5, cap_5, rfl, h_4⟩ := TB0.opn hr_3
   refine W_end rfl (M_go (M1 := M_1) (E := [Ent.obj b_2 (.cells #[.slice A_1 d0_0.length cap_1, .int .i64 d0_1] 72 (0, 0))]) hM_1 p_6 (Y0 default f 4 fun _ f => M_fix (E := [Ent.obj b_2 (.cells #[.slice A_1 d0_0.length cap_1, .int .i64 d0_1] 72 (0, 0))]) fun w_7 p_7 => Y27 (vs := [.slice A_5 x_1.1.fL.length cap_5, .int .i64 x_1.1.fMade]) (j := 0) f p_7 rfl rfl (by simp [Value.oneCell', S]) (by simp) (by decide) (cs' := #[.slice A_5 x_1.1.fL.length cap_5, .int .i64 x_1.1.fMade]) (by kernel_rfl) fun w_8 p_8 _ f => W_end rfl (M_go (M1 := M_1) (E := [Ent.obj b_2 (.cells #[.slice A_5 x_1.1.fL.length cap_5, .int .i64 x_1.1.fMade] 72 (0, 0))]) hM_1 p_8 (Y0 default f 2 fun _ f => M_end rfl fun w_9 p_9 => B_n (T_n ?_)))))
   exact ⟨(x_1.2.1, x_1.2.2, x_1.1.fL, x_1.1.fMade), (sI hF_3).symm, M_1, hM_1, A_5, cap_5, h_4, f.kp, p_9⟩
  ·have k_2 := iff_f dI h_3
   refine RR (Y f 2 fun _ f => eT (RcF f hF_4 (fun h_5 hF_5 => ?_) fun h_5 hF_7 => ?_))
   ·have k_3 := dI.1 h_5
    refine R_mix (E := [Ent.obj b_2 (.cells #[.slice A_1 d0_0.length cap_1, .int .i64 d0_1] 72 (0, 0))]) (Hr := ((Ent.obj b_1 (.cells #[.bool true, .bool false, S []] 49 (0, 0))) :: (Ent.obj b0 (.cells #[.slice A_1 d0_0.length cap_1, .int .i64 d0_1, .slice A_2 d0_2.length cap_2, .map (some m0_3), .slice A_3 d0_4.length cap_3, .int .i64 d0_5] 74 (0, 0))) :: (Ent.row 44 5 (.slice A_2 d0_2.length cap_2) d0_2.length cs_1) :: (Ent.obj m0_3 (mapO (Value.int .i64) (fun x : TC0 => Value.agg #[.bool x.fEnded, .bool x.fOk, S x.fPhys]) d0_3)) :: (Ent.row 44 5 (.slice A_3 d0_4.length cap_3) d0_4.length cs_2) :: (Ent.obj b1 (.cells #[.int .i64 d1_0, .int .i8 d1_1, S d1_2, S d1_3, .slice A_4 d1_4.length cap_4] 44 (0, 0))) :: H)) [(0, true), (1, true), (2, true), (3, true), (4, true), (5, true), (6, true), (7, true), (8, true), (9, true), (10, true), (11, true), (12, false), (13, true), (14, true), (15, true), (16, false), (17, true)] p_4 (by kernel_rfl) (by kernel_rfl) rfl (by kernel_rfl) (Y0 default f 3 fun _ f => M_eq (v := .agg #[.slice A_1 d0_0.length cap_1, .int .i64 d0_1]) f (by kernel_rfl) (by kernel_rfl) rfl rfl (fun _ pq => Y33 (cs := [.slice A_1 d0_0.length cap_1, .int .i64 d0_1]) rfl (ad := ⟨b0, 0, none⟩) (own_cells (pq.ownCell 1 rfl) 0 rfl)) fun _ f => Y0 default f 3 fun _ f => M_eq (v := S d1_2) f (by kernel_rfl) (by kernel_rfl) rfl rfl (fun _ pq => Y32 (v := S d1_2) rfl (ad := ⟨b1, 2, none⟩) (pq.ownCell 5 rfl 2)) fun _ f => Y0 default f 3 fun _ f => M_eq (v := .slice A_4 d1_4.length cap_4) f (by kernel_rfl) (by kernel_rfl) rfl rfl (fun _ pq => Y32 (v := .slice A_4 d1_4.length cap_4) rfl (ad := ⟨b1, 4, none⟩) (pq.ownCell 5 rfl 4)) fun _ f => M_fix (E := [Ent.obj b_2 (.cells #[.slice A_1 d0_0.length cap_1, .int .i64 d0_1] 72 (0, 0))]) fun w_10 p_10 => ?_)
    obtain ⟨x_2, hx_2, hF_6⟩ := bS hF_5
    refine Y16 f p_10 (store_Update_ok n _ hG _ (⟨d0_0, d0_1⟩ : TB0) (TB0.shut h_1) d1_2 A_4 cap_4 d1_4 h_2 x_2 hx_2) fun _ M_2 w_11 hM_2 p_11 q_2 _ f => ?_
    obtain ⟨c_2, rfl, hr_4⟩ := q_2
    obtain ⟨A_6, cap_6, rfl, h_6⟩ := TB0.opn hr_4
    refine W_end rfl (M_go (M1 := M_2) (E := [Ent.obj b_2 (.cells #[.slice A_1 d0_0.length cap_1, .int .i64 d0_1] 72 (0, 0))]) hM_2 p_11 (Y0 default f 3 fun _ f => M_fix (E := [Ent.obj b_2 (.cells #[.slice A_1 d0_0.length cap_1, .int .i64 d0_1] 72 (0, 0))]) fun w_12 p_12 => Y27 (vs := [.slice A_6 x_2.1.fL.length cap_6, .int .i64 x_2.1.fMade]) (j := 0) f p_12 rfl rfl (by simp [Value.oneCell', S]) (by simp) (by decide) (cs' := #[.slice A_6 x_2.1.fL.length cap_6, .int .i64 x_2.1.fMade]) (by kernel_rfl) fun w_13 p_13 _ f => W_end rfl (M_go (M1 := M_2) (E := [Ent.obj b_2 (.cells #[.slice A_6 x_2.1.fL.length cap_6, .int .i64 x_2.1.fMade] 72 (0, 0))]) hM_2 p_13 (Y0 default f 1 fun _ f => M_end rfl fun w_14 p_14 => B_n (T_n ?_)))))
    exact ⟨(([] : List UInt8), x_2.2, x_2.1.fL, x_2.1.fMade), (sI hF_6).symm, M_2, hM_2, A_6, cap_6, h_6, f.kp, p_14⟩
   ·have k_4 := iff_f dI h_5
    refine RR (Y f 2 fun _ f => eT (RcF f hF_7 (fun h_7 hF_8 => ?_) fun h_7 hF_10 => ?_))
    ·have k_5 := dI.1 h_7
     refine R_mix (E := [Ent.obj b_2 (.cells #[.slice A_1 d0_0.length cap_1, .int .i64 d0_1] 72 (0, 0))]) (Hr := ((Ent.obj b_1 (.cells #[.bool true, .bool false, S []] 49 (0, 0))) :: (Ent.obj b0 (.cells #[.slice A_1 d0_0.length cap_1, .int .i64 d0_1, .slice A_2 d0_2.length cap_2, .map (some m0_3), .slice A_3 d0_4.length cap_3, .int .i64 d0_5] 74 (0, 0))) :: (Ent.row 44 5 (.slice A_2 d0_2.length cap_2) d0_2.length cs_1) :: (Ent.obj m0_3 (mapO (Value.int .i64) (fun x : TC0 => Value.agg #[.bool x.fEnded, .bool x.fOk, S x.fPhys]) d0_3)) :: (Ent.row 44 5 (.slice A_3 d0_4.length cap_3) d0_4.length cs_2) :: (Ent.obj b1 (.cells #[.int .i64 d1_0, .int .i8 d1_1, S d1_2, S d1_3, .slice A_4 d1_4.length cap_4] 44 (0, 0))) :: H)) [(0, true), (1, true), (2, true), (3, true), (4, true), (5, true), (6, true), (7, true), (8, false), (9, true), (10, true), (11, true), (12, false), (13, true)] p_4 (by kernel_rfl) (by kernel_rfl) rfl (by kernel_rfl) (Y0 default f 3 fun _ f => M_eq (v := .agg #[.slice A_1 d0_0.length cap_1, .int .i64 d0_1]) f (by kernel_rfl) (by kernel_rfl) rfl rfl (fun _ pq => Y33 (cs := [.slice A_1 d0_0.length cap_1, .int .i64 d0_1]) rfl (ad := ⟨b0, 0, none⟩) (own_cells (pq.ownCell 1 rfl) 0 rfl)) fun _ f => Y0 default f 3 fun _ f => M_eq (v := S d1_2) f (by kernel_rfl) (by kernel_rfl) rfl rfl (fun _ pq => Y32 (v := S d1_2) rfl (ad := ⟨b1, 2, none⟩) (pq.ownCell 5 rfl 2)) fun _ f => M_fix (E := [Ent.obj b_2 (.cells #[.slice A_1 d0_0.length cap_1, .int .i64 d0_1] 72 (0, 0))]) fun w_15 p_15 => ?_)
     obtain ⟨x_3, hx_3, hF_9⟩ := bS hF_8
     refine Y16 f p_15 (store_Delete_ok n _ hG _ (⟨d0_0, d0_1⟩ : TB0) (TB0.shut h_1) d1_2 x_3 hx_3) fun _ M_3 w_16 hM_3 p_16 q_3 _ f => ?_
     obtain ⟨c_3, rfl, hr_5⟩ := q_3
     obtain ⟨A_7, cap_7, rfl, h_8⟩ := TB0.opn hr_5
     refine W_end rfl (M_go (M1 := M_3) (E := [Ent.obj b_2 (.cells #[.slice A_1 d0_0.length cap_1, .int .i64 d0_1] 72 (0, 0))]) hM_3 p_16 (Y0 default f 3 fun _ f => M_fix (E := [Ent.obj b_2 (.cells #[.slice A_1 d0_0.length cap_1, .int .i64 d0_1] 72 (0, 0))]) fun w_17 p_17 => Y27 (vs := [.slice A_7 x_3.1.fL.length cap_7, .int .i64 x_3.1.fMade]) (j := 0) f p_17 rfl rfl (by simp [Value.oneCell', S]) (by simp) (by decide) (cs' := #[.slice A_7 x_3.1.fL.length cap_7, .int .i64 x_3.1.fMade]) (by kernel_rfl) fun w_18 p_18 _ f => W_end rfl (M_go (M1 := M_3) (E := [Ent.obj b_2 (.cells #[.slice A_7 x_3.1.fL.length cap_7, .int .i64 x_3.1.fMade] 72 (0, 0))]) hM_3 p_18 (Y0 default f 1 fun _ f => M_end rfl fun w_19 p_19 => B_n (T_n ?_)))))
     exact ⟨(([] : List UInt8), x_3.2, x_3.1.fL, x_3.1.fMade), (sI hF_9).symm, M_3, hM_3, A_7, cap_7, h_8, f.kp, p_19⟩
    ·have k_6 := iff_f dI h_7
     refine wp_skip (B_n (T_n ?_))
     exact ⟨(([] : List UInt8), (0 : Int), d0_0, d0_1), (sI hF_10).symm, M1, (mR _), A_1, cap_1, h_1, f.kp, p_4⟩
 ·rintro a_42 w_20 ⟨y_1, hq_1, M_4, hM_4, A_8, cap_8, h_9, f, p_20⟩
  subst j_1
  refine T_n (R_seq (RR (Y f 2 fun _ f => eT (RcF f hF_1 (fun h_10 hF_11 => ?_) fun h_10 hF_12 => ?_))))
  ·have k_7 : ¬ (y_1.2.1 = 0) := (not_iff dI).1 h_10
   refine RR (Z (v := .agg #[.bool true, .bool false, S []]) f (Y33 (cs := [.bool true, .bool false, S []]) rfl (ad := ⟨b_1, 0, none⟩) (own_cells (p_20.ownCell 1 rfl) 0 rfl)) fun _ f => ?_)
   have p_21 := p_20.pl [1]
   refine Y27 (vs := [.bool true, .bool false, S []]) (j := 0) f p_21 rfl rfl (by simp [Value.oneCell', S]) (by simp) (by decide) (cs' := #[.bool true, .bool false, S []]) (by kernel_rfl) fun w_21 p_22 _ f => eT (wp_ret (T_r (E_rv1 f rfl (Y10 (cs := [.bool true, .bool false, S []]) (ad := ⟨b_1, 0, none⟩) f (own_cells (p_22.ownCell 0 rfl) 0 rfl)) ?_)))
   obtain rfl := sI hF_11
   exact ⟨_, rfl, M_4, _, hM_4, (p_22.dropN 2), ⟨[.bool true, .bool false, S []], A_1, cap_1, A_2, cap_2, cs_1, A_3, cap_3, cs_2, A_4, cap_4, rfl, rfl, (TC0.shut), (h_1.mono hM_4), (RepSeq.mono hM_4 _ _ hr_1), (RepSeq.mono hM_4 _ _ hr_2), (h_2.mono hM_4)⟩⟩
  ·have k_8 : ¬ (¬ (y_1.2.1 = 0)) := iff_f (not_iff dI) h_10
   refine wp_skip (T_n (RR (Y f 1 fun _ f => Z (v := .agg #[.slice A_8 y_1.2.2.1.length cap_8, .int .i64 y_1.2.2.2]) f (Y33 (cs := [.slice A_8 y_1.2.2.1.length cap_8, .int .i64 y_1.2.2.2]) rfl (ad := ⟨b_2, 0, none⟩) (own_cells (p_20.ownCell 0 rfl) 0 rfl)) fun _ f => Y f 3 fun _ f => ?_)))
   have p_23 := p_20.pl [2]
   refine Y27 (vs := [.slice A_8 y_1.2.2.1.length cap_8, .int .i64 y_1.2.2.2]) (j := 0) f p_23 rfl rfl (by simp [Value.oneCell', S]) (by simp) (by decide) (cs' := #[.slice A_8 y_1.2.2.1.length cap_8, .int .i64 y_1.2.2.2, .slice A_2 d0_2.length cap_2, .map (some m0_3), .slice A_3 d0_4.length cap_3, .int .i64 d0_5]) (by kernel_rfl) fun w_22 p_24 _ f => Y f 1 fun _ f => Y26 f p_24 2 rfl rfl (b := b_1) (j := 1) (v := .bool true) rfl (by exact rfl) (by simp) (by simp) ((Ent.obj b0 (.cells #[.slice A_8 y_1.2.2.1.length cap_8, .int .i64 y_1.2.2.2, .slice A_2 d0_2.length cap_2, .map (some m0_3), .slice A_3 d0_4.length cap_3, .int .i64 d0_5] 74 (0, 0))) :: (Ent.obj b_2 (.cells #[.slice A_8 y_1.2.2.1.length cap_8, .int .i64 y_1.2.2.2] 72 (0, 0))) :: (Ent.obj b_1 (.cells #[.bool true, .bool true, S []] 49 (0, 0))) :: (Ent.row 44 5 (.slice A_2 d0_2.length cap_2) d0_2.length cs_1) :: (Ent.obj m0_3 (mapO (Value.int .i64) (fun x : TC0 => Value.agg #[.bool x.fEnded, .bool x.fOk, S x.fPhys]) d0_3)) :: (Ent.row 44 5 (.slice A_3 d0_4.length cap_3) d0_4.length cs_2) :: (Ent.obj b1 (.cells #[.int .i64 d1_0, .int .i8 d1_1, S d1_2, S d1_3, .slice A_4 d1_4.length cap_4] 44 (0, 0))) :: H) rfl fun w_23 p_25 _ f => Y f 1 fun _ f => Y26 f p_25 2 rfl rfl (b := b_1) (j := 2) (v := S y_1.1) rfl (by exact rfl) (by simp) (by simp) ((Ent.obj b0 (.cells #[.slice A_8 y_1.2.2.1.length cap_8, .int .i64 y_1.2.2.2, .slice A_2 d0_2.length cap_2, .map (some m0_3), .slice A_3 d0_4.length cap_3, .int .i64 d0_5] 74 (0, 0))) :: (Ent.obj b_2 (.cells #[.slice A_8 y_1.2.2.1.length cap_8, .int .i64 y_1.2.2.2] 72 (0, 0))) :: (Ent.obj b_1 (.cells #[.bool true, .bool true, S y_1.1] 49 (0, 0))) :: (Ent.row 44 5 (.slice A_2 d0_2.length cap_2) d0_2.length cs_1) :: (Ent.obj m0_3 (mapO (Value.int .i64) (fun x : TC0 => Value.agg #[.bool x.fEnded, .bool x.fOk, S x.fPhys]) d0_3)) :: (Ent.row 44 5 (.slice A_3 d0_4.length cap_3) d0_4.length cs_2) :: (Ent.obj b1 (.cells #[.int .i64 d1_0, .int .i8 d1_1, S d1_2, S d1_3, .slice A_4 d1_4.length cap_4] 44 (0, 0))) :: H) rfl fun w_24 p_26 _ f => eT (R_seq (RR (Y f 3 fun _ f => Z f (Y32 (v := .int .i8 d1_1) rfl (ad := ⟨b1, 1, none⟩) (p_26.ownCell 6 rfl 1)) fun _ f => Y f 1 fun _ f => eT (RcF f hF_12 (fun h_11 hF_13 => ?_) fun h_11 hF_15 => ?_))))
   ·have k_9 := dI.1 h_11
    refine R_reg (Y f 3 fun _ f => Z f (Y32 (v := .int .i64 d0_5) rfl (ad := ⟨b0, 5, none⟩) (p_26.ownCell 0 rfl 5)) fun _ f => ?_)
    obtain ⟨g_1, hF_14⟩ := nS hF_13
    refine Y f 1 fun _ f => ?_
    have f := f.st 87 (congrArg (Value.int .i64) (inR_wrap g_1))
    refine Y f 2 fun _ f => Y26 f p_26 0 rfl rfl (b := b0) (j := 5) (v := .int .i64 (d0_5 + 1)) rfl (by exact rfl) (by simp) (by simp) ((Ent.obj b0 (.cells #[.slice A_8 y_1.2.2.1.length cap_8, .int .i64 y_1.2.2.2, .slice A_2 d0_2.length cap_2, .map (some m0_3), .slice A_3 d0_4.length cap_3, .int .i64 (d0_5 + 1)] 74 (0, 0))) :: (Ent.obj b_2 (.cells #[.slice A_8 y_1.2.2.1.length cap_8, .int .i64 y_1.2.2.2] 72 (0, 0))) :: (Ent.obj b_1 (.cells #[.bool true, .bool true, S y_1.1] 49 (0, 0))) :: (Ent.row 44 5 (.slice A_2 d0_2.length cap_2) d0_2.length cs_1) :: (Ent.obj m0_3 (mapO (Value.int .i64) (fun x : TC0 => Value.agg #[.bool x.fEnded, .bool x.fOk, S x.fPhys]) d0_3)) :: (Ent.row 44 5 (.slice A_3 d0_4.length cap_3) d0_4.length cs_2) :: (Ent.obj b1 (.cells #[.int .i64 d1_0, .int .i8 d1_1, S d1_2, S d1_3, .slice A_4 d1_4.length cap_4] 44 (0, 0))) :: H) rfl fun w_25 p_27 _ f => eT (RR (Z (v := .agg #[.bool true, .bool true, S y_1.1]) f (Y33 (cs := [.bool true, .bool true, S y_1.1]) rfl (ad := ⟨b_1, 0, none⟩) (own_cells (p_27.ownCell 2 rfl) 0 rfl)) fun _ f => ?_))
    have p_28 := p_27.pl [2]
    refine Y27 (vs := [.bool true, .bool true, S y_1.1]) (j := 0) f p_28 rfl rfl (by simp [Value.oneCell', S]) (by simp) (by decide) (cs' := #[.bool true, .bool true, S y_1.1]) (by kernel_rfl) fun w_26 p_29 _ f => eT (wp_ret (E_rv1 f rfl (Y10 (cs := [.bool true, .bool true, S y_1.1]) (ad := ⟨b_1, 0, none⟩) f (own_cells (p_29.ownCell 0 rfl) 0 rfl)) ?_))
    obtain rfl := sI hF_14
    have p_36 := p_29.pl [6, 6, 6, 6, 5, 6, 6]
    exact ⟨_, rfl, M_4, _, hM_4, (p_36.dropN 2), ⟨[.bool true, .bool true, S y_1.1], A_8, cap_8, A_2, cap_2, cs_1, A_3, cap_3, cs_2, A_4, cap_4, rfl, rfl, (TC0.shut), h_9, (RepSeq.mono hM_4 _ _ hr_1), (RepSeq.mono hM_4 _ _ hr_2), (h_2.mono hM_4)⟩⟩
   ·have k_10 := iff_f dI h_11
    refine wp_skip (T_n (RR (Z (v := .agg #[.bool true, .bool true, S y_1.1]) f (Y33 (cs := [.bool true, .bool true, S y_1.1]) rfl (ad := ⟨b_1, 0, none⟩) (own_cells (p_26.ownCell 2 rfl) 0 rfl)) fun _ f => ?_)))
    have p_37 := p_26.pl [2]
    refine Y27 (vs := [.bool true, .bool true, S y_1.1]) (j := 0) f p_37 rfl rfl (by simp [Value.oneCell', S]) (by simp) (by decide) (cs' := #[.bool true, .bool true, S y_1.1]) (by kernel_rfl) fun w_27 p_38 _ f => eT (wp_ret (E_rv1 f rfl (Y10 (cs := [.bool true, .bool true, S y_1.1]) (ad := ⟨b_1, 0, none⟩) f (own_cells (p_38.ownCell 0 rfl) 0 rfl)) ?_))
    obtain rfl := sI hF_15
    have p_45 := p_38.pl [6, 6, 6, 6, 5, 6, 6]
    exact ⟨_, rfl, M_4, _, hM_4, (p_45.dropN 2), ⟨[.bool true, .bool true, S y_1.1], A_8, cap_8, A_2, cap_2, cs_1, A_3, cap_3, cs_2, A_4, cap_4, rfl, rfl, (TC0.shut), h_9, (RepSeq.mono hM_4 _ _ hr_1), (RepSeq.mono hM_4 _ _ hr_2), (h_2.mono hM_4)⟩⟩
def cloud_Cloud_End (n : Nat) (d0_0 : List TF0) (d0_1 : Int) (d0_2 : List TH0) (d0_3 : List (Int × TC0)) (d0_4 : List TH0) (d0_5 : Int) (d1 : Int) (d2 : Bool) : Option (Int × TC0 × Int × List TF0 × Int × List TH0 × (List (Int × TC0)) × List TH0 × Int) :=
  ((bif (decide (d1 < 0)) then
      (some ((true)))
    else
      some ((decide (((d0_4.length : Nat) : Int) ≤ d1))) : Option Bool)).bind fun y_1 =>
  bif y_1 then
    (some (((0 : Int), z_TC0, (4 : Int), d0_0, d0_1, d0_2, d0_3, d0_4, d0_5)))
  else
    (getI d0_4 d1).bind fun x_1 =>
    ((need (inR .i64 (d1 + 1)) <|
      need (0 ≤ d1 ∧ d1 ≤ (d0_4.length : Int)) <|
      need (0 ≤ (d1 + 1) ∧ (d1 + 1) ≤ (d0_4.length : Int)) <|
      need ((d1 + 1).toNat = d1.toNat + 1 ∧ d1.toNat < d0_4.length) <|
      need (d0_4.length * 72 ≤ 140737488355328) <|
      some (d0_4.take d1.toNat ++ d0_4.drop (d1.toNat + 1)) : Option (List TH0))).bind fun y_2 =>
    ((bif d2 then
        ((cloud_Cloud_effect n d0_0 d0_1 d0_2 d0_3 y_2 d0_5 x_1.fToken x_1.fKind x_1.fPhys x_1.fType x_1.fProps).bind fun x_2 =>
        some (((x_2.1.fEnded), (x_2.1.fOk), x_2.1.fPhys, x_2.2.1, x_2.2.2.1, x_2.2.2.2.1, x_2.2.2.2.2.2.1, x_2.2.2.2.2.2.2.1, x_2.2.2.2.2.2.2.2.1, x_2.2.2.2.2.2.2.2.2.1, x_2.2.2.2.2.2.2.2.2.2.1, x_2.2.2.2.2.2.2.2.2.2.2.1, x_2.2.2.2.2.2.2.2.2.2.2.2, x_2.2.2.2.2.1)))
      else
        some (((true), (false), ([] : List UInt8), d0_0, d0_1, d0_2, y_2, d0_5, x_1.fToken, x_1.fKind, x_1.fPhys, x_1.fType, x_1.fProps, d0_3)) : Option (Bool × Bool × List UInt8 × List TF0 × Int × List TH0 × List TH0 × Int × Int × Int × List UInt8 × List UInt8 × List TE0 × (List (Int × TC0))))).bind fun y_3 =>
    some ((y_3.2.2.2.2.2.2.2.2.1, (⟨(y_3.1), (y_3.2.1), y_3.2.2.1⟩ : TC0), (0 : Int), y_3.2.2.2.1, y_3.2.2.2.2.1, y_3.2.2.2.2.2.1, mput y_3.2.2.2.2.2.2.2.2.2.2.2.2.2 y_3.2.2.2.2.2.2.2.2.1 (⟨(y_3.1), (y_3.2.1), y_3.2.2.1⟩ : TC0), y_3.2.2.2.2.2.2.1, y_3.2.2.2.2.2.2.2.1))
set_option maxRecDepth 20000 in
theorem cloud_Cloud_End_ok (n : Nat) (M : Mem) (hG : GL M) (b0 : Nat) (d0_0 : List TF0) (A_1 : Option Addr) (cap_1 : Nat) (h_1 : Sli M 3 emb_TF0 A_1 cap_1 d0_0) (d0_1 : Int) (d0_2 : List TH0) (A_2 : Option Addr) (cap_2 : Nat) (cs_1 : List Value) (hr_1 : RepSeq M (d0_2.map emb_TH0) cs_1) (m0_3 : Nat) (d0_3 : List (Int × TC0)) (d0_4 : List TH0) (A_3 : Option Addr) (cap_3 : Nat) (cs_2 : List Value) (hr_2 : RepSeq M (d0_4.map emb_TH0) cs_2) (d0_5 : Int) (d1 : Int) (d2 : Bool) (r : Int × TC0 × Int × List TF0 × Int × List TH0 × (List (Int × TC0)) × List TH0 × Int) (hF : cloud_Cloud_End n d0_0 d0_1 d0_2 d0_3 d0_4 d0_5 d1 d2 = some r) : OkH Tryd.prog M [Ent.obj b0 (.cells #[.slice A_1 d0_0.length cap_1, .int .i64 d0_1, .slice A_2 d0_2.length cap_2, .map (some m0_3), .slice A_3 d0_4.length cap_3, .int .i64 d0_5] 74 (0, 0)), Ent.row 44 5 (.slice A_2 d0_2.length cap_2) d0_2.length cs_1, Ent.obj m0_3 (mapO (Value.int .i64) (fun x : TC0 => Value.agg #[.bool x.fEnded, .bool x.fOk, S x.fPhys]) d0_3), Ent.row 44 5 (.slice A_3 d0_4.length cap_3) d0_4.length cs_2] 20 [.pointer (some (⟨b0, 0, none⟩)), .int .i64 d1, .bool d2] (fun M' E' v => ∃ (c1 : List Value) (A_35 : Option Addr) (cap_36 : Nat) (A_36 : Option Addr) (cap_37 : Nat) (cs_15 : List Value) (A_37 : Option Addr) (cap_38 : Nat) (cs_16 : List Value), v = .tuple #[.int .i64 r.1, .agg c1.toArray, .int .i64 r.2.2.1] ∧ E' = [Ent.obj b0 (.cells #[.slice A_35 r.2.2.2.1.length cap_36, .int .i64 r.2.2.2.2.1, .slice A_36 r.2.2.2.2.2.1.length cap_37, .map (some m0_3), .slice A_37 r.2.2.2.2.2.2.2.1.length cap_38, .int .i64 r.2.2.2.2.2.2.2.2] 74 (0, 0)), Ent.row 44 5 (.slice A_36 r.2.2.2.2.2.1.length cap_37) r.2.2.2.2.2.1.length cs_15, Ent.obj m0_3 (mapO (Value.int .i64) (fun x : TC0 => Value.agg #[.bool x.fEnded, .bool x.fOk, S x.fPhys]) r.2.2.2.2.2.2.1), Ent.row 44 5 (.slice A_37 r.2.2.2.2.2.2.2.1.length cap_38) r.2.2.2.2.2.2.2.1.length cs_16] ∧ Rep M' (emb_TC0 r.2.1) c1 ∧ Sli M' 3 emb_TF0 A_35 cap_36 r.2.2.2.1 ∧ RepSeq M' (r.2.2.2.2.2.1.map emb_TH0) cs_15 ∧ RepSeq M' (r.2.2.2.2.2.2.2.1.map emb_TH0) cs_16) := by
 unfold cloud_Cloud_End at hF
 intro M1 hM0 w0 H w p0
 replace hG := GL.mono hM0 hG
 replace h_1 := h_1.mono hM0
 replace hr_1 := RepSeq.mono hM0 _ _ hr_1
 replace hr_2 := RepSeq.mono hM0 _ _ hr_2
 refine R_enter 64 Tryd.func20 rfl rfl (by simp) fun a0 f0 => RR (Y f0 1 fun _ f => Y12 f p0 (.cells #[.bool false, .bool false, S []] 49 (0, 0)) fun b_1 w_1 p_1 _ f => Y f 1 fun _ f => eT (R_seq (RR (Y f 1 fun _ f => Z (v := .bool false) f (X_ptrNil (q := some (⟨b0, 0, none⟩)) (e := 74) rfl (by kernel_rfl) (by kernel_rfl) (by kernel_rfl) _) fun _ f => eT (Y7 f (wp_skip (T_n (R_seq (R_seq ?_)))))))))
 obtain ⟨j_1, hj_1, hF_1⟩ := bS hF
 refine R_mid (fun a_11 w_2 => ∃ y_1 : Bool, j_1 = y_1 ∧ ∃ M_1 : Mem, M1.le M_1 ∧ Frm 64 [(0, .pointer (some (⟨b0, 0, none⟩))), (1, .int .i64 d1), (2, .bool d2), (7, .pointer (some (⟨b_1, 0, none⟩))), (23, .bool y_1)] a_11 ∧ Hp w0 M_1 ((Ent.obj b_1 (.cells #[.bool false, .bool false, S []] 49 (0, 0))) :: (Ent.obj b0 (.cells #[.slice A_1 d0_0.length cap_1, .int .i64 d0_1, .slice A_2 d0_2.length cap_2, .map (some m0_3), .slice A_3 d0_4.length cap_3, .int .i64 d0_5] 74 (0, 0))) :: (Ent.row 44 5 (.slice A_2 d0_2.length cap_2) d0_2.length cs_1) :: (Ent.obj m0_3 (mapO (Value.int .i64) (fun x : TC0 => Value.agg #[.bool x.fEnded, .bool x.fOk, S x.fPhys]) d0_3)) :: (Ent.row 44 5 (.slice A_3 d0_4.length cap_3) d0_4.length cs_2) :: H) w_2) ?_ ?_
 ·refine R_reg (Y f 3 fun _ f => ?_)
  rcases cE hj_1 with ⟨h_2, hF_2⟩ | ⟨h_2, hF_3⟩
  ·have k_1 := dI.1 h_2
   have f := f.st 15 (cB h_2)
   refine Y f 8 fun _ f => eT ?_
   exact ⟨(true), (sI hF_2).symm, M1, (mR _), f.kp, p_1⟩
  ·have k_2 := iff_f dI h_2
   have f := f.st 15 (cB h_2)
   refine Y f 4 fun _ f => Z f (Y32 (v := .slice A_3 d0_4.length cap_3) rfl (ad := ⟨b0, 4, none⟩) (p_1.ownCell 1 rfl 4)) fun _ f => Y f 3 fun _ f => eT ?_
   exact ⟨(decide (((d0_4.length : Nat) : Int) ≤ d1)), (sI hF_3).symm, M1, (mR _), f.kp, p_1⟩
 ·rintro a_11 w_2 ⟨y_1, hq_1, M_1, hM_1, f, p_2⟩
  subst j_1
  refine T_n (RcF f hF_1 (fun h_3 hF_4 => ?_) fun h_3 hF_5 => ?_)
  ·refine R_seq (R_drawT 2 p_2 (by kernel_rfl) (by kernel_rfl) fun w_3 p_3 => ST_eq (v := .agg #[.bool false, .bool false, S []]) f (by kernel_rfl) (by kernel_rfl) rfl rfl (Y33 (cs := [.bool false, .bool false, S []]) rfl (ad := ⟨b_1, 0, none⟩) (own_cells (p_3.ownCell 0 rfl) 0 rfl)) fun _ f => ST_eq (v := .int .i64 0) f (by kernel_rfl) (by kernel_rfl) rfl rfl (by kernel_rfl) fun _ f => ST_end rfl (Y27 (vs := [.bool false, .bool false, S []]) (j := 0) f p_3 rfl rfl (by simp [Value.oneCell', S]) (by simp) (by decide) (cs' := #[.bool false, .bool false, S []]) (by kernel_rfl) fun w_4 p_4 _ f => Y f 1 fun _ f => eT (wp_ret (T_r (E_rv3 f rfl (Y11 (v := .int .i64 0) f) (Y10 (cs := [.bool false, .bool false, S []]) (ad := ⟨b_1, 0, none⟩) f (own_cells (p_4.ownCell 0 rfl) 0 rfl)) (Y11 (v := .int .i64 4) f) ?_)))))
   obtain rfl := sI hF_4
   exact ⟨_, rfl, M_1, _, hM_1, (p_4.dropN 1), ⟨[.bool false, .bool false, S []], A_1, cap_1, A_2, cap_2, cs_1, A_3, cap_3, cs_2, rfl, rfl, (TC0.shut), (h_1.mono hM_1), (RepSeq.mono hM_1 _ _ hr_1), (RepSeq.mono hM_1 _ _ hr_2)⟩⟩
  ·refine wp_skip (T_n (RR (Y f 3 fun _ f => Z f (Y32 (v := .slice A_3 d0_4.length cap_3) rfl (ad := ⟨b0, 4, none⟩) (p_2.ownCell 1 rfl 4)) fun _ f => Y f 1 fun _ f => ?_)))
   obtain ⟨x_1, hx_1, hF_6⟩ := bS hF_5
   obtain ⟨b_2, cap_4, hv_1, hcap_1⟩ := p_2.rowAddr 4 rfl (getI_pos hx_1)
   have f := f.st 28 (hv_1)
   refine Z f (Y30 rfl (ad := ⟨b_2, 0, none⟩) (len := d0_4.length) (cap := cap_4) (k := .i64) (i := d1) (e := 44) (sz := 5) (getI_nn hx_1) (getI_lt hx_1)) fun _ f => ?_
   have f := f.st 28 (hv_1.symm)
   obtain ⟨c_1, -, hr_3, hc_1⟩ := RepSeq.get d1.toNat (szd_all szd_TH0) (RepSeq.mono hM_1 _ _ hr_2) (getI_map hx_1)
   obtain ⟨A_4, cap_5, rfl, h_4⟩ := TH0.opn hr_3
   refine Z (v := .agg #[.int .i64 x_1.fToken, .int .i8 x_1.fKind, S x_1.fPhys, S x_1.fType, .slice A_4 x_1.fProps.length cap_5]) f (Y33 (cs := [.int .i64 x_1.fToken, .int .i8 x_1.fKind, S x_1.fPhys, S x_1.fType, .slice A_4 x_1.fProps.length cap_5]) rfl (ad := (⟨b_2, 0, none⟩ : Addr).add (d1.toNat * 5)) (fun j v h => row_at (p_2.rowCell 4 rfl hv_1) hc_1 j v h)) fun _ f => Y12 f p_2 (.cells #[.int .i64 0, .int .i8 0, S [], S [], .slice none 0 0] 44 (0, 0)) fun b_3 w_5 p_5 _ f => Y27 (vs := [.int .i64 x_1.fToken, .int .i8 x_1.fKind, S x_1.fPhys, S x_1.fType, .slice A_4 x_1.fProps.length cap_5]) (j := 0) f p_5 rfl rfl (by simp [Value.oneCell', S]) (by simp) (by decide) (cs' := #[.int .i64 x_1.fToken, .int .i8 x_1.fKind, S x_1.fPhys, S x_1.fType, .slice A_4 x_1.fProps.length cap_5]) (by kernel_rfl) fun w_6 p_6 _ f => eT (R_seq ?_)
   obtain ⟨j_2, hj_2, hF_7⟩ := bS hF_6
   refine R_mid (fun a_85 w_57 => ∃ y_2 : List TH0, j_2 = y_2 ∧ ∃ M_2 : Mem, M_1.le M_2 ∧ ∃ (A_26 : Option Addr), ∃ (cap_27 : Nat), ∃ (cs_10 : List Value), RepSeq M_2 (y_2.map emb_TH0) cs_10 ∧ Frm 64 [(0, .pointer (some (⟨b0, 0, none⟩))), (2, .bool d2), (7, .pointer (some (⟨b_1, 0, none⟩))), (9, .pointer (some (⟨b_3, 0, none⟩)))] a_85 ∧ Hp w0 M_2 ((Ent.row 44 5 (.slice A_26 y_2.length cap_27) y_2.length cs_10) :: (Ent.obj b0 (.cells #[.slice A_1 d0_0.length cap_1, .int .i64 d0_1, .slice A_2 d0_2.length cap_2, .map (some m0_3), .slice A_26 y_2.length cap_27, .int .i64 d0_5] 74 (0, 0))) :: (Ent.obj b_3 (.cells #[.int .i64 x_1.fToken, .int .i8 x_1.fKind, S x_1.fPhys, S x_1.fType, .slice A_4 x_1.fProps.length cap_5] 44 (0, 0))) :: (Ent.obj b_1 (.cells #[.bool false, .bool false, S []] 49 (0, 0))) :: (Ent.row 44 5 (.slice A_2 d0_2.length cap_2) d0_2.length cs_1) :: (Ent.obj m0_3 (mapO (Value.int .i64) (fun x : TC0 => Value.agg #[.bool x.fEnded, .bool x.fOk, S x.fPhys]) d0_3)) :: H) w_57) ?_ ?_
   ·have p_15 := p_6.pl [4, 4, 3, 3, 5, 5]
    obtain ⟨g_1, hF_8⟩ := nS hj_2
    obtain ⟨g_2, hF_9⟩ := nS hF_8
    obtain ⟨g_3, hF_10⟩ := nS hF_9
    obtain ⟨g_4, hF_11⟩ := nS hF_10
    obtain ⟨g_5, hF_12⟩ := nS hF_11
    refine R_plan (ks := []) (E := [Ent.obj b0 (.cells #[.slice A_1 d0_0.length cap_1, .int .i64 d0_1, .slice A_2 d0_2.length cap_2, .map (some m0_3), .slice A_3 d0_4.length cap_3, .int .i64 d0_5] 74 (0, 0)), Ent.row 44 5 (.slice A_3 d0_4.length cap_3) d0_4.length cs_2]) (Hr := ((Ent.obj b_3 (.cells #[.int .i64 x_1.fToken, .int .i8 x_1.fKind, S x_1.fPhys, S x_1.fType, .slice A_4 x_1.fProps.length cap_5] 44 (0, 0))) :: (Ent.obj b_1 (.cells #[.bool false, .bool false, S []] 49 (0, 0))) :: (Ent.row 44 5 (.slice A_2 d0_2.length cap_2) d0_2.length cs_1) :: (Ent.obj m0_3 (mapO (Value.int .i64) (fun x : TC0 => Value.agg #[.bool x.fEnded, .bool x.fOk, S x.fPhys]) d0_3)) :: H)) (.quiet 0 (.quiet 1 (.quiet 2 (.quiet 3 (.quiet 5 (.quiet 6 (.quiet 8 (.quiet 9 (.quiet 10 (.quiet 12 (.quiet 13 (.alt 4 (.alt 7 (.alt 11 (.alt 14 (.alt 15 (.quiet 16 (.quiet 17 (.alt 18 .done .none))) .none) .none) .none) (.alt 11 (.alt 7 (.alt 14 (.alt 15 (.quiet 16 (.quiet 17 (.alt 18 .done .none))) .none) .none) (.alt 14 (.alt 7 (.alt 15 (.quiet 16 (.quiet 17 (.alt 18 .done .none))) .none) .none) .none)) .none)) (.alt 11 (.alt 4 (.alt 7 (.alt 14 (.alt 15 (.quiet 16 (.quiet 17 (.alt 18 .done .none))) .none) .none) (.alt 14 (.alt 7 (.alt 15 (.quiet 16 (.quiet 17 (.alt 18 .done .none))) .none) .none) .none)) (.alt 14 (.alt 4 (.alt 7 (.alt 15 (.quiet 16 (.quiet 17 (.alt 18 .done .none))) .none) .none) .none) .none)) .none))))))))))))) p_15 (by kernel_rfl) (by kernel_rfl) (by kernel_rfl) (Y1 (v := .pointer (some (⟨b0, 0, none⟩))) rfl f rfl rfl (fun _ _ => by kernel_rfl) fun _ f => Y1 (v := .pointer (some (⟨b0, 0, none⟩))) rfl f rfl rfl (fun _ _ => by kernel_rfl) fun _ f => Y1 (v := .pointer (some (⟨b0, 0, none⟩))) rfl f rfl rfl (fun _ _ => by kernel_rfl) fun _ f => Y1 (v := .pointer (some (⟨b0, 4, none⟩))) rfl f rfl rfl (fun _ _ => by kernel_rfl) fun _ f => Y1 (v := .int .i64 d1) rfl f rfl rfl (fun _ _ => by kernel_rfl) fun _ f => Y1 (v := .int .i64 d1) rfl f rfl rfl (fun _ _ => by kernel_rfl) fun _ f => Y1 (v := .pointer (some (⟨b0, 0, none⟩))) rfl f rfl rfl (fun _ _ => by kernel_rfl) fun _ f => Y1 (v := .pointer (some (⟨b0, 0, none⟩))) rfl f rfl rfl (fun _ _ => by kernel_rfl) fun _ f => Y1 (v := .pointer (some (⟨b0, 4, none⟩))) rfl f rfl rfl (fun _ _ => by kernel_rfl) fun _ f => Y1 (v := .int .i64 d1) rfl f rfl rfl (fun _ _ => by kernel_rfl) fun _ f => ?_)
    refine Y1 (v := .int .i64 (IntKind.wrap .i64 (d1 + 1))) rfl f rfl rfl (fun _ pq => by kernel_rfl) fun _ f => ?_
    have f := f.st 45 (congrArg (Value.int .i64) (inR_wrap g_1))
    refine N_alt rfl (fun w_9 p_16 => ?_) ?_
    ·refine Z f (Y32 (v := .slice A_3 d0_4.length cap_3) rfl (ad := ⟨b0, 4, none⟩) (p_16.ownCell 0 rfl 4)) fun _ f => W_end rfl (N_goN 2 (mR _) p_16 rfl (N_alt rfl (fun w_10 p_17 => ?_) ?_))
     ·obtain ⟨A_8, cap_9, hv_4, hcap_4, hcn_3⟩ := p_17.rowShape 1 rfl
      have f := f.st 36 (hv_4)
      refine Z (v := .slice (cutA A_8 5 0 d1.toNat) d1.toNat d1.toNat) f (Y35 rfl (A := A_8) (len := d0_4.length) (cap := cap_9) (k := .i64) (k' := .i64) (b := d1) (e := 44) (sz := 5) g_2.1 (by omega)) fun _ f => ?_
      have f := f.st 36 (hv_4.symm)
      refine W_end rfl (N_goN 2 (mR _) p_17 rfl (N_alt rfl (fun w_11 p_18 => ?_) ?_))
      ·refine Z f (Y32 (v := .slice A_3 d0_4.length cap_3) rfl (ad := ⟨b0, 4, none⟩) (p_18.ownCell 0 rfl 4)) fun _ f => W_end rfl (N_goN 2 (mR _) p_18 rfl (N_alt rfl (fun w_12 p_19 => ?_) ?_))
       ·obtain ⟨A_9, cap_10, hv_5, hcap_5, hcn_4⟩ := p_19.rowShape 1 rfl
        have f := f.st 43 (hv_5)
        refine Z f (Y36 rfl (A := A_9) (len := d0_4.length) (cap := cap_10) (k := .i64) (a := d1 + 1) (e := 44) (sz := 5) (by omega) (by omega)) fun _ f => ?_
        have f := f.st 43 (hv_5.symm)
        refine W_end rfl (N_goN 2 (mR _) p_19 rfl (N_alt rfl (fun w_13 p_20 => ?_) ?_))
        ·have p_21 := p_20.pl [1]
         have he_2 := Value.slice.inj (hv_5.symm.trans hv_4)
         have f := Frm.set f 46 (v := .slice (cutA A_9 5 (d1 + 1).toNat cap_10) (d0_4.length - (d1 + 1).toNat) (cap_10 - (d1 + 1).toNat)) (v' := .slice (cutA A_8 5 (d1.toNat + 1) cap_9) (d0_4.length - (d1.toNat + 1)) (cap_9 - (d1.toNat + 1))) (by kernel_rfl) (by rw [g_4.1, he_2.1, he_2.2.2])
         refine W_rowRemove3 (z := .agg #[.int .i64 0, .int .i8 0, S [], S [], .slice none 0 0]) (bytes := 72) (f := emb_TH0) (xs := d0_4) (k := d1.toNat) f p_21 szd_TH0 (RepSeq.mono hM_1 _ _ hr_2) hv_4 g_4.2 (by kernel_rfl) (by kernel_rfl) rfl rfl rfl (by kernel_rfl) (by kernel_rfl) (by kernel_rfl) (by kernel_rfl) g_5 (by omega) fun A_10 cap_11 cs_4 w_14 p_22 hr_5 _ f => W_end rfl (N_goN 2 (mR _) p_22 rfl (Y1 (v := .pointer (some (⟨b0, 0, none⟩))) rfl f rfl rfl (fun _ _ => by kernel_rfl) fun _ f => Y1 (v := .pointer (some (⟨b0, 4, none⟩))) rfl f rfl rfl (fun _ _ => by kernel_rfl) fun _ f => N_alt rfl (fun w_15 p_23 => ?_) ?_))
         ·refine Y26 f p_23 1 rfl rfl (b := b0) (j := 4) (v := .slice A_10 (d0_4.take d1.toNat ++ d0_4.drop (d1.toNat + 1)).length cap_11) rfl (by exact rfl) (by simp) (by simp) ((Ent.row 44 5 (.slice A_10 (d0_4.take d1.toNat ++ d0_4.drop (d1.toNat + 1)).length cap_11) (d0_4.take d1.toNat ++ d0_4.drop (d1.toNat + 1)).length cs_4) :: (Ent.obj b0 (.cells #[.slice A_1 d0_0.length cap_1, .int .i64 d0_1, .slice A_2 d0_2.length cap_2, .map (some m0_3), .slice A_10 (d0_4.take d1.toNat ++ d0_4.drop (d1.toNat + 1)).length cap_11, .int .i64 d0_5] 74 (0, 0))) :: (Ent.obj b_3 (.cells #[.int .i64 x_1.fToken, .int .i8 x_1.fKind, S x_1.fPhys, S x_1.fType, .slice A_4 x_1.fProps.length cap_5] 44 (0, 0))) :: (Ent.obj b_1 (.cells #[.bool false, .bool false, S []] 49 (0, 0))) :: (Ent.row 44 5 (.slice A_2 d0_2.length cap_2) d0_2.length cs_1) :: (Ent.obj m0_3 (mapO (Value.int .i64) (fun x : TC0 => Value.agg #[.bool x.fEnded, .bool x.fOk, S x.fPhys]) d0_3)) :: H) rfl fun w_16 p_24 _ f => W_end rfl (N_goN 2 (mR _) p_24 rfl (N_end fun w_17 p_25 => T_n ?_))
          exact ⟨d0_4.take d1.toNat ++ d0_4.drop (d1.toNat + 1), (sI hF_12).symm, M_1, (mR _), A_10, cap_11, cs_4, hr_5, f.kp, p_25⟩
         exact N_none
        exact N_none
       exact N_none
      exact N_none
     refine N_alt rfl (fun w_18 p_26 => ?_) ?_
     ·refine Z f (Y32 (v := .slice A_3 d0_4.length cap_3) rfl (ad := ⟨b0, 4, none⟩) (p_26.ownCell 0 rfl 4)) fun _ f => W_end rfl (N_goN 2 (mR _) p_26 rfl (N_alt rfl (fun w_19 p_27 => ?_) ?_))
      ·obtain ⟨A_11, cap_12, hv_6, hcap_6, hcn_5⟩ := p_27.rowShape 1 rfl
       have f := f.st 36 (hv_6)
       refine Z (v := .slice (cutA A_11 5 0 d1.toNat) d1.toNat d1.toNat) f (Y35 rfl (A := A_11) (len := d0_4.length) (cap := cap_12) (k := .i64) (k' := .i64) (b := d1) (e := 44) (sz := 5) g_2.1 (by omega)) fun _ f => ?_
       have f := f.st 36 (hv_6.symm)
       refine W_end rfl (N_goN 2 (mR _) p_27 rfl (N_alt rfl (fun w_20 p_28 => ?_) ?_))
       ·obtain ⟨A_12, cap_13, hv_7, hcap_7, hcn_6⟩ := p_28.rowShape 1 rfl
        have f := f.st 43 (hv_7)
        refine Z f (Y36 rfl (A := A_12) (len := d0_4.length) (cap := cap_13) (k := .i64) (a := d1 + 1) (e := 44) (sz := 5) (by omega) (by omega)) fun _ f => ?_
        have f := f.st 43 (hv_7.symm)
        refine W_end rfl (N_goN 2 (mR _) p_28 rfl (N_alt rfl (fun w_21 p_29 => ?_) ?_))
        ·have p_30 := p_29.pl [1]
         have he_3 := Value.slice.inj (hv_7.symm.trans hv_6)
         have f := Frm.set f 46 (v := .slice (cutA A_12 5 (d1 + 1).toNat cap_13) (d0_4.length - (d1 + 1).toNat) (cap_13 - (d1 + 1).toNat)) (v' := .slice (cutA A_11 5 (d1.toNat + 1) cap_12) (d0_4.length - (d1.toNat + 1)) (cap_12 - (d1.toNat + 1))) (by kernel_rfl) (by rw [g_4.1, he_3.1, he_3.2.2])
         refine W_rowRemove3 (z := .agg #[.int .i64 0, .int .i8 0, S [], S [], .slice none 0 0]) (bytes := 72) (f := emb_TH0) (xs := d0_4) (k := d1.toNat) f p_30 szd_TH0 (RepSeq.mono hM_1 _ _ hr_2) hv_6 g_4.2 (by kernel_rfl) (by kernel_rfl) rfl rfl rfl (by kernel_rfl) (by kernel_rfl) (by kernel_rfl) (by kernel_rfl) g_5 (by omega) fun A_13 cap_14 cs_5 w_22 p_31 hr_6 _ f => W_end rfl (N_goN 2 (mR _) p_31 rfl (Y1 (v := .pointer (some (⟨b0, 0, none⟩))) rfl f rfl rfl (fun _ _ => by kernel_rfl) fun _ f => Y1 (v := .pointer (some (⟨b0, 4, none⟩))) rfl f rfl rfl (fun _ _ => by kernel_rfl) fun _ f => N_alt rfl (fun w_23 p_32 => ?_) ?_))
         ·refine Y26 f p_32 1 rfl rfl (b := b0) (j := 4) (v := .slice A_13 (d0_4.take d1.toNat ++ d0_4.drop (d1.toNat + 1)).length cap_14) rfl (by exact rfl) (by simp) (by simp) ((Ent.row 44 5 (.slice A_13 (d0_4.take d1.toNat ++ d0_4.drop (d1.toNat + 1)).length cap_14) (d0_4.take d1.toNat ++ d0_4.drop (d1.toNat + 1)).length cs_5) :: (Ent.obj b0 (.cells #[.slice A_1 d0_0.length cap_1, .int .i64 d0_1, .slice A_2 d0_2.length cap_2, .map (some m0_3), .slice A_13 (d0_4.take d1.toNat ++ d0_4.drop (d1.toNat + 1)).length cap_14, .int .i64 d0_5] 74 (0, 0))) :: (Ent.obj b_3 (.cells #[.int .i64 x_1.fToken, .int .i8 x_1.fKind, S x_1.fPhys, S x_1.fType, .slice A_4 x_1.fProps.length cap_5] 44 (0, 0))) :: (Ent.obj b_1 (.cells #[.bool false, .bool false, S []] 49 (0, 0))) :: (Ent.row 44 5 (.slice A_2 d0_2.length cap_2) d0_2.length cs_1) :: (Ent.obj m0_3 (mapO (Value.int .i64) (fun x : TC0 => Value.agg #[.bool x.fEnded, .bool x.fOk, S x.fPhys]) d0_3)) :: H) rfl fun w_24 p_33 _ f => W_end rfl (N_goN 2 (mR _) p_33 rfl (N_end fun w_25 p_34 => T_n ?_))
          exact ⟨d0_4.take d1.toNat ++ d0_4.drop (d1.toNat + 1), (sI hF_12).symm, M_1, (mR _), A_13, cap_14, cs_5, hr_6, f.kp, p_34⟩
         exact N_none
        exact N_none
       exact N_none
      refine N_alt rfl (fun w_26 p_35 => ?_) ?_
      ·obtain ⟨A_14, cap_15, hv_8, hcap_8, hcn_7⟩ := p_35.rowShape 1 rfl
       have f := f.st 43 (hv_8)
       refine Z f (Y36 rfl (A := A_14) (len := d0_4.length) (cap := cap_15) (k := .i64) (a := d1 + 1) (e := 44) (sz := 5) (by omega) (by omega)) fun _ f => ?_
       have f := f.st 43 (hv_8.symm)
       refine W_end rfl (N_goN 2 (mR _) p_35 rfl (N_alt rfl (fun w_27 p_36 => ?_) ?_))
       ·obtain ⟨A_15, cap_16, hv_9, hcap_9, hcn_8⟩ := p_36.rowShape 1 rfl
        have f := f.st 36 (hv_9)
        refine Z (v := .slice (cutA A_15 5 0 d1.toNat) d1.toNat d1.toNat) f (Y35 rfl (A := A_15) (len := d0_4.length) (cap := cap_16) (k := .i64) (k' := .i64) (b := d1) (e := 44) (sz := 5) g_2.1 (by omega)) fun _ f => ?_
        have f := f.st 36 (hv_9.symm)
        refine W_end rfl (N_goN 2 (mR _) p_36 rfl (N_alt rfl (fun w_28 p_37 => ?_) ?_))
        ·have p_38 := p_37.pl [1]
         have he_4 := Value.slice.inj (hv_8.symm.trans hv_9)
         have f := Frm.set f 46 (v := .slice (cutA A_14 5 (d1 + 1).toNat cap_15) (d0_4.length - (d1 + 1).toNat) (cap_15 - (d1 + 1).toNat)) (v' := .slice (cutA A_15 5 (d1.toNat + 1) cap_16) (d0_4.length - (d1.toNat + 1)) (cap_16 - (d1.toNat + 1))) (by kernel_rfl) (by rw [g_4.1, he_4.1, he_4.2.2])
         refine W_rowRemove3 (z := .agg #[.int .i64 0, .int .i8 0, S [], S [], .slice none 0 0]) (bytes := 72) (f := emb_TH0) (xs := d0_4) (k := d1.toNat) f p_38 szd_TH0 (RepSeq.mono hM_1 _ _ hr_2) hv_9 g_4.2 (by kernel_rfl) (by kernel_rfl) rfl rfl rfl (by kernel_rfl) (by kernel_rfl) (by kernel_rfl) (by kernel_rfl) g_5 (by omega) fun A_16 cap_17 cs_6 w_29 p_39 hr_7 _ f => W_end rfl (N_goN 2 (mR _) p_39 rfl (Y1 (v := .pointer (some (⟨b0, 0, none⟩))) rfl f rfl rfl (fun _ _ => by kernel_rfl) fun _ f => Y1 (v := .pointer (some (⟨b0, 4, none⟩))) rfl f rfl rfl (fun _ _ => by kernel_rfl) fun _ f => N_alt rfl (fun w_30 p_40 => ?_) ?_))
         ·refine Y26 f p_40 1 rfl rfl (b := b0) (j := 4) (v := .slice A_16 (d0_4.take d1.toNat ++ d0_4.drop (d1.toNat + 1)).length cap_17) rfl (by exact rfl) (by simp) (by simp) ((Ent.row 44 5 (.slice A_16 (d0_4.take d1.toNat ++ d0_4.drop (d1.toNat + 1)).length cap_17) (d0_4.take d1.toNat ++ d0_4.drop (d1.toNat + 1)).length cs_6) :: (Ent.obj b0 (.cells #[.slice A_1 d0_0.length cap_1, .int .i64 d0_1, .slice A_2 d0_2.length cap_2, .map (some m0_3), .slice A_16 (d0_4.take d1.toNat ++ d0_4.drop (d1.toNat + 1)).length cap_17, .int .i64 d0_5] 74 (0, 0))) :: (Ent.obj b_3 (.cells #[.int .i64 x_1.fToken, .int .i8 x_1.fKind, S x_1.fPhys, S x_1.fType, .slice A_4 x_1.fProps.length cap_5] 44 (0, 0))) :: (Ent.obj b_1 (.cells #[.bool false, .bool false, S []] 49 (0, 0))) :: (Ent.row 44 5 (.slice A_2 d0_2.length cap_2) d0_2.length cs_1) :: (Ent.obj m0_3 (mapO (Value.int .i64) (fun x : TC0 => Value.agg #[.bool x.fEnded, .bool x.fOk, S x.fPhys]) d0_3)) :: H) rfl fun w_31 p_41 _ f => W_end rfl (N_goN 2 (mR _) p_41 rfl (N_end fun w_32 p_42 => T_n ?_))
          exact ⟨d0_4.take d1.toNat ++ d0_4.drop (d1.toNat + 1), (sI hF_12).symm, M_1, (mR _), A_16, cap_17, cs_6, hr_7, f.kp, p_42⟩
         exact N_none
        exact N_none
       exact N_none
      exact N_none
     exact N_none
    refine N_alt rfl (fun w_33 p_43 => ?_) ?_
    ·refine Z f (Y32 (v := .slice A_3 d0_4.length cap_3) rfl (ad := ⟨b0, 4, none⟩) (p_43.ownCell 0 rfl 4)) fun _ f => W_end rfl (N_goN 2 (mR _) p_43 rfl (N_alt rfl (fun w_34 p_44 => ?_) ?_))
     ·refine Z f (Y32 (v := .slice A_3 d0_4.length cap_3) rfl (ad := ⟨b0, 4, none⟩) (p_44.ownCell 0 rfl 4)) fun _ f => W_end rfl (N_goN 2 (mR _) p_44 rfl (N_alt rfl (fun w_35 p_45 => ?_) ?_))
      ·obtain ⟨A_17, cap_18, hv_10, hcap_10, hcn_9⟩ := p_45.rowShape 1 rfl
       have f := f.st 36 (hv_10)
       refine Z (v := .slice (cutA A_17 5 0 d1.toNat) d1.toNat d1.toNat) f (Y35 rfl (A := A_17) (len := d0_4.length) (cap := cap_18) (k := .i64) (k' := .i64) (b := d1) (e := 44) (sz := 5) g_2.1 (by omega)) fun _ f => ?_
       have f := f.st 36 (hv_10.symm)
       refine W_end rfl (N_goN 2 (mR _) p_45 rfl (N_alt rfl (fun w_36 p_46 => ?_) ?_))
       ·obtain ⟨A_18, cap_19, hv_11, hcap_11, hcn_10⟩ := p_46.rowShape 1 rfl
        have f := f.st 43 (hv_11)
        refine Z f (Y36 rfl (A := A_18) (len := d0_4.length) (cap := cap_19) (k := .i64) (a := d1 + 1) (e := 44) (sz := 5) (by omega) (by omega)) fun _ f => ?_
        have f := f.st 43 (hv_11.symm)
        refine W_end rfl (N_goN 2 (mR _) p_46 rfl (N_alt rfl (fun w_37 p_47 => ?_) ?_))
        ·have p_48 := p_47.pl [1]
         have he_5 := Value.slice.inj (hv_11.symm.trans hv_10)
         have f := Frm.set f 46 (v := .slice (cutA A_18 5 (d1 + 1).toNat cap_19) (d0_4.length - (d1 + 1).toNat) (cap_19 - (d1 + 1).toNat)) (v' := .slice (cutA A_17 5 (d1.toNat + 1) cap_18) (d0_4.length - (d1.toNat + 1)) (cap_18 - (d1.toNat + 1))) (by kernel_rfl) (by rw [g_4.1, he_5.1, he_5.2.2])
         refine W_rowRemove3 (z := .agg #[.int .i64 0, .int .i8 0, S [], S [], .slice none 0 0]) (bytes := 72) (f := emb_TH0) (xs := d0_4) (k := d1.toNat) f p_48 szd_TH0 (RepSeq.mono hM_1 _ _ hr_2) hv_10 g_4.2 (by kernel_rfl) (by kernel_rfl) rfl rfl rfl (by kernel_rfl) (by kernel_rfl) (by kernel_rfl) (by kernel_rfl) g_5 (by omega) fun A_19 cap_20 cs_7 w_38 p_49 hr_8 _ f => W_end rfl (N_goN 2 (mR _) p_49 rfl (Y1 (v := .pointer (some (⟨b0, 0, none⟩))) rfl f rfl rfl (fun _ _ => by kernel_rfl) fun _ f => Y1 (v := .pointer (some (⟨b0, 4, none⟩))) rfl f rfl rfl (fun _ _ => by kernel_rfl) fun _ f => N_alt rfl (fun w_39 p_50 => ?_) ?_))
         ·refine Y26 f p_50 1 rfl rfl (b := b0) (j := 4) (v := .slice A_19 (d0_4.take d1.toNat ++ d0_4.drop (d1.toNat + 1)).length cap_20) rfl (by exact rfl) (by simp) (by simp) ((Ent.row 44 5 (.slice A_19 (d0_4.take d1.toNat ++ d0_4.drop (d1.toNat + 1)).length cap_20) (d0_4.take d1.toNat ++ d0_4.drop (d1.toNat + 1)).length cs_7) :: (Ent.obj b0 (.cells #[.slice A_1 d0_0.length cap_1, .int .i64 d0_1, .slice A_2 d0_2.length cap_2, .map (some m0_3), .slice A_19 (d0_4.take d1.toNat ++ d0_4.drop (d1.toNat + 1)).length cap_20, .int .i64 d0_5] 74 (0, 0))) :: (Ent.obj b_3 (.cells #[.int .i64 x_1.fToken, .int .i8 x_1.fKind, S x_1.fPhys, S x_1.fType, .slice A_4 x_1.fProps.length cap_5] 44 (0, 0))) :: (Ent.obj b_1 (.cells #[.bool false, .bool false, S []] 49 (0, 0))) :: (Ent.row 44 5 (.slice A_2 d0_2.length cap_2) d0_2.length cs_1) :: (Ent.obj m0_3 (mapO (Value.int .i64) (fun x : TC0 => Value.agg #[.bool x.fEnded, .bool x.fOk, S x.fPhys]) d0_3)) :: H) rfl fun w_40 p_51 _ f => W_end rfl (N_goN 2 (mR _) p_51 rfl (N_end fun w_41 p_52 => T_n ?_))
          exact ⟨d0_4.take d1.toNat ++ d0_4.drop (d1.toNat + 1), (sI hF_12).symm, M_1, (mR _), A_19, cap_20, cs_7, hr_8, f.kp, p_52⟩
         exact N_none
        exact N_none
       exact N_none
      refine N_alt rfl (fun w_42 p_53 => ?_) ?_
      ·obtain ⟨A_20, cap_21, hv_12, hcap_12, hcn_11⟩ := p_53.rowShape 1 rfl
       have f := f.st 43 (hv_12)
       refine Z f (Y36 rfl (A := A_20) (len := d0_4.length) (cap := cap_21) (k := .i64) (a := d1 + 1) (e := 44) (sz := 5) (by omega) (by omega)) fun _ f => ?_
       have f := f.st 43 (hv_12.symm)
       refine W_end rfl (N_goN 2 (mR _) p_53 rfl (N_alt rfl (fun w_43 p_54 => ?_) ?_))
       ·obtain ⟨A_21, cap_22, hv_13, hcap_13, hcn_12⟩ := p_54.rowShape 1 rfl
        have f := f.st 36 (hv_13)
        refine Z (v := .slice (cutA A_21 5 0 d1.toNat) d1.toNat d1.toNat) f (Y35 rfl (A := A_21) (len := d0_4.length) (cap := cap_22) (k := .i64) (k' := .i64) (b := d1) (e := 44) (sz := 5) g_2.1 (by omega)) fun _ f => ?_
        have f := f.st 36 (hv_13.symm)
        refine W_end rfl (N_goN 2 (mR _) p_54 rfl (N_alt rfl (fun w_44 p_55 => ?_) ?_))
        ·have p_56 := p_55.pl [1]
         have he_6 := Value.slice.inj (hv_12.symm.trans hv_13)
         have f := Frm.set f 46 (v := .slice (cutA A_20 5 (d1 + 1).toNat cap_21) (d0_4.length - (d1 + 1).toNat) (cap_21 - (d1 + 1).toNat)) (v' := .slice (cutA A_21 5 (d1.toNat + 1) cap_22) (d0_4.length - (d1.toNat + 1)) (cap_22 - (d1.toNat + 1))) (by kernel_rfl) (by rw [g_4.1, he_6.1, he_6.2.2])
         refine W_rowRemove3 (z := .agg #[.int .i64 0, .int .i8 0, S [], S [], .slice none 0 0]) (bytes := 72) (f := emb_TH0) (xs := d0_4) (k := d1.toNat) f p_56 szd_TH0 (RepSeq.mono hM_1 _ _ hr_2) hv_13 g_4.2 (by kernel_rfl) (by kernel_rfl) rfl rfl rfl (by kernel_rfl) (by kernel_rfl) (by kernel_rfl) (by kernel_rfl) g_5 (by omega) fun A_22 cap_23 cs_8 w_45 p_57 hr_9 _ f => W_end rfl (N_goN 2 (mR _) p_57 rfl (Y1 (v := .pointer (some (⟨b0, 0, none⟩))) rfl f rfl rfl (fun _ _ => by kernel_rfl) fun _ f => Y1 (v := .pointer (some (⟨b0, 4, none⟩))) rfl f rfl rfl (fun _ _ => by kernel_rfl) fun _ f => N_alt rfl (fun w_46 p_58 => ?_) ?_))
         ·refine Y26 f p_58 1 rfl rfl (b := b0) (j := 4) (v := .slice A_22 (d0_4.take d1.toNat ++ d0_4.drop (d1.toNat + 1)).length cap_23) rfl (by exact rfl) (by simp) (by simp) ((Ent.row 44 5 (.slice A_22 (d0_4.take d1.toNat ++ d0_4.drop (d1.toNat + 1)).length cap_23) (d0_4.take d1.toNat ++ d0_4.drop (d1.toNat + 1)).length cs_8) :: (Ent.obj b0 (.cells #[.slice A_1 d0_0.length cap_1, .int .i64 d0_1, .slice A_2 d0_2.length cap_2, .map (some m0_3), .slice A_22 (d0_4.take d1.toNat ++ d0_4.drop (d1.toNat + 1)).length cap_23, .int .i64 d0_5] 74 (0, 0))) :: (Ent.obj b_3 (.cells #[.int .i64 x_1.fToken, .int .i8 x_1.fKind, S x_1.fPhys, S x_1.fType, .slice A_4 x_1.fProps.length cap_5] 44 (0, 0))) :: (Ent.obj b_1 (.cells #[.bool false, .bool false, S []] 49 (0, 0))) :: (Ent.row 44 5 (.slice A_2 d0_2.length cap_2) d0_2.length cs_1) :: (Ent.obj m0_3 (mapO (Value.int .i64) (fun x : TC0 => Value.agg #[.bool x.fEnded, .bool x.fOk, S x.fPhys]) d0_3)) :: H) rfl fun w_47 p_59 _ f => W_end rfl (N_goN 2 (mR _) p_59 rfl (N_end fun w_48 p_60 => T_n ?_))
          exact ⟨d0_4.take d1.toNat ++ d0_4.drop (d1.toNat + 1), (sI hF_12).symm, M_1, (mR _), A_22, cap_23, cs_8, hr_9, f.kp, p_60⟩
         exact N_none
        exact N_none
       exact N_none
      exact N_none
     refine N_alt rfl (fun w_49 p_61 => ?_) ?_
     ·obtain ⟨A_23, cap_24, hv_14, hcap_14, hcn_13⟩ := p_61.rowShape 1 rfl
      have f := f.st 43 (hv_14)
      refine Z f (Y36 rfl (A := A_23) (len := d0_4.length) (cap := cap_24) (k := .i64) (a := d1 + 1) (e := 44) (sz := 5) (by omega) (by omega)) fun _ f => ?_
      have f := f.st 43 (hv_14.symm)
      refine W_end rfl (N_goN 2 (mR _) p_61 rfl (N_alt rfl (fun w_50 p_62 => ?_) ?_))
      ·refine Z f (Y32 (v := .slice A_3 d0_4.length cap_3) rfl (ad := ⟨b0, 4, none⟩) (p_62.ownCell 0 rfl 4)) fun _ f => W_end rfl (N_goN 2 (mR _) p_62 rfl (N_alt rfl (fun w_51 p_63 => ?_) ?_))
       ·obtain ⟨A_24, cap_25, hv_15, hcap_15, hcn_14⟩ := p_63.rowShape 1 rfl
        have f := f.st 36 (hv_15)
        refine Z (v := .slice (cutA A_24 5 0 d1.toNat) d1.toNat d1.toNat) f (Y35 rfl (A := A_24) (len := d0_4.length) (cap := cap_25) (k := .i64) (k' := .i64) (b := d1) (e := 44) (sz := 5) g_2.1 (by omega)) fun _ f => ?_
        have f := f.st 36 (hv_15.symm)
        refine W_end rfl (N_goN 2 (mR _) p_63 rfl (N_alt rfl (fun w_52 p_64 => ?_) ?_))
        ·have p_65 := p_64.pl [1]
         have he_7 := Value.slice.inj (hv_14.symm.trans hv_15)
         have f := Frm.set f 46 (v := .slice (cutA A_23 5 (d1 + 1).toNat cap_24) (d0_4.length - (d1 + 1).toNat) (cap_24 - (d1 + 1).toNat)) (v' := .slice (cutA A_24 5 (d1.toNat + 1) cap_25) (d0_4.length - (d1.toNat + 1)) (cap_25 - (d1.toNat + 1))) (by kernel_rfl) (by rw [g_4.1, he_7.1, he_7.2.2])
         refine W_rowRemove3 (z := .agg #[.int .i64 0, .int .i8 0, S [], S [], .slice none 0 0]) (bytes := 72) (f := emb_TH0) (xs := d0_4) (k := d1.toNat) f p_65 szd_TH0 (RepSeq.mono hM_1 _ _ hr_2) hv_15 g_4.2 (by kernel_rfl) (by kernel_rfl) rfl rfl rfl (by kernel_rfl) (by kernel_rfl) (by kernel_rfl) (by kernel_rfl) g_5 (by omega) fun A_25 cap_26 cs_9 w_53 p_66 hr_10 _ f => W_end rfl (N_goN 2 (mR _) p_66 rfl (Y1 (v := .pointer (some (⟨b0, 0, none⟩))) rfl f rfl rfl (fun _ _ => by kernel_rfl) fun _ f => Y1 (v := .pointer (some (⟨b0, 4, none⟩))) rfl f rfl rfl (fun _ _ => by kernel_rfl) fun _ f => N_alt rfl (fun w_54 p_67 => ?_) ?_))
         ·refine Y26 f p_67 1 rfl rfl (b := b0) (j := 4) (v := .slice A_25 (d0_4.take d1.toNat ++ d0_4.drop (d1.toNat + 1)).length cap_26) rfl (by exact rfl) (by simp) (by simp) ((Ent.row 44 5 (.slice A_25 (d0_4.take d1.toNat ++ d0_4.drop (d1.toNat + 1)).length cap_26) (d0_4.take d1.toNat ++ d0_4.drop (d1.toNat + 1)).length cs_9) :: (Ent.obj b0 (.cells #[.slice A_1 d0_0.length cap_1, .int .i64 d0_1, .slice A_2 d0_2.length cap_2, .map (some m0_3), .slice A_25 (d0_4.take d1.toNat ++ d0_4.drop (d1.toNat + 1)).length cap_26, .int .i64 d0_5] 74 (0, 0))) :: (Ent.obj b_3 (.cells #[.int .i64 x_1.fToken, .int .i8 x_1.fKind, S x_1.fPhys, S x_1.fType, .slice A_4 x_1.fProps.length cap_5] 44 (0, 0))) :: (Ent.obj b_1 (.cells #[.bool false, .bool false, S []] 49 (0, 0))) :: (Ent.row 44 5 (.slice A_2 d0_2.length cap_2) d0_2.length cs_1) :: (Ent.obj m0_3 (mapO (Value.int .i64) (fun x : TC0 => Value.agg #[.bool x.fEnded, .bool x.fOk, S x.fPhys]) d0_3)) :: H) rfl fun w_55 p_68 _ f => W_end rfl (N_goN 2 (mR _) p_68 rfl (N_end fun w_56 p_69 => T_n ?_))
          exact ⟨d0_4.take d1.toNat ++ d0_4.drop (d1.toNat + 1), (sI hF_12).symm, M_1, (mR _), A_25, cap_26, cs_9, hr_10, f.kp, p_69⟩
         exact N_none
        exact N_none
       exact N_none
      exact N_none
     exact N_none
    exact N_none
   ·rintro a_85 w_57 ⟨y_2, hq_2, M_2, hM_2, A_26, cap_27, cs_10, hr_11, f, p_70⟩
    subst j_2
    refine T_n (R_seq (RR (Y f 1 fun _ f => Y26 f p_70 3 rfl rfl (b := b_1) (j := 0) (v := .bool true) rfl (by exact rfl) (by simp) (by simp) ((Ent.row 44 5 (.slice A_26 y_2.length cap_27) y_2.length cs_10) :: (Ent.obj b0 (.cells #[.slice A_1 d0_0.length cap_1, .int .i64 d0_1, .slice A_2 d0_2.length cap_2, .map (some m0_3), .slice A_26 y_2.length cap_27, .int .i64 d0_5] 74 (0, 0))) :: (Ent.obj b_3 (.cells #[.int .i64 x_1.fToken, .int .i8 x_1.fKind, S x_1.fPhys, S x_1.fType, .slice A_4 x_1.fProps.length cap_5] 44 (0, 0))) :: (Ent.obj b_1 (.cells #[.bool true, .bool false, S []] 49 (0, 0))) :: (Ent.row 44 5 (.slice A_2 d0_2.length cap_2) d0_2.length cs_1) :: (Ent.obj m0_3 (mapO (Value.int .i64) (fun x : TC0 => Value.agg #[.bool x.fEnded, .bool x.fOk, S x.fPhys]) d0_3)) :: H) rfl fun w_58 p_71 _ f => eT (RR (Y f 1 fun _ f => eT ?_)))))
    obtain ⟨j_3, hj_3, hF_13⟩ := bS hF_7
    refine R_mid (fun a_92 w_61 => ∃ y_3 : Bool × Bool × List UInt8 × List TF0 × Int × List TH0 × List TH0 × Int × Int × Int × List UInt8 × List UInt8 × List TE0 × (List (Int × TC0)), j_3 = y_3 ∧ ∃ M_4 : Mem, M_2.le M_4 ∧ ∃ (A_31 : Option Addr), ∃ (cap_32 : Nat), ∃ (A_32 : Option Addr), ∃ (cap_33 : Nat), ∃ (cs_13 : List Value), ∃ (A_33 : Option Addr), ∃ (cap_34 : Nat), ∃ (cs_14 : List Value), ∃ (A_34 : Option Addr), ∃ (cap_35 : Nat), Sli M_4 3 emb_TF0 A_31 cap_32 y_3.2.2.2.1 ∧ RepSeq M_4 (y_3.2.2.2.2.2.1.map emb_TH0) cs_13 ∧ RepSeq M_4 (y_3.2.2.2.2.2.2.1.map emb_TH0) cs_14 ∧ Sli M_4 8 emb_TE0 A_34 cap_35 y_3.2.2.2.2.2.2.2.2.2.2.2.2.1 ∧ Frm 64 [(0, .pointer (some (⟨b0, 0, none⟩))), (7, .pointer (some (⟨b_1, 0, none⟩))), (9, .pointer (some (⟨b_3, 0, none⟩)))] a_92 ∧ Hp w0 M_4 ((Ent.row 44 5 (.slice A_32 y_3.2.2.2.2.2.1.length cap_33) y_3.2.2.2.2.2.1.length cs_13) :: (Ent.row 44 5 (.slice A_33 y_3.2.2.2.2.2.2.1.length cap_34) y_3.2.2.2.2.2.2.1.length cs_14) :: (Ent.obj m0_3 (mapO (Value.int .i64) (fun x : TC0 => Value.agg #[.bool x.fEnded, .bool x.fOk, S x.fPhys]) y_3.2.2.2.2.2.2.2.2.2.2.2.2.2)) :: (Ent.obj b_1 (.cells #[.bool y_3.1, .bool y_3.2.1, S y_3.2.2.1] 49 (0, 0))) :: (Ent.obj b0 (.cells #[.slice A_31 y_3.2.2.2.1.length cap_32, .int .i64 y_3.2.2.2.2.1, .slice A_32 y_3.2.2.2.2.2.1.length cap_33, .map (some m0_3), .slice A_33 y_3.2.2.2.2.2.2.1.length cap_34, .int .i64 y_3.2.2.2.2.2.2.2.1] 74 (0, 0))) :: (Ent.obj b_3 (.cells #[.int .i64 y_3.2.2.2.2.2.2.2.2.1, .int .i8 y_3.2.2.2.2.2.2.2.2.2.1, S y_3.2.2.2.2.2.2.2.2.2.2.1, S y_3.2.2.2.2.2.2.2.2.2.2.2.1, .slice A_34 y_3.2.2.2.2.2.2.2.2.2.2.2.2.1.length cap_35] 44 (0, 0))) :: H) w_61) ?_ ?_
    ·refine RcF f hj_3 (fun h_5 hF_14 => ?_) fun h_5 hF_16 => ?_
     ·refine R_reg (Y f 1 fun _ f => ?_)
      obtain ⟨x_2, hx_2, hF_15⟩ := bS hF_14
      have p_77 := p_71.pl [2, 1, 5, 5, 4]
      refine Y17 (E := [Ent.obj b0 (.cells #[.slice A_1 d0_0.length cap_1, .int .i64 d0_1, .slice A_2 d0_2.length cap_2, .map (some m0_3), .slice A_26 y_2.length cap_27, .int .i64 d0_5] 74 (0, 0)), Ent.row 44 5 (.slice A_2 d0_2.length cap_2) d0_2.length cs_1, Ent.obj m0_3 (mapO (Value.int .i64) (fun x : TC0 => Value.agg #[.bool x.fEnded, .bool x.fOk, S x.fPhys]) d0_3), Ent.row 44 5 (.slice A_26 y_2.length cap_27) y_2.length cs_10, Ent.obj b_3 (.cells #[.int .i64 x_1.fToken, .int .i8 x_1.fKind, S x_1.fPhys, S x_1.fType, .slice A_4 x_1.fProps.length cap_5] 44 (0, 0))]) (H := ((Ent.obj b_1 (.cells #[.bool true, .bool false, S []] 49 (0, 0))) :: H)) f p_77 (cloud_Cloud_effect_ok n _ (GL.mono (hM_1.trans hM_2) hG) b0 d0_0 A_1 cap_1 (h_1.mono (hM_1.trans hM_2)) d0_1 d0_2 A_2 cap_2 cs_1 (RepSeq.mono (hM_1.trans hM_2) _ _ hr_1) m0_3 d0_3 y_2 A_26 cap_27 cs_10 hr_11 d0_5 b_3 x_1.fToken x_1.fKind x_1.fPhys x_1.fType x_1.fProps A_4 cap_5 (h_4.mono hM_2) x_2 hx_2) fun _ M_3 E_1 w_59 hM_3 p_72 q_1 _ f => ?_
      obtain ⟨c_2, A_27, cap_28, A_28, cap_29, cs_11, A_29, cap_30, cs_12, A_30, cap_31, rfl, rfl, hr_12, h_6, hr_13, hr_14, h_7⟩ := q_1
      obtain rfl := TC0.opn hr_12
      have p_78 := p_72.pl [5]
      refine Y27 (vs := [.bool x_2.1.fEnded, .bool x_2.1.fOk, S x_2.1.fPhys]) (j := 0) f p_78 rfl rfl (by simp [Value.oneCell', S]) (by simp) (by decide) (cs' := #[.bool x_2.1.fEnded, .bool x_2.1.fOk, S x_2.1.fPhys]) (by kernel_rfl) fun w_60 p_79 _ f => W_end rfl ?_
      have p_86 := p_79.pl [5, 2, 2, 4, 5, 5]
      refine T_n ?_
      exact ⟨((x_2.1.fEnded), (x_2.1.fOk), x_2.1.fPhys, x_2.2.1, x_2.2.2.1, x_2.2.2.2.1, x_2.2.2.2.2.2.1, x_2.2.2.2.2.2.2.1, x_2.2.2.2.2.2.2.2.1, x_2.2.2.2.2.2.2.2.2.1, x_2.2.2.2.2.2.2.2.2.2.1, x_2.2.2.2.2.2.2.2.2.2.2.1, x_2.2.2.2.2.2.2.2.2.2.2.2, x_2.2.2.2.2.1), (sI hF_15).symm, M_3, hM_3, A_27, cap_28, A_28, cap_29, cs_11, A_29, cap_30, cs_12, A_30, cap_31, h_6, hr_13, hr_14, h_7, f.kp, p_86⟩
     ·refine wp_skip ?_
      have p_92 := p_71.pl [2, 2, 3, 5, 4, 5]
      refine T_n ?_
      exact ⟨((true), (false), ([] : List UInt8), d0_0, d0_1, d0_2, y_2, d0_5, x_1.fToken, x_1.fKind, x_1.fPhys, x_1.fType, x_1.fProps, d0_3), (sI hF_16).symm, M_2, (mR _), A_1, cap_1, A_2, cap_2, cs_1, A_26, cap_27, cs_10, A_4, cap_5, (h_1.mono (hM_1.trans hM_2)), (RepSeq.mono (hM_1.trans hM_2) _ _ hr_1), hr_11, (h_4.mono hM_2), f.kp, p_92⟩
    ·rintro a_92 w_61 ⟨y_3, hq_3, M_4, hM_4, A_31, cap_32, A_32, cap_33, cs_13, A_33, cap_34, cs_14, A_34, cap_35, h_8, hr_15, hr_16, h_9, f, p_80⟩
     subst j_3
     refine T_n (R_seq (R_drawT 7 p_80 (by kernel_rfl) (by kernel_rfl) fun w_62 p_93 => ST_eq (v := .pointer (some (⟨b0, 0, none⟩))) f (by kernel_rfl) (by kernel_rfl) rfl rfl (by kernel_rfl) fun _ f => ST_eq (v := .pointer (some (⟨b0, 0, none⟩))) f (by kernel_rfl) (by kernel_rfl) rfl rfl (by kernel_rfl) fun _ f => ST_eq (v := .pointer (some (⟨b0, 3, none⟩))) f (by kernel_rfl) (by kernel_rfl) rfl rfl (by kernel_rfl) fun _ f => ST_eq (v := .map (some m0_3)) f (by kernel_rfl) (by kernel_rfl) rfl rfl (Y32 (v := .map (some m0_3)) rfl (ad := ⟨b0, 3, none⟩) (p_93.ownCell 4 rfl 3)) fun _ f => ST_eq (v := .pointer (some (⟨b_3, 0, none⟩))) f (by kernel_rfl) (by kernel_rfl) rfl rfl (by kernel_rfl) fun _ f => ST_eq (v := .int .i64 y_3.2.2.2.2.2.2.2.2.1) f (by kernel_rfl) (by kernel_rfl) rfl rfl (Y32 (v := .int .i64 y_3.2.2.2.2.2.2.2.2.1) rfl (ad := ⟨b_3, 0, none⟩) (p_93.ownCell 5 rfl 0)) fun _ f => ST_eq (v := .agg #[.bool y_3.1, .bool y_3.2.1, S y_3.2.2.1]) f (by kernel_rfl) (by kernel_rfl) rfl rfl (Y33 (cs := [.bool y_3.1, .bool y_3.2.1, S y_3.2.2.1]) rfl (ad := ⟨b_1, 0, none⟩) (own_cells (p_93.ownCell 3 rfl) 0 rfl)) fun _ f => ST_end rfl ?_))
     have p_94 := p_93.pl [2]
     refine W_mapput (ek := (Value.int .i64)) (ev := (fun x : TC0 => Value.agg #[.bool x.fEnded, .bool x.fOk, S x.fPhys])) (m := y_3.2.2.2.2.2.2.2.2.2.2.2.2.2) (k := y_3.2.2.2.2.2.2.2.2.1) (v := (⟨(y_3.1), (y_3.2.1), y_3.2.2.1⟩ : TC0)) (kt := 3) (et := 49) f p_94 (by kernel_rfl) (by kernel_rfl) rfl (.inl rfl) (by kernel_rfl) (by kernel_rfl) (by kernel_rfl) (by kernel_rfl) (intKey (by kernel_rfl)) fun w_63 p_95 _ f => eT (R_seq (R_drawT 4 p_95 (by kernel_rfl) (by kernel_rfl) fun w_64 p_96 => ST_eq (v := .pointer (some (⟨b_3, 0, none⟩))) f (by kernel_rfl) (by kernel_rfl) rfl rfl (by kernel_rfl) fun _ f => ST_eq (v := .int .i64 y_3.2.2.2.2.2.2.2.2.1) f (by kernel_rfl) (by kernel_rfl) rfl rfl (Y32 (v := .int .i64 y_3.2.2.2.2.2.2.2.2.1) rfl (ad := ⟨b_3, 0, none⟩) (p_96.ownCell 5 rfl 0)) fun _ f => ST_eq (v := .agg #[.bool y_3.1, .bool y_3.2.1, S y_3.2.2.1]) f (by kernel_rfl) (by kernel_rfl) rfl rfl (Y33 (cs := [.bool y_3.1, .bool y_3.2.1, S y_3.2.2.1]) rfl (ad := ⟨b_1, 0, none⟩) (own_cells (p_96.ownCell 3 rfl) 0 rfl)) fun _ f => ST_eq (v := .int .i64 y_3.2.2.2.2.2.2.2.2.1) f (by kernel_rfl) (by kernel_rfl) rfl rfl (by kernel_rfl) fun _ f => ST_end rfl ?_))
     have p_97 := p_96.pl [3]
     refine Y27 (vs := [.bool y_3.1, .bool y_3.2.1, S y_3.2.2.1]) (j := 0) f p_97 rfl rfl (by simp [Value.oneCell', S]) (by simp) (by decide) (cs' := #[.bool y_3.1, .bool y_3.2.1, S y_3.2.2.1]) (by kernel_rfl) fun w_65 p_98 _ f => Y f 1 fun _ f => eT (wp_ret (E_rv3 f rfl (Y11 (v := .int .i64 y_3.2.2.2.2.2.2.2.2.1) f) (Y10 (cs := [.bool y_3.1, .bool y_3.2.1, S y_3.2.2.1]) (ad := ⟨b_1, 0, none⟩) f (own_cells (p_98.ownCell 0 rfl) 0 rfl)) (Y11 (v := .int .i64 0) f) ?_))
     obtain rfl := sI hF_13
     have p_104 := p_98.pl [3, 2, 3, 4, 5, 5]
     exact ⟨_, rfl, M_4, _, ((hM_1.trans hM_2).trans hM_4), (p_104.dropN 2), ⟨[.bool y_3.1, .bool y_3.2.1, S y_3.2.2.1], A_31, cap_32, A_32, cap_33, cs_13, A_33, cap_34, cs_14, rfl, rfl, (TC0.shut), h_8, hr_15, hr_16⟩⟩
def cloud_Cloud_Made (n : Nat) (d0_0 : List TF0) (d0_1 : Int) (d0_2 : List TH0) (d0_3 : List (Int × TC0)) (d0_4 : List TH0) (d0_5 : Int) : Option (Int × List TF0 × Int × List TH0 × (List (Int × TC0)) × List TH0 × Int) :=
  some ((d0_5, d0_0, d0_1, d0_2, d0_3, d0_4, d0_5))
theorem cloud_Cloud_Made_ok (n : Nat) (M : Mem) (hG : GL M) (b0 : Nat) (d0_0 : List TF0) (A_1 : Option Addr) (cap_1 : Nat) (h_1 : Sli M 3 emb_TF0 A_1 cap_1 d0_0) (d0_1 : Int) (d0_2 : List TH0) (A_2 : Option Addr) (cap_2 : Nat) (cs_1 : List Value) (hr_1 : RepSeq M (d0_2.map emb_TH0) cs_1) (m0_3 : Nat) (d0_3 : List (Int × TC0)) (d0_4 : List TH0) (A_3 : Option Addr) (cap_3 : Nat) (cs_2 : List Value) (hr_2 : RepSeq M (d0_4.map emb_TH0) cs_2) (d0_5 : Int) (r : Int × List TF0 × Int × List TH0 × (List (Int × TC0)) × List TH0 × Int) (hF : cloud_Cloud_Made n d0_0 d0_1 d0_2 d0_3 d0_4 d0_5 = some r) : OkH Tryd.prog M [Ent.obj b0 (.cells #[.slice A_1 d0_0.length cap_1, .int .i64 d0_1, .slice A_2 d0_2.length cap_2, .map (some m0_3), .slice A_3 d0_4.length cap_3, .int .i64 d0_5] 74 (0, 0)), Ent.row 44 5 (.slice A_2 d0_2.length cap_2) d0_2.length cs_1, Ent.obj m0_3 (mapO (Value.int .i64) (fun x : TC0 => Value.agg #[.bool x.fEnded, .bool x.fOk, S x.fPhys]) d0_3), Ent.row 44 5 (.slice A_3 d0_4.length cap_3) d0_4.length cs_2] 24 [.pointer (some (⟨b0, 0, none⟩))] (fun M' E' v => ∃ (A_4 : Option Addr) (cap_4 : Nat) (A_5 : Option Addr) (cap_5 : Nat) (cs_3 : List Value) (A_6 : Option Addr) (cap_6 : Nat) (cs_4 : List Value), v = .int .i64 r.1 ∧ E' = [Ent.obj b0 (.cells #[.slice A_4 r.2.1.length cap_4, .int .i64 r.2.2.1, .slice A_5 r.2.2.2.1.length cap_5, .map (some m0_3), .slice A_6 r.2.2.2.2.2.1.length cap_6, .int .i64 r.2.2.2.2.2.2] 74 (0, 0)), Ent.row 44 5 (.slice A_5 r.2.2.2.1.length cap_5) r.2.2.2.1.length cs_3, Ent.obj m0_3 (mapO (Value.int .i64) (fun x : TC0 => Value.agg #[.bool x.fEnded, .bool x.fOk, S x.fPhys]) r.2.2.2.2.1), Ent.row 44 5 (.slice A_6 r.2.2.2.2.2.1.length cap_6) r.2.2.2.2.2.1.length cs_4] ∧ Sli M' 3 emb_TF0 A_4 cap_4 r.2.1 ∧ RepSeq M' (r.2.2.2.1.map emb_TH0) cs_3 ∧ RepSeq M' (r.2.2.2.2.2.1.map emb_TH0) cs_4) := by
 unfold cloud_Cloud_Made at hF
 intro M1 hM0 w0 H w p0
 replace hG := GL.mono hM0 hG
 replace h_1 := h_1.mono hM0
 replace hr_1 := RepSeq.mono hM0 _ _ hr_1
 replace hr_2 := RepSeq.mono hM0 _ _ hr_2
 refine R_enter 9 Tryd.func24 rfl rfl (by simp) fun a0 f0 => RR (Y f0 1 fun _ f => eT (R_seq (RR (Y f 1 fun _ f => Z (v := .bool false) f (X_ptrNil (q := some (⟨b0, 0, none⟩)) (e := 74) rfl (by kernel_rfl) (by kernel_rfl) (by kernel_rfl) _) fun _ f => eT (Y7 f (wp_skip (T_n (RR (Y f 3 fun _ f => Z f (Y32 (v := .int .i64 d0_5) rfl (ad := ⟨b0, 5, none⟩) (p0.ownCell 0 rfl 5)) fun _ f => ?_)))))))))
 refine Y f 1 fun _ f => eT (wp_ret (E_ret1 f rfl (by kernel_rfl : Vc.look _ 2 = some (.int .i64 d0_5)) ?_))
 obtain rfl := sI hF
 exact ⟨_, rfl, M1, _, (mR _), p0, ⟨A_1, cap_1, A_2, cap_2, cs_1, A_3, cap_3, cs_2, rfl, rfl, h_1, hr_1, hr_2⟩⟩
def slices_Cloneapi_Thing_api_Thing_z (n : Nat) (d0 : List TF0) (z0 : Bool) : Option (List TF0) :=
  bif z0 then
    (some (([] : List TF0)))
  else
    need ((([] : List TF0).length + d0.length) * 56 ≤ 140737488355328) <|
    some (([] : List TF0) ++ d0)
theorem slices_Cloneapi_Thing_api_Thing_z_ok (n : Nat) (M : Mem) (A0 : Option Addr) (cap0 : Nat) (d0 : List TF0) (h0 : Sli M 3 emb_TF0 A0 cap0 d0) (z0 : Bool) (hz0 : A0.isNone = z0) (r : List TF0) (hF : slices_Cloneapi_Thing_api_Thing_z n d0 z0 = some r) : OkH Tryd.prog M [] 38 [.slice A0 d0.length cap0] (fun M' E' v => ∃ (A0 : Option Addr) (k0 : Nat) (s0 : List Value), v = .slice A0 r.length k0 ∧ E' = [.row 60 3 (.slice A0 r.length k0) r.length s0] ∧ RepSeq M' (r.map emb_TF0) s0) := by
 unfold slices_Cloneapi_Thing_api_Thing_z at hF
 intro M1 hM0 w0 H w p0
 replace h0 := h0.mono hM0
 refine R_enter 8 Tryd.func38 rfl rfl (by simp) fun a0 f0 => RR (Y f0 1 fun _ f => eT (R_seq (RR (Y f 1 fun _ f => Z (v := .bool A0.isNone) f (X_slicenil (A := A0) (n := d0.length) (c := cap0) (e := 60) rfl (by kernel_rfl) (by kernel_rfl) (by kernel_rfl) _) fun _ f => ?_))))
 have f := Frm.set f 4 (v := .bool A0.isNone) (v' := .bool z0) (by kernel_rfl) (cB hz0)
 refine eT (RcF f hF (fun h_1 hF_1 => ?_) fun h_1 hF_2 => ?_)
 ·refine RR (Y f 1 fun _ f => eT (wp_ret (T_r ?_)))
  obtain ⟨A_1, cap_1, hv_1⟩ : ∃ A cap, Value.slice none 0 0 = .slice A ([] : List TF0).length cap := ⟨none, 0, rfl⟩
  have p_1 : Hp w0 M1 ((Ent.row 60 3 (.slice A_1 ([] : List TF0).length cap_1) ([] : List TF0).length []) :: H) w := by rw [← hv_1]; exact p0.nilRow 60 3
  have f := f.st 2 (hv_1)
  have hr_1 : RepSeq M1 (([] : List TF0).map emb_TF0) [] := rfl
  refine E_ret1 f rfl (by kernel_rfl : Vc.look _ 2 = some (.slice A_1 ([] : List TF0).length cap_1)) ?_
  obtain rfl := sI hF_1
  exact ⟨_, rfl, M1, _, (mR _), p_1, ⟨A_1, cap_1, [], rfl, rfl, hr_1⟩⟩
 ·refine wp_skip (T_n (RR (V_allocS (k := 0) (c := 0) f p0 (.cells #[] 60 (0, 0)) (by kernel_rfl) (fun _ => by kernel_rfl) fun b_1 w_1 p_2 _ f => Y f 1 fun _ f => ?_)))
  have hr_2 : RepSeq M1 (([] : List TF0).map emb_TF0) [] := rfl
  have p_3 : Hp w0 M1 ((Ent.row 60 3 (.slice (some ⟨b_1, 0, none⟩) 0 0) ([] : List TF0).length []) :: H) w_1 := p_2.objRow (n := 0) (cap := 0) (size := 3) (by decide) (by decide) (blk_eq (by decide) rfl) rfl rfl
  obtain ⟨g_1, hF_3⟩ := nS hF_2
  refine Y23 (z := .agg #[S [], S [], .slice none 0 0]) (f := emb_TF0) (xs := ([] : List TF0)) (ys := d0) (c := cap0) f p_3 hr_2 h0 rfl rfl rfl g_1 (by omega) fun A_2 cap_2 cs_1 w_2 p_4 hr_3 _ f => Y f 1 fun _ f => eT (wp_ret (E_ret1 f rfl (by kernel_rfl : Vc.look _ 2 = some (.slice A_2 (([] : List TF0) ++ d0).length cap_2)) ?_))
  obtain rfl := sI hF_3
  exact ⟨_, rfl, M1, _, (mR _), p_4, ⟨A_2, cap_2, cs_1, rfl, rfl, hr_3⟩⟩
def slices_Cloneapi_Thing_api_Thing (_ : Nat) (d0 : List TF0) : Option (List TF0) := need (d0.length * 56 ≤ 140737488355328) (some d0)
theorem slices_Cloneapi_Thing_api_Thing_ok (n : Nat) (M : Mem) (A0 : Option Addr) (cap0 : Nat) (d0 : List TF0) (h0 : Sli M 3 emb_TF0 A0 cap0 d0) (r : List TF0) (hF : slices_Cloneapi_Thing_api_Thing n d0 = some r) : OkH Tryd.prog M [] 38 [.slice A0 d0.length cap0] (fun M' E' v => ∃ (A0 : Option Addr) (k0 : Nat) (s0 : List Value), v = .slice A0 r.length k0 ∧ E' = [.row 60 3 (.slice A0 r.length k0) r.length s0] ∧ RepSeq M' (r.map emb_TF0) s0) := by
 unfold slices_Cloneapi_Thing_api_Thing at hF
 obtain ⟨g, hF⟩ := nS hF
 obtain rfl := sI hF
 refine slices_Cloneapi_Thing_api_Thing_z_ok n M A0 cap0 d0 h0 A0.isNone rfl d0 ?_
 unfold slices_Cloneapi_Thing_api_Thing_z
 cases A0 with
 | none =>
  obtain ⟨h1, h2, _⟩ := h0
  have h3 := h2 rfl
  obtain rfl : d0 = [] := List.eq_nil_of_length_eq_zero (by omega)
  rfl
 | some a => simp [need]; omega
def cloud_Cloud_Things (n : Nat) (d0_0 : List TF0) (d0_1 : Int) (d0_2 : List TH0) (d0_3 : List (Int × TC0)) (d0_4 : List TH0) (d0_5 : Int) : Option (List TF0 × List TF0 × Int × List TH0 × (List (Int × TC0)) × List TH0 × Int) :=
  (slices_Cloneapi_Thing_api_Thing n d0_0).bind fun x_1 =>
  some ((x_1, d0_0, d0_1, d0_2, d0_3, d0_4, d0_5))
theorem cloud_Cloud_Things_ok (n : Nat) (M : Mem) (hG : GL M) (b0 : Nat) (d0_0 : List TF0) (A_1 : Option Addr) (cap_1 : Nat) (h_1 : Sli M 3 emb_TF0 A_1 cap_1 d0_0) (d0_1 : Int) (d0_2 : List TH0) (A_2 : Option Addr) (cap_2 : Nat) (cs_1 : List Value) (hr_1 : RepSeq M (d0_2.map emb_TH0) cs_1) (m0_3 : Nat) (d0_3 : List (Int × TC0)) (d0_4 : List TH0) (A_3 : Option Addr) (cap_3 : Nat) (cs_2 : List Value) (hr_2 : RepSeq M (d0_4.map emb_TH0) cs_2) (d0_5 : Int) (r : List TF0 × List TF0 × Int × List TH0 × (List (Int × TC0)) × List TH0 × Int) (hF : cloud_Cloud_Things n d0_0 d0_1 d0_2 d0_3 d0_4 d0_5 = some r) : OkH Tryd.prog M [Ent.obj b0 (.cells #[.slice A_1 d0_0.length cap_1, .int .i64 d0_1, .slice A_2 d0_2.length cap_2, .map (some m0_3), .slice A_3 d0_4.length cap_3, .int .i64 d0_5] 74 (0, 0)), Ent.row 44 5 (.slice A_2 d0_2.length cap_2) d0_2.length cs_1, Ent.obj m0_3 (mapO (Value.int .i64) (fun x : TC0 => Value.agg #[.bool x.fEnded, .bool x.fOk, S x.fPhys]) d0_3), Ent.row 44 5 (.slice A_3 d0_4.length cap_3) d0_4.length cs_2] 23 [.pointer (some (⟨b0, 0, none⟩))] (fun M' E' v => ∃ (A0 : Option Addr) (k0 : Nat) (s0 : List Value) (A_5 : Option Addr) (cap_5 : Nat) (A_6 : Option Addr) (cap_6 : Nat) (cs_4 : List Value) (A_7 : Option Addr) (cap_7 : Nat) (cs_5 : List Value), v = .slice A0 r.1.length k0 ∧ E' = [.row 60 3 (.slice A0 r.1.length k0) r.1.length s0, Ent.obj b0 (.cells #[.slice A_5 r.2.1.length cap_5, .int .i64 r.2.2.1, .slice A_6 r.2.2.2.1.length cap_6, .map (some m0_3), .slice A_7 r.2.2.2.2.2.1.length cap_7, .int .i64 r.2.2.2.2.2.2] 74 (0, 0)), Ent.row 44 5 (.slice A_6 r.2.2.2.1.length cap_6) r.2.2.2.1.length cs_4, Ent.obj m0_3 (mapO (Value.int .i64) (fun x : TC0 => Value.agg #[.bool x.fEnded, .bool x.fOk, S x.fPhys]) r.2.2.2.2.1), Ent.row 44 5 (.slice A_7 r.2.2.2.2.2.1.length cap_7) r.2.2.2.2.2.1.length cs_5] ∧ RepSeq M' (r.1.map emb_TF0) s0 ∧ Sli M' 3 emb_TF0 A_5 cap_5 r.2.1 ∧ RepSeq M' (r.2.2.2.1.map emb_TH0) cs_4 ∧ RepSeq M' (r.2.2.2.2.2.1.map emb_TH0) cs_5) := by
 unfold cloud_Cloud_Things at hF
 intro M1 hM0 w0 H w p0
 replace hG := GL.mono hM0 hG
 replace h_1 := h_1.mono hM0
 replace hr_1 := RepSeq.mono hM0 _ _ hr_1
 replace hr_2 := RepSeq.mono hM0 _ _ hr_2
 refine R_enter 11 Tryd.func23 rfl rfl (by simp) fun a0 f0 => RR (Y f0 1 fun _ f => eT (R_seq (RR (Y f 1 fun _ f => Z (v := .bool false) f (X_ptrNil (q := some (⟨b0, 0, none⟩)) (e := 74) rfl (by kernel_rfl) (by kernel_rfl) (by kernel_rfl) _) fun _ f => eT (Y7 f (wp_skip (T_n (RR (Y f 4 fun _ f => Z f (Y32 (v := .slice A_1 d0_0.length cap_1) rfl (ad := ⟨b0, 0, none⟩) (p0.ownCell 0 rfl 0)) fun _ f => ?_)))))))))
 obtain ⟨x_1, hx_1, hF_1⟩ := bS hF
 refine Y17 (E := []) (H := ((Ent.obj b0 (.cells #[.slice A_1 d0_0.length cap_1, .int .i64 d0_1, .slice A_2 d0_2.length cap_2, .map (some m0_3), .slice A_3 d0_4.length cap_3, .int .i64 d0_5] 74 (0, 0))) :: (Ent.row 44 5 (.slice A_2 d0_2.length cap_2) d0_2.length cs_1) :: (Ent.obj m0_3 (mapO (Value.int .i64) (fun x : TC0 => Value.agg #[.bool x.fEnded, .bool x.fOk, S x.fPhys]) d0_3)) :: (Ent.row 44 5 (.slice A_3 d0_4.length cap_3) d0_4.length cs_2) :: H)) f p0 (slices_Cloneapi_Thing_api_Thing_ok n _ A_1 cap_1 d0_0 h_1 x_1 hx_1) fun _ M_1 E_1 w_1 hM_1 p_1 q_1 _ f => ?_
 obtain ⟨A_4, cap_4, cs_3, rfl, rfl, hr_3⟩ := q_1
 refine Y f 1 fun _ f => eT (wp_ret (E_ret1 f rfl (by kernel_rfl : Vc.look _ 2 = some (.slice A_4 x_1.length cap_4)) ?_))
 obtain rfl := sI hF_1
 exact ⟨_, rfl, M_1, _, hM_1, p_1, ⟨A_4, cap_4, cs_3, A_1, cap_1, A_2, cap_2, cs_1, A_3, cap_3, cs_2, rfl, rfl, hr_3, (h_1.mono hM_1), (RepSeq.mono hM_1 _ _ hr_1), (RepSeq.mono hM_1 _ _ hr_2)⟩⟩
def law11_wakes (n : Nat) : Option Bool :=
  (cloud_New n).bind fun x_1 =>
  (cloud_Cloud_Submit n ([] : List TF0) (0 : Int) ([] : List TH0) ([] : List (Int × TC0)) ([] : List TH0) (0 : Int) (⟨(1 : Int), (0 : Int), ([] : List UInt8), [68, 105, 115, 107], ([] : List TE0)⟩ : TH0)).bind fun x_2 =>
  (cloud_Cloud_Submit n x_2.2.1 x_2.2.2.1 x_2.2.2.2.1 x_2.2.2.2.2.1 x_2.2.2.2.2.2.1 x_2.2.2.2.2.2.2 (⟨(1 : Int), (0 : Int), ([] : List UInt8), [68, 105, 115, 107], ([] : List TE0)⟩ : TH0)).bind fun x_3 =>
  (cloud_Cloud_End n x_3.2.1 x_3.2.2.1 x_3.2.2.2.1 x_3.2.2.2.2.1 x_3.2.2.2.2.2.1 x_3.2.2.2.2.2.2 (0 : Int) (true)).bind fun x_4 =>
  bif (decide (x_2.1 = 0)) then
    (bif (decide (x_3.1 = 0)) then
      (bif (decide (x_4.1 = 1)) then
        (bif (andL [(x_4.2.1.fEnded == true), (x_4.2.1.fOk == true), decide (x_4.2.1.fPhys = [112, 49])]) then
          (bif (decide (x_4.2.2.1 = 0)) then
            ((cloud_Cloud_Made n x_4.2.2.2.1 x_4.2.2.2.2.1 x_4.2.2.2.2.2.1 x_4.2.2.2.2.2.2.1 x_4.2.2.2.2.2.2.2.1 x_4.2.2.2.2.2.2.2.2).bind fun x_5 =>
            bif (decide (x_5.1 = 1)) then
              ((cloud_Cloud_Things n x_5.2.1 x_5.2.2.1 x_5.2.2.2.1 x_5.2.2.2.2.1 x_5.2.2.2.2.2.1 x_5.2.2.2.2.2.2).bind fun x_6 =>
              some ((decide (((x_6.1.length : Nat) : Int) = 1))))
            else
              some ((false)))
          else
            some ((false)))
        else
          some ((false)))
      else
        some ((false)))
    else
      some ((false)))
  else
    some ((false))
set_option maxRecDepth 20000 in
theorem law11_wakes_ok (n : Nat) (M : Mem) (hG : GL M) (r : Bool) (hF : law11_wakes n = some r) : Ok Tryd.prog M 17 [] (fun _ v => v = .bool r) := by
 unfold law11_wakes at hF
 intro M1 hM0 w0 H w p0
 replace hG := GL.mono hM0 hG
 refine R_enter 52 Tryd.func17 rfl rfl (by simp) fun a0 f0 => RR (Y f0 1 fun _ f => eT (RR ?_))
 obtain ⟨x_1, hx_1, hF_1⟩ := bS hF
 refine Y17 (E := []) (H := (H)) f p0 (cloud_New_ok n _ hG x_1 hx_1) fun _ M_1 E_1 w_1 hM_1 p_1 q_1 _ f => ?_
 obtain ⟨nb_1, nb_1m0, rfl, rfl⟩ := q_1
 refine Y f 1 fun _ f => eT (RR (Y f 1 fun _ f => Y12 f p_1 (.cells #[.int .i64 0, .int .i8 0, S [], S [], .slice none 0 0] 44 (0, 0)) fun b_1 w_2 p_2 _ f => Y27 (vs := [.int .i64 1, .int .i8 0, S [], S [68, 105, 115, 107], .slice none 0 0]) (j := 0) f p_2 rfl rfl (by simp [Value.oneCell', S]) (by simp) (by decide) (cs' := #[.int .i64 1, .int .i8 0, S [], S [68, 105, 115, 107], .slice none 0 0]) (by kernel_rfl) fun w_3 p_3 _ f => eT (R_seq ?_)))
 have p_5 := p_3.pl [2, 2]
 refine R_mix (E := [Ent.obj nb_1 (.cells #[.slice none 0 0, .int .i64 0, .slice none 0 0, .map (some nb_1m0), .slice none 0 0, .int .i64 0] 74 (0, 0)), Ent.obj nb_1m0 (mapO (Value.int .i64) (fun x : TC0 => Value.agg #[.bool x.fEnded, .bool x.fOk, S x.fPhys]) ([] : List (Int × TC0)))]) (Hr := ((Ent.obj b_1 (.cells #[.int .i64 1, .int .i8 0, S [], S [68, 105, 115, 107], .slice none 0 0] 44 (0, 0))) :: H)) [(0, true), (1, true), (3, true), (4, true), (2, false), (5, false), (6, true), (7, true)] p_5 (by kernel_rfl) (by kernel_rfl) rfl (by kernel_rfl) (Y0 default f 1 fun _ f => M_eq (v := .agg #[.int .i64 1, .int .i8 0, S [], S [68, 105, 115, 107], .slice none 0 0]) f (by kernel_rfl) (by kernel_rfl) rfl rfl (fun _ pq => Y33 (cs := [.int .i64 1, .int .i8 0, S [], S [68, 105, 115, 107], .slice none 0 0]) rfl (ad := ⟨b_1, 0, none⟩) (own_cells (pq.ownCell 0 rfl) 0 rfl)) fun _ f => Y0 default f 1 fun _ f => M_eq (v := .agg #[.int .i64 1, .int .i8 0, S [], S [68, 105, 115, 107], .slice none 0 0]) f (by kernel_rfl) (by kernel_rfl) rfl rfl (fun _ pq => Y33 (cs := [.int .i64 1, .int .i8 0, S [], S [68, 105, 115, 107], .slice none 0 0]) rfl (ad := ⟨b_1, 0, none⟩) (own_cells (pq.ownCell 0 rfl) 0 rfl)) fun _ f => M_fix (E := [Ent.obj nb_1 (.cells #[.slice none 0 0, .int .i64 0, .slice none 0 0, .map (some nb_1m0), .slice none 0 0, .int .i64 0] 74 (0, 0)), Ent.obj nb_1m0 (mapO (Value.int .i64) (fun x : TC0 => Value.agg #[.bool x.fEnded, .bool x.fOk, S x.fPhys]) ([] : List (Int × TC0)))]) fun w_4 p_6 => ?_)
 obtain ⟨A_1, cap_1, hv_1⟩ : ∃ A cap, Value.slice none 0 0 = .slice A ([] : List TH0).length cap := ⟨none, 0, rfl⟩
 have p_7 : Hp w0 M_1 ((Ent.row 44 5 (.slice A_1 ([] : List TH0).length cap_1) ([] : List TH0).length []) :: (Ent.obj nb_1 (.cells #[.slice none 0 0, .int .i64 0, .slice A_1 ([] : List TH0).length cap_1, .map (some nb_1m0), .slice none 0 0, .int .i64 0] 74 (0, 0))) :: (Ent.obj nb_1m0 (mapO (Value.int .i64) (fun x : TC0 => Value.agg #[.bool x.fEnded, .bool x.fOk, S x.fPhys]) ([] : List (Int × TC0)))) :: (Ent.obj b_1 (.cells #[.int .i64 1, .int .i8 0, S [], S [68, 105, 115, 107], .slice none 0 0] 44 (0, 0))) :: H) w_4 := by rw [← hv_1]; exact p_6.nilRow 44 5
 have hr_1 : RepSeq M_1 (([] : List TH0).map emb_TH0) [] := rfl
 obtain ⟨A_2, cap_2, hv_2⟩ : ∃ A cap, Value.slice none 0 0 = .slice A ([] : List TH0).length cap := ⟨none, 0, rfl⟩
 have p_8 : Hp w0 M_1 ((Ent.row 44 5 (.slice A_2 ([] : List TH0).length cap_2) ([] : List TH0).length []) :: (Ent.row 44 5 (.slice A_1 ([] : List TH0).length cap_1) ([] : List TH0).length []) :: (Ent.obj nb_1 (.cells #[.slice none 0 0, .int .i64 0, .slice A_1 ([] : List TH0).length cap_1, .map (some nb_1m0), .slice A_2 ([] : List TH0).length cap_2, .int .i64 0] 74 (0, 0))) :: (Ent.obj nb_1m0 (mapO (Value.int .i64) (fun x : TC0 => Value.agg #[.bool x.fEnded, .bool x.fOk, S x.fPhys]) ([] : List (Int × TC0)))) :: (Ent.obj b_1 (.cells #[.int .i64 1, .int .i8 0, S [], S [68, 105, 115, 107], .slice none 0 0] 44 (0, 0))) :: H) w_4 := by rw [← hv_2]; exact p_7.nilRow 44 5
 have hr_2 : RepSeq M_1 (([] : List TH0).map emb_TH0) [] := rfl
 obtain ⟨x_2, hx_2, hF_2⟩ := bS hF_1
 have p_12 := p_8.pl [3, 2, 3]
 refine Y17 (E := [Ent.obj nb_1 (.cells #[.slice none 0 0, .int .i64 0, .slice A_1 ([] : List TH0).length cap_1, .map (some nb_1m0), .slice A_2 ([] : List TH0).length cap_2, .int .i64 0] 74 (0, 0)), Ent.row 44 5 (.slice A_1 ([] : List TH0).length cap_1) ([] : List TH0).length [], Ent.obj nb_1m0 (mapO (Value.int .i64) (fun x : TC0 => Value.agg #[.bool x.fEnded, .bool x.fOk, S x.fPhys]) ([] : List (Int × TC0))), Ent.row 44 5 (.slice A_2 ([] : List TH0).length cap_2) ([] : List TH0).length []]) (H := ((Ent.obj b_1 (.cells #[.int .i64 1, .int .i8 0, S [], S [68, 105, 115, 107], .slice none 0 0] 44 (0, 0))) :: H)) f p_12 (cloud_Cloud_Submit_ok n _ (GL.mono hM_1 hG) nb_1 ([] : List TF0) none 0 Sli.nil (0 : Int) ([] : List TH0) A_1 cap_1 [] hr_1 nb_1m0 ([] : List (Int × TC0)) ([] : List TH0) A_2 cap_2 [] hr_2 (0 : Int) _ (⟨(1 : Int), (0 : Int), ([] : List UInt8), [68, 105, 115, 107], ([] : List TE0)⟩ : TH0) (TH0.shut Sli.nil) x_2 hx_2) fun _ M_2 E_2 w_5 hM_2 p_9 q_2 _ f => ?_
 obtain ⟨A_3, cap_3, A_4, cap_4, cs_1, A_5, cap_5, cs_2, rfl, rfl, h_1, hr_3, hr_4⟩ := q_2
 refine W_end rfl (M_go (M1 := M_2) (E := [Ent.obj nb_1 (.cells #[.slice A_3 x_2.2.1.length cap_3, .int .i64 x_2.2.2.1, .slice A_4 x_2.2.2.2.1.length cap_4, .map (some nb_1m0), .slice A_5 x_2.2.2.2.2.2.1.length cap_5, .int .i64 x_2.2.2.2.2.2.2] 74 (0, 0)), Ent.row 44 5 (.slice A_4 x_2.2.2.2.1.length cap_4) x_2.2.2.2.1.length cs_1, Ent.obj nb_1m0 (mapO (Value.int .i64) (fun x : TC0 => Value.agg #[.bool x.fEnded, .bool x.fOk, S x.fPhys]) x_2.2.2.2.2.1), Ent.row 44 5 (.slice A_5 x_2.2.2.2.2.2.1.length cap_5) x_2.2.2.2.2.2.1.length cs_2]) hM_2 p_9 (M_fix (E := [Ent.obj nb_1 (.cells #[.slice A_3 x_2.2.1.length cap_3, .int .i64 x_2.2.2.1, .slice A_4 x_2.2.2.2.1.length cap_4, .map (some nb_1m0), .slice A_5 x_2.2.2.2.2.2.1.length cap_5, .int .i64 x_2.2.2.2.2.2.2] 74 (0, 0)), Ent.row 44 5 (.slice A_4 x_2.2.2.2.1.length cap_4) x_2.2.2.2.1.length cs_1, Ent.obj nb_1m0 (mapO (Value.int .i64) (fun x : TC0 => Value.agg #[.bool x.fEnded, .bool x.fOk, S x.fPhys]) x_2.2.2.2.2.1), Ent.row 44 5 (.slice A_5 x_2.2.2.2.2.2.1.length cap_5) x_2.2.2.2.2.2.1.length cs_2]) fun w_6 p_13 => ?_))
 obtain ⟨x_3, hx_3, hF_3⟩ := bS hF_2
 refine Y17 (E := [Ent.obj nb_1 (.cells #[.slice A_3 x_2.2.1.length cap_3, .int .i64 x_2.2.2.1, .slice A_4 x_2.2.2.2.1.length cap_4, .map (some nb_1m0), .slice A_5 x_2.2.2.2.2.2.1.length cap_5, .int .i64 x_2.2.2.2.2.2.2] 74 (0, 0)), Ent.row 44 5 (.slice A_4 x_2.2.2.2.1.length cap_4) x_2.2.2.2.1.length cs_1, Ent.obj nb_1m0 (mapO (Value.int .i64) (fun x : TC0 => Value.agg #[.bool x.fEnded, .bool x.fOk, S x.fPhys]) x_2.2.2.2.2.1), Ent.row 44 5 (.slice A_5 x_2.2.2.2.2.2.1.length cap_5) x_2.2.2.2.2.2.1.length cs_2]) (H := ((Ent.obj b_1 (.cells #[.int .i64 1, .int .i8 0, S [], S [68, 105, 115, 107], .slice none 0 0] 44 (0, 0))) :: H)) f p_13 (cloud_Cloud_Submit_ok n _ (GL.mono (hM_1.trans hM_2) hG) nb_1 x_2.2.1 A_3 cap_3 h_1 x_2.2.2.1 x_2.2.2.2.1 A_4 cap_4 cs_1 hr_3 nb_1m0 x_2.2.2.2.2.1 x_2.2.2.2.2.2.1 A_5 cap_5 cs_2 hr_4 x_2.2.2.2.2.2.2 _ (⟨(1 : Int), (0 : Int), ([] : List UInt8), [68, 105, 115, 107], ([] : List TE0)⟩ : TH0) (TH0.shut Sli.nil) x_3 hx_3) fun _ M_3 E_3 w_7 hM_3 p_14 q_3 _ f => ?_
 obtain ⟨A_6, cap_6, A_7, cap_7, cs_3, A_8, cap_8, cs_4, rfl, rfl, h_2, hr_5, hr_6⟩ := q_3
 refine W_end rfl (M_go (M1 := M_3) (E := [Ent.obj nb_1 (.cells #[.slice A_6 x_3.2.1.length cap_6, .int .i64 x_3.2.2.1, .slice A_7 x_3.2.2.2.1.length cap_7, .map (some nb_1m0), .slice A_8 x_3.2.2.2.2.2.1.length cap_8, .int .i64 x_3.2.2.2.2.2.2] 74 (0, 0)), Ent.row 44 5 (.slice A_7 x_3.2.2.2.1.length cap_7) x_3.2.2.2.1.length cs_3, Ent.obj nb_1m0 (mapO (Value.int .i64) (fun x : TC0 => Value.agg #[.bool x.fEnded, .bool x.fOk, S x.fPhys]) x_3.2.2.2.2.1), Ent.row 44 5 (.slice A_8 x_3.2.2.2.2.2.1.length cap_8) x_3.2.2.2.2.2.1.length cs_4]) (hM_2.trans hM_3) p_14 (Y0 default f 2 fun _ f => M_end rfl fun w_8 p_15 => T_n (RR (Y f 1 fun _ f => ?_))))
 obtain ⟨x_4, hx_4, hF_4⟩ := bS hF_3
 refine Y17 (E := [Ent.obj nb_1 (.cells #[.slice A_6 x_3.2.1.length cap_6, .int .i64 x_3.2.2.1, .slice A_7 x_3.2.2.2.1.length cap_7, .map (some nb_1m0), .slice A_8 x_3.2.2.2.2.2.1.length cap_8, .int .i64 x_3.2.2.2.2.2.2] 74 (0, 0)), Ent.row 44 5 (.slice A_7 x_3.2.2.2.1.length cap_7) x_3.2.2.2.1.length cs_3, Ent.obj nb_1m0 (mapO (Value.int .i64) (fun x : TC0 => Value.agg #[.bool x.fEnded, .bool x.fOk, S x.fPhys]) x_3.2.2.2.2.1), Ent.row 44 5 (.slice A_8 x_3.2.2.2.2.2.1.length cap_8) x_3.2.2.2.2.2.1.length cs_4]) (H := ((Ent.obj b_1 (.cells #[.int .i64 1, .int .i8 0, S [], S [68, 105, 115, 107], .slice none 0 0] 44 (0, 0))) :: H)) f p_15 (cloud_Cloud_End_ok n _ (GL.mono ((hM_1.trans hM_2).trans hM_3) hG) nb_1 x_3.2.1 A_6 cap_6 h_2 x_3.2.2.1 x_3.2.2.2.1 A_7 cap_7 cs_3 hr_5 nb_1m0 x_3.2.2.2.2.1 x_3.2.2.2.2.2.1 A_8 cap_8 cs_4 hr_6 x_3.2.2.2.2.2.2 (0 : Int) (true) x_4 hx_4) fun _ M_4 E_4 w_9 hM_4 p_16 q_4 _ f => ?_
 obtain ⟨c_1, A_9, cap_9, A_10, cap_10, cs_5, A_11, cap_11, cs_6, rfl, rfl, hr_7, h_3, hr_8, hr_9⟩ := q_4
 obtain rfl := TC0.opn hr_7
 refine Y f 4 fun _ f => Y12 f p_16 (.cells #[.bool false, .bool false, S []] 49 (0, 0)) fun b_2 w_10 p_17 _ f => Y f 1 fun _ f => Y27 (vs := [.bool x_4.2.1.fEnded, .bool x_4.2.1.fOk, S x_4.2.1.fPhys]) (j := 0) f p_17 rfl rfl (by simp [Value.oneCell', S]) (by simp) (by decide) (cs' := #[.bool x_4.2.1.fEnded, .bool x_4.2.1.fOk, S x_4.2.1.fPhys]) (by kernel_rfl) fun w_11 p_18 _ f => Y f 1 fun _ f => eT (RR (Y f 3 fun _ f => ?_))
 rcases cE hF_4 with ⟨h_4, hF_5⟩ | ⟨h_4, hF_18⟩
 ·have k_1 := dI.1 h_4
  have f := f.st 24 (cB h_4)
  refine Y f 4 fun _ f => ?_
  rcases cE hF_5 with ⟨h_5, hF_6⟩ | ⟨h_5, hF_17⟩
  ·have k_2 := dI.1 h_5
   have f := f.st 28 (cB h_5)
   refine Y f 4 fun _ f => ?_
   rcases cE hF_6 with ⟨h_6, hF_7⟩ | ⟨h_6, hF_16⟩
   ·have k_3 := dI.1 h_6
    have f := f.st 32 (cB h_6)
    refine Z (v := .agg #[.bool x_4.2.1.fEnded, .bool x_4.2.1.fOk, S x_4.2.1.fPhys]) f (Y33 (cs := [.bool x_4.2.1.fEnded, .bool x_4.2.1.fOk, S x_4.2.1.fPhys]) rfl (ad := ⟨b_2, 0, none⟩) (own_cells (p_18.ownCell 0 rfl) 0 rfl)) fun _ f => Y f 1 fun _ f => Z (v := .bool (andL [(x_4.2.1.fEnded == true), (x_4.2.1.fOk == true), decide (x_4.2.1.fPhys = [112, 49])])) f (Y28 rfl (xs := #[.bool x_4.2.1.fEnded, .bool x_4.2.1.fOk, S x_4.2.1.fPhys]) (ys := #[.bool true, .bool true, S [112, 49]]) (s := [(4, 0), (4, 1), (9, 2)]) (rs := [(x_4.2.1.fEnded == true), (x_4.2.1.fOk == true), decide (x_4.2.1.fPhys = [112, 49])]) (fun w => ⟨⟨.bool x_4.2.1.fEnded, .bool true, by kernel_rfl, by kernel_rfl, EqB (by kernel_rfl)⟩, ⟨.bool x_4.2.1.fOk, .bool true, by kernel_rfl, by kernel_rfl, EqB (by kernel_rfl)⟩, ⟨S x_4.2.1.fPhys, S [112, 49], by kernel_rfl, by kernel_rfl, EqS (by kernel_rfl)⟩, trivial⟩) _) fun _ f => Y f 2 fun _ f => ?_
    rcases cE hF_7 with ⟨h_7, hF_8⟩ | ⟨h_7, hF_15⟩
    ·have f := f.st 37 (cB h_7)
     refine Y f 4 fun _ f => ?_
     rcases cE hF_8 with ⟨h_8, hF_9⟩ | ⟨h_8, hF_14⟩
     ·have k_5 := dI.1 h_8
      have f := f.st 41 (cB h_8)
      refine Y f 1 fun _ f => ?_
      obtain ⟨x_5, hx_5, hF_10⟩ := bS hF_9
      have p_23 := p_18.pl [4, 4, 4, 4]
      refine Y17 (E := [Ent.obj nb_1 (.cells #[.slice A_9 x_4.2.2.2.1.length cap_9, .int .i64 x_4.2.2.2.2.1, .slice A_10 x_4.2.2.2.2.2.1.length cap_10, .map (some nb_1m0), .slice A_11 x_4.2.2.2.2.2.2.2.1.length cap_11, .int .i64 x_4.2.2.2.2.2.2.2.2] 74 (0, 0)), Ent.row 44 5 (.slice A_10 x_4.2.2.2.2.2.1.length cap_10) x_4.2.2.2.2.2.1.length cs_5, Ent.obj nb_1m0 (mapO (Value.int .i64) (fun x : TC0 => Value.agg #[.bool x.fEnded, .bool x.fOk, S x.fPhys]) x_4.2.2.2.2.2.2.1), Ent.row 44 5 (.slice A_11 x_4.2.2.2.2.2.2.2.1.length cap_11) x_4.2.2.2.2.2.2.2.1.length cs_6]) (H := ((Ent.obj b_2 (.cells #[.bool x_4.2.1.fEnded, .bool x_4.2.1.fOk, S x_4.2.1.fPhys] 49 (0, 0))) :: (Ent.obj b_1 (.cells #[.int .i64 1, .int .i8 0, S [], S [68, 105, 115, 107], .slice none 0 0] 44 (0, 0))) :: H)) f p_23 (cloud_Cloud_Made_ok n _ (GL.mono (((hM_1.trans hM_2).trans hM_3).trans hM_4) hG) nb_1 x_4.2.2.2.1 A_9 cap_9 h_3 x_4.2.2.2.2.1 x_4.2.2.2.2.2.1 A_10 cap_10 cs_5 hr_8 nb_1m0 x_4.2.2.2.2.2.2.1 x_4.2.2.2.2.2.2.2.1 A_11 cap_11 cs_6 hr_9 x_4.2.2.2.2.2.2.2.2 x_5 hx_5) fun _ M_5 E_5 w_12 hM_5 p_19 q_5 _ f => ?_
      obtain ⟨A_12, cap_12, A_13, cap_13, cs_7, A_14, cap_14, cs_8, rfl, rfl, h_9, hr_10, hr_11⟩ := q_5
      refine Y f 3 fun _ f => ?_
      rcases cE hF_10 with ⟨h_10, hF_11⟩ | ⟨h_10, hF_13⟩
      ·have k_6 := dI.1 h_10
       have f := f.st 46 (cB h_10)
       refine Y f 1 fun _ f => ?_
       obtain ⟨x_6, hx_6, hF_12⟩ := bS hF_11
       refine Y17 (E := [Ent.obj nb_1 (.cells #[.slice A_12 x_5.2.1.length cap_12, .int .i64 x_5.2.2.1, .slice A_13 x_5.2.2.2.1.length cap_13, .map (some nb_1m0), .slice A_14 x_5.2.2.2.2.2.1.length cap_14, .int .i64 x_5.2.2.2.2.2.2] 74 (0, 0)), Ent.row 44 5 (.slice A_13 x_5.2.2.2.1.length cap_13) x_5.2.2.2.1.length cs_7, Ent.obj nb_1m0 (mapO (Value.int .i64) (fun x : TC0 => Value.agg #[.bool x.fEnded, .bool x.fOk, S x.fPhys]) x_5.2.2.2.2.1), Ent.row 44 5 (.slice A_14 x_5.2.2.2.2.2.1.length cap_14) x_5.2.2.2.2.2.1.length cs_8]) (H := ((Ent.obj b_2 (.cells #[.bool x_4.2.1.fEnded, .bool x_4.2.1.fOk, S x_4.2.1.fPhys] 49 (0, 0))) :: (Ent.obj b_1 (.cells #[.int .i64 1, .int .i8 0, S [], S [68, 105, 115, 107], .slice none 0 0] 44 (0, 0))) :: H)) f p_19 (cloud_Cloud_Things_ok n _ (GL.mono ((((hM_1.trans hM_2).trans hM_3).trans hM_4).trans hM_5) hG) nb_1 x_5.2.1 A_12 cap_12 h_9 x_5.2.2.1 x_5.2.2.2.1 A_13 cap_13 cs_7 hr_10 nb_1m0 x_5.2.2.2.2.1 x_5.2.2.2.2.2.1 A_14 cap_14 cs_8 hr_11 x_5.2.2.2.2.2.2 x_6 hx_6) fun _ M_6 E_6 w_13 hM_6 p_24 q_6 _ f => ?_
       obtain ⟨A_15, cap_15, cs_9, A_16, cap_16, A_17, cap_17, cs_10, A_18, cap_18, cs_11, rfl, rfl, hr_12, h_11, hr_13, hr_14⟩ := q_6
       refine Y f 4 fun _ f => eT (wp_ret (E_ret1 f rfl (by kernel_rfl : Vc.look _ 0 = some (.bool (decide (((x_6.1.length : Nat) : Int) = 1)))) ?_))
       obtain rfl := sI hF_12
       exact ⟨_, rfl, M_6, (((((hM_1.trans hM_2).trans hM_3).trans hM_4).trans hM_5).trans hM_6), (p_24.dropN 7), rfl⟩
      ·have k_7 := iff_f dI h_10
       have f := f.st 46 (cB h_10)
       refine Y f 6 fun _ f => eT (wp_ret (E_ret1 f rfl (by kernel_rfl : Vc.look _ 0 = some (.bool false)) ?_))
       obtain rfl := sI hF_13
       exact ⟨_, rfl, M_5, ((((hM_1.trans hM_2).trans hM_3).trans hM_4).trans hM_5), (p_19.dropN 6), rfl⟩
     ·have k_8 := iff_f dI h_8
      have f := f.st 41 (cB h_8)
      refine Y f 11 fun _ f => eT (wp_ret (E_ret1 f rfl (by kernel_rfl : Vc.look _ 0 = some (.bool false)) ?_))
      obtain rfl := sI hF_14
      exact ⟨_, rfl, M_4, (((hM_1.trans hM_2).trans hM_3).trans hM_4), (p_18.dropN 6), rfl⟩
    ·have f := f.st 37 (cB h_7)
     refine Y f 15 fun _ f => eT (wp_ret (E_ret1 f rfl (by kernel_rfl : Vc.look _ 0 = some (.bool false)) ?_))
     obtain rfl := sI hF_15
     exact ⟨_, rfl, M_4, (((hM_1.trans hM_2).trans hM_3).trans hM_4), (p_18.dropN 6), rfl⟩
   ·have k_10 := iff_f dI h_6
    have f := f.st 32 (cB h_6)
    refine Y f 20 fun _ f => eT (wp_ret (E_ret1 f rfl (by kernel_rfl : Vc.look _ 0 = some (.bool false)) ?_))
    obtain rfl := sI hF_16
    exact ⟨_, rfl, M_4, (((hM_1.trans hM_2).trans hM_3).trans hM_4), (p_18.dropN 6), rfl⟩
  ·have k_11 := iff_f dI h_5
   have f := f.st 28 (cB h_5)
   refine Y f 24 fun _ f => eT (wp_ret (E_ret1 f rfl (by kernel_rfl : Vc.look _ 0 = some (.bool false)) ?_))
   obtain rfl := sI hF_17
   exact ⟨_, rfl, M_4, (((hM_1.trans hM_2).trans hM_3).trans hM_4), (p_18.dropN 6), rfl⟩
 ·have k_12 := iff_f dI h_4
  have f := f.st 24 (cB h_4)
  refine Y f 28 fun _ f => eT (wp_ret (E_ret1 f rfl (by kernel_rfl : Vc.look _ 0 = some (.bool false)) ?_))
  obtain rfl := sI hF_18
  exact ⟨_, rfl, M_4, (((hM_1.trans hM_2).trans hM_3).trans hM_4), (p_18.dropN 6), rfl⟩
def ref11_Great (n : Nat) (d0 : TH0) : Option Bool :=
  bif (decide ((200 : Int) < (d0.fPhys.length : Int))) then
    (some ((true)))
  else
    bif (decide ((200 : Int) < (d0.fType.length : Int))) then
      (some ((true)))
    else
      (ref09_Great n d0.fProps).bind fun x_1 =>
      some ((x_1))
theorem ref11_Great_ok (n : Nat) (M : Mem) (hG : GL M) (c0 : List Value) (d0 : TH0) (h0 : Rep M (emb_TH0 d0) c0) (r : Bool) (hF : ref11_Great n d0 = some r) : Ok Tryd.prog M 33 [.agg c0.toArray] (fun _ v => v = .bool r) := by
 unfold ref11_Great at hF
 intro M1 hM0 w0 H w p0
 replace hG := GL.mono hM0 hG
 replace h0 := Rep.mono hM0 _ _ h0
 obtain ⟨A_1, cap_1, rfl, h_1⟩ := TH0.opn h0
 refine R_enter 18 Tryd.func33 rfl rfl (by simp) fun a0 f0 => RR (Y13 (cs := #[.int .i64 d0.fToken, .int .i8 d0.fKind, S d0.fPhys, S d0.fType, .slice A_1 d0.fProps.length cap_1]) (T := 44) f0 p0 fun b_1 M_1 w_1 hM_1 hc_1 p_1 _ f => ?_)
 have hc_2 := fz_box hc_1
 refine Y f 1 fun _ f => eT (RR (Y f 1 fun _ f => Y15 f p_1 hc_2 2 rfl fun _ f => Y f 3 fun _ f => ?_))
 rcases cE hF with ⟨h_2, hF_1⟩ | ⟨h_2, hF_2⟩
 ·have k_1 := dI.1 h_2
  have f := f.st 7 (cB h_2)
  refine Y f 11 fun _ f => eT (wp_ret (E_ret1 f rfl (by kernel_rfl : Vc.look _ 2 = some (.bool true)) ?_))
  obtain rfl := sI hF_1
  exact ⟨_, rfl, M_1, hM_1, p_1, rfl⟩
 ·have k_2 := iff_f dI h_2
  have f := f.st 7 (cB h_2)
  refine Y f 1 fun _ f => Y15 f p_1 hc_2 3 rfl fun _ f => Y f 4 fun _ f => ?_
  rcases cE hF_2 with ⟨h_3, hF_3⟩ | ⟨h_3, hF_4⟩
  ·have k_3 := dI.1 h_3
   have f := f.st 13 (cB h_3)
   refine Y f 5 fun _ f => eT (wp_ret (E_ret1 f rfl (by kernel_rfl : Vc.look _ 2 = some (.bool true)) ?_))
   obtain rfl := sI hF_3
   exact ⟨_, rfl, M_1, hM_1, p_1, rfl⟩
  ·have k_4 := iff_f dI h_3
   have f := f.st 13 (cB h_3)
   refine Y f 1 fun _ f => Y15 f p_1 hc_2 4 rfl fun _ f => ?_
   obtain ⟨x_1, hx_1, hF_5⟩ := bS hF_4
   refine Y18 f p_1 (ref09_Great_ok n _ (GL.mono hM_1 hG) A_1 cap_1 d0.fProps (h_1.mono hM_1) x_1 hx_1) fun w_2 p_2 _ f => Y f 2 fun _ f => eT (wp_ret (E_ret1 f rfl (by kernel_rfl : Vc.look _ 2 = some (.bool x_1)) ?_))
   obtain rfl := sI hF_5
   exact ⟨_, rfl, M_1, hM_1, p_2, rfl⟩
def law11_great_s1 (n : Nat) (d0 : List TA0) (s_1 : Int) : Option (Lp Int (Sum Unit Unit)) :=
    bif (decide (s_1 < ((d0.length : Nat) : Int))) then
      ((getI d0 s_1).bind fun x_1 =>
      (ref11_Great n (⟨x_1.fX.fToken, x_1.fX.fKind, x_1.fX.fPhys, x_1.fX.fType, x_1.fX.fProps⟩ : TH0)).bind fun x_2 =>
      bif x_2 then
        (some (.br (.inl ())))
      else
        need (inR .i64 (s_1 + 1)) <|
        some (.nx (s_1 + 1)))
    else
      some (.br (.inr ()))
def law11_great (n : Nat) (d0 : List TA0) : Option Bool :=
  bif (decide ((100 : Int) < ((d0.length : Nat) : Int))) then
    (some ((true)))
  else
    (loopF (law11_great_s1 n d0) n (0 : Int)).bind fun b_1 =>
    (match b_1 with 
    | .inl y_1 => some ((true)) 
    | .inr y_2 => some ((false)))
set_option maxRecDepth 20000 in
theorem law11_great_ok (n : Nat) (M : Mem) (hG : GL M) (A0 : Option Addr) (cap0 : Nat) (d0 : List TA0) (h0 : Sli M 7 emb_TA0 A0 cap0 d0) (r : Bool) (hF : law11_great n d0 = some r) : Ok Tryd.prog M 16 [.slice A0 d0.length cap0] (fun _ v => v = .bool r) := by
 unfold law11_great at hF
 intro M1 hM0 w0 H w p0
 replace hG := GL.mono hM0 hG
 replace h0 := h0.mono hM0
 refine R_enter 18 Tryd.func16 rfl rfl (by simp) fun a0 f0 => RR (Y f0 1 fun _ f => eT (R_seq (RR (Y f 3 fun _ f => eT (RcF f hF (fun h_1 hF_1 => ?_) fun h_1 hF_2 => ?_)))))
 ·have k_1 := dI.1 h_1
  refine RR (Y f 1 fun _ f => eT (wp_ret (T_r (E_ret1 f rfl (by kernel_rfl : Vc.look _ 2 = some (.bool true)) ?_))))
  obtain rfl := sI hF_1
  exact ⟨_, rfl, M1, (mR _), p0, rfl⟩
 ·have k_2 := iff_f dI h_1
  refine wp_skip (T_n (R_seq (RR (Y f 3 fun _ f => eT (wp_block ?_)))))
  obtain ⟨b_1, hL_1, hF_3⟩ := bS hF_2
  refine wp_mono (Q := fun e a w => (e = .ret ∧ (∃ y_1 : Unit, b_1 = .inl y_1 ∧ ∃ M_2 : Mem, M1.le M_2 ∧ Frm 18 [(2, .bool true)] a ∧ Hp w0 M_2 (H) w)) ∨ (e = .exit 0 ∧ (∃ y_2 : Unit, b_1 = .inr y_2 ∧ ∃ M_3 : Mem, M1.le M_3 ∧ Frm 18 [] a ∧ Hp w0 M_3 (H) w))) (R_loop (n := 18) (w0 := w0) (M := M1) (fun (x : Nat × Int) => match x with | (m_1, s_1) => [(8, .slice A0 d0.length cap0), (9, .int .i64 ((d0.length : Nat) : Int)), (10, .int .i64 s_1)]) (fun (x : Nat × Int) => match x with | (m_1, s_1) => (H)) (fun (x : Nat × Int) (MM : Mem) => match x with | (m_1, s_1) => loopF (law11_great_s1 n d0) m_1 s_1 = some b_1) (fun (x : Nat × Int) => match x with | (m_1, s_1) => m_1) (n, (0 : Int)) (f.kp) p0 hL_1 ?_) ?_
  ·rintro ⟨m_1, s_1⟩ M_1 _ w_1 hM_1 I_1 f p_1
   have I_1L := I_1
   obtain ⟨m_2, r_1, rfl, hs_1, hn_1⟩ := loop_step I_1L
   unfold law11_great_s1 at hs_1
   refine RR (Y f 1 fun _ f => eT (R_seq (RcF f hs_1 (fun h_2 hF_4 => ?_) fun h_2 hF_10 => ?_)))
   ·have k_3 := dI.1 h_2
    refine wp_skip (T_n (R_seq (wp_block (RR ?_))))
    obtain ⟨x_1, hx_1, hF_5⟩ := bS hF_4
    obtain ⟨ad_1, c_1, e_1, -, hr_1, hc_1⟩ := Sli.at_ (h0.mono hM_1) hx_1
    obtain ⟨A_1, cap_1, rfl, h_3⟩ := TA0.opn hr_1
    refine Z f (Y31 e_1 rfl (len := d0.length) (cap := cap0) (k := .i64) (i := s_1) (e := 46) (sz := 7) (getI_nn hx_1) (getI_lt hx_1)) fun _ f => Z (v := .agg #[.int .i64 x_1.fDo, .int .i64 x_1.fN, .int .i64 x_1.fX.fToken, .int .i8 x_1.fX.fKind, S x_1.fX.fPhys, S x_1.fX.fType, .slice A_1 x_1.fX.fProps.length cap_1]) f (Y33 (cs := [.int .i64 x_1.fDo, .int .i64 x_1.fN, .int .i64 x_1.fX.fToken, .int .i8 x_1.fX.fKind, S x_1.fX.fPhys, S x_1.fX.fType, .slice A_1 x_1.fX.fProps.length cap_1]) rfl (ad := ad_1.add (s_1.toNat * 7)) (fun j v h => p_1.cell (hc_1 j v h))) fun _ f => Y12 f p_1 (.cells #[.int .i64 0, .int .i64 0, .int .i64 0, .int .i8 0, S [], S [], .slice none 0 0] 46 (0, 0)) fun b_2 w_2 p_2 _ f => Y27 (vs := [.int .i64 x_1.fDo, .int .i64 x_1.fN, .int .i64 x_1.fX.fToken, .int .i8 x_1.fX.fKind, S x_1.fX.fPhys, S x_1.fX.fType, .slice A_1 x_1.fX.fProps.length cap_1]) (j := 0) f p_2 rfl rfl (by simp [Value.oneCell', S]) (by simp) (by decide) (cs' := #[.int .i64 x_1.fDo, .int .i64 x_1.fN, .int .i64 x_1.fX.fToken, .int .i8 x_1.fX.fKind, S x_1.fX.fPhys, S x_1.fX.fType, .slice A_1 x_1.fX.fProps.length cap_1]) (by kernel_rfl) fun w_3 p_3 _ f => eT (RR (Y f 1 fun _ f => Z (v := .agg #[.int .i64 x_1.fX.fToken, .int .i8 x_1.fX.fKind, S x_1.fX.fPhys, S x_1.fX.fType, .slice A_1 x_1.fX.fProps.length cap_1]) f (Y33 (cs := [.int .i64 x_1.fX.fToken, .int .i8 x_1.fX.fKind, S x_1.fX.fPhys, S x_1.fX.fType, .slice A_1 x_1.fX.fProps.length cap_1]) rfl (ad := ⟨b_2, 2, none⟩) (own_cells (p_3.ownCell 0 rfl) 2 rfl)) fun _ f => ?_))
    obtain ⟨x_2, hx_2, hF_6⟩ := bS hF_5
    refine Y18 f p_3 (ref11_Great_ok n _ (GL.mono hM_1 hG) _ (⟨x_1.fX.fToken, x_1.fX.fKind, x_1.fX.fPhys, x_1.fX.fType, x_1.fX.fProps⟩ : TH0) (TH0.shut h_3) x_2 hx_2) fun w_4 p_4 _ f => eT (RcF f hF_6 (fun h_4 hF_7 => ?_) fun h_4 hF_8 => ?_)
    ·refine RR (Y f 1 fun _ f => eT (wp_ret (B_r (T_r (T_r ?_)))))
     obtain rfl := sI hF_7
     exact .inl ⟨rfl, (), (sI hn_1).symm, M_1, hM_1, f.kp, (p_4.dropN 1)⟩
    ·refine wp_skip (B_n (T_n (R_reg ?_)))
     obtain ⟨g_1, hF_9⟩ := nS hF_8
     refine Y f 1 fun _ f => ?_
     have f := f.st 17 (congrArg (Value.int .i64) (inR_wrap g_1))
     refine Y f 1 fun _ f => eT ?_
     obtain rfl := sI hF_9
     exact ⟨⟨m_2, s_1 + 1⟩, Nat.lt_succ_self _, M_1, hM_1, hn_1, f.kp, (p_4.dropN 1)⟩
   ·have k_6 := iff_f dI h_2
    refine wp_exit (T_x (T_x ?_))
    obtain rfl := sI hF_10
    exact .inr ⟨rfl, (), (sI hn_1).symm, M_1, hM_1, f.kp, p_1⟩
  ·rintro _ _ w_7 (⟨rfl, y_1, rfl, M_2, hM_2, f, p_5⟩ | ⟨rfl, y_2, rfl, M_3, hM_3, f, p_6⟩)
   ·refine B_r (T_r (E_ret1 f rfl (by kernel_rfl : Vc.look _ 2 = some (.bool true)) ?_))
    obtain rfl := sI hF_3
    exact ⟨_, rfl, M_2, hM_2, p_5, rfl⟩
   ·refine B_x (T_n (RR (Y f 1 fun _ f => eT (wp_ret (E_ret1 f rfl (by kernel_rfl : Vc.look _ 2 = some (.bool false)) ?_)))))
    obtain rfl := sI hF_3
    exact ⟨_, rfl, M_3, hM_3, p_6, rfl⟩
structure CS where
  L : List TF0
  made : Int
  calls : List TH0
  ans : List (Int × TC0)
  inn : List TH0
  good : Int
def new11 : CS := ⟨[], 0, [], [], [], 0⟩
def CS.tup (c : CS) : List TF0 × Int × List TH0 × List (Int × TC0) × List TH0 × Int := (c.L, c.made, c.calls, c.ans, c.inn, c.good)
theorem evC (x : TH0) : (⟨x.fToken, x.fKind, x.fPhys, x.fType, x.fProps⟩ : TH0) = x := by cases x; rfl
set_option maxRecDepth 100000 in
theorem wakes11 : law11_wakes 10000 = some true := by decide +kernel
theorem wakes11b : ((law11_wakes 10000).bind fun x => some x) = some true := by rw [wakes11, bnd]
theorem unknown11 {n : Nat} {l : List TE0} (hl : l.length < n) (h6 : l.length ≤ 6000) : slices_ContainsFuncapi_Given_api_Given_2 n l = some (!knownV l) := by
 unfold slices_ContainsFuncapi_Given_api_Given_2 slices_IndexFuncapi_Given_api_Given_2 knownV
 obtain ⟨b, hb, hp⟩ := loop_inv (step := slices_IndexFuncapi_Given_api_Given_2_s1 n l) (n := n) (s0 := (0 : Int)) (fun k s => s = (k : Int) ∧ ∀ x ∈ l.take k, x.fUnknown = false)
  (fun b => match b with | .inl i => 0 ≤ i ∧ l.any (·.fUnknown) = true | .inr _ => l.any (·.fUnknown) = false) l.length ⟨rfl, by simp⟩
  (fun k s hk hI => by
   obtain ⟨rfl, hf⟩ := hI
   have hx : l[k]? = some l[k] := List.getElem?_eq_getElem hk
   have hg : l.getD k z_TE0 = l[k] := by simp [List.getD, hk]
   unfold slices_IndexFuncapi_Given_api_Given_2_s1 cloud_check_1
   rw [decide_eq_true (by omega), cT, getI_at z_TE0 hk, bnd, bnd, hg]
   cases hv : l[k].fUnknown with
   | true => exact .inr ⟨_, rfl, by omega, List.any_eq_true.2 ⟨_, List.getElem_mem hk, hv⟩⟩
   | false =>
    rw [cF, need_i (by omega) (by omega)]
    refine .inl ⟨_, rfl, rfl, fun y hy => ?_⟩
    rcases (mem_take_succ hx y).1 hy with h | h
    ·exact hf y h
    ·rw [h]; exact hv)
  (fun s hI => by
   obtain ⟨rfl, hf⟩ := hI
   rw [List.take_length] at hf
   unfold slices_IndexFuncapi_Given_api_Given_2_s1
   rw [decide_eq_false (by omega), cF]
   refine ⟨_, rfl, ?_⟩
   show l.any (·.fUnknown) = false
   rw [List.any_eq_false]
   intro x hx
   rw [hf x hx]; decide) hl
 rw [hb, bnd]
 cases b with
 | inl i =>
  rw [bnd, Bool.not_not, hp.2, decide_eq_true hp.1]
 | inr u =>
  have hp : l.any (·.fUnknown) = false := hp
  rw [bnd, Bool.not_not, hp]; rfl
def badC (x : TH0) : Bool := decide (x.fToken < 1) || (decide (x.fKind < 0) || (decide ((2 : Int) < x.fKind) || !(decide (x.fKind = 0) == decide (x.fPhys = []))))
def badD (x : TH0) : Bool := (decide (x.fKind = 2) && decide ((0 : Int) < ((x.fProps.length : Nat) : Int))) || (decide (x.fKind = 1) && decide (x.fType = []))
def checkC (x : TH0) : Int := bif badC x then 2 else bif badD x then 2 else bif decide (x.fKind = 2) then 0 else bif !knownV x.fProps then 2 else checkG x.fType x.fProps
theorem checkC_run {n : Nat} (hn : 6000 < n) {x : TH0} (hp : GoodP x.fProps) : cloud_check n x.fToken x.fKind x.fPhys x.fType x.fProps = some (checkC x, x.fToken, x.fKind, x.fPhys, x.fType, x.fProps) := by
 have e4 : ∀ a b c d : Bool, (bif a then some a else bif b then some b else bif c then some c else some d : Option Bool) = some (a || (b || (c || d))) := by intro a b c d; cases a <;> cases b <;> cases c <;> rfl
 have e2 : ∀ a b : Bool, (bif a then some b else some false : Option Bool) = some (a && b) := by intro a b; cases a <;> rfl
 have e3 : ∀ a b c : Bool, (bif a then some a else bif b then some c else some false : Option Bool) = some (a || (b && c)) := by intro a b c; cases a <;> cases b <;> rfl
 have h6 := hp.few
 unfold cloud_check checkC
 rw [e4, bnd, e2, bnd, e3, bnd, unknown11 (by omega) (by omega), bnd, schemaCheck_run hn x.fType hp.few hp.fine]
 show ((bif badC x then _ else bif badD x then _ else bif decide (x.fKind = 2) then _ else bif !knownV x.fProps then _ else _ : Option (Lp Unit _))).bind _ = _
 cases badC x <;> cases badD x <;> cases decide (x.fKind = 2) <;> cases knownV x.fProps <;> rfl
def submitC (c : CS) (x : TH0) : Int × CS :=
  if checkC x ≠ 0 then (checkC x, c) else if (mget c.ans x.fToken).isSome = true then (0, c)
  else (0, ⟨c.L, c.made, c.calls ++ [x], mput c.ans x.fToken z_TC0, c.inn ++ [x], c.good⟩)
theorem submit_run {n : Nat} (hn : 6000 < n) {c : CS} {x : TH0} (hp : GoodP x.fProps) (hc : c.calls.length ≤ 1000) (hi : c.inn.length ≤ 1000) :
  cloud_Cloud_Submit n c.L c.made c.calls c.ans c.inn c.good x = some ((submitC c x).1, (submitC c x).2.tup) := by
 have h6 := hp.few
 unfold cloud_Cloud_Submit submitC slices_Cloneapi_Given_api_Given
 rw [checkC_run hn hp, bnd]
 by_cases h0 : checkC x = 0
 ·rw [decide_eq_true h0, Bool.not_true, cF, if_neg (fun h => h h0)]
  cases hm : (mget c.ans x.fToken).isSome with
  | true => rw [Bool.not_true, cF, if_pos rfl]; rfl
  | false =>
   rw [Bool.not_false, cT, if_neg (by decide), need_t (by dsimp only; omega), bnd, need_t (by omega), bnd, need_t (by omega), bnd]
   rfl
 ·rw [decide_eq_false h0, Bool.not_false, cT, if_pos h0]; rfl
def bad11 : TC0 := ⟨true, false, []⟩
def effC (c : CS) (x : TH0) : TC0 × CS :=
  if x.fKind = 0 then if (createS ⟨c.L, c.made⟩ x.fType x.fProps).2.2 = 0 then (⟨true, true, (createS ⟨c.L, c.made⟩ x.fType x.fProps).2.1⟩, ⟨(createS ⟨c.L, c.made⟩ x.fType x.fProps).1.fL, (createS ⟨c.L, c.made⟩ x.fType x.fProps).1.fMade, c.calls, c.ans, c.inn, c.good + 1⟩) else (bad11, c)
  else if x.fKind = 1 then if (updateS ⟨c.L, c.made⟩ x.fPhys x.fProps).2 = 0 then (⟨true, true, []⟩, ⟨(updateS ⟨c.L, c.made⟩ x.fPhys x.fProps).1.fL, (updateS ⟨c.L, c.made⟩ x.fPhys x.fProps).1.fMade, c.calls, c.ans, c.inn, c.good⟩) else (bad11, c)
  else if x.fKind = 2 then if (deleteS ⟨c.L, c.made⟩ x.fPhys).2 = 0 then (⟨true, true, []⟩, ⟨(deleteS ⟨c.L, c.made⟩ x.fPhys).1.fL, (deleteS ⟨c.L, c.made⟩ x.fPhys).1.fMade, c.calls, c.ans, c.inn, c.good⟩) else (bad11, c)
  else (⟨true, true, []⟩, c)
theorem effect_run {n : Nat} (hn : 6000 < n) {c : CS} {x : TH0} (hp : GoodP x.fProps) (hg : GoodL c.L) (h0 : 0 ≤ c.good) (h1 : c.good ≤ 1000) :
  cloud_Cloud_effect n c.L c.made c.calls c.ans c.inn c.good x.fToken x.fKind x.fPhys x.fType x.fProps = some ((effC c x).1, (effC c x).2.L, (effC c x).2.made, (effC c x).2.calls, (effC c x).2.ans, (effC c x).2.inn, (effC c x).2.good, x.fToken, x.fKind, x.fPhys, x.fType, x.fProps) := by
 unfold cloud_Cloud_effect effC
 have hgs : GoodL (⟨c.L, c.made⟩ : TB0).fL := hg
 rw [Create_run hn hgs x.fType hp, bnd, Update_run hn hgs x.fPhys hp, bnd, Delete_run hn hgs x.fPhys, bnd]
 by_cases k0 : x.fKind = 0
 ·rw [decide_eq_true k0, cT, bnd, if_pos k0]
  dsimp only
  by_cases e0 : (createS ⟨c.L, c.made⟩ x.fType x.fProps).2.2 = 0
  ·rw [decide_eq_true e0, Bool.not_true, cF, if_pos e0, cT, need_i (by omega) (by omega)]
  ·rw [decide_eq_false e0, Bool.not_false, cT, if_neg e0]; rfl
 ·rw [decide_eq_false k0, cF, if_neg k0]
  by_cases k1 : x.fKind = 1
  ·rw [decide_eq_true k1, cT, bnd, if_pos k1]
   dsimp only
   by_cases e0 : (updateS ⟨c.L, c.made⟩ x.fPhys x.fProps).2 = 0
   ·rw [decide_eq_true e0, Bool.not_true, cF, if_pos e0, cF]
   ·rw [decide_eq_false e0, Bool.not_false, cT, if_neg e0]; rfl
  ·rw [decide_eq_false k1, cF, if_neg k1]
   by_cases k2 : x.fKind = 2
   ·rw [decide_eq_true k2, cT, bnd, if_pos k2]
    dsimp only
    by_cases e0 : (deleteS ⟨c.L, c.made⟩ x.fPhys).2 = 0
    ·rw [decide_eq_true e0, Bool.not_true, cF, if_pos e0, cF]
    ·rw [decide_eq_false e0, Bool.not_false, cT, if_neg e0]; rfl
   ·rw [decide_eq_false k2, cF, bnd, if_neg k2]
    dsimp only
    rw [decide_eq_true rfl, Bool.not_true, cF, cF]
def cutC (c : CS) (k : Nat) : CS := ⟨c.L, c.made, c.calls, c.ans, c.inn.take k ++ c.inn.drop (k + 1), c.good⟩
def outC (c : CS) (k : Nat) (well : Bool) : TC0 × CS := bif well then effC (cutC c k) (c.inn.getD k z_TH0) else (bad11, cutC c k)
def tellC (r : TC0 × CS) (t : Int) : CS := ⟨r.2.L, r.2.made, r.2.calls, mput r.2.ans t r.1, r.2.inn, r.2.good⟩
def endC (c : CS) (k : Int) (well : Bool) : Int × TC0 × Int × CS :=
  if 0 ≤ k ∧ k < c.inn.length then ((c.inn.getD k.toNat z_TH0).fToken, (outC c k.toNat well).1, 0, tellC (outC c k.toNat well) (c.inn.getD k.toNat z_TH0).fToken) else (0, z_TC0, 4, c)
theorem getD_memC {l : List TH0} {k : Nat} (hk : k < l.length) : l.getD k z_TH0 ∈ l := by simp [List.getD, hk]
theorem end_run {n : Nat} (hn : 6000 < n) {c : CS} (k : Int) (well : Bool) (hp : ∀ x ∈ c.inn, GoodP x.fProps) (hg : GoodL c.L) (hi : c.inn.length ≤ 1000) (h0 : 0 ≤ c.good) (h1 : c.good ≤ 1000) :
  cloud_Cloud_End n c.L c.made c.calls c.ans c.inn c.good k well = some ((endC c k well).1, (endC c k well).2.1, (endC c k well).2.2.1, (endC c k well).2.2.2.tup) := by
 unfold cloud_Cloud_End endC
 by_cases hk : 0 ≤ k ∧ k < c.inn.length
 ·obtain ⟨m, rfl⟩ := Int.eq_ofNat_of_zero_le hk.1
  have hm : m < c.inn.length := by omega
  have em : (m : Int).toNat = m := by omega
  rw [decide_eq_false (by omega), cF, decide_eq_false (by omega), bnd, cF, if_pos hk, getI_at z_TH0 hm, bnd, need_i (by omega) (by omega), need_t (by omega), need_t (by omega), need_t (by omega), need_t (by omega), bnd, em]
  cases well with
  | false => rw [cF, bnd]; rfl
  | true =>
   have := effect_run hn (c := cutC c m) (x := c.inn.getD m z_TH0) (hp _ (getD_memC hm)) hg h0 h1
   rw [cT]
   unfold cutC at this
   dsimp only at this
   rw [this, bnd, bnd]
   rfl
 ·rw [if_neg hk]
  have e : (bif decide (k < 0) then some true else some (decide (((c.inn.length : Nat) : Int) ≤ k)) : Option Bool) = some true := by
   by_cases h : k < 0
   ·rw [decide_eq_true h, cT]
   ·rw [decide_eq_false h, cF, decide_eq_true (by omega)]
  rw [e, bnd, cT]
  rfl
theorem clone11 {n : Nat} {L : List TF0} (hl : L.length ≤ 1000) : slices_Cloneapi_Thing_api_Thing n L = some L := by
 unfold slices_Cloneapi_Thing_api_Thing
 rw [need_t (by omega)]
theorem things_run {n : Nat} {c : CS} (hg : GoodL c.L) : cloud_Cloud_Things n c.L c.made c.calls c.ans c.inn c.good = some (c.L, c.tup) := by
 have := hg.few
 unfold cloud_Cloud_Things
 rw [clone11 (by omega), bnd]; rfl
theorem made_run {n : Nat} {c : CS} : cloud_Cloud_Made n c.L c.made c.calls c.ans c.inn c.good = some (c.good, c.tup) := rfl
structure OkC (m : Nat) (c : CS) : Prop where
  good : GoodL c.L
  few : c.L.length ≤ m
  calls : c.calls.length ≤ m
  inn : c.inn.length ≤ m
  props : ∀ x ∈ c.inn, GoodP x.fProps
  g0 : 0 ≤ c.good
  g1 : c.good ≤ m
theorem OkC.new : OkC 0 new11 := ⟨⟨by decide, fun x hx => (by cases hx)⟩, by decide, by decide, by decide, fun x hx => (by cases hx), by decide, by decide⟩
theorem OkC.le {m k : Nat} {c : CS} (h : OkC m c) (hmk : m ≤ k) : OkC k c := ⟨h.good, Nat.le_trans h.few hmk, Nat.le_trans h.calls hmk, Nat.le_trans h.inn hmk, h.props, h.g0, by have := h.g1; omega⟩
theorem OkC.submit {m : Nat} {c : CS} (h : OkC m c) {x : TH0} (hp : GoodP x.fProps) : OkC (m + 1) (submitC c x).2 := by
 unfold submitC
 split
 ·exact h.le (by omega)
 ·split
  ·exact h.le (by omega)
  ·refine ⟨h.good, by have := h.few; show c.L.length ≤ m + 1; omega, by have := h.calls; show (c.calls ++ [x]).length ≤ m + 1; simp; omega, by have := h.inn; show (c.inn ++ [x]).length ≤ m + 1; simp; omega, fun y hy => ?_, h.g0, by have := h.g1; show c.good ≤ ((m + 1 : Nat) : Int); omega⟩
   rcases List.mem_append.1 hy with hy | hy
   ·exact h.props y hy
   ·rw [List.mem_singleton.1 hy]; exact hp
theorem create_len {s : TB0} {kind : List UInt8} {props : List TE0} : (createS s kind props).1.fL.length ≤ s.fL.length + 1 := by
 unfold createS
 split
 ·exact Nat.zero_le _
 ·split
  ·exact Nat.zero_le _
  ·split
   ·exact Nat.zero_le _
   ·split
    ·exact Nat.zero_le _
    ·simp
theorem update_len {s : TB0} {phys : List UInt8} {props : List TE0} : (updateS s phys props).1.fL.length ≤ s.fL.length := by
 unfold updateS
 split
 ·exact Nat.zero_le _
 ·split
  ·exact Nat.zero_le _
  ·split
   ·exact Nat.zero_le _
   ·split
    ·exact Nat.zero_le _
    ·unfold updT; simp
theorem delete_len {s : TB0} {phys : List UInt8} : (deleteS s phys).1.fL.length ≤ s.fL.length := by
 unfold deleteS
 split
 ·exact Nat.zero_le _
 ·split
  ·exact Nat.zero_le _
  ·exact List.length_filter_le _ _
theorem OkC.eff {m : Nat} {c : CS} (h : OkC m c) (hm : m < 200) {x : TH0} (hp : GoodP x.fProps) : OkC (m + 1) (effC c x).2 := by
 have hf := h.few
 have hg := h.g1
 have hg0 := h.g0
 have hi := h.inn
 have hc := h.calls
 have key : ∀ (s : TB0) (g : Int), GoodL s.fL → s.fL.length ≤ m + 1 → 0 ≤ g → g ≤ ((m + 1 : Nat) : Int) → OkC (m + 1) ⟨s.fL, s.fMade, c.calls, c.ans, c.inn, g⟩ := fun s g a b d e => ⟨a, b, Nat.le_trans hc (by omega), Nat.le_trans hi (by omega), h.props, d, e⟩
 unfold effC
 split
 ·split
  ·have := create_len (s := ⟨c.L, c.made⟩) (kind := x.fType) (props := x.fProps)
   exact key _ _ (good_create (s := ⟨c.L, c.made⟩) h.good (by show c.L.length < 200; omega) _ hp) (by have e : (⟨c.L, c.made⟩ : TB0).fL = c.L := rfl; rw [e] at this; omega) (by omega) (by omega)
  ·exact h.le (by omega)
 ·split
  ·split
   ·have := update_len (s := ⟨c.L, c.made⟩) (phys := x.fPhys) (props := x.fProps)
    exact key _ _ (good_update (s := ⟨c.L, c.made⟩) h.good _ hp) (by have e : (⟨c.L, c.made⟩ : TB0).fL = c.L := rfl; rw [e] at this; omega) (by omega) (by omega)
   ·exact h.le (by omega)
  ·split
   ·split
    ·have := delete_len (s := ⟨c.L, c.made⟩) (phys := x.fPhys)
     exact key _ _ (good_delete (s := ⟨c.L, c.made⟩) h.good _) (by have e : (⟨c.L, c.made⟩ : TB0).fL = c.L := rfl; rw [e] at this; omega) (by omega) (by omega)
    ·exact h.le (by omega)
   ·exact h.le (by omega)
theorem mem_cut {α : Type} {l : List α} {k : Nat} {x : α} (h : x ∈ l.take k ++ l.drop (k + 1)) : x ∈ l := by
 rcases List.mem_append.1 h with h | h
 ·exact List.mem_of_mem_take h
 ·exact List.mem_of_mem_drop h
theorem OkC.cut {m : Nat} {c : CS} (h : OkC m c) (k : Nat) : OkC m (cutC c k) := ⟨h.good, h.few, h.calls, by have := h.inn; show (c.inn.take k ++ c.inn.drop (k + 1)).length ≤ m; simp; omega, fun x hx => h.props x (mem_cut hx), h.g0, h.g1⟩
theorem OkC.end_ {m : Nat} {c : CS} (h : OkC m c) (hm : m < 200) (k : Int) (well : Bool) : OkC (m + 1) (endC c k well).2.2.2 := by
 unfold endC
 split
 ·rename_i hk
  have hb : OkC (m + 1) (outC c k.toNat well).2 := by
   unfold outC
   cases well with
   | false => exact (h.cut _).le (by omega)
   | true => exact (h.cut _).eff hm (h.props _ (getD_memC (by omega)))
  exact ⟨hb.good, hb.few, hb.calls, hb.inn, hb.props, hb.g0, hb.g1⟩
 ·exact h.le (by omega)
theorem great11 {n : Nat} (hn : 6000 < n) (x : TH0) : ∃ g, ref11_Great n x = some g ∧ (g = false → GoodP x.fProps) := by
 unfold ref11_Great
 by_cases h1 : (200 : Int) < (x.fPhys.length : Int)
 ·exact ⟨true, by rw [decide_eq_true h1, cT], fun h => by cases h⟩
 rw [decide_eq_false h1, cF]
 by_cases h2 : (200 : Int) < (x.fType.length : Int)
 ·exact ⟨true, by rw [decide_eq_true h2, cT], fun h => by cases h⟩
 rw [decide_eq_false h2, cF]
 obtain ⟨g, hg, hf⟩ := great9 hn x.fProps
 exact ⟨g, by rw [hg, bnd], fun h => ⟨(hf h).1, fun y hy => ((hf h).2 y hy).2⟩⟩
theorem greatL11 {n : Nat} (hn : 6000 < n) (l : List TA0) : ∃ g, law11_great n l = some g ∧ (g = false → l.length ≤ 100 ∧ ∀ x ∈ l, GoodP x.fX.fProps) := by
 unfold law11_great
 by_cases hl : (100 : Int) < ((l.length : Nat) : Int)
 ·exact ⟨true, by rw [decide_eq_true hl, cT], fun h => by cases h⟩
 rw [decide_eq_false hl, cF]
 obtain ⟨b, hb, hp⟩ := loop_inv (step := law11_great_s1 n l) (n := n) (s0 := (0 : Int)) (fun k s => s = (k : Int) ∧ ∀ x ∈ l.take k, GoodP x.fX.fProps)
  (fun b => match b with | .inl _ => True | .inr _ => ∀ x ∈ l, GoodP x.fX.fProps) l.length ⟨rfl, by simp⟩
  (fun k s hk hI => by
   obtain ⟨rfl, hf⟩ := hI
   have hx : l[k]? = some l[k] := List.getElem?_eq_getElem hk
   have hg : l.getD k z_TA0 = l[k] := by simp [List.getD, hk]
   unfold law11_great_s1
   rw [decide_eq_true (by omega), cT, getI_at z_TA0 hk, bnd, hg, evC]
   obtain ⟨g, hgr, hgf⟩ := great11 hn l[k].fX
   rw [hgr, bnd]
   cases g with
   | true => exact .inr ⟨_, rfl, trivial⟩
   | false =>
    rw [cF, need_i (by omega) (by omega)]
    refine .inl ⟨_, rfl, rfl, fun y hy => ?_⟩
    rcases (mem_take_succ hx y).1 hy with h | h
    ·exact hf y h
    ·rw [h]; exact hgf rfl)
  (fun s hI => by
   obtain ⟨rfl, hf⟩ := hI
   rw [List.take_length] at hf
   unfold law11_great_s1
   rw [decide_eq_false (by omega), cF]
   exact ⟨_, rfl, hf⟩) (by omega)
 rw [hb, bnd]
 cases b with
 | inl u => exact ⟨true, rfl, fun h => by cases h⟩
 | inr u => exact ⟨false, rfl, fun _ => ⟨by omega, hp⟩⟩
def tokens (l : List TH0) : List Int := l.map (·.fToken)
theorem eff_keep (c : CS) (x : TH0) : (effC c x).2.calls = c.calls ∧ (effC c x).2.ans = c.ans ∧ (effC c x).2.inn = c.inn ∧ (effC c x).1.fEnded = true := by
 unfold effC bad11
 split
 ·split <;> exact ⟨rfl, rfl, rfl, rfl⟩
 ·split
  ·split <;> exact ⟨rfl, rfl, rfl, rfl⟩
  ·split
   ·split <;> exact ⟨rfl, rfl, rfl, rfl⟩
   ·exact ⟨rfl, rfl, rfl, rfl⟩
theorem slices_Cloneapi_Call_api_Call_row_ok (n : Nat) (M : Mem) (A0 : Option Addr) (cap0 : Nat) (d0 : List TH0) (cs0 : List Value) (h0 : RepSeq M (d0.map emb_TH0) cs0) (hn : d0.length * 72 ≤ 140737488355328) : OkH Tryd.prog M [.row 44 5 (.slice A0 d0.length cap0) d0.length cs0] 37 [.slice A0 d0.length cap0] (fun M' E' v => ∃ (A : Option Addr) (k : Nat), v = .slice A d0.length k ∧ E' = [.row 44 5 (.slice A d0.length k) d0.length cs0, .row 44 5 (.slice A0 d0.length cap0) d0.length cs0]) := by
 intro M1 hM0 w0 H w p0
 have h1 := RepSeq.mono hM0 _ _ h0
 replace p0 : Hp w0 M1 (Ent.row 44 5 (.slice A0 d0.length cap0) d0.length cs0 :: H) w := p0
 refine R_enter 8 Tryd.func37 rfl rfl (by simp) fun a0 f0 => ?_
 replace f0 : Frm 8 [(0, .slice A0 d0.length cap0)] a0 := f0
 refine RR (Y f0 1 fun _ f => eT (R_seq (RR (Y f 1 fun _ f => Z (v := .bool A0.isNone) f (X_slicenil (A := A0) (n := d0.length) (c := cap0) (e := 44) rfl (by kernel_rfl) (by kernel_rfl) (by kernel_rfl) _) fun _ f => eT (Y6 f (b := A0.isNone) (fun h_1 => ?_) fun h_1 => ?_)))))
 ·obtain ⟨A, cap, e1, e2, e3⟩ := p0.rowShape 0 rfl
  have e4 := Value.slice.inj e1
  have hz : d0.length = 0 := by have := e3 (by rw [← e4.1]; simpa using h_1); omega
  have hc : cs0 = [] := List.eq_nil_of_length_eq_zero (by have := RepSeq.len (szd_all szd_TH0) h1; rw [this, List.length_map, hz, Nat.zero_mul])
  refine RR (Y f 1 fun _ f => eT (wp_ret (T_r (E_ret1 f rfl (by kernel_rfl : Vc.look _ 2 = some (.slice none 0 0)) (⟨_, rfl, M1, [.row 44 5 (.slice none 0 0) 0 [], .row 44 5 (.slice A0 d0.length cap0) d0.length cs0], (mR _), p0.nilRow _ _, none, 0, by rw [hz], ?_⟩)))))
  subst hc; rw [hz]
 ·refine wp_skip (T_n (RR (V_allocS (k := 0) (c := 0) f p0 (.cells #[] 44 (0, 0)) (by kernel_rfl) (fun _ => by kernel_rfl) fun b_1 w_1 p_2 _ f => Y f 1 fun _ f => ?_)))
  have p_3 : Hp w0 M1 (Ent.row 44 5 (.slice (some ⟨b_1, 0, none⟩) 0 0) 0 [] :: Ent.row 44 5 (.slice A0 d0.length cap0) d0.length cs0 :: H) w_1 := p_2.objRow (n := 0) (cap := 0) (size := 5) (by decide) (by decide) (blk_eq (by decide) rfl) rfl rfl
  refine W_cloneRow (z := .agg #[.int .i64 0, .int .i8 0, S [], S [], .slice none 0 0]) (f := emb_TH0) (xs := d0) f p_3 szd_TH0 h1 rfl h_1 (by kernel_rfl) (by kernel_rfl) rfl rfl rfl (by kernel_rfl) (by kernel_rfl) (by kernel_rfl) (by kernel_rfl) hn (by omega) fun A_2 cap_2 w_2 p_4 _ f => Y f 1 fun _ f => eT (wp_ret (E_ret1 f rfl (by kernel_rfl : Vc.look _ 2 = some (.slice A_2 d0.length cap_2)) ?_))
  exact ⟨_, rfl, M1, _, (mR _), p_4, A_2, cap_2, rfl, rfl⟩
def cloud_Cloud_Calls (n : Nat) (d0_0 : List TF0) (d0_1 : Int) (d0_2 : List TH0) (d0_3 : List (Int × TC0)) (d0_4 : List TH0) (d0_5 : Int) : Option (List TH0 × List TF0 × Int × List TH0 × (List (Int × TC0)) × List TH0 × Int) :=
  need (d0_2.length * 72 ≤ 140737488355328) <|
  some ((d0_2, d0_0, d0_1, d0_2, d0_3, d0_4, d0_5))
theorem cloud_Cloud_Calls_ok (n : Nat) (M : Mem) (hG : GL M) (b0 : Nat) (d0_0 : List TF0) (A_1 : Option Addr) (cap_1 : Nat) (h_1 : Sli M 3 emb_TF0 A_1 cap_1 d0_0) (d0_1 : Int) (d0_2 : List TH0) (A_2 : Option Addr) (cap_2 : Nat) (cs_1 : List Value) (hr_1 : RepSeq M (d0_2.map emb_TH0) cs_1) (m0_3 : Nat) (d0_3 : List (Int × TC0)) (d0_4 : List TH0) (A_3 : Option Addr) (cap_3 : Nat) (cs_2 : List Value) (hr_2 : RepSeq M (d0_4.map emb_TH0) cs_2) (d0_5 : Int) (r : List TH0 × List TF0 × Int × List TH0 × (List (Int × TC0)) × List TH0 × Int) (hF : cloud_Cloud_Calls n d0_0 d0_1 d0_2 d0_3 d0_4 d0_5 = some r) : OkH Tryd.prog M [Ent.obj b0 (.cells #[.slice A_1 d0_0.length cap_1, .int .i64 d0_1, .slice A_2 d0_2.length cap_2, .map (some m0_3), .slice A_3 d0_4.length cap_3, .int .i64 d0_5] 74 (0, 0)), Ent.row 44 5 (.slice A_2 d0_2.length cap_2) d0_2.length cs_1, Ent.obj m0_3 (mapO (Value.int .i64) (fun x : TC0 => Value.agg #[.bool x.fEnded, .bool x.fOk, S x.fPhys]) d0_3), Ent.row 44 5 (.slice A_3 d0_4.length cap_3) d0_4.length cs_2] 21 [.pointer (some (⟨b0, 0, none⟩))] (fun M' E' v => ∃ (A0 : Option Addr) (k0 : Nat) (s0 : List Value) (A_5 : Option Addr) (cap_5 : Nat) (A_6 : Option Addr) (cap_6 : Nat) (cs_3 : List Value) (A_7 : Option Addr) (cap_7 : Nat) (cs_4 : List Value), v = .slice A0 r.1.length k0 ∧ E' = [.row 44 5 (.slice A0 r.1.length k0) r.1.length s0, Ent.obj b0 (.cells #[.slice A_5 r.2.1.length cap_5, .int .i64 r.2.2.1, .slice A_6 r.2.2.2.1.length cap_6, .map (some m0_3), .slice A_7 r.2.2.2.2.2.1.length cap_7, .int .i64 r.2.2.2.2.2.2] 74 (0, 0)), Ent.row 44 5 (.slice A_6 r.2.2.2.1.length cap_6) r.2.2.2.1.length cs_3, Ent.obj m0_3 (mapO (Value.int .i64) (fun x : TC0 => Value.agg #[.bool x.fEnded, .bool x.fOk, S x.fPhys]) r.2.2.2.2.1), Ent.row 44 5 (.slice A_7 r.2.2.2.2.2.1.length cap_7) r.2.2.2.2.2.1.length cs_4] ∧ RepSeq M' (r.1.map emb_TH0) s0 ∧ Sli M' 3 emb_TF0 A_5 cap_5 r.2.1 ∧ RepSeq M' (r.2.2.2.1.map emb_TH0) cs_3 ∧ RepSeq M' (r.2.2.2.2.2.1.map emb_TH0) cs_4) := by
 unfold cloud_Cloud_Calls at hF
 intro M1 hM0 w0 H w p0
 replace hG := GL.mono hM0 hG
 replace h_1 := h_1.mono hM0
 replace hr_1 := RepSeq.mono hM0 _ _ hr_1
 replace hr_2 := RepSeq.mono hM0 _ _ hr_2
 refine R_enter 10 Tryd.func21 rfl rfl (by simp) fun a0 f0 => RR (Y f0 1 fun _ f => eT (R_seq (RR (Y f 1 fun _ f => Z (v := .bool false) f (X_ptrNil (q := some (⟨b0, 0, none⟩)) (e := 74) rfl (by kernel_rfl) (by kernel_rfl) (by kernel_rfl) _) fun _ f => eT (Y7 f (wp_skip (T_n (RR (Y f 3 fun _ f => Z f (Y32 (v := .slice A_2 d0_2.length cap_2) rfl (ad := ⟨b0, 2, none⟩) (p0.ownCell 0 rfl 2)) fun _ f => ?_)))))))))
 have p_1 := p0.pl [1]
 obtain ⟨g_1, hF_1⟩ := nS hF
 refine Y17 (E := [Ent.row 44 5 (.slice A_2 d0_2.length cap_2) d0_2.length cs_1]) (H := ((Ent.obj b0 (.cells #[.slice A_1 d0_0.length cap_1, .int .i64 d0_1, .slice A_2 d0_2.length cap_2, .map (some m0_3), .slice A_3 d0_4.length cap_3, .int .i64 d0_5] 74 (0, 0))) :: (Ent.obj m0_3 (mapO (Value.int .i64) (fun x : TC0 => Value.agg #[.bool x.fEnded, .bool x.fOk, S x.fPhys]) d0_3)) :: (Ent.row 44 5 (.slice A_3 d0_4.length cap_3) d0_4.length cs_2) :: H)) f p_1 (slices_Cloneapi_Call_api_Call_row_ok n _ A_2 cap_2 d0_2 cs_1 hr_1 g_1) fun _ M_1 E_1 w_1 hM_1 p_2 q_1 _ f => ?_
 obtain ⟨A_4, cap_4, rfl, rfl⟩ := q_1
 have hr_3 := (RepSeq.mono hM_1 _ _ hr_1)
 refine Y f 1 fun _ f => eT (wp_ret (E_ret1 f rfl (by kernel_rfl : Vc.look _ 2 = some (.slice A_4 d0_2.length cap_4)) ?_))
 obtain rfl := sI hF_1
 have p_7 := p_2.pl [4, 4, 3, 4, 4]
 exact ⟨_, rfl, M_1, _, hM_1, p_7, ⟨A_4, cap_4, cs_1, A_1, cap_1, A_2, cap_2, cs_1, A_3, cap_3, cs_2, rfl, rfl, hr_3, (h_1.mono hM_1), (RepSeq.mono hM_1 _ _ hr_1), (RepSeq.mono hM_1 _ _ hr_2)⟩⟩
def cloud_Cloud_Ask (n : Nat) (d0_0 : List TF0) (d0_1 : Int) (d0_2 : List TH0) (d0_3 : List (Int × TC0)) (d0_4 : List TH0) (d0_5 : Int) (d1 : Int) : Option (TC0 × Bool × List TF0 × Int × List TH0 × (List (Int × TC0)) × List TH0 × Int) :=
  some ((((mget d0_3 d1).getD z_TC0), ((mget d0_3 d1).isSome), d0_0, d0_1, d0_2, d0_3, d0_4, d0_5))
theorem cloud_Cloud_Ask_ok (n : Nat) (M : Mem) (hG : GL M) (b0 : Nat) (d0_0 : List TF0) (A_1 : Option Addr) (cap_1 : Nat) (h_1 : Sli M 3 emb_TF0 A_1 cap_1 d0_0) (d0_1 : Int) (d0_2 : List TH0) (A_2 : Option Addr) (cap_2 : Nat) (cs_1 : List Value) (hr_1 : RepSeq M (d0_2.map emb_TH0) cs_1) (m0_3 : Nat) (d0_3 : List (Int × TC0)) (d0_4 : List TH0) (A_3 : Option Addr) (cap_3 : Nat) (cs_2 : List Value) (hr_2 : RepSeq M (d0_4.map emb_TH0) cs_2) (d0_5 : Int) (d1 : Int) (r : TC0 × Bool × List TF0 × Int × List TH0 × (List (Int × TC0)) × List TH0 × Int) (hF : cloud_Cloud_Ask n d0_0 d0_1 d0_2 d0_3 d0_4 d0_5 d1 = some r) : OkH Tryd.prog M [Ent.obj b0 (.cells #[.slice A_1 d0_0.length cap_1, .int .i64 d0_1, .slice A_2 d0_2.length cap_2, .map (some m0_3), .slice A_3 d0_4.length cap_3, .int .i64 d0_5] 74 (0, 0)), Ent.row 44 5 (.slice A_2 d0_2.length cap_2) d0_2.length cs_1, Ent.obj m0_3 (mapO (Value.int .i64) (fun x : TC0 => Value.agg #[.bool x.fEnded, .bool x.fOk, S x.fPhys]) d0_3), Ent.row 44 5 (.slice A_3 d0_4.length cap_3) d0_4.length cs_2] 22 [.pointer (some (⟨b0, 0, none⟩)), .int .i64 d1] (fun M' E' v => ∃ (c0 : List Value) (A_4 : Option Addr) (cap_4 : Nat) (A_5 : Option Addr) (cap_5 : Nat) (cs_3 : List Value) (A_6 : Option Addr) (cap_6 : Nat) (cs_4 : List Value), v = .tuple #[.agg c0.toArray, .bool r.2.1] ∧ E' = [Ent.obj b0 (.cells #[.slice A_4 r.2.2.1.length cap_4, .int .i64 r.2.2.2.1, .slice A_5 r.2.2.2.2.1.length cap_5, .map (some m0_3), .slice A_6 r.2.2.2.2.2.2.1.length cap_6, .int .i64 r.2.2.2.2.2.2.2] 74 (0, 0)), Ent.row 44 5 (.slice A_5 r.2.2.2.2.1.length cap_5) r.2.2.2.2.1.length cs_3, Ent.obj m0_3 (mapO (Value.int .i64) (fun x : TC0 => Value.agg #[.bool x.fEnded, .bool x.fOk, S x.fPhys]) r.2.2.2.2.2.1), Ent.row 44 5 (.slice A_6 r.2.2.2.2.2.2.1.length cap_6) r.2.2.2.2.2.2.1.length cs_4] ∧ Rep M' (emb_TC0 r.1) c0 ∧ Sli M' 3 emb_TF0 A_4 cap_4 r.2.2.1 ∧ RepSeq M' (r.2.2.2.2.1.map emb_TH0) cs_3 ∧ RepSeq M' (r.2.2.2.2.2.2.1.map emb_TH0) cs_4) := by
 unfold cloud_Cloud_Ask at hF
 intro M1 hM0 w0 H w p0
 replace hG := GL.mono hM0 hG
 replace h_1 := h_1.mono hM0
 replace hr_1 := RepSeq.mono hM0 _ _ hr_1
 replace hr_2 := RepSeq.mono hM0 _ _ hr_2
 refine R_enter 22 Tryd.func22 rfl rfl (by simp) fun a0 f0 => RR (Y12 f0 p0 (.cells #[.bool false, .bool false, S []] 49 (0, 0)) fun b_1 w_1 p_1 _ f => Y f 1 fun _ f => eT (R_seq (RR (Y f 1 fun _ f => Z (v := .bool false) f (X_ptrNil (q := some (⟨b0, 0, none⟩)) (e := 74) rfl (by kernel_rfl) (by kernel_rfl) (by kernel_rfl) _) fun _ f => eT (Y7 f (wp_skip (T_n (RR (Y f 3 fun _ f => ?_)))))))))
 refine Z f (Y32 (v := .map (some m0_3)) rfl (ad := ⟨b0, 3, none⟩) (p_1.ownCell 1 rfl 3)) fun _ f => Y f 1 fun _ f => Z (v := .tuple #[.agg #[.bool ((mget d0_3 d1).getD z_TC0).fEnded, .bool ((mget d0_3 d1).getD z_TC0).fOk, S ((mget d0_3 d1).getD z_TC0).fPhys], .bool (mget d0_3 d1).isSome]) f (Y34 (ek := (Value.int .i64)) (ev := (fun x : TC0 => Value.agg #[.bool x.fEnded, .bool x.fOk, S x.fPhys])) (m := d0_3) (k := d1) (z := z_TC0) (kt := 3) (et := 49) rfl (intKey (by kernel_rfl)) (p_1.ownObj 3 rfl)) fun _ f => Y f 3 fun _ f => Y12 f p_1 (.cells #[.bool false, .bool false, S []] 49 (0, 0)) fun b_2 w_2 p_2 _ f => Y27 (vs := [.bool ((mget d0_3 d1).getD z_TC0).fEnded, .bool ((mget d0_3 d1).getD z_TC0).fOk, S ((mget d0_3 d1).getD z_TC0).fPhys]) (j := 0) f p_2 rfl rfl (by simp [Value.oneCell', S]) (by simp) (by decide) (cs' := #[.bool ((mget d0_3 d1).getD z_TC0).fEnded, .bool ((mget d0_3 d1).getD z_TC0).fOk, S ((mget d0_3 d1).getD z_TC0).fPhys]) (by kernel_rfl) fun w_3 p_3 _ f => Y f 1 fun _ f => eT (RR (Z (v := .agg #[.bool ((mget d0_3 d1).getD z_TC0).fEnded, .bool ((mget d0_3 d1).getD z_TC0).fOk, S ((mget d0_3 d1).getD z_TC0).fPhys]) f (Y33 (cs := [.bool ((mget d0_3 d1).getD z_TC0).fEnded, .bool ((mget d0_3 d1).getD z_TC0).fOk, S ((mget d0_3 d1).getD z_TC0).fPhys]) rfl (ad := ⟨b_2, 0, none⟩) (own_cells (p_3.ownCell 0 rfl) 0 rfl)) fun _ f => Y f 1 fun _ f => ?_))
 have p_4 := p_3.pl [1]
 refine Y27 (vs := [.bool ((mget d0_3 d1).getD z_TC0).fEnded, .bool ((mget d0_3 d1).getD z_TC0).fOk, S ((mget d0_3 d1).getD z_TC0).fPhys]) (j := 0) f p_4 rfl rfl (by simp [Value.oneCell', S]) (by simp) (by decide) (cs' := #[.bool ((mget d0_3 d1).getD z_TC0).fEnded, .bool ((mget d0_3 d1).getD z_TC0).fOk, S ((mget d0_3 d1).getD z_TC0).fPhys]) (by kernel_rfl) fun w_4 p_5 _ f => Y f 1 fun _ f => eT (wp_ret (E_rv2 f rfl (Y10 (cs := [.bool ((mget d0_3 d1).getD z_TC0).fEnded, .bool ((mget d0_3 d1).getD z_TC0).fOk, S ((mget d0_3 d1).getD z_TC0).fPhys]) (ad := ⟨b_1, 0, none⟩) f (own_cells (p_5.ownCell 0 rfl) 0 rfl)) (Y11 (v := .bool (mget d0_3 d1).isSome) f) ?_))
 obtain rfl := sI hF
 exact ⟨_, rfl, M1, _, (mR _), (p_5.dropN 2), ⟨[.bool ((mget d0_3 d1).getD z_TC0).fEnded, .bool ((mget d0_3 d1).getD z_TC0).fOk, S ((mget d0_3 d1).getD z_TC0).fPhys], A_1, cap_1, A_2, cap_2, cs_1, A_3, cap_3, cs_2, rfl, rfl, (TC0.shutx (x := ((mget d0_3 d1).getD z_TC0)) ), h_1, hr_1, hr_2⟩⟩
def law11_CloudBooks_s1 (n : Nat) (d0 : List TA0) (s_1 : Int × List TF0 × Int × List TH0 × List TH0 × Int × (List (Int × TC0))) : Option (Lp (Int × List TF0 × Int × List TH0 × List TH0 × Int × (List (Int × TC0))) (List TF0 × Int × List TH0 × List TH0 × Int × (List (Int × TC0)))) :=
    bif (decide (s_1.1 < ((d0.length : Nat) : Int))) then
      ((getI d0 s_1.1).bind fun x_4 =>
      bif (decide (x_4.fDo = 0)) then
        ((cloud_Cloud_Submit n s_1.2.1 s_1.2.2.1 s_1.2.2.2.1 s_1.2.2.2.2.2.2 s_1.2.2.2.2.1 s_1.2.2.2.2.2.1 (⟨x_4.fX.fToken, x_4.fX.fKind, x_4.fX.fPhys, x_4.fX.fType, x_4.fX.fProps⟩ : TH0)).bind fun x_5 =>
        need (inR .i64 (s_1.1 + 1)) <|
        some (.nx (s_1.1 + 1, x_5.2.1, x_5.2.2.1, x_5.2.2.2.1, x_5.2.2.2.2.2.1, x_5.2.2.2.2.2.2, x_5.2.2.2.2.1)))
      else
        ((bif (decide (x_4.fDo = 1)) then
            (some ((decide (x_4.fDo = 1))))
          else
            some ((decide (x_4.fDo = 2))) : Option Bool)).bind fun y_1 =>
        bif y_1 then
          ((cloud_Cloud_End n s_1.2.1 s_1.2.2.1 s_1.2.2.2.1 s_1.2.2.2.2.2.2 s_1.2.2.2.2.1 s_1.2.2.2.2.2.1 x_4.fN (decide (x_4.fDo = 1))).bind fun x_6 =>
          need (inR .i64 (s_1.1 + 1)) <|
          some (.nx (s_1.1 + 1, x_6.2.2.2.1, x_6.2.2.2.2.1, x_6.2.2.2.2.2.1, x_6.2.2.2.2.2.2.2.1, x_6.2.2.2.2.2.2.2.2, x_6.2.2.2.2.2.2.1)))
        else
          need (inR .i64 (s_1.1 + 1)) <|
          some (.nx (s_1.1 + 1, s_1.2.1, s_1.2.2.1, s_1.2.2.2.1, s_1.2.2.2.2.1, s_1.2.2.2.2.2.1, s_1.2.2.2.2.2.2)))
    else
      some (.br (s_1.2.1, s_1.2.2.1, s_1.2.2.2.1, s_1.2.2.2.2.1, s_1.2.2.2.2.2.1, s_1.2.2.2.2.2.2))
def law11_CloudBooks_s2 (n : Nat) (x_7 : List TH0 × List TF0 × Int × List TH0 × (List (Int × TC0)) × List TH0 × Int) (s_2 : Int × Int × (List ((List UInt8) × Int)) × List TF0 × Int × List TH0 × List TH0 × Int × (List (Int × TC0))) : Option (Lp (Int × Int × (List ((List UInt8) × Int)) × List TF0 × Int × List TH0 × List TH0 × Int × (List (Int × TC0))) (Int × List TF0 × Int × List TH0 × List TH0 × Int × (List ((List UInt8) × Int)) × (List (Int × TC0)))) :=
    bif (decide (s_2.2.1 < ((x_7.1.length : Nat) : Int))) then
      ((getI x_7.1 s_2.2.1).bind fun x_8 =>
      (cloud_Cloud_Ask n s_2.2.2.2.1 s_2.2.2.2.2.1 s_2.2.2.2.2.2.1 s_2.2.2.2.2.2.2.2.2 s_2.2.2.2.2.2.2.1 s_2.2.2.2.2.2.2.2.1 x_8.fToken).bind fun x_9 =>
      bif !x_9.1.fOk then
        (need (inR .i64 (s_2.2.1 + 1)) <|
        some (.nx (s_2.1, s_2.2.1 + 1, s_2.2.2.1, x_9.2.2.1, x_9.2.2.2.1, x_9.2.2.2.2.1, x_9.2.2.2.2.2.2.1, x_9.2.2.2.2.2.2.2, x_9.2.2.2.2.2.1)))
      else
        ((bif (decide (x_8.fKind = 0)) then
            (need (inR .i64 (s_2.1 + 1)) <|
            need (inR .i64 (((mget s_2.2.2.1 x_9.1.fPhys).getD (0 : Int)) + 1)) <|
            some ((s_2.1 + 1, mput s_2.2.2.1 x_9.1.fPhys (((mget s_2.2.2.1 x_9.1.fPhys).getD (0 : Int)) + 1))))
          else
            some ((s_2.1, s_2.2.2.1)) : Option (Int × (List ((List UInt8) × Int))))).bind fun y_3 =>
        bif (decide (x_8.fKind = 2)) then
          (need (inR .i64 (((mget y_3.2 x_8.fPhys).getD (0 : Int)) - 1)) <|
          need (inR .i64 (s_2.2.1 + 1)) <|
          some (.nx (y_3.1, s_2.2.1 + 1, mput y_3.2 x_8.fPhys (((mget y_3.2 x_8.fPhys).getD (0 : Int)) - 1), x_9.2.2.1, x_9.2.2.2.1, x_9.2.2.2.2.1, x_9.2.2.2.2.2.2.1, x_9.2.2.2.2.2.2.2, x_9.2.2.2.2.2.1)))
        else
          need (inR .i64 (s_2.2.1 + 1)) <|
          some (.nx (y_3.1, s_2.2.1 + 1, y_3.2, x_9.2.2.1, x_9.2.2.2.1, x_9.2.2.2.2.1, x_9.2.2.2.2.2.2.1, x_9.2.2.2.2.2.2.2, x_9.2.2.2.2.2.1)))
    else
      some (.br (s_2.1, s_2.2.2.2.1, s_2.2.2.2.2.1, s_2.2.2.2.2.2.1, s_2.2.2.2.2.2.2.1, s_2.2.2.2.2.2.2.2.1, s_2.2.2.1, s_2.2.2.2.2.2.2.2.2))
def law11_CloudBooks_s3_e (n : Nat) (s_3 : Int) : Option (Lp Int (Sum Int Unit)) :=
    some (.br (.inl s_3))
def law11_CloudBooks_s3_y (n : Nat) (pv_1 : (List UInt8) × Int) (s_3 : Int) : Option (Lp Int (Sum Int Unit)) :=
    bif (decide (pv_1.2 < 0)) then
      (some (.br (.inr ())))
    else
      bif (decide ((1 : Int) < pv_1.2)) then
        (some (.br (.inr ())))
      else
        need (inR .i64 (s_3 + pv_1.2)) <|
        some (.nx (s_3 + pv_1.2))
def law11_CloudBooks_s4 (n : Nat) (y_4 : Int × List TF0 × Int × List TH0 × List TH0 × Int × (List ((List UInt8) × Int)) × (List (Int × TC0))) (x_10 : List TF0 × List TF0 × Int × List TH0 × (List (Int × TC0)) × List TH0 × Int) (s_4 : Int) : Option (Lp Int (Sum Unit Unit)) :=
    bif (decide (s_4 < ((x_10.1.length : Nat) : Int))) then
      ((getI x_10.1 s_4).bind fun x_11 =>
      bif (!(decide (((mget y_4.2.2.2.2.2.2.1 x_11.fPhys).getD (0 : Int)) = 1))) then
        (some (.br (.inl ())))
      else
        need (inR .i64 (s_4 + 1)) <|
        some (.nx (s_4 + 1)))
    else
      some (.br (.inr ()))
def law11_CloudBooks (n : Nat) (d0 : List TA0) : Option Bool :=
  (law11_great n d0).bind fun x_1 =>
  bif x_1 then
    ((law11_wakes n).bind fun x_2 =>
    some ((x_2)))
  else
    (cloud_New n).bind fun x_3 =>
    (loopF (law11_CloudBooks_s1 n d0) n ((0 : Int), ([] : List TF0), (0 : Int), ([] : List TH0), ([] : List TH0), (0 : Int), ([] : List (Int × TC0)))).bind fun y_2 =>
    (cloud_Cloud_Calls n y_2.1 y_2.2.1 y_2.2.2.1 y_2.2.2.2.2.2 y_2.2.2.2.1 y_2.2.2.2.2.1).bind fun x_7 =>
    (loopF (law11_CloudBooks_s2 n x_7) n ((0 : Int), (0 : Int), ([] : List ((List UInt8) × Int)), x_7.2.1, x_7.2.2.1, x_7.2.2.2.1, x_7.2.2.2.2.2.1, x_7.2.2.2.2.2.2, x_7.2.2.2.2.1)).bind fun y_4 =>
    (foldP (law11_CloudBooks_s3_e n) (law11_CloudBooks_s3_y n) y_4.2.2.2.2.2.2.1 (0 : Int)).bind fun b_7 =>
    (match b_7 with 
    | .inl y_5 => (cloud_Cloud_Things n y_4.2.1 y_4.2.2.1 y_4.2.2.2.1 y_4.2.2.2.2.2.2.2 y_4.2.2.2.2.1 y_4.2.2.2.2.2.1).bind fun x_10 =>
      (loopF (law11_CloudBooks_s4 n y_4 x_10) n (0 : Int)).bind fun b_8 =>
      (match b_8 with 
      | .inl y_7 => some ((false)) 
      | .inr y_8 => (cloud_Cloud_Things n x_10.2.1 x_10.2.2.1 x_10.2.2.2.1 x_10.2.2.2.2.1 x_10.2.2.2.2.2.1 x_10.2.2.2.2.2.2).bind fun x_12 =>
        bif (decide (y_5 = ((x_12.1.length : Nat) : Int))) then
          ((cloud_Cloud_Made n x_12.2.1 x_12.2.2.1 x_12.2.2.2.1 x_12.2.2.2.2.1 x_12.2.2.2.2.2.1 x_12.2.2.2.2.2.2).bind fun x_13 =>
          bif (decide (y_4.1 = x_13.1)) then
            ((law11_wakes n).bind fun x_14 =>
            some ((x_14)))
          else
            some ((false)))
        else
          some ((false))) 
    | .inr y_6 => some ((false)))
set_option maxRecDepth 20000 in
theorem law11_CloudBooks_ok (n : Nat) (M : Mem) (hG : GL M) (A0 : Option Addr) (cap0 : Nat) (d0 : List TA0) (h0 : Sli M 7 emb_TA0 A0 cap0 d0) (r : Bool) (hF : law11_CloudBooks n d0 = some r) : Ok Tryd.prog M 7 [.slice A0 d0.length cap0] (fun _ v => v = .bool r) := by
 unfold law11_CloudBooks at hF
 intro M1 hM0 w0 H w p0
 replace hG := GL.mono hM0 hG
 replace h0 := h0.mono hM0
 refine R_enter 131 Tryd.func7 rfl rfl (by simp) fun a0 f0 => RR (Y f0 1 fun _ f => eT (R_seq (RR (Y f 1 fun _ f => ?_))))
 obtain ⟨x_1, hx_1, hF_1⟩ := bS hF
 refine Y18 f p0 (law11_great_ok n _ hG A0 cap0 d0 h0 x_1 hx_1) fun w_1 p_1 _ f => eT (RcF f hF_1 (fun h_1 hF_2 => ?_) fun h_1 hF_4 => ?_)
 ·refine RR ?_
  obtain ⟨x_2, hx_2, hF_3⟩ := bS hF_2
  refine Y18 f p_1 (law11_wakes_ok n _ hG x_2 hx_2) fun w_2 p_2 _ f => Y f 1 fun _ f => eT (wp_ret (T_r (E_ret1 f rfl (by kernel_rfl : Vc.look _ 2 = some (.bool x_2)) ?_)))
  obtain rfl := sI hF_3
  exact ⟨_, rfl, M1, (mR _), p_2, rfl⟩
 ·refine wp_skip (T_n (RR ?_))
  obtain ⟨x_3, hx_3, hF_5⟩ := bS hF_4
  refine Y17 (E := []) (H := (H)) f p_1 (cloud_New_ok n _ hG x_3 hx_3) fun _ M_1 E_1 w_3 hM_1 p_3 q_1 _ f => ?_
  obtain ⟨nb_1, nb_1m0, rfl, rfl⟩ := q_1
  refine Y f 1 fun _ f => eT (R_seq (RR (Y f 3 fun _ f => eT (wp_block ?_))))
  obtain ⟨A_1, cap_1, hv_1⟩ : ∃ A cap, Value.slice none 0 0 = .slice A ([] : List TH0).length cap := ⟨none, 0, rfl⟩
  have p_4 : Hp w0 M_1 ((Ent.row 44 5 (.slice A_1 ([] : List TH0).length cap_1) ([] : List TH0).length []) :: (Ent.obj nb_1 (.cells #[.slice none 0 0, .int .i64 0, .slice A_1 ([] : List TH0).length cap_1, .map (some nb_1m0), .slice none 0 0, .int .i64 0] 74 (0, 0))) :: (Ent.obj nb_1m0 (mapO (Value.int .i64) (fun x : TC0 => Value.agg #[.bool x.fEnded, .bool x.fOk, S x.fPhys]) ([] : List (Int × TC0)))) :: H) w_3 := by rw [← hv_1]; exact p_3.nilRow 44 5
  have hr_1 : RepSeq M_1 (([] : List TH0).map emb_TH0) [] := rfl
  obtain ⟨A_2, cap_2, hv_2⟩ : ∃ A cap, Value.slice none 0 0 = .slice A ([] : List TH0).length cap := ⟨none, 0, rfl⟩
  have p_5 : Hp w0 M_1 ((Ent.row 44 5 (.slice A_2 ([] : List TH0).length cap_2) ([] : List TH0).length []) :: (Ent.row 44 5 (.slice A_1 ([] : List TH0).length cap_1) ([] : List TH0).length []) :: (Ent.obj nb_1 (.cells #[.slice none 0 0, .int .i64 0, .slice A_1 ([] : List TH0).length cap_1, .map (some nb_1m0), .slice A_2 ([] : List TH0).length cap_2, .int .i64 0] 74 (0, 0))) :: (Ent.obj nb_1m0 (mapO (Value.int .i64) (fun x : TC0 => Value.agg #[.bool x.fEnded, .bool x.fOk, S x.fPhys]) ([] : List (Int × TC0)))) :: H) w_3 := by rw [← hv_2]; exact p_4.nilRow 44 5
  have hr_2 : RepSeq M_1 (([] : List TH0).map emb_TH0) [] := rfl
  have p_9 := p_5.pl [2, 3, 2, 3]
  obtain ⟨b_1, hL_1, hF_6⟩ := bS hF_5
  refine wp_mono (Q := fun e a w => (e = .exit 0 ∧ (∃ y_2 : List TF0 × Int × List TH0 × List TH0 × Int × (List (Int × TC0)), b_1 = y_2 ∧ ∃ M_6 : Mem, M_1.le M_6 ∧ ∃ (A_13 : Option Addr), ∃ (cap_13 : Nat), ∃ (A_14 : Option Addr), ∃ (cap_14 : Nat), ∃ (cs_7 : List Value), ∃ (A_15 : Option Addr), ∃ (cap_15 : Nat), ∃ (cs_8 : List Value), Sli M_6 3 emb_TF0 A_13 cap_13 y_2.1 ∧ RepSeq M_6 (y_2.2.2.1.map emb_TH0) cs_7 ∧ RepSeq M_6 (y_2.2.2.2.1.map emb_TH0) cs_8 ∧ Frm 131 [(3, .pointer (some (⟨nb_1, 0, none⟩)))] a ∧ Hp w0 M_6 ((Ent.row 44 5 (.slice A_14 y_2.2.2.1.length cap_14) y_2.2.2.1.length cs_7) :: (Ent.row 44 5 (.slice A_15 y_2.2.2.2.1.length cap_15) y_2.2.2.2.1.length cs_8) :: (Ent.obj nb_1m0 (mapO (Value.int .i64) (fun x : TC0 => Value.agg #[.bool x.fEnded, .bool x.fOk, S x.fPhys]) y_2.2.2.2.2.2)) :: (Ent.obj nb_1 (.cells #[.slice A_13 y_2.1.length cap_13, .int .i64 y_2.2.1, .slice A_14 y_2.2.2.1.length cap_14, .map (some nb_1m0), .slice A_15 y_2.2.2.2.1.length cap_15, .int .i64 y_2.2.2.2.2.1] 74 (0, 0))) :: H) w))) (R_loop (n := 131) (w0 := w0) (M := M_1) (fun (x : Nat × (Int × List TF0 × Int × List TH0 × List TH0 × Int × (List (Int × TC0))) × (Option Addr) × Nat × (Option Addr) × Nat × (List Value) × (Option Addr) × Nat × (List Value)) => match x with | (m_1, s_1, A_3, cap_3, A_4, cap_4, cs_1, A_5, cap_5, cs_2) => [(3, .pointer (some (⟨nb_1, 0, none⟩))), (21, .slice A0 d0.length cap0), (22, .int .i64 ((d0.length : Nat) : Int)), (23, .int .i64 s_1.1)]) (fun (x : Nat × (Int × List TF0 × Int × List TH0 × List TH0 × Int × (List (Int × TC0))) × (Option Addr) × Nat × (Option Addr) × Nat × (List Value) × (Option Addr) × Nat × (List Value)) => match x with | (m_1, s_1, A_3, cap_3, A_4, cap_4, cs_1, A_5, cap_5, cs_2) => ((Ent.row 44 5 (.slice A_4 s_1.2.2.2.1.length cap_4) s_1.2.2.2.1.length cs_1) :: (Ent.row 44 5 (.slice A_5 s_1.2.2.2.2.1.length cap_5) s_1.2.2.2.2.1.length cs_2) :: (Ent.obj nb_1m0 (mapO (Value.int .i64) (fun x : TC0 => Value.agg #[.bool x.fEnded, .bool x.fOk, S x.fPhys]) s_1.2.2.2.2.2.2)) :: (Ent.obj nb_1 (.cells #[.slice A_3 s_1.2.1.length cap_3, .int .i64 s_1.2.2.1, .slice A_4 s_1.2.2.2.1.length cap_4, .map (some nb_1m0), .slice A_5 s_1.2.2.2.2.1.length cap_5, .int .i64 s_1.2.2.2.2.2.1] 74 (0, 0))) :: H)) (fun (x : Nat × (Int × List TF0 × Int × List TH0 × List TH0 × Int × (List (Int × TC0))) × (Option Addr) × Nat × (Option Addr) × Nat × (List Value) × (Option Addr) × Nat × (List Value)) (MM : Mem) => match x with | (m_1, s_1, A_3, cap_3, A_4, cap_4, cs_1, A_5, cap_5, cs_2) => loopF (law11_CloudBooks_s1 n d0) m_1 s_1 = some b_1 ∧ Sli MM 3 emb_TF0 A_3 cap_3 s_1.2.1 ∧ RepSeq MM (s_1.2.2.2.1.map emb_TH0) cs_1 ∧ RepSeq MM (s_1.2.2.2.2.1.map emb_TH0) cs_2) (fun (x : Nat × (Int × List TF0 × Int × List TH0 × List TH0 × Int × (List (Int × TC0))) × (Option Addr) × Nat × (Option Addr) × Nat × (List Value) × (Option Addr) × Nat × (List Value)) => match x with | (m_1, s_1, A_3, cap_3, A_4, cap_4, cs_1, A_5, cap_5, cs_2) => m_1) (n, ((0 : Int), ([] : List TF0), (0 : Int), ([] : List TH0), ([] : List TH0), (0 : Int), ([] : List (Int × TC0))), none, 0, A_1, cap_1, [], A_2, cap_2, []) (f.kp) p_9 ⟨hL_1, Sli.nil, hr_1, hr_2⟩ ?_) ?_
  ·rintro ⟨m_1, s_1, A_3, cap_3, A_4, cap_4, cs_1, A_5, cap_5, cs_2⟩ M_2 _ w_4 hM_2 I_1 f p_10
   obtain ⟨I_1L, h_2, hr_3, hr_4⟩ := I_1
   obtain ⟨m_2, r_1, rfl, hs_1, hn_1⟩ := loop_step I_1L
   unfold law11_CloudBooks_s1 at hs_1
   refine RR (Y f 1 fun _ f => eT (R_seq (RcF f hs_1 (fun h_3 hF_7 => ?_) fun h_3 hF_21 => ?_)))
   ·have k_3 := dI.1 h_3
    refine wp_skip (T_n (R_seq (wp_block (RR ?_))))
    obtain ⟨x_4, hx_4, hF_8⟩ := bS hF_7
    obtain ⟨ad_1, c_1, e_1, -, hr_5, hc_1⟩ := Sli.at_ (h0.mono (hM_1.trans hM_2)) hx_4
    obtain ⟨A_6, cap_6, rfl, h_4⟩ := TA0.opn hr_5
    refine Z f (Y31 e_1 rfl (len := d0.length) (cap := cap0) (k := .i64) (i := s_1.1) (e := 46) (sz := 7) (getI_nn hx_4) (getI_lt hx_4)) fun _ f => Z (v := .agg #[.int .i64 x_4.fDo, .int .i64 x_4.fN, .int .i64 x_4.fX.fToken, .int .i8 x_4.fX.fKind, S x_4.fX.fPhys, S x_4.fX.fType, .slice A_6 x_4.fX.fProps.length cap_6]) f (Y33 (cs := [.int .i64 x_4.fDo, .int .i64 x_4.fN, .int .i64 x_4.fX.fToken, .int .i8 x_4.fX.fKind, S x_4.fX.fPhys, S x_4.fX.fType, .slice A_6 x_4.fX.fProps.length cap_6]) rfl (ad := ad_1.add (s_1.1.toNat * 7)) (fun j v h => p_10.cell (hc_1 j v h))) fun _ f => Y12 f p_10 (.cells #[.int .i64 0, .int .i64 0, .int .i64 0, .int .i8 0, S [], S [], .slice none 0 0] 46 (0, 0)) fun b_2 w_5 p_11 _ f => Y27 (vs := [.int .i64 x_4.fDo, .int .i64 x_4.fN, .int .i64 x_4.fX.fToken, .int .i8 x_4.fX.fKind, S x_4.fX.fPhys, S x_4.fX.fType, .slice A_6 x_4.fX.fProps.length cap_6]) (j := 0) f p_11 rfl rfl (by simp [Value.oneCell', S]) (by simp) (by decide) (cs' := #[.int .i64 x_4.fDo, .int .i64 x_4.fN, .int .i64 x_4.fX.fToken, .int .i8 x_4.fX.fKind, S x_4.fX.fPhys, S x_4.fX.fType, .slice A_6 x_4.fX.fProps.length cap_6]) (by kernel_rfl) fun w_6 p_12 _ f => eT (RR (Y f 1 fun _ f => Z f (Y32 (v := .int .i64 x_4.fDo) rfl (ad := ⟨b_2, 0, none⟩) (p_12.ownCell 0 rfl 0)) fun _ f => eT (wp_block (RR (Y f 2 fun _ f => eT (RcF f hF_8 (fun h_5 hF_9 => ?_) fun h_5 hF_12 => ?_))))))
    ·have k_4 := dI.1 h_5
     refine R_reg (Y f 2 fun _ f => Z (v := .agg #[.int .i64 x_4.fX.fToken, .int .i8 x_4.fX.fKind, S x_4.fX.fPhys, S x_4.fX.fType, .slice A_6 x_4.fX.fProps.length cap_6]) f (Y33 (cs := [.int .i64 x_4.fX.fToken, .int .i8 x_4.fX.fKind, S x_4.fX.fPhys, S x_4.fX.fType, .slice A_6 x_4.fX.fProps.length cap_6]) rfl (ad := ⟨b_2, 2, none⟩) (own_cells (p_12.ownCell 0 rfl) 2 rfl)) fun _ f => ?_)
     obtain ⟨x_5, hx_5, hF_10⟩ := bS hF_9
     have p_17 := p_12.pl [2, 3, 3, 4]
     refine Y17 (E := [Ent.obj nb_1 (.cells #[.slice A_3 s_1.2.1.length cap_3, .int .i64 s_1.2.2.1, .slice A_4 s_1.2.2.2.1.length cap_4, .map (some nb_1m0), .slice A_5 s_1.2.2.2.2.1.length cap_5, .int .i64 s_1.2.2.2.2.2.1] 74 (0, 0)), Ent.row 44 5 (.slice A_4 s_1.2.2.2.1.length cap_4) s_1.2.2.2.1.length cs_1, Ent.obj nb_1m0 (mapO (Value.int .i64) (fun x : TC0 => Value.agg #[.bool x.fEnded, .bool x.fOk, S x.fPhys]) s_1.2.2.2.2.2.2), Ent.row 44 5 (.slice A_5 s_1.2.2.2.2.1.length cap_5) s_1.2.2.2.2.1.length cs_2]) (H := ((Ent.obj b_2 (.cells #[.int .i64 x_4.fDo, .int .i64 x_4.fN, .int .i64 x_4.fX.fToken, .int .i8 x_4.fX.fKind, S x_4.fX.fPhys, S x_4.fX.fType, .slice A_6 x_4.fX.fProps.length cap_6] 46 (0, 0))) :: H)) f p_17 (cloud_Cloud_Submit_ok n _ (GL.mono (hM_1.trans hM_2) hG) nb_1 s_1.2.1 A_3 cap_3 h_2 s_1.2.2.1 s_1.2.2.2.1 A_4 cap_4 cs_1 hr_3 nb_1m0 s_1.2.2.2.2.2.2 s_1.2.2.2.2.1 A_5 cap_5 cs_2 hr_4 s_1.2.2.2.2.2.1 _ (⟨x_4.fX.fToken, x_4.fX.fKind, x_4.fX.fPhys, x_4.fX.fType, x_4.fX.fProps⟩ : TH0) (TH0.shut h_4) x_5 hx_5) fun _ M_3 E_2 w_7 hM_3 p_13 q_2 _ f => ?_
     obtain ⟨A_7, cap_7, A_8, cap_8, cs_3, A_9, cap_9, cs_4, rfl, rfl, h_6, hr_6, hr_7⟩ := q_2
     refine W_end rfl (B_n (B_n (T_n (R_reg ?_))))
     obtain ⟨g_1, hF_11⟩ := nS hF_10
     refine Y f 1 fun _ f => ?_
     have f := f.st 45 (congrArg (Value.int .i64) (inR_wrap g_1))
     refine Y f 1 fun _ f => W_end rfl ?_
     have p_28 := p_13.pl [2, 3, 3, 4]
     refine T_n ?_
     obtain rfl := sI hF_11
     exact ⟨⟨m_2, (s_1.1 + 1, x_5.2.1, x_5.2.2.1, x_5.2.2.2.1, x_5.2.2.2.2.2.1, x_5.2.2.2.2.2.2, x_5.2.2.2.2.1), A_7, cap_7, A_8, cap_8, cs_3, A_9, cap_9, cs_4⟩, Nat.lt_succ_self _, M_3, (hM_2.trans hM_3), ⟨hn_1, h_6, hr_6, hr_7⟩, f.kp, (p_28.dropN 1)⟩
    ·have k_5 := iff_f dI h_5
     refine R_seq (RR (Y f 2 fun _ f => eT ?_))
     obtain ⟨j_1, hj_1, hF_13⟩ := bS hF_12
     refine R_mid (fun a_25 w_8 => ∃ y_1 : Bool, j_1 = y_1 ∧ ∃ M_4 : Mem, M_2.le M_4 ∧ Frm 131 [(3, .pointer (some (⟨nb_1, 0, none⟩))), (5, .pointer (some (⟨b_2, 0, none⟩))), (21, .slice A0 d0.length cap0), (22, .int .i64 ((d0.length : Nat) : Int)), (23, .int .i64 s_1.1), (35, .bool y_1)] a_25 ∧ Hp w0 M_4 ((Ent.obj b_2 (.cells #[.int .i64 x_4.fDo, .int .i64 x_4.fN, .int .i64 x_4.fX.fToken, .int .i8 x_4.fX.fKind, S x_4.fX.fPhys, S x_4.fX.fType, .slice A_6 x_4.fX.fProps.length cap_6] 46 (0, 0))) :: (Ent.row 44 5 (.slice A_4 s_1.2.2.2.1.length cap_4) s_1.2.2.2.1.length cs_1) :: (Ent.row 44 5 (.slice A_5 s_1.2.2.2.2.1.length cap_5) s_1.2.2.2.2.1.length cs_2) :: (Ent.obj nb_1m0 (mapO (Value.int .i64) (fun x : TC0 => Value.agg #[.bool x.fEnded, .bool x.fOk, S x.fPhys]) s_1.2.2.2.2.2.2)) :: (Ent.obj nb_1 (.cells #[.slice A_3 s_1.2.1.length cap_3, .int .i64 s_1.2.2.1, .slice A_4 s_1.2.2.2.1.length cap_4, .map (some nb_1m0), .slice A_5 s_1.2.2.2.2.1.length cap_5, .int .i64 s_1.2.2.2.2.2.1] 74 (0, 0))) :: H) w_8) ?_ ?_
     ·refine RcF f hj_1 (fun h_7 hF_14 => ?_) fun h_7 hF_15 => ?_
      ·have k_6 := dI.1 h_7
       refine wp_skip (T_n ?_)
       exact ⟨(decide (x_4.fDo = 1)), (sI hF_14).symm, M_2, (mR _), f.kp, p_12⟩
      ·have k_7 := iff_f dI h_7
       refine R_reg (Y f 2 fun _ f => eT ?_)
       exact ⟨(decide (x_4.fDo = 2)), (sI hF_15).symm, M_2, (mR _), f.kp, p_12⟩
     ·rintro a_25 w_8 ⟨y_1, hq_1, M_4, hM_4, f, p_18⟩
      subst j_1
      refine T_n (RcF f hF_13 (fun h_8 hF_16 => ?_) fun h_8 hF_19 => ?_)
      ·refine R_reg (Y f 2 fun _ f => Z f (Y32 (v := .int .i64 x_4.fN) rfl (ad := ⟨b_2, 1, none⟩) (p_18.ownCell 0 rfl 1)) fun _ f => Y f 1 fun _ f => Z f (Y32 (v := .int .i64 x_4.fDo) rfl (ad := ⟨b_2, 0, none⟩) (p_18.ownCell 0 rfl 0)) fun _ f => Y f 1 fun _ f => ?_)
       obtain ⟨x_6, hx_6, hF_17⟩ := bS hF_16
       have p_23 := p_18.pl [2, 3, 3, 4]
       refine Y17 (E := [Ent.obj nb_1 (.cells #[.slice A_3 s_1.2.1.length cap_3, .int .i64 s_1.2.2.1, .slice A_4 s_1.2.2.2.1.length cap_4, .map (some nb_1m0), .slice A_5 s_1.2.2.2.2.1.length cap_5, .int .i64 s_1.2.2.2.2.2.1] 74 (0, 0)), Ent.row 44 5 (.slice A_4 s_1.2.2.2.1.length cap_4) s_1.2.2.2.1.length cs_1, Ent.obj nb_1m0 (mapO (Value.int .i64) (fun x : TC0 => Value.agg #[.bool x.fEnded, .bool x.fOk, S x.fPhys]) s_1.2.2.2.2.2.2), Ent.row 44 5 (.slice A_5 s_1.2.2.2.2.1.length cap_5) s_1.2.2.2.2.1.length cs_2]) (H := ((Ent.obj b_2 (.cells #[.int .i64 x_4.fDo, .int .i64 x_4.fN, .int .i64 x_4.fX.fToken, .int .i8 x_4.fX.fKind, S x_4.fX.fPhys, S x_4.fX.fType, .slice A_6 x_4.fX.fProps.length cap_6] 46 (0, 0))) :: H)) f p_23 (cloud_Cloud_End_ok n _ (GL.mono ((hM_1.trans hM_2).trans hM_4) hG) nb_1 s_1.2.1 A_3 cap_3 (h_2.mono hM_4) s_1.2.2.1 s_1.2.2.2.1 A_4 cap_4 cs_1 (RepSeq.mono hM_4 _ _ hr_3) nb_1m0 s_1.2.2.2.2.2.2 s_1.2.2.2.2.1 A_5 cap_5 cs_2 (RepSeq.mono hM_4 _ _ hr_4) s_1.2.2.2.2.2.1 x_4.fN (decide (x_4.fDo = 1)) x_6 hx_6) fun _ M_5 E_3 w_9 hM_5 p_19 q_3 _ f => ?_
       obtain ⟨c_2, A_10, cap_10, A_11, cap_11, cs_5, A_12, cap_12, cs_6, rfl, rfl, hr_8, h_9, hr_9, hr_10⟩ := q_3
       obtain rfl := TC0.opn hr_8
       refine W_end rfl (B_n (B_n (T_n (R_reg ?_))))
       obtain ⟨g_2, hF_18⟩ := nS hF_17
       refine Y f 1 fun _ f => ?_
       have f := f.st 45 (congrArg (Value.int .i64) (inR_wrap g_2))
       refine Y f 1 fun _ f => W_end rfl ?_
       have p_32 := p_19.pl [2, 3, 3, 4]
       refine T_n ?_
       obtain rfl := sI hF_18
       exact ⟨⟨m_2, (s_1.1 + 1, x_6.2.2.2.1, x_6.2.2.2.2.1, x_6.2.2.2.2.2.1, x_6.2.2.2.2.2.2.2.1, x_6.2.2.2.2.2.2.2.2, x_6.2.2.2.2.2.2.1), A_10, cap_10, A_11, cap_11, cs_5, A_12, cap_12, cs_6⟩, Nat.lt_succ_self _, M_5, ((hM_2.trans hM_4).trans hM_5), ⟨hn_1, h_9, hr_9, hr_10⟩, f.kp, (p_32.dropN 1)⟩
      ·refine wp_skip (B_n (B_n (T_n (R_reg ?_))))
       obtain ⟨g_3, hF_20⟩ := nS hF_19
       refine Y f 1 fun _ f => ?_
       have f := f.st 45 (congrArg (Value.int .i64) (inR_wrap g_3))
       refine Y f 1 fun _ f => eT ?_
       obtain rfl := sI hF_20
       exact ⟨⟨m_2, (s_1.1 + 1, s_1.2.1, s_1.2.2.1, s_1.2.2.2.1, s_1.2.2.2.2.1, s_1.2.2.2.2.2.1, s_1.2.2.2.2.2.2), A_3, cap_3, A_4, cap_4, cs_1, A_5, cap_5, cs_2⟩, Nat.lt_succ_self _, M_4, (hM_2.trans hM_4), ⟨hn_1, (h_2.mono hM_4), (RepSeq.mono hM_4 _ _ hr_3), (RepSeq.mono hM_4 _ _ hr_4)⟩, f.kp, (p_18.dropN 1)⟩
   ·have k_10 := iff_f dI h_3
    refine wp_exit (T_x (T_x ?_))
    obtain rfl := sI hF_21
    exact ⟨rfl, (s_1.2.1, s_1.2.2.1, s_1.2.2.2.1, s_1.2.2.2.2.1, s_1.2.2.2.2.2.1, s_1.2.2.2.2.2.2), (sI hn_1).symm, M_2, hM_2, A_3, cap_3, A_4, cap_4, cs_1, A_5, cap_5, cs_2, h_2, hr_3, hr_4, f.kp, p_10⟩
  ·rintro _ _ w_11 ⟨rfl, y_2, hq_, M_6, hM_6, A_13, cap_13, A_14, cap_14, cs_7, A_15, cap_15, cs_8, h_10, hr_11, hr_12, f, p_24⟩
   subst b_1
   refine B_x (T_n (RR (W_newmap S (Value.int .i64) f p_24 (by kernel_rfl) (by kernel_rfl) rfl rfl rfl fun bm_1 w_12 p_33 _ f => Y f 1 fun _ f => eT (RR (Y f 1 fun _ f => eT (R_seq (RR (Y f 1 fun _ f => ?_))))))))
   obtain ⟨x_7, hx_7, hF_22⟩ := bS hF_6
   have p_38 := p_33.pl [2, 3, 3, 4]
   refine Y17 (E := [Ent.obj nb_1 (.cells #[.slice A_13 y_2.1.length cap_13, .int .i64 y_2.2.1, .slice A_14 y_2.2.2.1.length cap_14, .map (some nb_1m0), .slice A_15 y_2.2.2.2.1.length cap_15, .int .i64 y_2.2.2.2.2.1] 74 (0, 0)), Ent.row 44 5 (.slice A_14 y_2.2.2.1.length cap_14) y_2.2.2.1.length cs_7, Ent.obj nb_1m0 (mapO (Value.int .i64) (fun x : TC0 => Value.agg #[.bool x.fEnded, .bool x.fOk, S x.fPhys]) y_2.2.2.2.2.2), Ent.row 44 5 (.slice A_15 y_2.2.2.2.1.length cap_15) y_2.2.2.2.1.length cs_8]) (H := ((Ent.obj bm_1 (mapO S (Value.int .i64) ([] : List ((List UInt8) × Int)))) :: H)) f p_38 (cloud_Cloud_Calls_ok n _ (GL.mono (hM_1.trans hM_6) hG) nb_1 y_2.1 A_13 cap_13 h_10 y_2.2.1 y_2.2.2.1 A_14 cap_14 cs_7 hr_11 nb_1m0 y_2.2.2.2.2.2 y_2.2.2.2.1 A_15 cap_15 cs_8 hr_12 y_2.2.2.2.2.1 x_7 hx_7) fun _ M_7 E_4 w_13 hM_7 p_34 q_4 _ f => ?_
   obtain ⟨A_16, cap_16, cs_9, A_17, cap_17, A_18, cap_18, cs_10, A_19, cap_19, cs_11, rfl, rfl, hr_13, h_11, hr_14, hr_15⟩ := q_4
   refine Y f 2 fun _ f => eT (wp_block ?_)
   have p_44 := p_34.pl [1, 1, 3, 4, 4, 5]
   obtain ⟨b_3, hL_2, hF_23⟩ := bS hF_22
   refine wp_mono (Q := fun e a w => (e = .exit 3 ∧ (∃ y_4 : Int × List TF0 × Int × List TH0 × List TH0 × Int × (List ((List UInt8) × Int)) × (List (Int × TC0)), b_3 = y_4 ∧ ∃ M_11 : Mem, M_7.le M_11 ∧ ∃ (A_27 : Option Addr), ∃ (cap_28 : Nat), ∃ (A_28 : Option Addr), ∃ (cap_29 : Nat), ∃ (cs_16 : List Value), ∃ (A_29 : Option Addr), ∃ (cap_30 : Nat), ∃ (cs_17 : List Value), Sli M_11 3 emb_TF0 A_27 cap_28 y_4.2.1 ∧ RepSeq M_11 (y_4.2.2.2.1.map emb_TH0) cs_16 ∧ RepSeq M_11 (y_4.2.2.2.2.1.map emb_TH0) cs_17 ∧ Frm 131 [(3, .pointer (some (⟨nb_1, 0, none⟩))), (6, .map (some bm_1)), (7, .int .i64 y_4.1)] a ∧ Hp w0 M_11 ((Ent.row 44 5 (.slice A_28 y_4.2.2.2.1.length cap_29) y_4.2.2.2.1.length cs_16) :: (Ent.row 44 5 (.slice A_29 y_4.2.2.2.2.1.length cap_30) y_4.2.2.2.2.1.length cs_17) :: (Ent.obj bm_1 (mapO S (Value.int .i64) y_4.2.2.2.2.2.2.1)) :: (Ent.obj nb_1m0 (mapO (Value.int .i64) (fun x : TC0 => Value.agg #[.bool x.fEnded, .bool x.fOk, S x.fPhys]) y_4.2.2.2.2.2.2.2)) :: (Ent.row 44 5 (.slice A_16 x_7.1.length cap_16) x_7.1.length cs_9) :: (Ent.obj nb_1 (.cells #[.slice A_27 y_4.2.1.length cap_28, .int .i64 y_4.2.2.1, .slice A_28 y_4.2.2.2.1.length cap_29, .map (some nb_1m0), .slice A_29 y_4.2.2.2.2.1.length cap_30, .int .i64 y_4.2.2.2.2.2.1] 74 (0, 0))) :: H) w))) (R_loop (n := 131) (w0 := w0) (M := M_7) (fun (x : Nat × (Int × Int × (List ((List UInt8) × Int)) × List TF0 × Int × List TH0 × List TH0 × Int × (List (Int × TC0))) × (Option Addr) × Nat × (Option Addr) × Nat × (List Value) × (Option Addr) × Nat × (List Value)) => match x with | (m_3, s_2, A_20, cap_20, A_21, cap_21, cs_12, A_22, cap_22, cs_13) => [(3, .pointer (some (⟨nb_1, 0, none⟩))), (6, .map (some bm_1)), (7, .int .i64 s_2.1), (48, .slice A_16 x_7.1.length cap_16), (49, .int .i64 ((x_7.1.length : Nat) : Int)), (50, .int .i64 s_2.2.1)]) (fun (x : Nat × (Int × Int × (List ((List UInt8) × Int)) × List TF0 × Int × List TH0 × List TH0 × Int × (List (Int × TC0))) × (Option Addr) × Nat × (Option Addr) × Nat × (List Value) × (Option Addr) × Nat × (List Value)) => match x with | (m_3, s_2, A_20, cap_20, A_21, cap_21, cs_12, A_22, cap_22, cs_13) => ((Ent.obj bm_1 (mapO S (Value.int .i64) s_2.2.2.1)) :: (Ent.row 44 5 (.slice A_21 s_2.2.2.2.2.2.1.length cap_21) s_2.2.2.2.2.2.1.length cs_12) :: (Ent.row 44 5 (.slice A_22 s_2.2.2.2.2.2.2.1.length cap_22) s_2.2.2.2.2.2.2.1.length cs_13) :: (Ent.obj nb_1m0 (mapO (Value.int .i64) (fun x : TC0 => Value.agg #[.bool x.fEnded, .bool x.fOk, S x.fPhys]) s_2.2.2.2.2.2.2.2.2)) :: (Ent.row 44 5 (.slice A_16 x_7.1.length cap_16) x_7.1.length cs_9) :: (Ent.obj nb_1 (.cells #[.slice A_20 s_2.2.2.2.1.length cap_20, .int .i64 s_2.2.2.2.2.1, .slice A_21 s_2.2.2.2.2.2.1.length cap_21, .map (some nb_1m0), .slice A_22 s_2.2.2.2.2.2.2.1.length cap_22, .int .i64 s_2.2.2.2.2.2.2.2.1] 74 (0, 0))) :: H)) (fun (x : Nat × (Int × Int × (List ((List UInt8) × Int)) × List TF0 × Int × List TH0 × List TH0 × Int × (List (Int × TC0))) × (Option Addr) × Nat × (Option Addr) × Nat × (List Value) × (Option Addr) × Nat × (List Value)) (MM : Mem) => match x with | (m_3, s_2, A_20, cap_20, A_21, cap_21, cs_12, A_22, cap_22, cs_13) => loopF (law11_CloudBooks_s2 n x_7) m_3 s_2 = some b_3 ∧ Sli MM 3 emb_TF0 A_20 cap_20 s_2.2.2.2.1 ∧ RepSeq MM (s_2.2.2.2.2.2.1.map emb_TH0) cs_12 ∧ RepSeq MM (s_2.2.2.2.2.2.2.1.map emb_TH0) cs_13) (fun (x : Nat × (Int × Int × (List ((List UInt8) × Int)) × List TF0 × Int × List TH0 × List TH0 × Int × (List (Int × TC0))) × (Option Addr) × Nat × (Option Addr) × Nat × (List Value) × (Option Addr) × Nat × (List Value)) => match x with | (m_3, s_2, A_20, cap_20, A_21, cap_21, cs_12, A_22, cap_22, cs_13) => m_3) (n, ((0 : Int), (0 : Int), ([] : List ((List UInt8) × Int)), x_7.2.1, x_7.2.2.1, x_7.2.2.2.1, x_7.2.2.2.2.2.1, x_7.2.2.2.2.2.2, x_7.2.2.2.2.1), A_17, cap_17, A_18, cap_18, cs_10, A_19, cap_19, cs_11) (f.kp) p_44 ⟨hL_2, h_11, hr_14, hr_15⟩ ?_) ?_
   ·rintro ⟨m_3, s_2, A_20, cap_20, A_21, cap_21, cs_12, A_22, cap_22, cs_13⟩ M_8 _ w_14 hM_8 I_2 f p_45
    obtain ⟨I_2L, h_12, hr_16, hr_17⟩ := I_2
    obtain ⟨m_4, r_2, rfl, hs_2, hn_2⟩ := loop_step I_2L
    unfold law11_CloudBooks_s2 at hs_2
    refine RR (Y f 1 fun _ f => eT (R_seq (RcF f hs_2 (fun h_13 hF_24 => ?_) fun h_13 hF_40 => ?_)))
    ·have k_11 := dI.1 h_13
     refine wp_skip (T_n (R_seq (wp_block (RR ?_))))
     obtain ⟨x_8, hx_8, hF_25⟩ := bS hF_24
     obtain ⟨b_4, cap_23, hv_3, hcap_1⟩ := p_45.rowAddr 4 rfl (getI_pos hx_8)
     have f := f.st 48 (hv_3)
     refine Z f (Y30 rfl (ad := ⟨b_4, 0, none⟩) (len := x_7.1.length) (cap := cap_23) (k := .i64) (i := s_2.2.1) (e := 44) (sz := 5) (getI_nn hx_8) (getI_lt hx_8)) fun _ f => ?_
     have f := f.st 48 (hv_3.symm)
     obtain ⟨c_3, -, hr_18, hc_2⟩ := RepSeq.get s_2.2.1.toNat (szd_all szd_TH0) (RepSeq.mono hM_8 _ _ hr_13) (getI_map hx_8)
     obtain ⟨A_23, cap_24, rfl, h_14⟩ := TH0.opn hr_18
     refine Z (v := .agg #[.int .i64 x_8.fToken, .int .i8 x_8.fKind, S x_8.fPhys, S x_8.fType, .slice A_23 x_8.fProps.length cap_24]) f (Y33 (cs := [.int .i64 x_8.fToken, .int .i8 x_8.fKind, S x_8.fPhys, S x_8.fType, .slice A_23 x_8.fProps.length cap_24]) rfl (ad := (⟨b_4, 0, none⟩ : Addr).add (s_2.2.1.toNat * 5)) (fun j v h => row_at (p_45.rowCell 4 rfl hv_3) hc_2 j v h)) fun _ f => Y12 f p_45 (.cells #[.int .i64 0, .int .i8 0, S [], S [], .slice none 0 0] 44 (0, 0)) fun b_5 w_15 p_46 _ f => Y27 (vs := [.int .i64 x_8.fToken, .int .i8 x_8.fKind, S x_8.fPhys, S x_8.fType, .slice A_23 x_8.fProps.length cap_24]) (j := 0) f p_46 rfl rfl (by simp [Value.oneCell', S]) (by simp) (by decide) (cs' := #[.int .i64 x_8.fToken, .int .i8 x_8.fKind, S x_8.fPhys, S x_8.fType, .slice A_23 x_8.fProps.length cap_24]) (by kernel_rfl) fun w_16 p_47 _ f => eT (RR (Y f 2 fun _ f => Z f (Y32 (v := .int .i64 x_8.fToken) rfl (ad := ⟨b_5, 0, none⟩) (p_47.ownCell 0 rfl 0)) fun _ f => ?_))
     obtain ⟨x_9, hx_9, hF_26⟩ := bS hF_25
     have p_52 := p_47.pl [3, 4, 4, 6]
     refine Y17 (E := [Ent.obj nb_1 (.cells #[.slice A_20 s_2.2.2.2.1.length cap_20, .int .i64 s_2.2.2.2.2.1, .slice A_21 s_2.2.2.2.2.2.1.length cap_21, .map (some nb_1m0), .slice A_22 s_2.2.2.2.2.2.2.1.length cap_22, .int .i64 s_2.2.2.2.2.2.2.2.1] 74 (0, 0)), Ent.row 44 5 (.slice A_21 s_2.2.2.2.2.2.1.length cap_21) s_2.2.2.2.2.2.1.length cs_12, Ent.obj nb_1m0 (mapO (Value.int .i64) (fun x : TC0 => Value.agg #[.bool x.fEnded, .bool x.fOk, S x.fPhys]) s_2.2.2.2.2.2.2.2.2), Ent.row 44 5 (.slice A_22 s_2.2.2.2.2.2.2.1.length cap_22) s_2.2.2.2.2.2.2.1.length cs_13]) (H := ((Ent.obj b_5 (.cells #[.int .i64 x_8.fToken, .int .i8 x_8.fKind, S x_8.fPhys, S x_8.fType, .slice A_23 x_8.fProps.length cap_24] 44 (0, 0))) :: (Ent.obj bm_1 (mapO S (Value.int .i64) s_2.2.2.1)) :: (Ent.row 44 5 (.slice A_16 x_7.1.length cap_16) x_7.1.length cs_9) :: H)) f p_52 (cloud_Cloud_Ask_ok n _ (GL.mono (((hM_1.trans hM_6).trans hM_7).trans hM_8) hG) nb_1 s_2.2.2.2.1 A_20 cap_20 h_12 s_2.2.2.2.2.1 s_2.2.2.2.2.2.1 A_21 cap_21 cs_12 hr_16 nb_1m0 s_2.2.2.2.2.2.2.2.2 s_2.2.2.2.2.2.2.1 A_22 cap_22 cs_13 hr_17 s_2.2.2.2.2.2.2.2.1 x_8.fToken x_9 hx_9) fun _ M_9 E_5 w_17 hM_9 p_48 q_5 _ f => ?_
     obtain ⟨c_4, A_24, cap_25, A_25, cap_26, cs_14, A_26, cap_27, cs_15, rfl, rfl, hr_19, h_15, hr_20, hr_21⟩ := q_5
     obtain rfl := TC0.opn hr_19
     refine Y f 3 fun _ f => Y12 f p_48 (.cells #[.bool false, .bool false, S []] 49 (0, 0)) fun b_6 w_18 p_53 _ f => Y27 (vs := [.bool x_9.1.fEnded, .bool x_9.1.fOk, S x_9.1.fPhys]) (j := 0) f p_53 rfl rfl (by simp [Value.oneCell', S]) (by simp) (by decide) (cs' := #[.bool x_9.1.fEnded, .bool x_9.1.fOk, S x_9.1.fPhys]) (by kernel_rfl) fun w_19 p_54 _ f => Y f 1 fun _ f => eT (R_seq (RR (Y f 1 fun _ f => Z f (Y32 (v := .bool x_9.1.fOk) rfl (ad := ⟨b_6, 1, none⟩) (p_54.ownCell 0 rfl 1)) fun _ f => Y f 1 fun _ f => eT (RcF f hF_26 (fun h_16 hF_27 => ?_) fun h_16 hF_29 => ?_))))
     ·have k_12 : (x_9.1.fOk) = false := by simpa using h_16
      refine wp_exit (T_x (B_x (T_n (R_reg ?_))))
      obtain ⟨g_4, hF_28⟩ := nS hF_27
      refine Y f 1 fun _ f => ?_
      have f := f.st 88 (congrArg (Value.int .i64) (inR_wrap g_4))
      refine Y f 1 fun _ f => W_end rfl ?_
      have p_75 := p_54.pl [1, 7, 4, 5, 5, 7, 7, 7]
      refine T_n ?_
      obtain rfl := sI hF_28
      exact ⟨⟨m_4, (s_2.1, s_2.2.1 + 1, s_2.2.2.1, x_9.2.2.1, x_9.2.2.2.1, x_9.2.2.2.2.1, x_9.2.2.2.2.2.2.1, x_9.2.2.2.2.2.2.2, x_9.2.2.2.2.2.1), A_24, cap_25, A_25, cap_26, cs_14, A_26, cap_27, cs_15⟩, Nat.lt_succ_self _, M_9, (hM_8.trans hM_9), ⟨hn_2, h_15, hr_20, hr_21⟩, f.kp, (p_75.dropN 2)⟩
     ·have k_13 : (x_9.1.fOk) = true := by simpa using h_16
      refine wp_skip (T_n (R_seq (RR (Y f 1 fun _ f => Z f (Y32 (v := .int .i8 x_8.fKind) rfl (ad := ⟨b_5, 1, none⟩) (p_54.ownCell 5 rfl 1)) fun _ f => Y f 1 fun _ f => eT ?_))))
      obtain ⟨j_2, hj_2, hF_30⟩ := bS hF_29
      refine R_mid (fun a_75 w_21 => ∃ y_3 : Int × (List ((List UInt8) × Int)), j_2 = y_3 ∧ ∃ M_10 : Mem, M_9.le M_10 ∧ Frm 131 [(3, .pointer (some (⟨nb_1, 0, none⟩))), (6, .map (some bm_1)), (7, .int .i64 y_3.1), (9, .pointer (some (⟨b_5, 0, none⟩))), (48, .slice A_16 x_7.1.length cap_16), (49, .int .i64 ((x_7.1.length : Nat) : Int)), (50, .int .i64 s_2.2.1)] a_75 ∧ Hp w0 M_10 ((Ent.obj bm_1 (mapO S (Value.int .i64) y_3.2)) :: (Ent.obj b_6 (.cells #[.bool x_9.1.fEnded, .bool x_9.1.fOk, S x_9.1.fPhys] 49 (0, 0))) :: (Ent.obj nb_1 (.cells #[.slice A_24 x_9.2.2.1.length cap_25, .int .i64 x_9.2.2.2.1, .slice A_25 x_9.2.2.2.2.1.length cap_26, .map (some nb_1m0), .slice A_26 x_9.2.2.2.2.2.2.1.length cap_27, .int .i64 x_9.2.2.2.2.2.2.2] 74 (0, 0))) :: (Ent.row 44 5 (.slice A_25 x_9.2.2.2.2.1.length cap_26) x_9.2.2.2.2.1.length cs_14) :: (Ent.obj nb_1m0 (mapO (Value.int .i64) (fun x : TC0 => Value.agg #[.bool x.fEnded, .bool x.fOk, S x.fPhys]) x_9.2.2.2.2.2.1)) :: (Ent.row 44 5 (.slice A_26 x_9.2.2.2.2.2.2.1.length cap_27) x_9.2.2.2.2.2.2.1.length cs_15) :: (Ent.obj b_5 (.cells #[.int .i64 x_8.fToken, .int .i8 x_8.fKind, S x_8.fPhys, S x_8.fType, .slice A_23 x_8.fProps.length cap_24] 44 (0, 0))) :: (Ent.row 44 5 (.slice A_16 x_7.1.length cap_16) x_7.1.length cs_9) :: H) w_21) ?_ ?_
      ·refine RcF f hj_2 (fun h_17 hF_31 => ?_) fun h_17 hF_34 => ?_
       ·have k_14 := dI.1 h_17
        refine RR (Y f 1 fun _ f => ?_)
        obtain ⟨g_5, hF_32⟩ := nS hF_31
        refine Y f 1 fun _ f => ?_
        have f := f.st 68 (congrArg (Value.int .i64) (inR_wrap g_5))
        refine Y f 1 fun _ f => eT (R_reg (Y f 2 fun _ f => Z f (Y32 (v := S x_9.1.fPhys) rfl (ad := ⟨b_6, 2, none⟩) (p_54.ownCell 0 rfl 2)) fun _ f => Y f 2 fun _ f => Z f (Y32 (v := S x_9.1.fPhys) rfl (ad := ⟨b_6, 2, none⟩) (p_54.ownCell 0 rfl 2)) fun _ f => Z (v := .int .i64 ((mget s_2.2.2.1 x_9.1.fPhys).getD (0 : Int))) f (X_lookup1 (ek := S) (ev := (Value.int .i64)) (m := s_2.2.2.1) (k := x_9.1.fPhys) (z := (0 : Int)) (kt := 9) (et := 3) rfl (by kernel_rfl) (by kernel_rfl) (by kernel_rfl) (strKey (by kernel_rfl)) (by kernel_rfl) (p_54.ownObj 6 rfl)) fun _ f => ?_))
        obtain ⟨g_6, hF_33⟩ := nS hF_32
        refine Y f 1 fun _ f => ?_
        have f := f.st 76 (congrArg (Value.int .i64) (inR_wrap g_6))
        have p_55 := p_54.pl [6]
        refine W_mapput (ek := S) (ev := (Value.int .i64)) (m := s_2.2.2.1) (k := x_9.1.fPhys) (v := (((mget s_2.2.2.1 x_9.1.fPhys).getD (0 : Int)) + 1)) (kt := 9) (et := 3) f p_55 (by kernel_rfl) (by kernel_rfl) rfl (.inl rfl) (by kernel_rfl) (by kernel_rfl) (by kernel_rfl) (by kernel_rfl) (strKey (by kernel_rfl)) fun w_20 p_56 _ f => eT ?_
        exact ⟨(s_2.1 + 1, mput s_2.2.2.1 x_9.1.fPhys (((mget s_2.2.2.1 x_9.1.fPhys).getD (0 : Int)) + 1)), (sI hF_33).symm, M_9, (mR _), f.kp, p_56⟩
       ·have k_15 := iff_f dI h_17
        refine wp_skip ?_
        have p_65 := p_54.pl [7, 6, 6, 6, 6, 6, 6, 7]
        refine T_n ?_
        exact ⟨(s_2.1, s_2.2.2.1), (sI hF_34).symm, M_9, (mR _), f.kp, p_65⟩
      ·rintro a_75 w_21 ⟨y_3, hq_2, M_10, hM_10, f, p_57⟩
       subst j_2
       refine T_n (RR (Y f 1 fun _ f => Z f (Y32 (v := .int .i8 x_8.fKind) rfl (ad := ⟨b_5, 1, none⟩) (p_57.ownCell 6 rfl 1)) fun _ f => Y f 1 fun _ f => eT (RcF f hF_30 (fun h_18 hF_35 => ?_) fun h_18 hF_38 => ?_)))
       ·have k_16 := dI.1 h_18
        refine R_reg (Y f 2 fun _ f => Z f (Y32 (v := S x_8.fPhys) rfl (ad := ⟨b_5, 2, none⟩) (p_57.ownCell 6 rfl 2)) fun _ f => Y f 2 fun _ f => Z f (Y32 (v := S x_8.fPhys) rfl (ad := ⟨b_5, 2, none⟩) (p_57.ownCell 6 rfl 2)) fun _ f => Z (v := .int .i64 ((mget y_3.2 x_8.fPhys).getD (0 : Int))) f (X_lookup1 (ek := S) (ev := (Value.int .i64)) (m := y_3.2) (k := x_8.fPhys) (z := (0 : Int)) (kt := 9) (et := 3) rfl (by kernel_rfl) (by kernel_rfl) (by kernel_rfl) (strKey (by kernel_rfl)) (by kernel_rfl) (p_57.ownObj 0 rfl)) fun _ f => ?_)
        obtain ⟨g_7, hF_36⟩ := nS hF_35
        refine Y f 1 fun _ f => ?_
        have f := f.st 87 (congrArg (Value.int .i64) (inR_wrap g_7))
        refine W_mapput (ek := S) (ev := (Value.int .i64)) (m := y_3.2) (k := x_8.fPhys) (v := (((mget y_3.2 x_8.fPhys).getD (0 : Int)) - 1)) (kt := 9) (et := 3) f p_57 (by kernel_rfl) (by kernel_rfl) rfl (.inl rfl) (by kernel_rfl) (by kernel_rfl) (by kernel_rfl) (by kernel_rfl) (strKey (by kernel_rfl)) fun w_22 p_66 _ f => W_end rfl (B_n (T_n (R_reg ?_)))
        obtain ⟨g_8, hF_37⟩ := nS hF_36
        refine Y f 1 fun _ f => ?_
        have f := f.st 88 (congrArg (Value.int .i64) (inR_wrap g_8))
        refine Y f 1 fun _ f => W_end rfl ?_
        have p_83 := p_66.pl [2, 7, 5, 6, 6, 5, 7, 7]
        refine T_n ?_
        obtain rfl := sI hF_37
        exact ⟨⟨m_4, (y_3.1, s_2.2.1 + 1, mput y_3.2 x_8.fPhys (((mget y_3.2 x_8.fPhys).getD (0 : Int)) - 1), x_9.2.2.1, x_9.2.2.2.1, x_9.2.2.2.2.1, x_9.2.2.2.2.2.2.1, x_9.2.2.2.2.2.2.2, x_9.2.2.2.2.2.1), A_24, cap_25, A_25, cap_26, cs_14, A_26, cap_27, cs_15⟩, Nat.lt_succ_self _, M_10, ((hM_8.trans hM_9).trans hM_10), ⟨hn_2, (h_15.mono hM_10), (RepSeq.mono hM_10 _ _ hr_20), (RepSeq.mono hM_10 _ _ hr_21)⟩, f.kp, (p_83.dropN 2)⟩
       ·have k_17 := iff_f dI h_18
        refine wp_skip (B_n (T_n (R_reg ?_)))
        obtain ⟨g_9, hF_39⟩ := nS hF_38
        refine Y f 1 fun _ f => ?_
        have f := f.st 88 (congrArg (Value.int .i64) (inR_wrap g_9))
        refine Y f 1 fun _ f => W_end rfl ?_
        have p_91 := p_57.pl [2, 7, 5, 6, 6, 5, 7, 7]
        refine T_n ?_
        obtain rfl := sI hF_39
        exact ⟨⟨m_4, (y_3.1, s_2.2.1 + 1, y_3.2, x_9.2.2.1, x_9.2.2.2.1, x_9.2.2.2.2.1, x_9.2.2.2.2.2.2.1, x_9.2.2.2.2.2.2.2, x_9.2.2.2.2.2.1), A_24, cap_25, A_25, cap_26, cs_14, A_26, cap_27, cs_15⟩, Nat.lt_succ_self _, M_10, ((hM_8.trans hM_9).trans hM_10), ⟨hn_2, (h_15.mono hM_10), (RepSeq.mono hM_10 _ _ hr_20), (RepSeq.mono hM_10 _ _ hr_21)⟩, f.kp, (p_91.dropN 2)⟩
    ·have k_18 := iff_f dI h_13
     refine wp_exit (T_x ?_)
     have p_97 := p_45.pl [5, 5, 5, 3, 5, 5]
     refine T_x ?_
     obtain rfl := sI hF_40
     exact ⟨rfl, (s_2.1, s_2.2.2.2.1, s_2.2.2.2.2.1, s_2.2.2.2.2.2.1, s_2.2.2.2.2.2.2.1, s_2.2.2.2.2.2.2.2.1, s_2.2.2.1, s_2.2.2.2.2.2.2.2.2), (sI hn_2).symm, M_8, hM_8, A_20, cap_20, A_21, cap_21, cs_12, A_22, cap_22, cs_13, h_12, hr_16, hr_17, f.kp, p_97⟩
   ·rintro _ _ w_24 ⟨rfl, y_4, hq_, M_11, hM_11, A_27, cap_28, A_28, cap_29, cs_16, A_29, cap_30, cs_17, h_19, hr_22, hr_23, f, p_67⟩
    subst b_3
    refine B_x (T_n (RR (Y f 1 fun _ f => eT (R_seq (RR (Y f 1 fun _ f => ?_))))))
    have p_98 := p_67.pl [2]
    obtain ⟨M_12, hM_12, p_99, h_20⟩ := p_98.fzObj
    refine W_rangeM (kt := 9) (et := 3) (.inl ⟨_, rfl, h_20⟩) f p_99 (by kernel_rfl) (by kernel_rfl) rfl rfl rfl (by kernel_rfl) (by kernel_rfl) fun r_3 w_25 p_100 _ f => eT (wp_block ?_)
    obtain ⟨b_7, hL_3, hF_41⟩ := bS hF_23
    refine wp_mono (Q := fun e a w => (e = .exit 5 ∧ (∃ y_5 : Int, b_7 = .inl y_5 ∧ ∃ M_14 : Mem, M_12.le M_14 ∧ Frm 131 [(3, .pointer (some (⟨nb_1, 0, none⟩))), (6, .map (some bm_1)), (7, .int .i64 y_4.1), (12, .int .i64 y_5)] a ∧ Hp w0 M_14 ((Ent.row 44 5 (.slice A_28 y_4.2.2.2.1.length cap_29) y_4.2.2.2.1.length cs_16) :: (Ent.row 44 5 (.slice A_29 y_4.2.2.2.2.1.length cap_30) y_4.2.2.2.2.1.length cs_17) :: (Ent.obj nb_1m0 (mapO (Value.int .i64) (fun x : TC0 => Value.agg #[.bool x.fEnded, .bool x.fOk, S x.fPhys]) y_4.2.2.2.2.2.2.2)) :: (Ent.row 44 5 (.slice A_16 x_7.1.length cap_16) x_7.1.length cs_9) :: (Ent.obj nb_1 (.cells #[.slice A_27 y_4.2.1.length cap_28, .int .i64 y_4.2.2.1, .slice A_28 y_4.2.2.2.1.length cap_29, .map (some nb_1m0), .slice A_29 y_4.2.2.2.2.1.length cap_30, .int .i64 y_4.2.2.2.2.2.1] 74 (0, 0))) :: H) w)) ∨ (e = .ret ∧ (∃ y_6 : Unit, b_7 = .inr y_6 ∧ ∃ M_15 : Mem, M_12.le M_15 ∧ Frm 131 [(2, .bool false)] a ∧ Hp w0 M_15 ((Ent.row 44 5 (.slice A_28 y_4.2.2.2.1.length cap_29) y_4.2.2.2.1.length cs_16) :: (Ent.row 44 5 (.slice A_29 y_4.2.2.2.2.1.length cap_30) y_4.2.2.2.2.1.length cs_17) :: (Ent.obj nb_1m0 (mapO (Value.int .i64) (fun x : TC0 => Value.agg #[.bool x.fEnded, .bool x.fOk, S x.fPhys]) y_4.2.2.2.2.2.2.2)) :: (Ent.row 44 5 (.slice A_16 x_7.1.length cap_16) x_7.1.length cs_9) :: (Ent.obj nb_1 (.cells #[.slice A_27 y_4.2.1.length cap_28, .int .i64 y_4.2.2.1, .slice A_28 y_4.2.2.2.1.length cap_29, .map (some nb_1m0), .slice A_29 y_4.2.2.2.2.1.length cap_30, .int .i64 y_4.2.2.2.2.2.1] 74 (0, 0))) :: H) w))) (R_loop (n := 131) (w0 := w0) (M := M_12) (fun (x : Int × (Array Nat)) => match x with | (s_3, sn_1) => [(3, .pointer (some (⟨nb_1, 0, none⟩))), (6, .map (some bm_1)), (7, .int .i64 y_4.1), (12, .int .i64 s_3), (90, .pointer (some (⟨r_3, 0, none⟩)))]) (fun (x : Int × (Array Nat)) => match x with | (s_3, sn_1) => ((Ent.obj r_3 (.mapIter (some bm_1) y_4.2.2.2.2.2.2.1.length sn_1 y_4.2.2.2.2.2.2.1.length)) :: (Ent.row 44 5 (.slice A_28 y_4.2.2.2.1.length cap_29) y_4.2.2.2.1.length cs_16) :: (Ent.row 44 5 (.slice A_29 y_4.2.2.2.2.1.length cap_30) y_4.2.2.2.2.1.length cs_17) :: (Ent.obj nb_1m0 (mapO (Value.int .i64) (fun x : TC0 => Value.agg #[.bool x.fEnded, .bool x.fOk, S x.fPhys]) y_4.2.2.2.2.2.2.2)) :: (Ent.row 44 5 (.slice A_16 x_7.1.length cap_16) x_7.1.length cs_9) :: (Ent.obj nb_1 (.cells #[.slice A_27 y_4.2.1.length cap_28, .int .i64 y_4.2.2.1, .slice A_28 y_4.2.2.2.1.length cap_29, .map (some nb_1m0), .slice A_29 y_4.2.2.2.2.1.length cap_30, .int .i64 y_4.2.2.2.2.2.1] 74 (0, 0))) :: H)) (fun (x : Int × (Array Nat)) (MM : Mem) => match x with | (s_3, sn_1) => (∀ l, l.Perm (leftD y_4.2.2.2.2.2.2.1 sn_1) → foldO (law11_CloudBooks_s3_e n) (law11_CloudBooks_s3_y n) l s_3 = some b_7)) (fun (x : Int × (Array Nat)) => match x with | (s_3, sn_1) => (leftD y_4.2.2.2.2.2.2.1 sn_1).length) ((0 : Int), #[]) (f.kp) p_100 (foldP_start hL_3) ?_) ?_
    ·rintro ⟨s_3, sn_1⟩ M_13 _ w_26 hM_13 I_3 f p_101
     have I_3L := I_3
     refine RR (W_nextM (.inl ⟨_, rfl, (hM_13 _ _ h_20)⟩) f p_101 (by kernel_rfl) (by kernel_rfl) rfl rfl rfl (by kernel_rfl) (fun ho_1 w_27 p_102 _ f => ?_) fun pv_1 j_3 hj_3 w_28 p_103 _ f => ?_)
     ·obtain ⟨r_4, hs_3, hn_3⟩ := foldO_end I_3L ho_1
      unfold law11_CloudBooks_s3_e at hs_3
      refine Y f 1 fun _ f => eT (R_seq (Y7 f (wp_exit (T_x (T_x ?_)))))
      obtain rfl := sI hs_3
      exact .inl ⟨rfl, s_3, (sI hn_3).symm, M_13, hM_13, f.kp, (p_102.dropN 1)⟩
     ·obtain ⟨r_4, hs_3, hn_3⟩ := foldO_go hj_3 I_3L
      unfold law11_CloudBooks_s3_y at hs_3
      refine Y f 1 fun _ f => eT (R_seq (Y8 f (wp_skip (T_n (wp_block (RR (Z (v := .tuple #[S pv_1.1, .int .i64 pv_1.2]) f (X_entryM (m := y_4.2.2.2.2.2.2.1) (.inl ⟨_, rfl, (hM_13 _ _ h_20)⟩) p_103 hj_3 0 rfl rfl (by kernel_rfl)) fun _ f => Y f 2 fun _ f => eT (R_seq (RR (Y f 3 fun _ f => ?_))))))))))
      rcases cE hs_3 with ⟨h_21, hF_42⟩ | ⟨h_21, hF_43⟩
      ·have k_19 := dI.1 h_21
       have f := f.st 97 (cB h_21)
       refine Y f 3 fun _ f => eT (Y8 f (RR (Y f 1 fun _ f => eT (wp_ret (T_r (B_r (T_r ?_)))))))
       obtain rfl := sI hF_42
       exact .inr ⟨rfl, (), (sI hn_3).symm, M_13, hM_13, f.kp, (p_103.dropN 1)⟩
      ·have k_20 := iff_f dI h_21
       have f := f.st 97 (cB h_21)
       refine Y f 3 fun _ f => eT (RcF f hF_43 (fun h_22 hF_44 => ?_) fun h_22 hF_45 => ?_)
       ·have k_21 := dI.1 h_22
        refine RR (Y f 1 fun _ f => eT (wp_ret (T_r (B_r (T_r ?_)))))
        obtain rfl := sI hF_44
        exact .inr ⟨rfl, (), (sI hn_3).symm, M_13, hM_13, f.kp, (p_103.dropN 1)⟩
       ·have k_22 := iff_f dI h_22
        refine wp_skip (T_n (R_reg (Y f 2 fun _ f => ?_)))
        obtain ⟨g_10, hF_46⟩ := nS hF_45
        refine Y f 1 fun _ f => ?_
        have f := f.st 103 (congrArg (Value.int .i64) (inR_wrap g_10))
        refine Y f 1 fun _ f => W_end rfl (B_n (T_n ?_))
        obtain rfl := sI hF_46
        exact ⟨⟨s_3 + pv_1.2, sn_1.push j_3⟩, leftD_lt hj_3, M_13, hM_13, hn_3, f.kp, p_103⟩
    ·rintro _ _ w_31 (⟨rfl, y_5, rfl, M_14, hM_14, f, p_104⟩ | ⟨rfl, y_6, rfl, M_15, hM_15, f, p_105⟩)
     ·refine B_x (T_n (R_seq (RR (Y f 1 fun _ f => ?_))))
      obtain ⟨x_10, hx_10, hF_47⟩ := bS hF_41
      have p_110 := p_104.pl [1, 2, 2, 4]
      refine Y17 (E := [Ent.obj nb_1 (.cells #[.slice A_27 y_4.2.1.length cap_28, .int .i64 y_4.2.2.1, .slice A_28 y_4.2.2.2.1.length cap_29, .map (some nb_1m0), .slice A_29 y_4.2.2.2.2.1.length cap_30, .int .i64 y_4.2.2.2.2.2.1] 74 (0, 0)), Ent.row 44 5 (.slice A_28 y_4.2.2.2.1.length cap_29) y_4.2.2.2.1.length cs_16, Ent.obj nb_1m0 (mapO (Value.int .i64) (fun x : TC0 => Value.agg #[.bool x.fEnded, .bool x.fOk, S x.fPhys]) y_4.2.2.2.2.2.2.2), Ent.row 44 5 (.slice A_29 y_4.2.2.2.2.1.length cap_30) y_4.2.2.2.2.1.length cs_17]) (H := ((Ent.row 44 5 (.slice A_16 x_7.1.length cap_16) x_7.1.length cs_9) :: H)) f p_110 (cloud_Cloud_Things_ok n _ (GL.mono (((((hM_1.trans hM_6).trans hM_7).trans hM_11).trans hM_12).trans hM_14) hG) nb_1 y_4.2.1 A_27 cap_28 (h_19.mono (hM_12.trans hM_14)) y_4.2.2.1 y_4.2.2.2.1 A_28 cap_29 cs_16 (RepSeq.mono (hM_12.trans hM_14) _ _ hr_22) nb_1m0 y_4.2.2.2.2.2.2.2 y_4.2.2.2.2.1 A_29 cap_30 cs_17 (RepSeq.mono (hM_12.trans hM_14) _ _ hr_23) y_4.2.2.2.2.2.1 x_10 hx_10) fun _ M_16 E_6 w_32 hM_16 p_106 q_6 _ f => ?_
      obtain ⟨A_30, cap_31, cs_18, A_31, cap_32, A_32, cap_33, cs_19, A_33, cap_34, cs_20, rfl, rfl, hr_24, h_23, hr_25, hr_26⟩ := q_6
      refine Y f 2 fun _ f => eT (wp_block ?_)
      obtain ⟨b_8, hL_4, hF_48⟩ := bS hF_47
      refine wp_mono (Q := fun e a w => (e = .ret ∧ (∃ y_7 : Unit, b_8 = .inl y_7 ∧ ∃ M_18 : Mem, M_16.le M_18 ∧ Frm 131 [(2, .bool false)] a ∧ Hp w0 M_18 ((Ent.row 60 3 (.slice A_30 x_10.1.length cap_31) x_10.1.length cs_18) :: (Ent.obj nb_1 (.cells #[.slice A_31 x_10.2.1.length cap_32, .int .i64 x_10.2.2.1, .slice A_32 x_10.2.2.2.1.length cap_33, .map (some nb_1m0), .slice A_33 x_10.2.2.2.2.2.1.length cap_34, .int .i64 x_10.2.2.2.2.2.2] 74 (0, 0))) :: (Ent.row 44 5 (.slice A_32 x_10.2.2.2.1.length cap_33) x_10.2.2.2.1.length cs_19) :: (Ent.obj nb_1m0 (mapO (Value.int .i64) (fun x : TC0 => Value.agg #[.bool x.fEnded, .bool x.fOk, S x.fPhys]) x_10.2.2.2.2.1)) :: (Ent.row 44 5 (.slice A_33 x_10.2.2.2.2.2.1.length cap_34) x_10.2.2.2.2.2.1.length cs_20) :: (Ent.row 44 5 (.slice A_16 x_7.1.length cap_16) x_7.1.length cs_9) :: H) w)) ∨ (e = .exit 7 ∧ (∃ y_8 : Unit, b_8 = .inr y_8 ∧ ∃ M_19 : Mem, M_16.le M_19 ∧ Frm 131 [(3, .pointer (some (⟨nb_1, 0, none⟩))), (7, .int .i64 y_4.1), (12, .int .i64 y_5)] a ∧ Hp w0 M_19 ((Ent.row 60 3 (.slice A_30 x_10.1.length cap_31) x_10.1.length cs_18) :: (Ent.obj nb_1 (.cells #[.slice A_31 x_10.2.1.length cap_32, .int .i64 x_10.2.2.1, .slice A_32 x_10.2.2.2.1.length cap_33, .map (some nb_1m0), .slice A_33 x_10.2.2.2.2.2.1.length cap_34, .int .i64 x_10.2.2.2.2.2.2] 74 (0, 0))) :: (Ent.row 44 5 (.slice A_32 x_10.2.2.2.1.length cap_33) x_10.2.2.2.1.length cs_19) :: (Ent.obj nb_1m0 (mapO (Value.int .i64) (fun x : TC0 => Value.agg #[.bool x.fEnded, .bool x.fOk, S x.fPhys]) x_10.2.2.2.2.1)) :: (Ent.row 44 5 (.slice A_33 x_10.2.2.2.2.2.1.length cap_34) x_10.2.2.2.2.2.1.length cs_20) :: (Ent.row 44 5 (.slice A_16 x_7.1.length cap_16) x_7.1.length cs_9) :: H) w))) (R_loop (n := 131) (w0 := w0) (M := M_16) (fun (x : Nat × Int) => match x with | (m_7, s_4) => [(3, .pointer (some (⟨nb_1, 0, none⟩))), (6, .map (some bm_1)), (7, .int .i64 y_4.1), (12, .int .i64 y_5), (105, .slice A_30 x_10.1.length cap_31), (106, .int .i64 ((x_10.1.length : Nat) : Int)), (107, .int .i64 s_4)]) (fun (x : Nat × Int) => match x with | (m_7, s_4) => ((Ent.row 60 3 (.slice A_30 x_10.1.length cap_31) x_10.1.length cs_18) :: (Ent.obj nb_1 (.cells #[.slice A_31 x_10.2.1.length cap_32, .int .i64 x_10.2.2.1, .slice A_32 x_10.2.2.2.1.length cap_33, .map (some nb_1m0), .slice A_33 x_10.2.2.2.2.2.1.length cap_34, .int .i64 x_10.2.2.2.2.2.2] 74 (0, 0))) :: (Ent.row 44 5 (.slice A_32 x_10.2.2.2.1.length cap_33) x_10.2.2.2.1.length cs_19) :: (Ent.obj nb_1m0 (mapO (Value.int .i64) (fun x : TC0 => Value.agg #[.bool x.fEnded, .bool x.fOk, S x.fPhys]) x_10.2.2.2.2.1)) :: (Ent.row 44 5 (.slice A_33 x_10.2.2.2.2.2.1.length cap_34) x_10.2.2.2.2.2.1.length cs_20) :: (Ent.row 44 5 (.slice A_16 x_7.1.length cap_16) x_7.1.length cs_9) :: H)) (fun (x : Nat × Int) (MM : Mem) => match x with | (m_7, s_4) => loopF (law11_CloudBooks_s4 n y_4 x_10) m_7 s_4 = some b_8) (fun (x : Nat × Int) => match x with | (m_7, s_4) => m_7) (n, (0 : Int)) (f.kp) p_106 hL_4 ?_) ?_
      ·rintro ⟨m_7, s_4⟩ M_17 _ w_33 hM_17 I_4 f p_111
       have I_4L := I_4
       obtain ⟨m_8, r_5, rfl, hs_4, hn_4⟩ := loop_step I_4L
       unfold law11_CloudBooks_s4 at hs_4
       refine RR (Y f 1 fun _ f => eT (R_seq (RcF f hs_4 (fun h_24 hF_49 => ?_) fun h_24 hF_54 => ?_)))
       ·have k_23 := dI.1 h_24
        refine wp_skip (T_n (R_seq (wp_block (RR ?_))))
        obtain ⟨x_11, hx_11, hF_50⟩ := bS hF_49
        obtain ⟨b_9, cap_35, hv_4, hcap_2⟩ := p_111.rowAddr 0 rfl (getI_pos hx_11)
        have f := f.st 105 (hv_4)
        refine Z f (Y30 rfl (ad := ⟨b_9, 0, none⟩) (len := x_10.1.length) (cap := cap_35) (k := .i64) (i := s_4) (e := 60) (sz := 3) (getI_nn hx_11) (getI_lt hx_11)) fun _ f => ?_
        have f := f.st 105 (hv_4.symm)
        obtain ⟨c_5, -, hr_27, hc_3⟩ := RepSeq.get s_4.toNat (szd_all szd_TF0) (RepSeq.mono hM_17 _ _ hr_24) (getI_map hx_11)
        obtain ⟨A_34, cap_36, rfl, h_25⟩ := TF0.opn hr_27
        refine Z (v := .agg #[S x_11.fPhys, S x_11.fType, .slice A_34 x_11.fProps.length cap_36]) f (Y33 (cs := [S x_11.fPhys, S x_11.fType, .slice A_34 x_11.fProps.length cap_36]) rfl (ad := (⟨b_9, 0, none⟩ : Addr).add (s_4.toNat * 3)) (fun j v h => row_at (p_111.rowCell 0 rfl hv_4) hc_3 j v h)) fun _ f => Y12 f p_111 (.cells #[S [], S [], .slice none 0 0] 60 (0, 0)) fun b_10 w_34 p_112 _ f => Y27 (vs := [S x_11.fPhys, S x_11.fType, .slice A_34 x_11.fProps.length cap_36]) (j := 0) f p_112 rfl rfl (by simp [Value.oneCell', S]) (by simp) (by decide) (cs' := #[S x_11.fPhys, S x_11.fType, .slice A_34 x_11.fProps.length cap_36]) (by kernel_rfl) fun w_35 p_113 _ f => eT (RR (Y f 2 fun _ f => Z f (Y32 (v := S x_11.fPhys) rfl (ad := ⟨b_10, 0, none⟩) (p_113.ownCell 0 rfl 0)) fun _ f => Z (v := .int .i64 ((mget y_4.2.2.2.2.2.2.1 x_11.fPhys).getD (0 : Int))) f (X_lookup1 (ek := S) (ev := (Value.int .i64)) (m := y_4.2.2.2.2.2.2.1) (k := x_11.fPhys) (z := (0 : Int)) (kt := 9) (et := 3) rfl (by kernel_rfl) (by kernel_rfl) (by kernel_rfl) (strKey (by kernel_rfl)) (by kernel_rfl) (p_113.mem _ _ (((hM_14.trans hM_16).trans hM_17) _ _ h_20))) fun _ f => Y f 1 fun _ f => eT (RcF f hF_50 (fun h_26 hF_51 => ?_) fun h_26 hF_52 => ?_)))
        ·have k_24 : ¬ (((mget y_4.2.2.2.2.2.2.1 x_11.fPhys).getD (0 : Int)) = 1) := (not_iff dI).1 h_26
         refine RR (Y f 1 fun _ f => eT (wp_ret (B_r (T_r (T_r ?_)))))
         obtain rfl := sI hF_51
         exact .inl ⟨rfl, (), (sI hn_4).symm, M_17, hM_17, f.kp, (p_113.dropN 1)⟩
        ·have k_25 : ¬ (¬ (((mget y_4.2.2.2.2.2.2.1 x_11.fPhys).getD (0 : Int)) = 1)) := iff_f (not_iff dI) h_26
         refine wp_skip (B_n (T_n (R_reg ?_)))
         obtain ⟨g_11, hF_53⟩ := nS hF_52
         refine Y f 1 fun _ f => ?_
         have f := f.st 116 (congrArg (Value.int .i64) (inR_wrap g_11))
         refine Y f 1 fun _ f => eT ?_
         obtain rfl := sI hF_53
         exact ⟨⟨m_8, s_4 + 1⟩, Nat.lt_succ_self _, M_17, hM_17, hn_4, f.kp, (p_113.dropN 1)⟩
       ·have k_26 := iff_f dI h_24
        refine wp_exit (T_x (T_x ?_))
        obtain rfl := sI hF_54
        exact .inr ⟨rfl, (), (sI hn_4).symm, M_17, hM_17, f.kp, p_111⟩
      ·rintro _ _ w_38 (⟨rfl, y_7, rfl, M_18, hM_18, f, p_114⟩ | ⟨rfl, y_8, rfl, M_19, hM_19, f, p_115⟩)
       ·refine B_r (T_r (E_ret1 f rfl (by kernel_rfl : Vc.look _ 2 = some (.bool false)) ?_))
        obtain rfl := sI hF_48
        exact ⟨_, rfl, M_18, (((((((hM_1.trans hM_6).trans hM_7).trans hM_11).trans hM_12).trans hM_14).trans hM_16).trans hM_18), (p_114.dropN 6), rfl⟩
       ·refine B_x (T_n (RR (Y f 2 fun _ f => ?_)))
        obtain ⟨x_12, hx_12, hF_55⟩ := bS hF_48
        have p_120 := p_115.pl [4, 4, 4, 4]
        refine Y17 (E := [Ent.obj nb_1 (.cells #[.slice A_31 x_10.2.1.length cap_32, .int .i64 x_10.2.2.1, .slice A_32 x_10.2.2.2.1.length cap_33, .map (some nb_1m0), .slice A_33 x_10.2.2.2.2.2.1.length cap_34, .int .i64 x_10.2.2.2.2.2.2] 74 (0, 0)), Ent.row 44 5 (.slice A_32 x_10.2.2.2.1.length cap_33) x_10.2.2.2.1.length cs_19, Ent.obj nb_1m0 (mapO (Value.int .i64) (fun x : TC0 => Value.agg #[.bool x.fEnded, .bool x.fOk, S x.fPhys]) x_10.2.2.2.2.1), Ent.row 44 5 (.slice A_33 x_10.2.2.2.2.2.1.length cap_34) x_10.2.2.2.2.2.1.length cs_20]) (H := ((Ent.row 60 3 (.slice A_30 x_10.1.length cap_31) x_10.1.length cs_18) :: (Ent.row 44 5 (.slice A_16 x_7.1.length cap_16) x_7.1.length cs_9) :: H)) f p_120 (cloud_Cloud_Things_ok n _ (GL.mono (((((((hM_1.trans hM_6).trans hM_7).trans hM_11).trans hM_12).trans hM_14).trans hM_16).trans hM_19) hG) nb_1 x_10.2.1 A_31 cap_32 (h_23.mono hM_19) x_10.2.2.1 x_10.2.2.2.1 A_32 cap_33 cs_19 (RepSeq.mono hM_19 _ _ hr_25) nb_1m0 x_10.2.2.2.2.1 x_10.2.2.2.2.2.1 A_33 cap_34 cs_20 (RepSeq.mono hM_19 _ _ hr_26) x_10.2.2.2.2.2.2 x_12 hx_12) fun _ M_20 E_7 w_39 hM_20 p_116 q_7 _ f => ?_
        obtain ⟨A_35, cap_37, cs_21, A_36, cap_38, A_37, cap_39, cs_22, A_38, cap_40, cs_23, rfl, rfl, hr_28, h_27, hr_29, hr_30⟩ := q_7
        refine Y f 3 fun _ f => ?_
        rcases cE hF_55 with ⟨h_28, hF_56⟩ | ⟨h_28, hF_61⟩
        ·have k_27 := dI.1 h_28
         have f := f.st 122 (cB h_28)
         refine Y f 2 fun _ f => ?_
         obtain ⟨x_13, hx_13, hF_57⟩ := bS hF_56
         have p_125 := p_116.pl [4, 4, 4, 4]
         refine Y17 (E := [Ent.obj nb_1 (.cells #[.slice A_36 x_12.2.1.length cap_38, .int .i64 x_12.2.2.1, .slice A_37 x_12.2.2.2.1.length cap_39, .map (some nb_1m0), .slice A_38 x_12.2.2.2.2.2.1.length cap_40, .int .i64 x_12.2.2.2.2.2.2] 74 (0, 0)), Ent.row 44 5 (.slice A_37 x_12.2.2.2.1.length cap_39) x_12.2.2.2.1.length cs_22, Ent.obj nb_1m0 (mapO (Value.int .i64) (fun x : TC0 => Value.agg #[.bool x.fEnded, .bool x.fOk, S x.fPhys]) x_12.2.2.2.2.1), Ent.row 44 5 (.slice A_38 x_12.2.2.2.2.2.1.length cap_40) x_12.2.2.2.2.2.1.length cs_23]) (H := ((Ent.row 60 3 (.slice A_35 x_12.1.length cap_37) x_12.1.length cs_21) :: (Ent.row 60 3 (.slice A_30 x_10.1.length cap_31) x_10.1.length cs_18) :: (Ent.row 44 5 (.slice A_16 x_7.1.length cap_16) x_7.1.length cs_9) :: H)) f p_125 (cloud_Cloud_Made_ok n _ (GL.mono ((((((((hM_1.trans hM_6).trans hM_7).trans hM_11).trans hM_12).trans hM_14).trans hM_16).trans hM_19).trans hM_20) hG) nb_1 x_12.2.1 A_36 cap_38 h_27 x_12.2.2.1 x_12.2.2.2.1 A_37 cap_39 cs_22 hr_29 nb_1m0 x_12.2.2.2.2.1 x_12.2.2.2.2.2.1 A_38 cap_40 cs_23 hr_30 x_12.2.2.2.2.2.2 x_13 hx_13) fun _ M_21 E_8 w_40 hM_21 p_121 q_8 _ f => ?_
         obtain ⟨A_39, cap_41, A_40, cap_42, cs_24, A_41, cap_43, cs_25, rfl, rfl, h_29, hr_31, hr_32⟩ := q_8
         refine Y f 3 fun _ f => ?_
         rcases cE hF_57 with ⟨h_30, hF_58⟩ | ⟨h_30, hF_60⟩
         ·have k_28 := dI.1 h_30
          have f := f.st 128 (cB h_30)
          obtain ⟨x_14, hx_14, hF_59⟩ := bS hF_58
          refine Y18 f p_121 (law11_wakes_ok n _ (GL.mono (((((((((hM_1.trans hM_6).trans hM_7).trans hM_11).trans hM_12).trans hM_14).trans hM_16).trans hM_19).trans hM_20).trans hM_21) hG) x_14 hx_14) fun w_41 p_126 _ f => Y f 2 fun _ f => eT (wp_ret (E_ret1 f rfl (by kernel_rfl : Vc.look _ 2 = some (.bool x_14)) ?_))
          obtain rfl := sI hF_59
          exact ⟨_, rfl, M_21, (((((((((hM_1.trans hM_6).trans hM_7).trans hM_11).trans hM_12).trans hM_14).trans hM_16).trans hM_19).trans hM_20).trans hM_21), (p_126.dropN 7), rfl⟩
         ·have k_29 := iff_f dI h_30
          have f := f.st 128 (cB h_30)
          refine Y f 3 fun _ f => eT (wp_ret (E_ret1 f rfl (by kernel_rfl : Vc.look _ 2 = some (.bool false)) ?_))
          obtain rfl := sI hF_60
          exact ⟨_, rfl, M_21, (((((((((hM_1.trans hM_6).trans hM_7).trans hM_11).trans hM_12).trans hM_14).trans hM_16).trans hM_19).trans hM_20).trans hM_21), (p_121.dropN 7), rfl⟩
        ·have k_30 := iff_f dI h_28
         have f := f.st 122 (cB h_28)
         refine Y f 9 fun _ f => eT (wp_ret (E_ret1 f rfl (by kernel_rfl : Vc.look _ 2 = some (.bool false)) ?_))
         obtain rfl := sI hF_61
         exact ⟨_, rfl, M_20, ((((((((hM_1.trans hM_6).trans hM_7).trans hM_11).trans hM_12).trans hM_14).trans hM_16).trans hM_19).trans hM_20), (p_116.dropN 7), rfl⟩
     ·refine B_r (T_r (E_ret1 f rfl (by kernel_rfl : Vc.look _ 2 = some (.bool false)) ?_))
      obtain rfl := sI hF_41
      exact ⟨_, rfl, M_15, (((((hM_1.trans hM_6).trans hM_7).trans hM_11).trans hM_12).trans hM_15), (p_105.dropN 5), rfl⟩
theorem ask_run {n : Nat} {c : CS} {t : Int} : cloud_Cloud_Ask n c.L c.made c.calls c.ans c.inn c.good t = some ((mget c.ans t).getD z_TC0, (mget c.ans t).isSome, c.tup) := rfl
theorem calls_run {n : Nat} {c : CS} (hc : c.calls.length ≤ 1000) : cloud_Cloud_Calls n c.L c.made c.calls c.ans c.inn c.good = some (c.calls, c.tup) := by
 unfold cloud_Cloud_Calls
 rw [need_t (by omega)]; rfl
def actC (c : CS) (x : TA0) : CS := if x.fDo = 0 then (submitC c x.fX).2 else if x.fDo = 1 ∨ x.fDo = 2 then (endC c x.fN (decide (x.fDo = 1))).2.2.2 else c
theorem OkC.act {m : Nat} {c : CS} (h : OkC m c) (hm : m < 200) {x : TA0} (hp : GoodP x.fX.fProps) : OkC (m + 1) (actC c x) := by
 unfold actC
 split
 ·exact h.submit hp
 ·split
  ·exact h.end_ hm _ _
  ·exact h.le (by omega)
def actsC (c : CS) (l : List TA0) : CS := l.foldl actC c
theorem actsC_take {l : List TA0} {k : Nat} (hk : k < l.length) (c : CS) : actsC c (l.take (k + 1)) = actC (actsC c (l.take k)) l[k] := by
 unfold actsC
 rw [List.take_add_one, List.getElem?_eq_getElem hk, List.foldl_append]; rfl
theorem OkC.acts {l : List TA0} (hl : l.length ≤ 100) (hp : ∀ x ∈ l, GoodP x.fX.fProps) : ∀ k, k ≤ l.length → OkC k (actsC new11 (l.take k))
 | 0, _ => OkC.new
 | k + 1, hk => by
  rw [actsC_take (by omega)]
  exact (OkC.acts hl hp k (by omega)).act (by omega) (hp _ (List.getElem_mem (by omega)))
theorem tupE {c : CS} : c.tup = (c.L, c.made, c.calls, c.ans, c.inn, c.good) := rfl
section
variable {V : Type}
theorem mget_none11 : ∀ {m : List (Int × V)} {k : Int}, mget m k = none ↔ k ∉ m.map (·.1)
 | [], k => by simp [mget]
 | p :: r, k => by
  unfold mget
  by_cases h : p.1 = k
  ·simp [h]
  ·rw [if_neg h, mget_none11 (m := r)]
   simp only [List.map_cons, List.mem_cons, not_or]
   exact ⟨fun h2 => ⟨fun e => h e.symm, h2⟩, fun h2 => h2.2⟩
theorem mput_keys11 : ∀ (m : List (Int × V)) (k : Int) (v : V), (mput m k v).map (·.1) = if k ∈ m.map (·.1) then m.map (·.1) else m.map (·.1) ++ [k]
 | [], k, v => by simp [mput]
 | p :: r, k, v => by
  unfold mput
  by_cases h : p.1 = k
  ·simp [h]
  ·rw [if_neg h, List.map_cons, mput_keys11 r k v]
   have hk : ¬ k = p.1 := fun e => h e.symm
   by_cases hr : k ∈ r.map (·.1)
   ·rw [if_pos hr, if_pos (by simp only [List.map_cons, List.mem_cons]; exact .inr hr)]; rfl
   ·rw [if_neg hr, if_neg (by simp only [List.map_cons, List.mem_cons, not_or]; exact ⟨hk, hr⟩)]; rfl
end
theorem mem_cutN {l : List Int} (hn : l.Nodup) {k : Nat} (hk : k < l.length) (y : Int) : y ∈ l.take k ++ l.drop (k + 1) ↔ y ∈ l ∧ y ≠ l[k] := by
 obtain ⟨a, b, x, ha, hb, hx, e⟩ : ∃ a b x, l.take k = a ∧ l.drop (k + 1) = b ∧ l[k] = x ∧ l = a ++ x :: b := ⟨_, _, _, rfl, rfl, rfl, by rw [← List.drop_eq_getElem_cons hk, List.take_append_drop]⟩
 rw [ha, hb, hx]
 rw [e, List.nodup_append] at hn
 obtain ⟨h1, h2, h3⟩ := hn
 have h2 := List.nodup_cons.1 h2
 rw [e]
 constructor
 ·intro h
  rcases List.mem_append.1 h with h | h
  ·exact ⟨List.mem_append_left _ h, fun e => by subst e; exact h3 _ h _ List.mem_cons_self rfl⟩
  ·exact ⟨List.mem_append_right _ (List.mem_cons_of_mem _ h), fun e => by subst e; exact h2.1 h⟩
 ·rintro ⟨h, hne⟩
  rcases List.mem_append.1 h with h | h
  ·exact List.mem_append_left _ h
  ·rcases List.mem_cons.1 h with h | h
   ·exact absurd h hne
   ·exact List.mem_append_right _ h
theorem nodup_cutN {l : List Int} (hn : l.Nodup) {k : Nat} : (l.take k ++ l.drop (k + 1)).Nodup := by
 by_cases hk : k < l.length
 ·have e : l = l.take k ++ l[k] :: l.drop (k + 1) := by rw [← List.drop_eq_getElem_cons hk, List.take_append_drop]
  refine List.Pairwise.sublist ?_ hn
  conv => rhs; rw [e]
  exact List.Sublist.append (List.Sublist.refl _) (List.sublist_cons_self _ _)
 ·rw [List.take_of_length_le (by omega), List.drop_eq_nil_of_le (by omega), List.append_nil]; exact hn
theorem tokens_cut {l : List TH0} {k : Nat} : tokens (l.take k ++ l.drop (k + 1)) = (tokens l).take k ++ (tokens l).drop (k + 1) := by
 unfold tokens; rw [List.map_append, List.map_take, List.map_drop]
theorem tokens_app {l m : List TH0} : tokens (l ++ m) = tokens l ++ tokens m := by unfold tokens; exact List.map_append
theorem tok_mem {l : List TH0} {x : TH0} (h : x ∈ l) : x.fToken ∈ tokens l := List.mem_map_of_mem (f := fun (y : TH0) => y.fToken) h
theorem nodup_snoc {l : List Int} {x : Int} (h : l.Nodup) (hx : x ∉ l) : (l ++ [x]).Nodup := by
 rw [List.nodup_append]
 exact ⟨h, by simp, fun a ha b hb e => by rw [List.mem_singleton.1 hb] at e; subst e; exact hx ha⟩
structure Bk (c : CS) : Prop where
  keys : c.ans.map (·.1) = tokens c.calls
  nd : (tokens c.calls).Nodup
  sub : ∀ x ∈ c.inn, x ∈ c.calls
  ind : (tokens c.inn).Nodup
  zero : ∀ t ∈ tokens c.inn, mget c.ans t = some z_TC0
  done : ∀ t ∈ tokens c.calls, t ∉ tokens c.inn → ∃ a, mget c.ans t = some a ∧ a.fEnded = true
theorem Bk.new : Bk new11 := ⟨rfl, by simp [tokens, new11], fun x hx => (by cases hx), by simp [tokens, new11], fun t ht => (by cases ht), fun t ht => (by cases ht)⟩
theorem Bk.inn_calls {c : CS} (h : Bk c) {t : Int} (ht : t ∈ tokens c.inn) : t ∈ tokens c.calls := by
 obtain ⟨x, hx, rfl⟩ := List.mem_map.1 ht
 exact tok_mem (h.sub x hx)
theorem Bk.fresh {c : CS} (h : Bk c) {t : Int} (hm : ¬ (mget c.ans t).isSome = true) : t ∉ tokens c.calls := by
 rw [← h.keys]
 refine mget_none11.1 ?_
 cases e : mget c.ans t with
 | none => rfl
 | some v => rw [e] at hm; exact absurd rfl hm
theorem Bk.submit {c : CS} (h : Bk c) (x : TH0) : Bk (submitC c x).2 := by
 unfold submitC
 split
 ·exact h
 ·split
  ·exact h
  ·rename_i hm
   have hk := h.fresh hm
   have hk2 : x.fToken ∉ tokens c.inn := fun h2 => hk (h.inn_calls h2)
   have e1 : tokens (c.calls ++ [x]) = tokens c.calls ++ [x.fToken] := tokens_app
   have e2 : tokens (c.inn ++ [x]) = tokens c.inn ++ [x.fToken] := tokens_app
   refine ⟨?_, ?_, fun y hy => ?_, ?_, fun t ht => ?_, fun t ht hn => ?_⟩
   ·show (mput c.ans x.fToken z_TC0).map (·.1) = tokens (c.calls ++ [x])
    rw [mput_keys11, h.keys, if_neg hk, e1]
   ·show (tokens (c.calls ++ [x])).Nodup
    rw [e1]; exact nodup_snoc h.nd hk
   ·rcases List.mem_append.1 hy with hy | hy
    ·exact List.mem_append_left _ (h.sub y hy)
    ·exact List.mem_append_right _ hy
   ·show (tokens (c.inn ++ [x])).Nodup
    rw [e2]; exact nodup_snoc h.ind hk2
   ·have ht : t ∈ tokens (c.inn ++ [x]) := ht
    rw [e2] at ht
    show mget (mput c.ans x.fToken z_TC0) t = _
    rw [mget_mput]
    by_cases e : x.fToken = t
    ·rw [if_pos e]
    ·rw [if_neg e]
     rcases List.mem_append.1 ht with ht | ht
     ·exact h.zero t ht
     ·exact absurd (List.mem_singleton.1 ht).symm e
   ·have ht : t ∈ tokens (c.calls ++ [x]) := ht
    have hn : t ∉ tokens (c.inn ++ [x]) := hn
    rw [e1] at ht
    rw [e2] at hn
    have e : ¬ x.fToken = t := fun e => hn (List.mem_append_right _ (by rw [e]; simp))
    show ∃ a, mget (mput c.ans x.fToken z_TC0) t = some a ∧ _
    rw [mget_mput, if_neg e]
    rcases List.mem_append.1 ht with ht | ht
    ·exact h.done t ht (fun h2 => hn (List.mem_append_left _ h2))
    ·exact absurd (List.mem_singleton.1 ht).symm e
theorem out_keep (c : CS) (k : Nat) (well : Bool) : (outC c k well).2.calls = c.calls ∧ (outC c k well).2.ans = c.ans ∧ (outC c k well).2.inn = c.inn.take k ++ c.inn.drop (k + 1) ∧ (outC c k well).1.fEnded = true := by
 unfold outC
 cases well with
 | false => exact ⟨rfl, rfl, rfl, rfl⟩
 | true => exact eff_keep (cutC c k) _
theorem Bk.end_ {c : CS} (h : Bk c) (k : Int) (well : Bool) : Bk (endC c k well).2.2.2 := by
 unfold endC
 split
 ·rename_i hk
  obtain ⟨m, rfl⟩ := Int.eq_ofNat_of_zero_le hk.1
  have hm : m < c.inn.length := by omega
  have em : (m : Int).toNat = m := by omega
  rw [em]
  obtain ⟨k1, k2, k3, k4⟩ := out_keep c m well
  have hx : c.inn.getD m z_TH0 = c.inn[m] := by simp [List.getD, hm]
  have htl : m < (tokens c.inn).length := by unfold tokens; simpa using hm
  have htx : (tokens c.inn)[m] = (c.inn[m]).fToken := List.getElem_map _
  have hcut : ∀ t, t ∈ tokens (c.inn.take m ++ c.inn.drop (m + 1)) ↔ t ∈ tokens c.inn ∧ t ≠ (c.inn[m]).fToken := fun t => by
   rw [tokens_cut, mem_cutN h.ind htl, htx]
  have hin : (c.inn[m]).fToken ∈ tokens c.calls := tok_mem (h.sub _ (List.getElem_mem hm))
  rw [hx]
  refine ⟨?_, ?_, fun y hy => ?_, ?_, fun t ht => ?_, fun t ht hn => ?_⟩
  ·show (mput (outC c m well).2.ans _ _).map (·.1) = tokens (outC c m well).2.calls
   rw [k1, k2, mput_keys11, h.keys, if_pos hin]
  ·show (tokens (outC c m well).2.calls).Nodup; rw [k1]; exact h.nd
  ·have hy : y ∈ (outC c m well).2.inn := hy
   show y ∈ (outC c m well).2.calls
   rw [k3] at hy; rw [k1]
   exact h.sub y (mem_cut hy)
  ·show (tokens (outC c m well).2.inn).Nodup; rw [k3, tokens_cut]; exact nodup_cutN h.ind
  ·have ht : t ∈ tokens (outC c m well).2.inn := ht
   rw [k3, hcut] at ht
   show mget (mput (outC c m well).2.ans _ _) t = _
   rw [k2, mget_mput, if_neg (fun e => ht.2 e.symm)]
   exact h.zero t ht.1
  ·have ht : t ∈ tokens (outC c m well).2.calls := ht
   have hn : t ∉ tokens (outC c m well).2.inn := hn
   rw [k1] at ht
   rw [k3, hcut] at hn
   show ∃ a, mget (mput (outC c m well).2.ans _ _) t = some a ∧ _
   rw [k2, mget_mput]
   by_cases e : (c.inn[m]).fToken = t
   ·rw [if_pos e]; exact ⟨_, rfl, k4⟩
   ·rw [if_neg e]
    exact h.done t ht (fun h2 => hn ⟨h2, fun e2 => e e2.symm⟩)
 ·exact h
theorem create_ok11 {s : TB0} {kind : List UInt8} {props : List TE0} (h : (createS s kind props).2.2 = 0) :
  ∃ last, scanS s.fL 0 = some last ∧ 0 ≤ last ∧ last ≤ s.fMade ∧ s.fMade + 1 ≤ 1099511627776 ∧ checkG kind props = 0 ∧ knownV props = true ∧ createS s kind props = (⟨s.fL ++ [⟨physV (s.fMade + 1), kind, props⟩], s.fMade + 1⟩, physV (s.fMade + 1), 0) := by
 unfold createS at h ⊢
 by_cases h1 : checkS s.fL s.fMade = 0
 ·obtain ⟨last, hs, hl0, hl1, hl2⟩ := checkS_zero h1
  rw [if_neg (fun h => h h1)] at h ⊢
  by_cases h2 : checkG kind props = 0
  ·rw [if_neg (fun h => h h2)] at h ⊢
   by_cases h3 : knownV props = false
   ·rw [if_pos h3] at h; cases h
   ·rw [if_neg h3] at h ⊢
    by_cases h4 : s.fMade = 1099511627776
    ·rw [if_pos h4] at h; cases h
    ·rw [if_neg h4]
     exact ⟨last, hs, hl0, hl1, by omega, h2, by simpa using h3, rfl⟩
  ·rw [if_pos h2] at h; exact absurd h h2
 ·rw [if_pos h1] at h; cases h
theorem scan_new11 {L : List TF0} {last made : Int} {kind : List UInt8} {props : List TE0} (hs : scanS L 0 = some last) (hl : last ≤ made) (h0 : 0 ≤ last) (hm : made + 1 ≤ 1099511627776) (hc : checkG kind props = 0) (hk : knownV props = true) :
  scanS (L ++ [⟨physV (made + 1), kind, props⟩]) 0 = some (made + 1) := by
 have hn := num_phys (m := made + 1) (by omega) hm
 rw [scanS_app, hs, bnd, scanS]
 have : okT ⟨physV (made + 1), kind, props⟩ last = true := by
  unfold okT
  dsimp only
  rw [hn, hc, hk, decide_eq_true (show last < made + 1 by omega), decide_eq_true rfl]; rfl
 rw [this, cT]
 dsimp only
 rw [hn]; rfl
theorem new_fresh11 {L : List TF0} {last made : Int} (hs : scanS L 0 = some last) (hl : last ≤ made) (h0 : 0 ≤ last) (hm : made + 1 ≤ 1099511627776) : physV (made + 1) ∉ L.map (·.fPhys) := fun h => by
 obtain ⟨x, hx, e⟩ := List.mem_map.1 h
 have h1 := (scanS_mem hs x hx).2.2.1
 rw [e, num_phys (by omega) hm] at h1
 dsimp only at h1
 omega
theorem update_ok11 {s : TB0} {phys : List UInt8} {props : List TE0} (h : (updateS s phys props).2 = 0) :
  ∃ last x, scanS s.fL 0 = some last ∧ 0 ≤ last ∧ last ≤ s.fMade ∧ s.fMade ≤ 1099511627776 ∧ findT s.fL phys = some x ∧ checkG x.fType props = 0 ∧ badU x props = false ∧ updateS s phys props = (⟨updT s.fL phys props, s.fMade⟩, 0) := by
 unfold updateS at h ⊢
 by_cases h1 : checkS s.fL s.fMade = 0
 ·obtain ⟨last, hs, hl0, hl1, hl2⟩ := checkS_zero h1
  rw [if_neg (fun h => h h1)] at h ⊢
  cases hf : findT s.fL phys with
  | none => rw [hf] at h; cases h
  | some x =>
   rw [hf] at h
   dsimp only at h ⊢
   by_cases h2 : checkG x.fType props = 0
   ·rw [if_neg (fun h => h h2)] at h ⊢
    by_cases h3 : badU x props = true
    ·rw [if_pos h3] at h; cases h
    ·rw [if_neg h3]
     exact ⟨last, x, hs, hl0, hl1, hl2, rfl, h2, by simpa using h3, rfl⟩
   ·rw [if_pos h2] at h; exact absurd h h2
 ·rw [if_pos h1] at h; cases h
theorem upd_phys11 (L : List TF0) (phys : List UInt8) (props : List TE0) : (updT L phys props).map (·.fPhys) = L.map (·.fPhys) := by
 unfold updT
 rw [List.map_map]
 apply List.map_congr_left
 intro y _
 by_cases h : y.fPhys = phys <;> simp [h]
theorem scan_upd11 {phys : List UInt8} {props : List TE0} (hk : knownV props = true) : ∀ {L : List TF0} {z y : Int}, scanS L z = some y → (∀ x ∈ L, x.fPhys = phys → checkG x.fType props = 0) → scanS (updT L phys props) z = some y
 | [], z, y, h, _ => h
 | x :: L, z, y, h, hc => by
  rw [scanS] at h
  cases hok : okT x z with
  | false => rw [hok] at h; cases h
  | true =>
   rw [hok, cT] at h
   have ih := scan_upd11 hk h fun w hw => hc w (List.mem_cons_of_mem _ hw)
   have e : updT (x :: L) phys props = (if x.fPhys = phys then ⟨x.fPhys, x.fType, props⟩ else x) :: updT L phys props := rfl
   rw [e]
   by_cases hx : x.fPhys = phys
   ·have hcx := hc x List.mem_cons_self hx
    obtain ⟨h1, h2, h3, h4⟩ := okT_spec hok
    rw [if_pos hx, scanS]
    have : okT ⟨x.fPhys, x.fType, props⟩ z = true := by
     unfold okT
     dsimp only
     rw [h1, hcx, hk, decide_eq_true h2, decide_eq_true rfl]; rfl
    rw [this, cT]; exact ih
   ·rw [if_neg hx, scanS, hok, cT]; exact ih
theorem scan_del11 {phys : List UInt8} : ∀ {L : List TF0} {z z' y : Int}, z' ≤ z → scanS L z = some y → ∃ y', scanS (delT L phys) z' = some y' ∧ y' ≤ y
 | [], z, z', y, hz, h => by cases h; exact ⟨z', rfl, hz⟩
 | x :: L, z, z', y, hz, h => by
  rw [scanS] at h
  cases hok : okT x z with
  | false => rw [hok] at h; cases h
  | true =>
   rw [hok, cT] at h
   obtain ⟨h1, h2, h3, h4⟩ := okT_spec hok
   by_cases hx : x.fPhys = phys
   ·have e : delT (x :: L) phys = delT L phys := by unfold delT; rw [List.filter_cons_of_neg (by simp [hx])]
    rw [e]
    exact scan_del11 (by omega) h
   ·have e : delT (x :: L) phys = x :: delT L phys := by unfold delT; rw [List.filter_cons_of_pos (by simp [hx])]
    have hok' : okT x z' = true := by
     unfold okT
     rw [h1, decide_eq_true (show z' < (numV x.fPhys).1 by omega), decide_eq_true h3, h4]; rfl
    rw [e, scanS, hok', cT]
    exact scan_del11 (Int.le_refl _) h
theorem delete_ok11 {s : TB0} {phys : List UInt8} (h : (deleteS s phys).2 = 0) : ∃ x, findT s.fL phys = some x ∧ deleteS s phys = (⟨delT s.fL phys, s.fMade⟩, 0) := by
 unfold deleteS at h ⊢
 by_cases h1 : checkS s.fL s.fMade = 0
 ·rw [if_neg (fun h => h h1)] at h ⊢
  cases hf : findT s.fL phys with
  | none => rw [hf] at h; cases h
  | some x => exact ⟨x, rfl, rfl⟩
 ·rw [if_pos h1] at h; cases h
end Go.Proofs.YtocefedhenhbfaaDoor
