/-
  Texts of this claim, packed (what nothing names is left out): P4, P5, P6, ParamsP1, ParamsP2, P7, ParamsP3, ParamsP4, Q2h. Own work, partly printed by own programs. No condition.
-/
import Derived.Test.YtalifkcchfkgmaaDoorPkA3
import Derived.Test.YtalifkcchfkgmaaDoorPkA2
set_option linter.unusedVariables false
set_option linter.unusedSimpArgs false
set_option maxHeartbeats 2000000
namespace Go.Proofs.YtalifkcchfkgmaaDoor
open Go Go.Vc Go.RowKit
def params_May (n : Nat) (d0 : TC0) (d1 : TA0) : Option Bool :=
  (params_may n d0).bind fun x_1 =>
  ((bif !x_1 then
      (((some ((false)) : Option Bool)).map Lp.br)
    else
      bif !d1.fUnknown then
        ((params_kind n d0 (⟨d1.fV.fKind, (d1.fV.fBool), d1.fV.fNum, d1.fV.fText, d1.fV.fList, d1.fV.fKeys⟩ : TB0)).bind fun x_2 =>
        bif x_2 then
          ((params_allowed n d0 (⟨d1.fV.fKind, (d1.fV.fBool), d1.fV.fNum, d1.fV.fText, d1.fV.fList, d1.fV.fKeys⟩ : TB0)).bind fun x_3 =>
          ((some ((x_3)) : Option Bool)).map Lp.br)
        else
          ((some ((false)) : Option Bool)).map Lp.br)
      else
        bif d0.fNumber then
          (some (.nx ()))
        else
          bif (decide ((0 : Int) < ((d0.fAllowed.length : Nat) : Int))) then
            (some (.nx ()))
          else
            (((params_empty n (⟨d1.fV.fKind, (d1.fV.fBool), d1.fV.fNum, d1.fV.fText, d1.fV.fList, d1.fV.fKeys⟩ : TB0)).bind fun x_4 =>
            some ((x_4)) : Option Bool)).map Lp.br : Option (Lp Unit Bool))).bind fun j => joinF j fun y_1 =>
  some ((false))
theorem params_May_ok (n : Nat) (M : Mem) (hG : GL M) (c0 : List Value) (d0 : TC0) (h0 : Rep M (emb_TC0 d0) c0) (c1 : List Value) (d1 : TA0) (h1 : Rep M (emb_TA0 d1) c1) (r : Bool) (hF : params_May n d0 d1 = some r) : Ok Tryd.prog M 12 [.agg c0.toArray, .agg c1.toArray] (fun _ v => v = .bool r) := by
 unfold params_May at hF
 intro M1 hM0 w0 H w p0
 replace hG := GL.mono hM0 hG
 replace h0 := Rep.mono hM0 _ _ h0
 replace h1 := Rep.mono hM0 _ _ h1
 obtain ⟨A_1, cap_1, A_2, cap_2, A_3, cap_3, rfl, h_1, h_2, h_3⟩ := TC0.opn h0
 obtain ⟨A_4, cap_4, A_5, cap_5, rfl, h_4, h_5⟩ := TA0.opn h1
 refine R_enter 36 Tryd.func12 rfl rfl (by simp) fun a0 f0 => RR (Y13 (cs := #[S d0.fName, .bool d0.fNumber, .bool d0.fHas, .int .i8 d0.fDefault.fKind, .bool d0.fDefault.fBool, .int .i64 d0.fDefault.fNum, S d0.fDefault.fText, .slice A_1 d0.fDefault.fList.length cap_1, .slice A_2 d0.fDefault.fKeys.length cap_2, .slice A_3 d0.fAllowed.length cap_3]) (T := 37) f0 p0 fun b_1 M_1 w_1 hM_1 hc_1 p_1 _ f => ?_)
 have hc_2 := fz_box hc_1
 refine Y13 (cs := #[S d1.fName, .bool d1.fUnknown, .int .i8 d1.fV.fKind, .bool d1.fV.fBool, .int .i64 d1.fV.fNum, S d1.fV.fText, .slice A_4 d1.fV.fList.length cap_4, .slice A_5 d1.fV.fKeys.length cap_5]) (T := 35) f p_1 fun b_2 M_2 w_2 hM_2 hc_3 p_2 _ f => ?_
 have hc_4 := fz_box hc_3
 refine Y f 1 fun _ f => eT (RR (Z (v := .agg #[S d0.fName, .bool d0.fNumber, .bool d0.fHas, .int .i8 d0.fDefault.fKind, .bool d0.fDefault.fBool, .int .i64 d0.fDefault.fNum, S d0.fDefault.fText, .slice A_1 d0.fDefault.fList.length cap_1, .slice A_2 d0.fDefault.fKeys.length cap_2, .slice A_3 d0.fAllowed.length cap_3]) f (Y32 (cs := [S d0.fName, .bool d0.fNumber, .bool d0.fHas, .int .i8 d0.fDefault.fKind, .bool d0.fDefault.fBool, .int .i64 d0.fDefault.fNum, S d0.fDefault.fText, .slice A_1 d0.fDefault.fList.length cap_1, .slice A_2 d0.fDefault.fKeys.length cap_2, .slice A_3 d0.fAllowed.length cap_3]) rfl (ad := ⟨b_1, 0, none⟩) (fun j v h => p_2.cell ((fzu hM_2 hc_2) j v h))) fun _ f => ?_))
 obtain ⟨x_1, hx_1, hF_1⟩ := bS hF
 refine Y18 f p_2 (params_may_ok n _ (GL.mono (hM_1.trans hM_2) hG) _ d0 (TC0.shutx (x := d0) (h_1.mono (hM_1.trans hM_2)) (h_2.mono (hM_1.trans hM_2)) (h_3.mono (hM_1.trans hM_2))) x_1 hx_1) fun w_3 p_3 _ f => Y f 1 fun _ f => eT (R_seq (wp_block (R_seq ?_)))
 obtain ⟨j_1, hj_1, hF_2⟩ := bS hF_1
 refine R_mid (fun a_33 w_7 => ∃ y_1 : Unit, j_1 = .nx y_1 ∧ ∃ M_3 : Mem, M_2.le M_3 ∧ Frm 36 [] a_33 ∧ Hp w0 M_3 (H) w_7) ?_ ?_
 ·refine wp_block (wp_block (R_seq (wp_block (R_seq (wp_block (R_seq (R_seq (RR (Y f 3 fun _ f => eT (RcF f hj_1 (fun h_6 hF_3 => ?_) fun h_6 hF_5 => ?_))))))))))
  ·have k_1 : (x_1) = false := by simpa using h_6
   refine wp_exit (T_x (T_x (B_x (T_n (R_seq (RR (Y f 1 fun _ f => eT (wp_ret (T_r (B_r (T_r (B_r (B_r ?_)))))))))))))
   have hF_4 := br_elim hF_3 hF_2
   refine T_r (T_r (B_r (T_r (E_ret1 f rfl (by kernel_rfl : Vc.look _ 4 = some (.bool false)) ?_))))
   obtain rfl := sI hF_4
   exact ⟨_, rfl, M_2, (hM_1.trans hM_2), p_3, rfl⟩
  ·have k_2 : (x_1) = true := by simpa using h_6
   refine wp_skip (T_n (R_seq (RR (Y f 1 fun _ f => Y15 f p_3 hc_4 1 rfl fun _ f => Y f 2 fun _ f => eT (RcF f hF_5 (fun h_7 hF_6 => ?_) fun h_7 hF_13 => ?_)))))
   ·have k_3 : (d1.fUnknown) = false := by simpa using h_7
    refine wp_exit (T_x (T_x (B_o rfl (T_x (B_x (T_n (R_seq (RR (Z (v := .agg #[S d0.fName, .bool d0.fNumber, .bool d0.fHas, .int .i8 d0.fDefault.fKind, .bool d0.fDefault.fBool, .int .i64 d0.fDefault.fNum, S d0.fDefault.fText, .slice A_1 d0.fDefault.fList.length cap_1, .slice A_2 d0.fDefault.fKeys.length cap_2, .slice A_3 d0.fAllowed.length cap_3]) f (Y32 (cs := [S d0.fName, .bool d0.fNumber, .bool d0.fHas, .int .i8 d0.fDefault.fKind, .bool d0.fDefault.fBool, .int .i64 d0.fDefault.fNum, S d0.fDefault.fText, .slice A_1 d0.fDefault.fList.length cap_1, .slice A_2 d0.fDefault.fKeys.length cap_2, .slice A_3 d0.fAllowed.length cap_3]) rfl (ad := ⟨b_1, 0, none⟩) (fun j v h => p_3.cell ((fzu hM_2 hc_2) j v h))) fun _ f => Y f 1 fun _ f => Z (v := .agg #[.int .i8 d1.fV.fKind, .bool d1.fV.fBool, .int .i64 d1.fV.fNum, S d1.fV.fText, .slice A_4 d1.fV.fList.length cap_4, .slice A_5 d1.fV.fKeys.length cap_5]) f (Y32 (cs := [.int .i8 d1.fV.fKind, .bool d1.fV.fBool, .int .i64 d1.fV.fNum, S d1.fV.fText, .slice A_4 d1.fV.fList.length cap_4, .slice A_5 d1.fV.fKeys.length cap_5]) rfl (ad := (⟨b_2, 0, none⟩ : Addr).add 2) (fz_part (base := (⟨b_2, 0, none⟩ : Addr)) (fun j v h => p_3.cell (hc_4 j v h)) 2 rfl)) fun _ f => ?_)))))))))
    obtain ⟨x_2, hx_2, hF_7⟩ := bS hF_6
    refine Y18 f p_3 (params_kind_ok n _ (GL.mono (hM_1.trans hM_2) hG) _ d0 (TC0.shutx (x := d0) (h_1.mono (hM_1.trans hM_2)) (h_2.mono (hM_1.trans hM_2)) (h_3.mono (hM_1.trans hM_2))) _ (⟨d1.fV.fKind, (d1.fV.fBool), d1.fV.fNum, d1.fV.fText, d1.fV.fList, d1.fV.fKeys⟩ : TB0) (TB0.shut (h_4.mono (hM_1.trans hM_2)) (h_5.mono (hM_1.trans hM_2))) x_2 hx_2) fun w_4 p_4 _ f => Y f 1 fun _ f => ?_
    rcases cE hF_7 with ⟨h_8, hF_8⟩ | ⟨h_8, hF_11⟩
    ·have f := f.st 27 (cB h_8)
     refine Z (v := .agg #[S d0.fName, .bool d0.fNumber, .bool d0.fHas, .int .i8 d0.fDefault.fKind, .bool d0.fDefault.fBool, .int .i64 d0.fDefault.fNum, S d0.fDefault.fText, .slice A_1 d0.fDefault.fList.length cap_1, .slice A_2 d0.fDefault.fKeys.length cap_2, .slice A_3 d0.fAllowed.length cap_3]) f (Y32 (cs := [S d0.fName, .bool d0.fNumber, .bool d0.fHas, .int .i8 d0.fDefault.fKind, .bool d0.fDefault.fBool, .int .i64 d0.fDefault.fNum, S d0.fDefault.fText, .slice A_1 d0.fDefault.fList.length cap_1, .slice A_2 d0.fDefault.fKeys.length cap_2, .slice A_3 d0.fAllowed.length cap_3]) rfl (ad := ⟨b_1, 0, none⟩) (fun j v h => p_4.cell ((fzu hM_2 hc_2) j v h))) fun _ f => Y f 1 fun _ f => Z (v := .agg #[.int .i8 d1.fV.fKind, .bool d1.fV.fBool, .int .i64 d1.fV.fNum, S d1.fV.fText, .slice A_4 d1.fV.fList.length cap_4, .slice A_5 d1.fV.fKeys.length cap_5]) f (Y32 (cs := [.int .i8 d1.fV.fKind, .bool d1.fV.fBool, .int .i64 d1.fV.fNum, S d1.fV.fText, .slice A_4 d1.fV.fList.length cap_4, .slice A_5 d1.fV.fKeys.length cap_5]) rfl (ad := (⟨b_2, 0, none⟩ : Addr).add 2) (fz_part (base := (⟨b_2, 0, none⟩ : Addr)) (fun j v h => p_4.cell (hc_4 j v h)) 2 rfl)) fun _ f => ?_
     obtain ⟨x_3, hx_3, hF_9⟩ := bS hF_8
     refine Y18 f p_4 (params_allowed_ok n _ (GL.mono (hM_1.trans hM_2) hG) _ d0 (TC0.shutx (x := d0) (h_1.mono (hM_1.trans hM_2)) (h_2.mono (hM_1.trans hM_2)) (h_3.mono (hM_1.trans hM_2))) _ (⟨d1.fV.fKind, (d1.fV.fBool), d1.fV.fNum, d1.fV.fText, d1.fV.fList, d1.fV.fKeys⟩ : TB0) (TB0.shut (h_4.mono (hM_1.trans hM_2)) (h_5.mono (hM_1.trans hM_2))) x_3 hx_3) fun w_5 p_5 _ f => Y f 2 fun _ f => eT (wp_ret (T_r (B_r (B_r ?_))))
     have hF_10 := br_elim hF_9 hF_2
     refine T_r (T_r (B_r (T_r (E_ret1 f rfl (by kernel_rfl : Vc.look _ 4 = some (.bool x_3)) ?_))))
     obtain rfl := sI hF_10
     exact ⟨_, rfl, M_2, (hM_1.trans hM_2), p_5, rfl⟩
    ·have f := f.st 27 (cB h_8)
     refine Y f 6 fun _ f => eT (wp_ret (T_r (B_r (B_r ?_))))
     have hF_12 := br_elim hF_11 hF_2
     refine T_r (T_r (B_r (T_r (E_ret1 f rfl (by kernel_rfl : Vc.look _ 4 = some (.bool false)) ?_))))
     obtain rfl := sI hF_12
     exact ⟨_, rfl, M_2, (hM_1.trans hM_2), p_4, rfl⟩
   ·have k_6 : (d1.fUnknown) = true := by simpa using h_7
    refine wp_skip (T_n (R_seq (RR (Y f 1 fun _ f => Y15 f p_3 (fzu hM_2 hc_2) 1 rfl fun _ f => Y f 1 fun _ f => eT (RcF f hF_13 (fun h_9 hF_14 => ?_) fun h_9 hF_15 => ?_)))))
    ·refine wp_exit (T_x (T_x (B_o rfl (T_x (B_o rfl (T_x (B_x (B_n (T_n ?_)))))))))
     exact ⟨(), (sI hF_14).symm, M_2, (mR _), f.kp, p_3⟩
    ·refine wp_skip (T_n (RR (Y f 1 fun _ f => Y15 f p_3 (fzu hM_2 hc_2) 9 rfl fun _ f => Y f 3 fun _ f => eT (RcF f hF_15 (fun h_10 hF_16 => ?_) fun h_10 hF_17 => ?_))))
     ·have k_9 := dI.1 h_10
      refine wp_exit (T_x (B_o rfl (T_x (B_o rfl (T_x (B_o rfl (B_x (T_n ?_))))))))
      exact ⟨(), (sI hF_16).symm, M_2, (mR _), f.kp, p_3⟩
     ·have k_10 := iff_f dI h_10
      refine wp_skip (T_n (wp_exit (B_o rfl (T_x (B_o rfl (T_x (B_o rfl (B_o rfl ?_))))))))
      have hF_18 := br_elim hF_17 hF_2
      refine T_x (T_x (B_x (T_n (RR (Y f 1 fun _ f => Z (v := .agg #[.int .i8 d1.fV.fKind, .bool d1.fV.fBool, .int .i64 d1.fV.fNum, S d1.fV.fText, .slice A_4 d1.fV.fList.length cap_4, .slice A_5 d1.fV.fKeys.length cap_5]) f (Y32 (cs := [.int .i8 d1.fV.fKind, .bool d1.fV.fBool, .int .i64 d1.fV.fNum, S d1.fV.fText, .slice A_4 d1.fV.fList.length cap_4, .slice A_5 d1.fV.fKeys.length cap_5]) rfl (ad := (⟨b_2, 0, none⟩ : Addr).add 2) (fz_part (base := (⟨b_2, 0, none⟩ : Addr)) (fun j v h => p_3.cell (hc_4 j v h)) 2 rfl)) fun _ f => ?_)))))
      obtain ⟨x_4, hx_4, hF_19⟩ := bS hF_18
      refine Y18 f p_3 (params_empty_ok n _ (GL.mono (hM_1.trans hM_2) hG) _ (⟨d1.fV.fKind, (d1.fV.fBool), d1.fV.fNum, d1.fV.fText, d1.fV.fList, d1.fV.fKeys⟩ : TB0) (TB0.shut (h_4.mono (hM_1.trans hM_2)) (h_5.mono (hM_1.trans hM_2))) x_4 hx_4) fun w_6 p_6 _ f => Y f 1 fun _ f => eT (wp_ret (E_ret1 f rfl (by kernel_rfl : Vc.look _ 4 = some (.bool x_4)) ?_))
      obtain rfl := sI hF_19
      exact ⟨_, rfl, M_2, (hM_1.trans hM_2), p_6, rfl⟩
 ·rintro a_33 w_7 ⟨y_1, rfl, M_3, hM_3, f, p_7⟩
  refine T_n (R_seq (RR (Y f 1 fun _ f => eT (wp_ret (T_r (B_r (T_r (E_ret1 f rfl (by kernel_rfl : Vc.look _ 4 = some (.bool false)) ?_))))))))
  obtain rfl := sI hF_2
  exact ⟨_, rfl, M_3, ((hM_1.trans hM_2).trans hM_3), p_7, rfl⟩
def params_Check_1 (n : Nat) (d0 : TC0) (d1_0 : List UInt8) : Option (Bool × List UInt8) :=
  (params_may n d0).bind fun x_1 =>
  bif !x_1 then
    (some (((true), d0.fName)))
  else
    some (((Op.bytesLess d0.fName d1_0 || d0.fName == d1_0), d0.fName))
theorem params_Check_1_ok (n : Nat) (M : Mem) (hG : GL M) (c0 : List Value) (d0 : TC0) (h0 : Rep M (emb_TC0 d0) c0) (b1 : Nat) (d1_0 : List UInt8) (r : Bool × List UInt8) (hF : params_Check_1 n d0 d1_0 = some r) : OkH Tryd.prog M [Ent.obj b1 (.cells #[S d1_0] 9 (0, 0))] 41 [.agg c0.toArray, .pointer (some (⟨b1, 0, none⟩))] (fun M' E' v => v = .bool r.1 ∧ E' = [Ent.obj b1 (.cells #[S r.2] 9 (0, 0))]) := by
 unfold params_Check_1 at hF
 intro M1 hM0 w0 H w p0
 replace hG := GL.mono hM0 hG
 replace h0 := Rep.mono hM0 _ _ h0
 obtain ⟨A_1, cap_1, A_2, cap_2, A_3, cap_3, rfl, h_1, h_2, h_3⟩ := TC0.opn h0
 refine R_enter 17 Tryd.func41 rfl rfl (by simp) fun a0 f0 => RR (Y13 (cs := #[S d0.fName, .bool d0.fNumber, .bool d0.fHas, .int .i8 d0.fDefault.fKind, .bool d0.fDefault.fBool, .int .i64 d0.fDefault.fNum, S d0.fDefault.fText, .slice A_1 d0.fDefault.fList.length cap_1, .slice A_2 d0.fDefault.fKeys.length cap_2, .slice A_3 d0.fAllowed.length cap_3]) (T := 37) f0 p0 fun b_1 M_1 w_1 hM_1 hc_1 p_1 _ f => ?_)
 have hc_2 := fz_box hc_1
 refine Y f 1 fun _ f => eT (RR (Z (v := .agg #[S d0.fName, .bool d0.fNumber, .bool d0.fHas, .int .i8 d0.fDefault.fKind, .bool d0.fDefault.fBool, .int .i64 d0.fDefault.fNum, S d0.fDefault.fText, .slice A_1 d0.fDefault.fList.length cap_1, .slice A_2 d0.fDefault.fKeys.length cap_2, .slice A_3 d0.fAllowed.length cap_3]) f (Y32 (cs := [S d0.fName, .bool d0.fNumber, .bool d0.fHas, .int .i8 d0.fDefault.fKind, .bool d0.fDefault.fBool, .int .i64 d0.fDefault.fNum, S d0.fDefault.fText, .slice A_1 d0.fDefault.fList.length cap_1, .slice A_2 d0.fDefault.fKeys.length cap_2, .slice A_3 d0.fAllowed.length cap_3]) rfl (ad := ⟨b_1, 0, none⟩) (fun j v h => p_1.cell (hc_2 j v h))) fun _ f => ?_))
 obtain ⟨x_1, hx_1, hF_1⟩ := bS hF
 refine Y18 f p_1 (params_may_ok n _ (GL.mono hM_1 hG) _ d0 (TC0.shutx (x := d0) (h_1.mono hM_1) (h_2.mono hM_1) (h_3.mono hM_1)) x_1 hx_1) fun w_2 p_2 _ f => Y f 2 fun _ f => ?_
 rcases cE hF_1 with ⟨h_4, hF_2⟩ | ⟨h_4, hF_3⟩
 ·have k_1 : (x_1) = false := by simpa using h_4
  have f := f.st 8 (cB h_4)
  refine Y f 6 fun _ f => eT (RR (Y f 1 fun _ f => Y15 f p_2 hc_2 0 rfl fun _ f => Y27 f p_2 0 rfl rfl (b := b1) (j := 0) (v := S d0.fName) rfl (by exact rfl) (by simp) (by simp) ((Ent.obj b1 (.cells #[S d0.fName] 9 (0, 0))) :: H) rfl fun w_3 p_3 _ f => eT (RR (Y f 2 fun _ f => eT (wp_ret (E_ret1 f rfl (by kernel_rfl : Vc.look _ 3 = some (.bool true)) ?_))))))
  obtain rfl := sI hF_2
  exact ⟨_, rfl, M_1, _, hM_1, p_3, ⟨rfl, rfl⟩⟩
 ·have k_2 : (x_1) = true := by simpa using h_4
  have f := f.st 8 (cB h_4)
  refine Y f 1 fun _ f => Y15 f p_2 hc_2 0 rfl fun _ f => Z f (Y31 (v := S d1_0) rfl (ad := ⟨b1, 0, none⟩) (p_2.ownCell 0 rfl 0)) fun _ f => Z (v := .bool (Op.bytesLess d0.fName d1_0 || d0.fName == d1_0)) f (X_strle rfl (l := d0.fName) (m := d1_0) (by kernel_rfl) (by kernel_rfl)) fun _ f => Y f 2 fun _ f => eT (RR (Y f 1 fun _ f => Y15 f p_2 hc_2 0 rfl fun _ f => Y27 f p_2 0 rfl rfl (b := b1) (j := 0) (v := S d0.fName) rfl (by exact rfl) (by simp) (by simp) ((Ent.obj b1 (.cells #[S d0.fName] 9 (0, 0))) :: H) rfl fun w_4 p_4 _ f => eT (RR (Y f 2 fun _ f => ?_))))
  refine eT (wp_ret (E_ret1 f rfl (by kernel_rfl : Vc.look _ 3 = some (.bool (Op.bytesLess d0.fName d1_0 || d0.fName == d1_0))) ?_))
  obtain rfl := sI hF_3
  exact ⟨_, rfl, M_1, _, hM_1, p_4, ⟨rfl, rfl⟩⟩
def params_find_6_s1 (n : Nat) (d0 : List TC0) (s_1 : Int × List UInt8) : Option (Lp (Int × List UInt8) (Sum (Int × List UInt8) (List UInt8))) :=
    bif (decide (s_1.1 < ((d0.length : Nat) : Int))) then
      ((getI d0 s_1.1).bind fun x_1 =>
      (params_Check_1 n x_1 s_1.2).bind fun x_2 =>
      bif x_2.1 then
        (some (.br (.inl (s_1.1, x_2.2))))
      else
        need (inR .i64 (s_1.1 + 1)) <|
        some (.nx (s_1.1 + 1, x_2.2)))
    else
      some (.br (.inr s_1.2))
def params_find_6 (n : Nat) (d0 : List TC0) (d1_0_0 : List UInt8) : Option (Int × List UInt8) :=
  (loopF (params_find_6_s1 n d0) n ((0 : Int), d1_0_0)).bind fun b_1 =>
  (match b_1 with 
  | .inl y_1 => some ((y_1.1, y_1.2)) 
  | .inr y_2 => some (((-1 : Int), y_2)))
theorem params_find_6_ok (n : Nat) (M : Mem) (hG : GL M) (A0 : Option Addr) (cap0 : Nat) (d0 : List TC0) (h0 : Sli M 10 emb_TC0 A0 cap0 d0) (b1_0 : Nat) (d1_0_0 : List UInt8) (r : Int × List UInt8) (hF : params_find_6 n d0 d1_0_0 = some r) : OkH Tryd.prog M [Ent.obj b1_0 (.cells #[S d1_0_0] 9 (0, 0))] 29 [.slice A0 d0.length cap0, .func (.func 41) #[] #[.pointer (some (⟨b1_0, 0, none⟩))]] (fun M' E' v => v = .int .i64 r.1 ∧ E' = [Ent.obj b1_0 (.cells #[S r.2] 9 (0, 0))]) := by
 unfold params_find_6 at hF
 intro M1 hM0 w0 H w p0
 replace hG := GL.mono hM0 hG
 replace h0 := h0.mono hM0
 refine R_enter 19 Tryd.func29 rfl rfl (by simp) fun a0 f0 => RR (Y f0 1 fun _ f => eT (R_seq (RR (Y f 3 fun _ f => eT (wp_block ?_)))))
 obtain ⟨b_1, hL_1, hF_1⟩ := bS hF
 refine wp_mono (Q := fun e a w => (e = .ret ∧ (∃ y_1 : Int × List UInt8, b_1 = .inl y_1 ∧ ∃ M_3 : Mem, M1.le M_3 ∧ Frm 19 [(4, .int .i64 y_1.1)] a ∧ Hp w0 M_3 ((Ent.obj b1_0 (.cells #[S y_1.2] 9 (0, 0))) :: H) w)) ∨ (e = .exit 0 ∧ (∃ y_2 : List UInt8, b_1 = .inr y_2 ∧ ∃ M_4 : Mem, M1.le M_4 ∧ Frm 19 [] a ∧ Hp w0 M_4 ((Ent.obj b1_0 (.cells #[S y_2] 9 (0, 0))) :: H) w))) (R_loop (n := 19) (w0 := w0) (M := M1) (fun (x : Nat × (Int × List UInt8)) => match x with | (m_1, s_1) => [(1, .func (.func 41) #[] #[.pointer (some (⟨b1_0, 0, none⟩))]), (7, .slice A0 d0.length cap0), (8, .int .i64 ((d0.length : Nat) : Int)), (9, .int .i64 s_1.1)]) (fun (x : Nat × (Int × List UInt8)) => match x with | (m_1, s_1) => ((Ent.obj b1_0 (.cells #[S s_1.2] 9 (0, 0))) :: H)) (fun (x : Nat × (Int × List UInt8)) (MM : Mem) => match x with | (m_1, s_1) => loopF (params_find_6_s1 n d0) m_1 s_1 = some b_1) (fun (x : Nat × (Int × List UInt8)) => match x with | (m_1, s_1) => m_1) (n, ((0 : Int), d1_0_0)) (f.kp) p0 hL_1 ?_) ?_
 ·rintro ⟨m_1, s_1⟩ M_1 _ w_1 hM_1 I_1 f p_1
  have I_1L := I_1
  obtain ⟨m_2, r_1, rfl, hs_1, hn_1⟩ := loop_step I_1L
  unfold params_find_6_s1 at hs_1
  refine RR (Y f 1 fun _ f => eT (R_seq (RcF f hs_1 (fun h_1 hF_2 => ?_) fun h_1 hF_8 => ?_)))
  ·have k_1 := dI.1 h_1
   refine wp_skip (T_n (R_seq (wp_block (RR (Y f 1 fun _ f => ?_)))))
   obtain ⟨x_1, hx_1, hF_3⟩ := bS hF_2
   obtain ⟨ad_1, c_1, e_1, -, hr_1, hc_1⟩ := Sli.at_ (h0.mono hM_1) hx_1
   obtain ⟨A_1, cap_1, A_2, cap_2, A_3, cap_3, rfl, h_2, h_3, h_4⟩ := TC0.opn hr_1
   refine Z f (Y30 e_1 rfl (len := d0.length) (cap := cap0) (k := .i64) (i := s_1.1) (e := 37) (sz := 10) (getI_nn hx_1) (getI_lt hx_1)) fun _ f => Z (v := .agg #[S x_1.fName, .bool x_1.fNumber, .bool x_1.fHas, .int .i8 x_1.fDefault.fKind, .bool x_1.fDefault.fBool, .int .i64 x_1.fDefault.fNum, S x_1.fDefault.fText, .slice A_1 x_1.fDefault.fList.length cap_1, .slice A_2 x_1.fDefault.fKeys.length cap_2, .slice A_3 x_1.fAllowed.length cap_3]) f (Y32 (cs := [S x_1.fName, .bool x_1.fNumber, .bool x_1.fHas, .int .i8 x_1.fDefault.fKind, .bool x_1.fDefault.fBool, .int .i64 x_1.fDefault.fNum, S x_1.fDefault.fText, .slice A_1 x_1.fDefault.fList.length cap_1, .slice A_2 x_1.fDefault.fKeys.length cap_2, .slice A_3 x_1.fAllowed.length cap_3]) rfl (ad := ad_1.add (s_1.1.toNat * 10)) (fun j v h => p_1.cell (hc_1 j v h))) fun _ f => Y12 f p_1 (.cells #[S [], .bool false, .bool false, .int .i8 0, .bool false, .int .i64 0, S [], .slice none 0 0, .slice none 0 0, .slice none 0 0] 37 (0, 0)) fun b_2 w_2 p_2 _ f => Y f 1 fun _ f => Y28 (vs := [S x_1.fName, .bool x_1.fNumber, .bool x_1.fHas, .int .i8 x_1.fDefault.fKind, .bool x_1.fDefault.fBool, .int .i64 x_1.fDefault.fNum, S x_1.fDefault.fText, .slice A_1 x_1.fDefault.fList.length cap_1, .slice A_2 x_1.fDefault.fKeys.length cap_2, .slice A_3 x_1.fAllowed.length cap_3]) (j := 0) f p_2 rfl rfl (by simp [Value.oneCell', S]) (by simp) (by decide) (cs' := #[S x_1.fName, .bool x_1.fNumber, .bool x_1.fHas, .int .i8 x_1.fDefault.fKind, .bool x_1.fDefault.fBool, .int .i64 x_1.fDefault.fNum, S x_1.fDefault.fText, .slice A_1 x_1.fDefault.fList.length cap_1, .slice A_2 x_1.fDefault.fKeys.length cap_2, .slice A_3 x_1.fAllowed.length cap_3]) fun w_3 p_3 _ f => eT (RR (Y f 1 fun _ f => Z (v := .agg #[S x_1.fName, .bool x_1.fNumber, .bool x_1.fHas, .int .i8 x_1.fDefault.fKind, .bool x_1.fDefault.fBool, .int .i64 x_1.fDefault.fNum, S x_1.fDefault.fText, .slice A_1 x_1.fDefault.fList.length cap_1, .slice A_2 x_1.fDefault.fKeys.length cap_2, .slice A_3 x_1.fAllowed.length cap_3]) f (Y32 (cs := [S x_1.fName, .bool x_1.fNumber, .bool x_1.fHas, .int .i8 x_1.fDefault.fKind, .bool x_1.fDefault.fBool, .int .i64 x_1.fDefault.fNum, S x_1.fDefault.fText, .slice A_1 x_1.fDefault.fList.length cap_1, .slice A_2 x_1.fDefault.fKeys.length cap_2, .slice A_3 x_1.fAllowed.length cap_3]) rfl (ad := ⟨b_2, 0, none⟩) (own_cells (p_3.ownCell 0 rfl) 0 rfl)) fun _ f => ?_))
   obtain ⟨x_2, hx_2, hF_4⟩ := bS hF_3
   have p_5 := p_3.pl [1]
   refine Y17 (E := [Ent.obj b1_0 (.cells #[S s_1.2] 9 (0, 0))]) (H := ((Ent.obj b_2 (.cells #[S x_1.fName, .bool x_1.fNumber, .bool x_1.fHas, .int .i8 x_1.fDefault.fKind, .bool x_1.fDefault.fBool, .int .i64 x_1.fDefault.fNum, S x_1.fDefault.fText, .slice A_1 x_1.fDefault.fList.length cap_1, .slice A_2 x_1.fDefault.fKeys.length cap_2, .slice A_3 x_1.fAllowed.length cap_3] 37 (0, 0))) :: H)) f p_5 (params_Check_1_ok n _ (GL.mono hM_1 hG) _ x_1 (TC0.shutx (x := x_1) h_2 h_3 h_4) b1_0 s_1.2 x_2 hx_2) fun _ M_2 E_1 w_4 hM_2 p_4 q_1 _ f => ?_
   obtain ⟨rfl, rfl⟩ := q_1
   refine eT (RcF f hF_4 (fun h_5 hF_5 => ?_) fun h_5 hF_6 => ?_)
   ·refine RR (Y f 2 fun _ f => eT (wp_ret (B_r (T_r ?_))))
    have p_8 := p_4.pl [1]
    refine T_r ?_
    obtain rfl := sI hF_5
    exact .inl ⟨rfl, (s_1.1, x_2.2), (sI hn_1).symm, M_2, (hM_1.trans hM_2), f.kp, (p_8.dropN 1)⟩
   ·refine wp_skip (B_n (T_n (R_reg ?_)))
    obtain ⟨g_1, hF_7⟩ := nS hF_6
    refine Y f 1 fun _ f => ?_
    have f := f.st 18 (congrArg (Value.int .i64) (inR_wrap g_1))
    refine Y f 1 fun _ f => W_end rfl ?_
    have p_9 := p_4.pl [1]
    refine T_n ?_
    obtain rfl := sI hF_7
    exact ⟨⟨m_2, (s_1.1 + 1, x_2.2)⟩, Nat.lt_succ_self _, M_2, (hM_1.trans hM_2), hn_1, f.kp, (p_9.dropN 1)⟩
  ·have k_4 := iff_f dI h_1
   refine wp_exit (T_x (T_x ?_))
   obtain rfl := sI hF_8
   exact .inr ⟨rfl, s_1.2, (sI hn_1).symm, M_1, hM_1, f.kp, p_1⟩
 ·rintro _ _ w_7 (⟨rfl, y_1, rfl, M_3, hM_3, f, p_6⟩ | ⟨rfl, y_2, rfl, M_4, hM_4, f, p_7⟩)
  ·refine B_r (T_r (E_ret1 f rfl (by kernel_rfl : Vc.look _ 4 = some (.int .i64 y_1.1)) ?_))
   obtain rfl := sI hF_1
   exact ⟨_, rfl, M_3, _, hM_3, p_6, ⟨rfl, rfl⟩⟩
  ·refine B_x (T_n (RR (Y f 1 fun _ f => eT (wp_ret (E_ret1 f rfl (by kernel_rfl : Vc.look _ 4 = some (.int .i64 (-1))) ?_)))))
   obtain rfl := sI hF_1
   exact ⟨_, rfl, M_4, _, hM_4, p_7, ⟨rfl, rfl⟩⟩
def params_Check (n : Nat) (d0 : List TC0) : Option Int :=
  bif (decide ((6 : Int) < ((d0.length : Nat) : Int))) then
    (some ((3 : Int)))
  else
    (params_find_6 n d0 ([] : List UInt8)).bind fun x_1 =>
    bif (decide ((0 : Int) ≤ x_1.1)) then
      (some ((2 : Int)))
    else
      some ((0 : Int))
theorem params_Check_ok (n : Nat) (M : Mem) (hG : GL M) (A0 : Option Addr) (cap0 : Nat) (d0 : List TC0) (h0 : Sli M 10 emb_TC0 A0 cap0 d0) (r : Int) (hF : params_Check n d0 = some r) : Ok Tryd.prog M 15 [.slice A0 d0.length cap0] (fun _ v => v = .int .i64 r) := by
 unfold params_Check at hF
 intro M1 hM0 w0 H w p0
 replace hG := GL.mono hM0 hG
 replace h0 := h0.mono hM0
 refine R_enter 11 Tryd.func15 rfl rfl (by simp) fun a0 f0 => RR (Y f0 1 fun _ f => eT (R_seq (RR (Y f 3 fun _ f => eT (RcF f hF (fun h_1 hF_1 => ?_) fun h_1 hF_2 => ?_)))))
 ·have k_1 := dI.1 h_1
  refine RR (Y f 1 fun _ f => eT (wp_ret (T_r (E_ret1 f rfl (by kernel_rfl : Vc.look _ 2 = some (.int .i64 3)) ?_))))
  obtain rfl := sI hF_1
  exact ⟨_, rfl, M1, (mR _), p0, rfl⟩
 ·have k_2 := iff_f dI h_1
  refine wp_skip (T_n (RR (Y12 f p0 (.cells #[S []] 9 (0, 0)) fun b_1 w_1 p_1 _ f => Y27 f p_1 0 rfl rfl (b := b_1) (j := 0) (v := S []) rfl (by exact rfl) (by simp) (by simp) ((Ent.obj b_1 (.cells #[S []] 9 (0, 0))) :: H) rfl fun w_2 p_2 _ f => eT (R_seq (RR (Y f 2 fun _ f => ?_))))))
  obtain ⟨x_1, hx_1, hF_3⟩ := bS hF_2
  refine Y17 (E := [Ent.obj b_1 (.cells #[S []] 9 (0, 0))]) (H := (H)) f p_2 (params_find_6_ok n _ hG A0 cap0 d0 h0 b_1 ([] : List UInt8) x_1 hx_1) fun _ M_1 E_1 w_3 hM_1 p_3 q_1 _ f => ?_
  obtain ⟨rfl, rfl⟩ := q_1
  refine Y f 1 fun _ f => eT (RcF f hF_3 (fun h_2 hF_4 => ?_) fun h_2 hF_5 => ?_)
  ·have k_3 := dI.1 h_2
   refine RR (Y f 1 fun _ f => eT (wp_ret (T_r (E_ret1 f rfl (by kernel_rfl : Vc.look _ 2 = some (.int .i64 2)) ?_))))
   obtain rfl := sI hF_4
   exact ⟨_, rfl, M_1, hM_1, (p_3.dropN 1), rfl⟩
  ·have k_4 := iff_f dI h_2
   refine wp_skip (T_n (RR (Y f 1 fun _ f => eT (wp_ret (E_ret1 f rfl (by kernel_rfl : Vc.look _ 2 = some (.int .i64 0)) ?_)))))
   obtain rfl := sI hF_5
   exact ⟨_, rfl, M_1, hM_1, (p_3.dropN 1), rfl⟩
def params_Bind_1_1 (n : Nat) (d0 : TC0) (d1 : TA0) : Option Bool :=
  some ((decide (d0.fName = d1.fName)))
theorem params_Bind_1_1_ok (n : Nat) (M : Mem) (hG : GL M) (c0 : List Value) (d0 : TC0) (h0 : Rep M (emb_TC0 d0) c0) (ad1 : Addr) (c1 : List Value) (d1 : TA0) (h1 : Rep M (emb_TA0 d1) c1) (q1 : ∀ j v, c1[j]? = some v → M.cell? (ad1.add j) = some v) (r : Bool) (hF : params_Bind_1_1 n d0 d1 = some r) : Ok Tryd.prog M 30 [.agg c0.toArray, .pointer (some ad1)] (fun _ v => v = .bool r) := by
 unfold params_Bind_1_1 at hF
 intro M1 hM0 w0 H w p0
 replace hG := GL.mono hM0 hG
 replace h0 := Rep.mono hM0 _ _ h0
 replace h1 := Rep.mono hM0 _ _ h1
 replace q1 := fun j v h => hM0.cell (q1 j v h)
 obtain ⟨A_1, cap_1, A_2, cap_2, A_3, cap_3, rfl, h_1, h_2, h_3⟩ := TC0.opn h0
 obtain ⟨A_4, cap_4, A_5, cap_5, rfl, h_4, h_5⟩ := TA0.opn h1
 refine R_enter 9 Tryd.func30 rfl rfl (by simp) fun a0 f0 => RR (Y13 (cs := #[S d0.fName, .bool d0.fNumber, .bool d0.fHas, .int .i8 d0.fDefault.fKind, .bool d0.fDefault.fBool, .int .i64 d0.fDefault.fNum, S d0.fDefault.fText, .slice A_1 d0.fDefault.fList.length cap_1, .slice A_2 d0.fDefault.fKeys.length cap_2, .slice A_3 d0.fAllowed.length cap_3]) (T := 37) f0 p0 fun b_1 M_1 w_1 hM_1 hc_1 p_1 _ f => ?_)
 have hc_2 := fz_box hc_1
 refine Y f 1 fun _ f => eT (RR (Y f 1 fun _ f => Y15 f p_1 hc_2 0 rfl fun _ f => Y f 1 fun _ f => Y15 f p_1 (fzu hM_1 q1) 0 rfl fun _ f => Z f (Y37 rfl (l := d0.fName) (m := d1.fName)) fun _ f => Y f 1 fun _ f => eT (wp_ret (E_ret1 f rfl (by kernel_rfl : Vc.look _ 3 = some (.bool (decide (d0.fName = d1.fName)))) ?_))))
 obtain rfl := sI hF
 exact ⟨_, rfl, M_1, hM_1, p_1, rfl⟩
def params_find_8_s1 (n : Nat) (d0 : List TC0) (d1_0 : TA0) (s_1 : Int) : Option (Lp Int (Sum Int Unit)) :=
    bif (decide (s_1 < ((d0.length : Nat) : Int))) then
      ((getI d0 s_1).bind fun x_1 =>
      (params_Bind_1_1 n x_1 d1_0).bind fun x_2 =>
      bif x_2 then
        (some (.br (.inl s_1)))
      else
        need (inR .i64 (s_1 + 1)) <|
        some (.nx (s_1 + 1)))
    else
      some (.br (.inr ()))
def params_find_8 (n : Nat) (d0 : List TC0) (d1_0 : TA0) : Option Int :=
  (loopF (params_find_8_s1 n d0 d1_0) n (0 : Int)).bind fun b_1 =>
  (match b_1 with 
  | .inl y_1 => some (y_1) 
  | .inr y_2 => some ((-1 : Int)))
theorem params_find_8_ok (n : Nat) (M : Mem) (hG : GL M) (A0 : Option Addr) (cap0 : Nat) (d0 : List TC0) (h0 : Sli M 10 emb_TC0 A0 cap0 d0) (ad1_0 : Addr) (c1_0 : List Value) (d1_0 : TA0) (h1_0 : Rep M (emb_TA0 d1_0) c1_0) (q1_0 : ∀ j v, c1_0[j]? = some v → M.cell? (ad1_0.add j) = some v) (r : Int) (hF : params_find_8 n d0 d1_0 = some r) : Ok Tryd.prog M 29 [.slice A0 d0.length cap0, .func (.func 30) #[] #[.pointer (some ad1_0)]] (fun _ v => v = .int .i64 r) := by
 unfold params_find_8 at hF
 intro M1 hM0 w0 H w p0
 replace hG := GL.mono hM0 hG
 replace h0 := h0.mono hM0
 replace h1_0 := Rep.mono hM0 _ _ h1_0
 replace q1_0 := fun j v h => hM0.cell (q1_0 j v h)
 obtain ⟨A_1, cap_1, A_2, cap_2, rfl, h_1, h_2⟩ := TA0.opn h1_0
 refine R_enter 19 Tryd.func29 rfl rfl (by simp) fun a0 f0 => RR (Y f0 1 fun _ f => eT (R_seq (RR (Y f 3 fun _ f => eT (wp_block ?_)))))
 obtain ⟨b_1, hL_1, hF_1⟩ := bS hF
 refine wp_mono (Q := fun e a w => (e = .ret ∧ (∃ y_1 : Int, b_1 = .inl y_1 ∧ ∃ M_2 : Mem, M1.le M_2 ∧ Frm 19 [(4, .int .i64 y_1)] a ∧ Hp w0 M_2 (H) w)) ∨ (e = .exit 0 ∧ (∃ y_2 : Unit, b_1 = .inr y_2 ∧ ∃ M_3 : Mem, M1.le M_3 ∧ Frm 19 [] a ∧ Hp w0 M_3 (H) w))) (R_loop (n := 19) (w0 := w0) (M := M1) (fun (x : Nat × Int) => match x with | (m_1, s_1) => [(1, .func (.func 30) #[] #[.pointer (some ad1_0)]), (7, .slice A0 d0.length cap0), (8, .int .i64 ((d0.length : Nat) : Int)), (9, .int .i64 s_1)]) (fun (x : Nat × Int) => match x with | (m_1, s_1) => (H)) (fun (x : Nat × Int) (MM : Mem) => match x with | (m_1, s_1) => loopF (params_find_8_s1 n d0 d1_0) m_1 s_1 = some b_1) (fun (x : Nat × Int) => match x with | (m_1, s_1) => m_1) (n, (0 : Int)) (f.kp) p0 hL_1 ?_) ?_
 ·rintro ⟨m_1, s_1⟩ M_1 _ w_1 hM_1 I_1 f p_1
  have I_1L := I_1
  obtain ⟨m_2, r_1, rfl, hs_1, hn_1⟩ := loop_step I_1L
  unfold params_find_8_s1 at hs_1
  refine RR (Y f 1 fun _ f => eT (R_seq (RcF f hs_1 (fun h_3 hF_2 => ?_) fun h_3 hF_8 => ?_)))
  ·have k_1 := dI.1 h_3
   refine wp_skip (T_n (R_seq (wp_block (RR (Y f 1 fun _ f => ?_)))))
   obtain ⟨x_1, hx_1, hF_3⟩ := bS hF_2
   obtain ⟨ad_1, c_1, e_1, -, hr_1, hc_1⟩ := Sli.at_ (h0.mono hM_1) hx_1
   obtain ⟨A_3, cap_3, A_4, cap_4, A_5, cap_5, rfl, h_4, h_5, h_6⟩ := TC0.opn hr_1
   refine Z f (Y30 e_1 rfl (len := d0.length) (cap := cap0) (k := .i64) (i := s_1) (e := 37) (sz := 10) (getI_nn hx_1) (getI_lt hx_1)) fun _ f => Z (v := .agg #[S x_1.fName, .bool x_1.fNumber, .bool x_1.fHas, .int .i8 x_1.fDefault.fKind, .bool x_1.fDefault.fBool, .int .i64 x_1.fDefault.fNum, S x_1.fDefault.fText, .slice A_3 x_1.fDefault.fList.length cap_3, .slice A_4 x_1.fDefault.fKeys.length cap_4, .slice A_5 x_1.fAllowed.length cap_5]) f (Y32 (cs := [S x_1.fName, .bool x_1.fNumber, .bool x_1.fHas, .int .i8 x_1.fDefault.fKind, .bool x_1.fDefault.fBool, .int .i64 x_1.fDefault.fNum, S x_1.fDefault.fText, .slice A_3 x_1.fDefault.fList.length cap_3, .slice A_4 x_1.fDefault.fKeys.length cap_4, .slice A_5 x_1.fAllowed.length cap_5]) rfl (ad := ad_1.add (s_1.toNat * 10)) (fun j v h => p_1.cell (hc_1 j v h))) fun _ f => Y12 f p_1 (.cells #[S [], .bool false, .bool false, .int .i8 0, .bool false, .int .i64 0, S [], .slice none 0 0, .slice none 0 0, .slice none 0 0] 37 (0, 0)) fun b_2 w_2 p_2 _ f => Y f 1 fun _ f => Y28 (vs := [S x_1.fName, .bool x_1.fNumber, .bool x_1.fHas, .int .i8 x_1.fDefault.fKind, .bool x_1.fDefault.fBool, .int .i64 x_1.fDefault.fNum, S x_1.fDefault.fText, .slice A_3 x_1.fDefault.fList.length cap_3, .slice A_4 x_1.fDefault.fKeys.length cap_4, .slice A_5 x_1.fAllowed.length cap_5]) (j := 0) f p_2 rfl rfl (by simp [Value.oneCell', S]) (by simp) (by decide) (cs' := #[S x_1.fName, .bool x_1.fNumber, .bool x_1.fHas, .int .i8 x_1.fDefault.fKind, .bool x_1.fDefault.fBool, .int .i64 x_1.fDefault.fNum, S x_1.fDefault.fText, .slice A_3 x_1.fDefault.fList.length cap_3, .slice A_4 x_1.fDefault.fKeys.length cap_4, .slice A_5 x_1.fAllowed.length cap_5]) fun w_3 p_3 _ f => eT (RR (Y f 1 fun _ f => Z (v := .agg #[S x_1.fName, .bool x_1.fNumber, .bool x_1.fHas, .int .i8 x_1.fDefault.fKind, .bool x_1.fDefault.fBool, .int .i64 x_1.fDefault.fNum, S x_1.fDefault.fText, .slice A_3 x_1.fDefault.fList.length cap_3, .slice A_4 x_1.fDefault.fKeys.length cap_4, .slice A_5 x_1.fAllowed.length cap_5]) f (Y32 (cs := [S x_1.fName, .bool x_1.fNumber, .bool x_1.fHas, .int .i8 x_1.fDefault.fKind, .bool x_1.fDefault.fBool, .int .i64 x_1.fDefault.fNum, S x_1.fDefault.fText, .slice A_3 x_1.fDefault.fList.length cap_3, .slice A_4 x_1.fDefault.fKeys.length cap_4, .slice A_5 x_1.fAllowed.length cap_5]) rfl (ad := ⟨b_2, 0, none⟩) (own_cells (p_3.ownCell 0 rfl) 0 rfl)) fun _ f => ?_))
   obtain ⟨x_2, hx_2, hF_4⟩ := bS hF_3
   refine Y18 f p_3 (params_Bind_1_1_ok n _ (GL.mono hM_1 hG) _ x_1 (TC0.shutx (x := x_1) h_4 h_5 h_6) ad1_0 [S d1_0.fName, .bool d1_0.fUnknown, .int .i8 d1_0.fV.fKind, .bool d1_0.fV.fBool, .int .i64 d1_0.fV.fNum, S d1_0.fV.fText, .slice A_1 d1_0.fV.fList.length cap_1, .slice A_2 d1_0.fV.fKeys.length cap_2] d1_0 (TA0.shutx (x := d1_0) (h_1.mono hM_1) (h_2.mono hM_1)) (fz_at ((fzu hM_1 q1_0)) 0 rfl) x_2 hx_2) fun w_4 p_4 _ f => eT (RcF f hF_4 (fun h_7 hF_5 => ?_) fun h_7 hF_6 => ?_)
   ·refine RR (Y f 2 fun _ f => eT (wp_ret (B_r (T_r (T_r ?_)))))
    obtain rfl := sI hF_5
    exact .inl ⟨rfl, s_1, (sI hn_1).symm, M_1, hM_1, f.kp, (p_4.dropN 1)⟩
   ·refine wp_skip (B_n (T_n (R_reg ?_)))
    obtain ⟨g_1, hF_7⟩ := nS hF_6
    refine Y f 1 fun _ f => ?_
    have f := f.st 18 (congrArg (Value.int .i64) (inR_wrap g_1))
    refine Y f 1 fun _ f => eT ?_
    obtain rfl := sI hF_7
    exact ⟨⟨m_2, s_1 + 1⟩, Nat.lt_succ_self _, M_1, hM_1, hn_1, f.kp, (p_4.dropN 1)⟩
  ·have k_4 := iff_f dI h_3
   refine wp_exit (T_x (T_x ?_))
   obtain rfl := sI hF_8
   exact .inr ⟨rfl, (), (sI hn_1).symm, M_1, hM_1, f.kp, p_1⟩
 ·rintro _ _ w_7 (⟨rfl, y_1, rfl, M_2, hM_2, f, p_5⟩ | ⟨rfl, y_2, rfl, M_3, hM_3, f, p_6⟩)
  ·refine B_r (T_r (E_ret1 f rfl (by kernel_rfl : Vc.look _ 4 = some (.int .i64 y_1)) ?_))
   obtain rfl := sI hF_1
   exact ⟨_, rfl, M_2, hM_2, p_5, rfl⟩
  ·refine B_x (T_n (RR (Y f 1 fun _ f => eT (wp_ret (E_ret1 f rfl (by kernel_rfl : Vc.look _ 4 = some (.int .i64 (-1))) ?_)))))
   obtain rfl := sI hF_1
   exact ⟨_, rfl, M_3, hM_3, p_6, rfl⟩
def params_Bind_1 (n : Nat) (d0 : TA0) (d1 : List TC0) : Option Bool :=
  (params_find_8 n d1 d0).bind fun x_1 =>
  some ((decide (x_1 < 0)))
theorem params_Bind_1_ok (n : Nat) (M : Mem) (hG : GL M) (c0 : List Value) (d0 : TA0) (h0 : Rep M (emb_TA0 d0) c0) (ad1 : Addr) (c1 : List Value) (d1 : List TC0) (h1 : Rep M ((eL 10 emb_TC0) d1) c1) (q1 : ∀ j v, c1[j]? = some v → M.cell? (ad1.add j) = some v) (r : Bool) (hF : params_Bind_1 n d0 d1 = some r) : Ok Tryd.prog M 28 [.agg c0.toArray, .pointer (some ad1)] (fun _ v => v = .bool r) := by
 unfold params_Bind_1 at hF
 intro M1 hM0 w0 H w p0
 replace hG := GL.mono hM0 hG
 replace h0 := Rep.mono hM0 _ _ h0
 replace h1 := Rep.mono hM0 _ _ h1
 replace q1 := fun j v h => hM0.cell (q1 j v h)
 obtain ⟨A_1, cap_1, A_2, cap_2, rfl, h_1, h_2⟩ := TA0.opn h0
 obtain ⟨A_3, cap_3, rfl, h_3⟩ := Rep.sli h1
 refine R_enter 8 Tryd.func28 rfl rfl (by simp) fun a0 f0 => RR (Y13 (cs := #[S d0.fName, .bool d0.fUnknown, .int .i8 d0.fV.fKind, .bool d0.fV.fBool, .int .i64 d0.fV.fNum, S d0.fV.fText, .slice A_1 d0.fV.fList.length cap_1, .slice A_2 d0.fV.fKeys.length cap_2]) (T := 35) f0 p0 fun b_1 M_1 w_1 hM_1 hc_1 p_1 _ f => ?_)
 have hc_2 := fz_box hc_1
 refine Y f 1 fun _ f => eT (RR (Y15 f p_1 (fzu hM_1 q1) 0 rfl fun _ f => Y f 1 fun _ f => ?_))
 obtain ⟨x_1, hx_1, hF_1⟩ := bS hF
 refine Y18 f p_1 (params_find_8_ok n _ (GL.mono hM_1 hG) A_3 cap_3 d1 (h_3.mono hM_1) (⟨b_1, 0, none⟩) [S d0.fName, .bool d0.fUnknown, .int .i8 d0.fV.fKind, .bool d0.fV.fBool, .int .i64 d0.fV.fNum, S d0.fV.fText, .slice A_1 d0.fV.fList.length cap_1, .slice A_2 d0.fV.fKeys.length cap_2] d0 (TA0.shutx (x := d0) (h_1.mono hM_1) (h_2.mono hM_1)) (fz_at (hc_2) 0 rfl) x_1 hx_1) fun w_2 p_2 _ f => Y f 2 fun _ f => eT (wp_ret (E_ret1 f rfl (by kernel_rfl : Vc.look _ 3 = some (.bool (decide (x_1 < 0)))) ?_))
 obtain rfl := sI hF_1
 exact ⟨_, rfl, M_1, hM_1, p_2, rfl⟩
def params_find_7_s1 (n : Nat) (d0 : List TA0) (d1_0 : List TC0) (s_1 : Int) : Option (Lp Int (Sum Int Unit)) :=
    bif (decide (s_1 < ((d0.length : Nat) : Int))) then
      ((getI d0 s_1).bind fun x_1 =>
      (params_Bind_1 n x_1 d1_0).bind fun x_2 =>
      bif x_2 then
        (some (.br (.inl s_1)))
      else
        need (inR .i64 (s_1 + 1)) <|
        some (.nx (s_1 + 1)))
    else
      some (.br (.inr ()))
def params_find_7 (n : Nat) (d0 : List TA0) (d1_0 : List TC0) : Option Int :=
  (loopF (params_find_7_s1 n d0 d1_0) n (0 : Int)).bind fun b_1 =>
  (match b_1 with 
  | .inl y_1 => some (y_1) 
  | .inr y_2 => some ((-1 : Int)))
theorem params_find_7_ok (n : Nat) (M : Mem) (hG : GL M) (A0 : Option Addr) (cap0 : Nat) (d0 : List TA0) (h0 : Sli M 8 emb_TA0 A0 cap0 d0) (ad1_0 : Addr) (c1_0 : List Value) (d1_0 : List TC0) (h1_0 : Rep M ((eL 10 emb_TC0) d1_0) c1_0) (q1_0 : ∀ j v, c1_0[j]? = some v → M.cell? (ad1_0.add j) = some v) (r : Int) (hF : params_find_7 n d0 d1_0 = some r) : Ok Tryd.prog M 27 [.slice A0 d0.length cap0, .func (.func 28) #[] #[.pointer (some ad1_0)]] (fun _ v => v = .int .i64 r) := by
 unfold params_find_7 at hF
 intro M1 hM0 w0 H w p0
 replace hG := GL.mono hM0 hG
 replace h0 := h0.mono hM0
 replace h1_0 := Rep.mono hM0 _ _ h1_0
 replace q1_0 := fun j v h => hM0.cell (q1_0 j v h)
 obtain ⟨A_1, cap_1, rfl, h_1⟩ := Rep.sli h1_0
 refine R_enter 19 Tryd.func27 rfl rfl (by simp) fun a0 f0 => RR (Y f0 1 fun _ f => eT (R_seq (RR (Y f 3 fun _ f => eT (wp_block ?_)))))
 obtain ⟨b_1, hL_1, hF_1⟩ := bS hF
 refine wp_mono (Q := fun e a w => (e = .ret ∧ (∃ y_1 : Int, b_1 = .inl y_1 ∧ ∃ M_2 : Mem, M1.le M_2 ∧ Frm 19 [(4, .int .i64 y_1)] a ∧ Hp w0 M_2 (H) w)) ∨ (e = .exit 0 ∧ (∃ y_2 : Unit, b_1 = .inr y_2 ∧ ∃ M_3 : Mem, M1.le M_3 ∧ Frm 19 [] a ∧ Hp w0 M_3 (H) w))) (R_loop (n := 19) (w0 := w0) (M := M1) (fun (x : Nat × Int) => match x with | (m_1, s_1) => [(1, .func (.func 28) #[] #[.pointer (some ad1_0)]), (7, .slice A0 d0.length cap0), (8, .int .i64 ((d0.length : Nat) : Int)), (9, .int .i64 s_1)]) (fun (x : Nat × Int) => match x with | (m_1, s_1) => (H)) (fun (x : Nat × Int) (MM : Mem) => match x with | (m_1, s_1) => loopF (params_find_7_s1 n d0 d1_0) m_1 s_1 = some b_1) (fun (x : Nat × Int) => match x with | (m_1, s_1) => m_1) (n, (0 : Int)) (f.kp) p0 hL_1 ?_) ?_
 ·rintro ⟨m_1, s_1⟩ M_1 _ w_1 hM_1 I_1 f p_1
  have I_1L := I_1
  obtain ⟨m_2, r_1, rfl, hs_1, hn_1⟩ := loop_step I_1L
  unfold params_find_7_s1 at hs_1
  refine RR (Y f 1 fun _ f => eT (R_seq (RcF f hs_1 (fun h_2 hF_2 => ?_) fun h_2 hF_8 => ?_)))
  ·have k_1 := dI.1 h_2
   refine wp_skip (T_n (R_seq (wp_block (RR (Y f 1 fun _ f => ?_)))))
   obtain ⟨x_1, hx_1, hF_3⟩ := bS hF_2
   obtain ⟨ad_1, c_1, e_1, -, hr_1, hc_1⟩ := Sli.at_ (h0.mono hM_1) hx_1
   obtain ⟨A_2, cap_2, A_3, cap_3, rfl, h_3, h_4⟩ := TA0.opn hr_1
   refine Z f (Y30 e_1 rfl (len := d0.length) (cap := cap0) (k := .i64) (i := s_1) (e := 35) (sz := 8) (getI_nn hx_1) (getI_lt hx_1)) fun _ f => Z (v := .agg #[S x_1.fName, .bool x_1.fUnknown, .int .i8 x_1.fV.fKind, .bool x_1.fV.fBool, .int .i64 x_1.fV.fNum, S x_1.fV.fText, .slice A_2 x_1.fV.fList.length cap_2, .slice A_3 x_1.fV.fKeys.length cap_3]) f (Y32 (cs := [S x_1.fName, .bool x_1.fUnknown, .int .i8 x_1.fV.fKind, .bool x_1.fV.fBool, .int .i64 x_1.fV.fNum, S x_1.fV.fText, .slice A_2 x_1.fV.fList.length cap_2, .slice A_3 x_1.fV.fKeys.length cap_3]) rfl (ad := ad_1.add (s_1.toNat * 8)) (fun j v h => p_1.cell (hc_1 j v h))) fun _ f => Y12 f p_1 (.cells #[S [], .bool false, .int .i8 0, .bool false, .int .i64 0, S [], .slice none 0 0, .slice none 0 0] 35 (0, 0)) fun b_2 w_2 p_2 _ f => Y f 1 fun _ f => Y28 (vs := [S x_1.fName, .bool x_1.fUnknown, .int .i8 x_1.fV.fKind, .bool x_1.fV.fBool, .int .i64 x_1.fV.fNum, S x_1.fV.fText, .slice A_2 x_1.fV.fList.length cap_2, .slice A_3 x_1.fV.fKeys.length cap_3]) (j := 0) f p_2 rfl rfl (by simp [Value.oneCell', S]) (by simp) (by decide) (cs' := #[S x_1.fName, .bool x_1.fUnknown, .int .i8 x_1.fV.fKind, .bool x_1.fV.fBool, .int .i64 x_1.fV.fNum, S x_1.fV.fText, .slice A_2 x_1.fV.fList.length cap_2, .slice A_3 x_1.fV.fKeys.length cap_3]) fun w_3 p_3 _ f => eT (RR (Y f 1 fun _ f => Z (v := .agg #[S x_1.fName, .bool x_1.fUnknown, .int .i8 x_1.fV.fKind, .bool x_1.fV.fBool, .int .i64 x_1.fV.fNum, S x_1.fV.fText, .slice A_2 x_1.fV.fList.length cap_2, .slice A_3 x_1.fV.fKeys.length cap_3]) f (Y32 (cs := [S x_1.fName, .bool x_1.fUnknown, .int .i8 x_1.fV.fKind, .bool x_1.fV.fBool, .int .i64 x_1.fV.fNum, S x_1.fV.fText, .slice A_2 x_1.fV.fList.length cap_2, .slice A_3 x_1.fV.fKeys.length cap_3]) rfl (ad := ⟨b_2, 0, none⟩) (own_cells (p_3.ownCell 0 rfl) 0 rfl)) fun _ f => ?_))
   obtain ⟨x_2, hx_2, hF_4⟩ := bS hF_3
   refine Y18 f p_3 (params_Bind_1_ok n _ (GL.mono hM_1 hG) _ x_1 (TA0.shutx (x := x_1) h_3 h_4) ad1_0 [.slice A_1 d1_0.length cap_1] d1_0 (Sli.rep (h_1.mono hM_1)) (fz_at ((fzu hM_1 q1_0)) 0 rfl) x_2 hx_2) fun w_4 p_4 _ f => eT (RcF f hF_4 (fun h_5 hF_5 => ?_) fun h_5 hF_6 => ?_)
   ·refine RR (Y f 2 fun _ f => eT (wp_ret (B_r (T_r (T_r ?_)))))
    obtain rfl := sI hF_5
    exact .inl ⟨rfl, s_1, (sI hn_1).symm, M_1, hM_1, f.kp, (p_4.dropN 1)⟩
   ·refine wp_skip (B_n (T_n (R_reg ?_)))
    obtain ⟨g_1, hF_7⟩ := nS hF_6
    refine Y f 1 fun _ f => ?_
    have f := f.st 18 (congrArg (Value.int .i64) (inR_wrap g_1))
    refine Y f 1 fun _ f => eT ?_
    obtain rfl := sI hF_7
    exact ⟨⟨m_2, s_1 + 1⟩, Nat.lt_succ_self _, M_1, hM_1, hn_1, f.kp, (p_4.dropN 1)⟩
  ·have k_4 := iff_f dI h_2
   refine wp_exit (T_x (T_x ?_))
   obtain rfl := sI hF_8
   exact .inr ⟨rfl, (), (sI hn_1).symm, M_1, hM_1, f.kp, p_1⟩
 ·rintro _ _ w_7 (⟨rfl, y_1, rfl, M_2, hM_2, f, p_5⟩ | ⟨rfl, y_2, rfl, M_3, hM_3, f, p_6⟩)
  ·refine B_r (T_r (E_ret1 f rfl (by kernel_rfl : Vc.look _ 4 = some (.int .i64 y_1)) ?_))
   obtain rfl := sI hF_1
   exact ⟨_, rfl, M_2, hM_2, p_5, rfl⟩
  ·refine B_x (T_n (RR (Y f 1 fun _ f => eT (wp_ret (E_ret1 f rfl (by kernel_rfl : Vc.look _ 4 = some (.int .i64 (-1))) ?_)))))
   obtain rfl := sI hF_1
   exact ⟨_, rfl, M_3, hM_3, p_6, rfl⟩
def params_Bind_s1 (n : Nat) (d1 : List TA0) (s_1 : Int) : Option (Lp Int (Sum Unit Unit)) :=
    bif (decide (s_1 < ((d1.length : Nat) : Int))) then
      (need (inR .i64 (s_1 - 1)) <|
      (getI d1 (s_1 - 1)).bind fun x_2 =>
      (getI d1 s_1).bind fun x_3 =>
      bif (!(Op.bytesLess x_2.fName x_3.fName)) then
        (some (.br (.inl ())))
      else
        need (inR .i64 (s_1 + 1)) <|
        some (.nx (s_1 + 1)))
    else
      some (.br (.inr ()))
def params_Bind_s2 (n : Nat) (d0 : List TC0) (d1 : List TA0) (s_2 : List TA0 × Int) : Option (Lp (List TA0 × Int) (Sum (List UInt8) (List TA0))) :=
    bif (decide (s_2.2 < ((d0.length : Nat) : Int))) then
      ((getI d0 s_2.2).bind fun x_6 =>
      (params_Find n d1 x_6.fName).bind fun x_7 =>
      ((bif !x_7.2 then
          (some ((x_6.fName, (false), x_6.fDefault.fKind, (x_6.fDefault.fBool), x_6.fDefault.fNum, x_6.fDefault.fText, x_6.fDefault.fList, x_6.fDefault.fKeys)))
        else
          some ((x_7.1.fName, (x_7.1.fUnknown), x_7.1.fV.fKind, (x_7.1.fV.fBool), x_7.1.fV.fNum, x_7.1.fV.fText, x_7.1.fV.fList, x_7.1.fV.fKeys)) : Option (List UInt8 × Bool × Int × Bool × Int × List UInt8 × List TB0 × List (List UInt8)))).bind fun y_3 =>
      ((bif !x_7.2 then
          (bif !x_6.fHas then
            (some ((true)))
          else
            (params_May n (⟨x_6.fName, (x_6.fNumber), (x_6.fHas), (⟨x_6.fDefault.fKind, (x_6.fDefault.fBool), x_6.fDefault.fNum, x_6.fDefault.fText, x_6.fDefault.fList, x_6.fDefault.fKeys⟩ : TB0), x_6.fAllowed⟩ : TC0) (⟨y_3.1, (y_3.2.1), (⟨y_3.2.2.1, (y_3.2.2.2.1), y_3.2.2.2.2.1, y_3.2.2.2.2.2.1, y_3.2.2.2.2.2.2.1, y_3.2.2.2.2.2.2.2⟩ : TB0)⟩ : TA0)).bind fun x_8 =>
            some ((!x_8)))
        else
          (params_May n (⟨x_6.fName, (x_6.fNumber), (x_6.fHas), (⟨x_6.fDefault.fKind, (x_6.fDefault.fBool), x_6.fDefault.fNum, x_6.fDefault.fText, x_6.fDefault.fList, x_6.fDefault.fKeys⟩ : TB0), x_6.fAllowed⟩ : TC0) (⟨y_3.1, (y_3.2.1), (⟨y_3.2.2.1, (y_3.2.2.2.1), y_3.2.2.2.2.1, y_3.2.2.2.2.2.1, y_3.2.2.2.2.2.2.1, y_3.2.2.2.2.2.2.2⟩ : TB0)⟩ : TA0)).bind fun x_9 =>
          some ((!x_9)) : Option Bool)).bind fun y_4 =>
      bif y_4 then
        (some (.br (.inl x_6.fName)))
      else
        need ((s_2.1.length + 1) * 104 ≤ 140737488355328) <|
        need (inR .i64 (s_2.2 + 1)) <|
        some (.nx (s_2.1 ++ [(⟨y_3.1, (y_3.2.1), (⟨y_3.2.2.1, (y_3.2.2.2.1), y_3.2.2.2.2.1, y_3.2.2.2.2.2.1, y_3.2.2.2.2.2.2.1, y_3.2.2.2.2.2.2.2⟩ : TB0)⟩ : TA0)], s_2.2 + 1)))
    else
      some (.br (.inr s_2.1))
def params_Bind (n : Nat) (d0 : List TC0) (d1 : List TA0) : Option (List TA0 × List UInt8 × Int) :=
  (params_Check n d0).bind fun x_1 =>
  bif (!(decide (x_1 = 0))) then
    (some ((([] : List TA0), ([] : List UInt8), x_1)))
  else
    (loopF (params_Bind_s1 n d1) n (1 : Int)).bind fun b_2 =>
    (match b_2 with 
    | .inl y_1 => some ((([] : List TA0), ([] : List UInt8), (2 : Int))) 
    | .inr y_2 => (params_find_7 n d1 d0).bind fun x_4 =>
      bif (decide ((0 : Int) ≤ x_4)) then
        ((getI d1 x_4).bind fun x_5 =>
        some ((([] : List TA0), x_5.fName, (140 : Int))))
      else
        (loopF (params_Bind_s2 n d0 d1) n (([] : List TA0), (0 : Int))).bind fun b_3 =>
        (match b_3 with 
        | .inl y_5 => some ((([] : List TA0), y_5, (140 : Int))) 
        | .inr y_6 => some ((y_6, ([] : List UInt8), (0 : Int)))))
theorem params_Bind_ok (n : Nat) (M : Mem) (hG : GL M) (A0 : Option Addr) (cap0 : Nat) (d0 : List TC0) (h0 : Sli M 10 emb_TC0 A0 cap0 d0) (A1 : Option Addr) (cap1 : Nat) (d1 : List TA0) (h1 : Sli M 8 emb_TA0 A1 cap1 d1) (r : List TA0 × List UInt8 × Int) (hF : params_Bind n d0 d1 = some r) : OkH Tryd.prog M [] 11 [.slice A0 d0.length cap0, .slice A1 d1.length cap1] (fun M' E' v => ∃ (A0 : Option Addr) (k0 : Nat) (s0 : List Value), v = .tuple #[.slice A0 r.1.length k0, S r.2.1, .int .i64 r.2.2] ∧ E' = [.row 35 8 (.slice A0 r.1.length k0) r.1.length s0] ∧ RepSeq M' (r.1.map emb_TA0) s0) := by
 unfold params_Bind at hF
 intro M1 hM0 w0 H w p0
 replace hG := GL.mono hM0 hG
 replace h0 := h0.mono hM0
 replace h1 := h1.mono hM0
 refine R_enter 88 Tryd.func11 rfl rfl (by simp) fun a0 f0 => RR (Y13 (cs := #[.slice A0 d0.length cap0]) (T := 22) f0 p0 fun b_1 M_1 w_1 hM_1 hc_1 p_1 _ f => ?_)
 have hc_2 := fz_box hc_1
 refine Y f 3 fun _ f => eT (R_seq (RR (Y15 f p_1 hc_2 0 rfl fun _ f => ?_)))
 obtain ⟨x_1, hx_1, hF_1⟩ := bS hF
 refine Y18 f p_1 (params_Check_ok n _ (GL.mono hM_1 hG) A0 cap0 d0 (h0.mono hM_1) x_1 hx_1) fun w_2 p_2 _ f => Y f 1 fun _ f => eT (RR (Y f 2 fun _ f => eT (RcF f hF_1 (fun h_1 hF_2 => ?_) fun h_1 hF_3 => ?_)))
 ·have k_1 : ¬ (x_1 = 0) := (not_iff dI).1 h_1
  refine RR (Y f 4 fun _ f => eT (wp_ret (T_r ?_)))
  obtain ⟨A_1, cap_1, hv_1⟩ : ∃ A cap, Value.slice none 0 0 = .slice A ([] : List TA0).length cap := ⟨none, 0, rfl⟩
  have p_3 : Hp w0 M_1 ((Ent.row 35 8 (.slice A_1 ([] : List TA0).length cap_1) ([] : List TA0).length []) :: H) w_2 := by rw [← hv_1]; exact p_2.nilRow 35 8
  have f := f.st 4 (hv_1)
  have hr_1 : RepSeq M_1 (([] : List TA0).map emb_TA0) [] := rfl
  refine E_ret3 f rfl (by kernel_rfl : Vc.look _ 4 = some (.slice A_1 ([] : List TA0).length cap_1)) (by kernel_rfl : Vc.look _ 5 = some (S [])) (by kernel_rfl : Vc.look _ 6 = some (.int .i64 x_1)) ?_
  obtain rfl := sI hF_2
  exact ⟨_, rfl, M_1, _, hM_1, p_3, ⟨A_1, cap_1, [], rfl, rfl, hr_1⟩⟩
 ·have k_2 : ¬ (¬ (x_1 = 0)) := iff_f (not_iff dI) h_1
  refine wp_skip (T_n (R_seq (RR (Y f 1 fun _ f => eT (wp_block ?_)))))
  obtain ⟨b_2, hL_1, hF_4⟩ := bS hF_3
  refine wp_mono (Q := fun e a w => (e = .ret ∧ (∃ y_1 : Unit, b_2 = .inl y_1 ∧ ∃ M_3 : Mem, M_1.le M_3 ∧ Frm 88 [(4, .slice none 0 0), (5, S []), (6, .int .i64 2)] a ∧ Hp w0 M_3 (H) w)) ∨ (e = .exit 0 ∧ (∃ y_2 : Unit, b_2 = .inr y_2 ∧ ∃ M_4 : Mem, M_1.le M_4 ∧ Frm 88 [(1, .slice A1 d1.length cap1), (2, .pointer (some (⟨b_1, 0, none⟩))), (4, .slice none 0 0)] a ∧ Hp w0 M_4 (H) w))) (R_loop (n := 88) (w0 := w0) (M := M_1) (fun (x : Nat × Int) => match x with | (m_1, s_1) => [(1, .slice A1 d1.length cap1), (2, .pointer (some (⟨b_1, 0, none⟩))), (4, .slice none 0 0), (8, .int .i64 s_1)]) (fun (x : Nat × Int) => match x with | (m_1, s_1) => (H)) (fun (x : Nat × Int) (MM : Mem) => match x with | (m_1, s_1) => loopF (params_Bind_s1 n d1) m_1 s_1 = some b_2) (fun (x : Nat × Int) => match x with | (m_1, s_1) => m_1) (n, (1 : Int)) (f.kp) p_2 hL_1 ?_) ?_
  ·rintro ⟨m_1, s_1⟩ M_2 _ w_3 hM_2 I_1 f p_4
   have I_1L := I_1
   obtain ⟨m_2, r_1, rfl, hs_1, hn_1⟩ := loop_step I_1L
   unfold params_Bind_s1 at hs_1
   refine R_seq (RR (Y f 4 fun _ f => eT (RcF f hs_1 (fun h_2 hF_5 => ?_) fun h_2 hF_12 => ?_)))
   ·have k_3 := dI.1 h_2
    refine wp_skip (T_n (R_seq (wp_block (R_seq (R_draw p_4 (by kernel_rfl) (by kernel_rfl) (Y5 default f 2 fun _ f => ?_))))))
    obtain ⟨g_1, hF_6⟩ := nS hF_5
    refine Y2 (v := .int .i64 (IntKind.wrap .i64 (s_1 - 1))) f (fun _ pq => by kernel_rfl) fun _ f => ?_
    have f := f.st 27 (congrArg (Value.int .i64) (inR_wrap g_1))
    obtain ⟨x_2, hx_2, hF_7⟩ := bS hF_6
    obtain ⟨ad_1, c_1, e_1, -, hr_2, hc_3⟩ := Sli.at_ (h1.mono (hM_1.trans hM_2)) hx_2
    obtain ⟨A_2, cap_2, A_3, cap_3, rfl, h_3, h_4⟩ := TA0.opn hr_2
    refine Y2 (v := .pointer (some (ad_1.add ((s_1 - 1).toNat * 8)))) f (fun _ pq => Y30 e_1 rfl (len := d1.length) (cap := cap1) (k := .i64) (i := s_1 - 1) (e := 35) (sz := 8) (getI_nn hx_2) (getI_lt hx_2)) fun _ f => Y5 default f 1 fun _ f => Y4 f hc_3 0 rfl fun _ f => Y5 default f 2 fun _ f => ?_
    obtain ⟨x_3, hx_3, hF_8⟩ := bS hF_7
    obtain ⟨ad_2, c_2, e_2, -, hr_3, hc_4⟩ := Sli.at_ (h1.mono (hM_1.trans hM_2)) hx_3
    obtain ⟨A_4, cap_4, A_5, cap_5, rfl, h_5, h_6⟩ := TA0.opn hr_3
    refine Y2 (v := .pointer (some (ad_2.add (s_1.toNat * 8)))) f (fun _ pq => Y30 e_2 rfl (len := d1.length) (cap := cap1) (k := .i64) (i := s_1) (e := 35) (sz := 8) (getI_nn hx_3) (getI_lt hx_3)) fun _ f => Y5 default f 1 fun _ f => Y4 f hc_4 0 rfl fun _ f => Y2 (v := .bool (!(Op.bytesLess x_2.fName x_3.fName))) f (fun _ pq => X_strge rfl (l := x_2.fName) (m := x_3.fName) (by kernel_rfl) (by kernel_rfl)) fun _ f => Q_end rfl ?_
    intro w_4 p_5
    refine T_n (RcF f hF_8 (fun h_7 hF_9 => ?_) fun h_7 hF_10 => ?_)
    ·have k_4 : (Op.bytesLess x_2.fName x_3.fName) = false := by simpa using h_7
     refine RR (Y f 3 fun _ f => eT (wp_ret (B_r (T_r (T_r ?_)))))
     obtain rfl := sI hF_9
     exact .inl ⟨rfl, (), (sI hn_1).symm, M_2, hM_2, f.kp, p_5⟩
    ·have k_5 : (Op.bytesLess x_2.fName x_3.fName) = true := by simpa using h_7
     refine wp_skip (B_n (T_n (R_reg (Y f 1 fun _ f => ?_))))
     obtain ⟨g_2, hF_11⟩ := nS hF_10
     refine Y f 1 fun _ f => ?_
     have f := f.st 24 (congrArg (Value.int .i64) (inR_wrap g_2))
     refine Y f 1 fun _ f => eT ?_
     obtain rfl := sI hF_11
     exact ⟨⟨m_2, s_1 + 1⟩, Nat.lt_succ_self _, M_2, hM_2, hn_1, f.kp, p_5⟩
   ·have k_6 := iff_f dI h_2
    refine wp_exit (T_x (T_x ?_))
    obtain rfl := sI hF_12
    exact .inr ⟨rfl, (), (sI hn_1).symm, M_2, hM_2, f.kp, p_4⟩
  ·rintro _ _ w_7 (⟨rfl, y_1, rfl, M_3, hM_3, f, p_6⟩ | ⟨rfl, y_2, rfl, M_4, hM_4, f, p_7⟩)
   ·refine B_r (T_r ?_)
    obtain ⟨A_6, cap_6, hv_2⟩ : ∃ A cap, Value.slice none 0 0 = .slice A ([] : List TA0).length cap := ⟨none, 0, rfl⟩
    have p_8 : Hp w0 M_3 ((Ent.row 35 8 (.slice A_6 ([] : List TA0).length cap_6) ([] : List TA0).length []) :: H) w_7 := by rw [← hv_2]; exact p_6.nilRow 35 8
    have f := f.st 4 (hv_2)
    have hr_4 : RepSeq M_3 (([] : List TA0).map emb_TA0) [] := rfl
    refine E_ret3 f rfl (by kernel_rfl : Vc.look _ 4 = some (.slice A_6 ([] : List TA0).length cap_6)) (by kernel_rfl : Vc.look _ 5 = some (S [])) (by kernel_rfl : Vc.look _ 6 = some (.int .i64 2)) ?_
    obtain rfl := sI hF_4
    exact ⟨_, rfl, M_3, _, (hM_1.trans hM_3), p_8, ⟨A_6, cap_6, [], rfl, rfl, hr_4⟩⟩
   ·refine B_x (T_n (R_seq (RR (Y f 2 fun _ f => ?_))))
    obtain ⟨x_4, hx_4, hF_13⟩ := bS hF_4
    refine Y18 f p_7 (params_find_7_ok n _ (GL.mono (hM_1.trans hM_4) hG) A1 cap1 d1 (h1.mono (hM_1.trans hM_4)) (⟨b_1, 0, none⟩) [.slice A0 d0.length cap0] d0 (Sli.rep (h0.mono (hM_1.trans hM_4))) (fz_at ((fzu hM_4 hc_2)) 0 rfl) x_4 hx_4) fun w_8 p_9 _ f => Y f 1 fun _ f => eT (RR (Y f 2 fun _ f => eT (RcF f hF_13 (fun h_8 hF_14 => ?_) fun h_8 hF_16 => ?_)))
    ·have k_7 := dI.1 h_8
     refine R_seq (R_draw p_9 (by kernel_rfl) (by kernel_rfl) (Y5 default f 2 fun _ f => ?_))
     obtain ⟨x_5, hx_5, hF_15⟩ := bS hF_14
     obtain ⟨ad_3, c_3, e_3, -, hr_5, hc_5⟩ := Sli.at_ (h1.mono (hM_1.trans hM_4)) hx_5
     obtain ⟨A_7, cap_7, A_8, cap_8, rfl, h_9, h_10⟩ := TA0.opn hr_5
     refine Y2 (v := .pointer (some (ad_3.add (x_4.toNat * 8)))) f (fun _ pq => Y30 e_3 rfl (len := d1.length) (cap := cap1) (k := .i64) (i := x_4) (e := 35) (sz := 8) (getI_nn hx_5) (getI_lt hx_5)) fun _ f => Y5 default f 1 fun _ f => Y4 f hc_5 0 rfl fun _ f => Y5 default f 3 fun _ f => Q_end rfl ?_
     intro w_9 p_10
     refine T_n (wp_ret (T_r ?_))
     obtain ⟨A_9, cap_9, hv_3⟩ : ∃ A cap, Value.slice none 0 0 = .slice A ([] : List TA0).length cap := ⟨none, 0, rfl⟩
     have p_11 : Hp w0 M_4 ((Ent.row 35 8 (.slice A_9 ([] : List TA0).length cap_9) ([] : List TA0).length []) :: H) w_9 := by rw [← hv_3]; exact p_10.nilRow 35 8
     have f := f.st 4 (hv_3)
     have hr_6 : RepSeq M_4 (([] : List TA0).map emb_TA0) [] := rfl
     refine E_ret3 f rfl (by kernel_rfl : Vc.look _ 4 = some (.slice A_9 ([] : List TA0).length cap_9)) (by kernel_rfl : Vc.look _ 5 = some (S x_5.fName)) (by kernel_rfl : Vc.look _ 6 = some (.int .i64 140)) ?_
     obtain rfl := sI hF_15
     exact ⟨_, rfl, M_4, _, (hM_1.trans hM_4), p_11, ⟨A_9, cap_9, [], rfl, rfl, hr_6⟩⟩
    ·have k_8 := iff_f dI h_8
     refine wp_skip (T_n (R_seq (RR (Y15 f p_9 (fzu hM_4 hc_2) 0 rfl fun _ f => Y f 2 fun _ f => eT (wp_block ?_)))))
     obtain ⟨A_10, cap_10, hv_4⟩ : ∃ A cap, Value.slice none 0 0 = .slice A ([] : List TA0).length cap := ⟨none, 0, rfl⟩
     have p_12 : Hp w0 M_4 ((Ent.row 35 8 (.slice A_10 ([] : List TA0).length cap_10) ([] : List TA0).length []) :: H) w_8 := by rw [← hv_4]; exact p_9.nilRow 35 8
     have f := f.st 4 (hv_4)
     have hr_7 : RepSeq M_4 (([] : List TA0).map emb_TA0) [] := rfl
     obtain ⟨b_3, hL_2, hF_17⟩ := bS hF_16
     refine wp_mono (Q := fun e a w => (e = .ret ∧ (∃ y_5 : List UInt8, b_3 = .inl y_5 ∧ ∃ M_9 : Mem, M_4.le M_9 ∧ Frm 88 [(4, .slice none 0 0), (5, S y_5), (6, .int .i64 140)] a ∧ Hp w0 M_9 (H) w)) ∨ (e = .exit 2 ∧ (∃ y_6 : List TA0, b_3 = .inr y_6 ∧ ∃ M_10 : Mem, M_4.le M_10 ∧ ∃ (A_20 : Option Addr), ∃ (cap_20 : Nat), ∃ (cs_3 : List Value), RepSeq M_10 (y_6.map emb_TA0) cs_3 ∧ Frm 88 [(4, .slice A_20 y_6.length cap_20)] a ∧ Hp w0 M_10 ((Ent.row 35 8 (.slice A_20 y_6.length cap_20) y_6.length cs_3) :: H) w))) (R_loop (n := 88) (w0 := w0) (M := M_4) (fun (x : Nat × (List TA0 × Int) × (Option Addr) × Nat × (List Value)) => match x with | (m_3, s_2, A_11, cap_11, cs_1) => [(1, .slice A1 d1.length cap1), (4, .slice A_11 s_2.1.length cap_11), (47, .slice A0 d0.length cap0), (48, .int .i64 ((d0.length : Nat) : Int)), (49, .int .i64 s_2.2)]) (fun (x : Nat × (List TA0 × Int) × (Option Addr) × Nat × (List Value)) => match x with | (m_3, s_2, A_11, cap_11, cs_1) => ((Ent.row 35 8 (.slice A_11 s_2.1.length cap_11) s_2.1.length cs_1) :: H)) (fun (x : Nat × (List TA0 × Int) × (Option Addr) × Nat × (List Value)) (MM : Mem) => match x with | (m_3, s_2, A_11, cap_11, cs_1) => loopF (params_Bind_s2 n d0 d1) m_3 s_2 = some b_3 ∧ RepSeq MM (s_2.1.map emb_TA0) cs_1) (fun (x : Nat × (List TA0 × Int) × (Option Addr) × Nat × (List Value)) => match x with | (m_3, s_2, A_11, cap_11, cs_1) => m_3) (n, (([] : List TA0), (0 : Int)), A_10, cap_10, []) (f.kp) p_12 ⟨hL_2, hr_7⟩ ?_) ?_
     ·rintro ⟨m_3, s_2, A_11, cap_11, cs_1⟩ M_5 _ w_10 hM_5 I_2 f p_13
      obtain ⟨I_2L, hr_8⟩ := I_2
      obtain ⟨m_4, r_2, rfl, hs_2, hn_2⟩ := loop_step I_2L
      unfold params_Bind_s2 at hs_2
      refine RR (Y f 1 fun _ f => eT (R_seq (RcF f hs_2 (fun h_11 hF_18 => ?_) fun h_11 hF_35 => ?_)))
      ·have k_9 := dI.1 h_11
       refine wp_skip (T_n (R_seq (wp_block (RR ?_))))
       obtain ⟨x_6, hx_6, hF_19⟩ := bS hF_18
       obtain ⟨ad_4, c_4, e_4, -, hr_9, hc_6⟩ := Sli.at_ (h0.mono ((hM_1.trans hM_4).trans hM_5)) hx_6
       obtain ⟨A_12, cap_12, A_13, cap_13, A_14, cap_14, rfl, h_12, h_13, h_14⟩ := TC0.opn hr_9
       refine Z f (Y30 e_4 rfl (len := d0.length) (cap := cap0) (k := .i64) (i := s_2.2) (e := 37) (sz := 10) (getI_nn hx_6) (getI_lt hx_6)) fun _ f => Z (v := .agg #[S x_6.fName, .bool x_6.fNumber, .bool x_6.fHas, .int .i8 x_6.fDefault.fKind, .bool x_6.fDefault.fBool, .int .i64 x_6.fDefault.fNum, S x_6.fDefault.fText, .slice A_12 x_6.fDefault.fList.length cap_12, .slice A_13 x_6.fDefault.fKeys.length cap_13, .slice A_14 x_6.fAllowed.length cap_14]) f (Y32 (cs := [S x_6.fName, .bool x_6.fNumber, .bool x_6.fHas, .int .i8 x_6.fDefault.fKind, .bool x_6.fDefault.fBool, .int .i64 x_6.fDefault.fNum, S x_6.fDefault.fText, .slice A_12 x_6.fDefault.fList.length cap_12, .slice A_13 x_6.fDefault.fKeys.length cap_13, .slice A_14 x_6.fAllowed.length cap_14]) rfl (ad := ad_4.add (s_2.2.toNat * 10)) (fun j v h => p_13.cell (hc_6 j v h))) fun _ f => Y12 f p_13 (.cells #[S [], .bool false, .bool false, .int .i8 0, .bool false, .int .i64 0, S [], .slice none 0 0, .slice none 0 0, .slice none 0 0] 37 (0, 0)) fun b_4 w_11 p_14 _ f => Y28 (vs := [S x_6.fName, .bool x_6.fNumber, .bool x_6.fHas, .int .i8 x_6.fDefault.fKind, .bool x_6.fDefault.fBool, .int .i64 x_6.fDefault.fNum, S x_6.fDefault.fText, .slice A_12 x_6.fDefault.fList.length cap_12, .slice A_13 x_6.fDefault.fKeys.length cap_13, .slice A_14 x_6.fAllowed.length cap_14]) (j := 0) f p_14 rfl rfl (by simp [Value.oneCell', S]) (by simp) (by decide) (cs' := #[S x_6.fName, .bool x_6.fNumber, .bool x_6.fHas, .int .i8 x_6.fDefault.fKind, .bool x_6.fDefault.fBool, .int .i64 x_6.fDefault.fNum, S x_6.fDefault.fText, .slice A_12 x_6.fDefault.fList.length cap_12, .slice A_13 x_6.fDefault.fKeys.length cap_13, .slice A_14 x_6.fAllowed.length cap_14]) fun w_12 p_15 _ f => eT (RR (Y f 2 fun _ f => Z f (Y31 (v := S x_6.fName) rfl (ad := ⟨b_4, 0, none⟩) (p_15.ownCell 0 rfl 0)) fun _ f => ?_))
       obtain ⟨x_7, hx_7, hF_20⟩ := bS hF_19
       refine Y16 f p_15 (params_Find_ok n _ (GL.mono ((hM_1.trans hM_4).trans hM_5) hG) A1 cap1 d1 (h1.mono ((hM_1.trans hM_4).trans hM_5)) x_6.fName x_7 hx_7) fun _ M_6 w_13 hM_6 p_16 q_1 _ f => ?_
       obtain ⟨c_5, rfl, hr_10⟩ := q_1
       obtain ⟨A_15, cap_15, A_16, cap_16, rfl, h_15, h_16⟩ := TA0.opn hr_10
       refine Y f 3 fun _ f => Y12 f p_16 (.cells #[S [], .bool false, .int .i8 0, .bool false, .int .i64 0, S [], .slice none 0 0, .slice none 0 0] 35 (0, 0)) fun b_5 w_14 p_17 _ f => Y28 (vs := [S x_7.1.fName, .bool x_7.1.fUnknown, .int .i8 x_7.1.fV.fKind, .bool x_7.1.fV.fBool, .int .i64 x_7.1.fV.fNum, S x_7.1.fV.fText, .slice A_15 x_7.1.fV.fList.length cap_15, .slice A_16 x_7.1.fV.fKeys.length cap_16]) (j := 0) f p_17 rfl rfl (by simp [Value.oneCell', S]) (by simp) (by decide) (cs' := #[S x_7.1.fName, .bool x_7.1.fUnknown, .int .i8 x_7.1.fV.fKind, .bool x_7.1.fV.fBool, .int .i64 x_7.1.fV.fNum, S x_7.1.fV.fText, .slice A_15 x_7.1.fV.fList.length cap_15, .slice A_16 x_7.1.fV.fKeys.length cap_16]) fun w_15 p_18 _ f => Y f 1 fun _ f => eT (R_seq (RR (Y f 2 fun _ f => eT ?_)))
       obtain ⟨j_1, hj_1, hF_21⟩ := bS hF_20
       refine R_mid (fun a_59 w_17 => ∃ y_3 : List UInt8 × Bool × Int × Bool × Int × List UInt8 × List TB0 × List (List UInt8), j_1 = y_3 ∧ ∃ M_7 : Mem, M_6.le M_7 ∧ ∃ (A_17 : Option Addr), ∃ (cap_17 : Nat), ∃ (A_18 : Option Addr), ∃ (cap_18 : Nat), Sli M_7 6 emb_TB0 A_17 cap_17 y_3.2.2.2.2.2.2.1 ∧ Sli M_7 1 Dat.str A_18 cap_18 y_3.2.2.2.2.2.2.2 ∧ Frm 88 [(1, .slice A1 d1.length cap1), (4, .slice A_11 s_2.1.length cap_11), (11, .pointer (some (⟨b_4, 0, none⟩))), (12, .pointer (some (⟨b_5, 0, none⟩))), (13, .bool x_7.2), (47, .slice A0 d0.length cap0), (48, .int .i64 ((d0.length : Nat) : Int)), (49, .int .i64 s_2.2)] a_59 ∧ Hp w0 M_7 ((Ent.obj b_5 (.cells #[S y_3.1, .bool y_3.2.1, .int .i8 y_3.2.2.1, .bool y_3.2.2.2.1, .int .i64 y_3.2.2.2.2.1, S y_3.2.2.2.2.2.1, .slice A_17 y_3.2.2.2.2.2.2.1.length cap_17, .slice A_18 y_3.2.2.2.2.2.2.2.length cap_18] 35 (0, 0))) :: (Ent.obj b_4 (.cells #[S x_6.fName, .bool x_6.fNumber, .bool x_6.fHas, .int .i8 x_6.fDefault.fKind, .bool x_6.fDefault.fBool, .int .i64 x_6.fDefault.fNum, S x_6.fDefault.fText, .slice A_12 x_6.fDefault.fList.length cap_12, .slice A_13 x_6.fDefault.fKeys.length cap_13, .slice A_14 x_6.fAllowed.length cap_14] 37 (0, 0))) :: (Ent.row 35 8 (.slice A_11 s_2.1.length cap_11) s_2.1.length cs_1) :: H) w_17) ?_ ?_
       ·refine RcF f hj_1 (fun h_17 hF_22 => ?_) fun h_17 hF_23 => ?_
        ·have k_10 : (x_7.2) = false := by simpa using h_17
         refine R_reg (Y f 1 fun _ f => Z f (Y31 (v := S x_6.fName) rfl (ad := ⟨b_4, 0, none⟩) (p_18.ownCell 1 rfl 0)) fun _ f => Y f 1 fun _ f => Z (v := .agg #[.int .i8 x_6.fDefault.fKind, .bool x_6.fDefault.fBool, .int .i64 x_6.fDefault.fNum, S x_6.fDefault.fText, .slice A_12 x_6.fDefault.fList.length cap_12, .slice A_13 x_6.fDefault.fKeys.length cap_13]) f (Y32 (cs := [.int .i8 x_6.fDefault.fKind, .bool x_6.fDefault.fBool, .int .i64 x_6.fDefault.fNum, S x_6.fDefault.fText, .slice A_12 x_6.fDefault.fList.length cap_12, .slice A_13 x_6.fDefault.fKeys.length cap_13]) rfl (ad := ⟨b_4, 3, none⟩) (own_cells (p_18.ownCell 1 rfl) 3 rfl)) fun _ f => Y f 1 fun _ f => Y28 (vs := [S x_6.fName, .bool false, .int .i8 x_6.fDefault.fKind, .bool x_6.fDefault.fBool, .int .i64 x_6.fDefault.fNum, S x_6.fDefault.fText, .slice A_12 x_6.fDefault.fList.length cap_12, .slice A_13 x_6.fDefault.fKeys.length cap_13]) (j := 0) f p_18 rfl rfl (by simp [Value.oneCell', S]) (by simp) (by decide) (cs' := #[S x_6.fName, .bool false, .int .i8 x_6.fDefault.fKind, .bool x_6.fDefault.fBool, .int .i64 x_6.fDefault.fNum, S x_6.fDefault.fText, .slice A_12 x_6.fDefault.fList.length cap_12, .slice A_13 x_6.fDefault.fKeys.length cap_13]) fun w_16 p_19 _ f => eT ?_)
         exact ⟨(x_6.fName, (false), x_6.fDefault.fKind, (x_6.fDefault.fBool), x_6.fDefault.fNum, x_6.fDefault.fText, x_6.fDefault.fList, x_6.fDefault.fKeys), (sI hF_22).symm, M_6, (mR _), A_12, cap_12, A_13, cap_13, (h_12.mono hM_6), (h_13.mono hM_6), f.kp, p_19⟩
        ·have k_11 : (x_7.2) = true := by simpa using h_17
         refine wp_skip (T_n ?_)
         exact ⟨(x_7.1.fName, (x_7.1.fUnknown), x_7.1.fV.fKind, (x_7.1.fV.fBool), x_7.1.fV.fNum, x_7.1.fV.fText, x_7.1.fV.fList, x_7.1.fV.fKeys), (sI hF_23).symm, M_6, (mR _), A_15, cap_15, A_16, cap_16, h_15, h_16, f.kp, p_18⟩
       ·rintro a_59 w_17 ⟨y_3, hq_1, M_7, hM_7, A_17, cap_17, A_18, cap_18, h_18, h_19, f, p_20⟩
        subst j_1
        refine T_n (R_seq (R_seq ?_))
        obtain ⟨j_2, hj_2, hF_24⟩ := bS hF_21
        refine R_mid (fun a_74 w_20 => ∃ y_4 : Bool, j_2 = y_4 ∧ ∃ M_8 : Mem, M_7.le M_8 ∧ Frm 88 [(1, .slice A1 d1.length cap1), (4, .slice A_11 s_2.1.length cap_11), (11, .pointer (some (⟨b_4, 0, none⟩))), (12, .pointer (some (⟨b_5, 0, none⟩))), (47, .slice A0 d0.length cap0), (48, .int .i64 ((d0.length : Nat) : Int)), (49, .int .i64 s_2.2), (79, .bool y_4)] a_74 ∧ Hp w0 M_8 ((Ent.obj b_5 (.cells #[S y_3.1, .bool y_3.2.1, .int .i8 y_3.2.2.1, .bool y_3.2.2.2.1, .int .i64 y_3.2.2.2.2.1, S y_3.2.2.2.2.2.1, .slice A_17 y_3.2.2.2.2.2.2.1.length cap_17, .slice A_18 y_3.2.2.2.2.2.2.2.length cap_18] 35 (0, 0))) :: (Ent.obj b_4 (.cells #[S x_6.fName, .bool x_6.fNumber, .bool x_6.fHas, .int .i8 x_6.fDefault.fKind, .bool x_6.fDefault.fBool, .int .i64 x_6.fDefault.fNum, S x_6.fDefault.fText, .slice A_12 x_6.fDefault.fList.length cap_12, .slice A_13 x_6.fDefault.fKeys.length cap_13, .slice A_14 x_6.fAllowed.length cap_14] 37 (0, 0))) :: (Ent.row 35 8 (.slice A_11 s_2.1.length cap_11) s_2.1.length cs_1) :: H) w_20) ?_ ?_
        ·refine R_reg (Y f 3 fun _ f => ?_)
         rcases cE hj_2 with ⟨h_20, hF_25⟩ | ⟨h_20, hF_29⟩
         ·have k_12 : (x_7.2) = false := by simpa using h_20
          have f := f.st 69 (cB h_20)
          refine Y f 1 fun _ f => Z f (Y31 (v := .bool x_6.fHas) rfl (ad := ⟨b_4, 2, none⟩) (p_20.ownCell 1 rfl 2)) fun _ f => Y f 3 fun _ f => ?_
          rcases cE hF_25 with ⟨h_21, hF_26⟩ | ⟨h_21, hF_27⟩
          ·have k_13 : (x_6.fHas) = false := by simpa using h_21
           have f := f.st 74 (cB h_21)
           refine Y f 5 fun _ f => eT ?_
           exact ⟨(true), (sI hF_26).symm, M_7, (mR _), f.kp, p_20⟩
          ·have k_14 : (x_6.fHas) = true := by simpa using h_21
           have f := f.st 74 (cB h_21)
           refine Z (v := .agg #[S x_6.fName, .bool x_6.fNumber, .bool x_6.fHas, .int .i8 x_6.fDefault.fKind, .bool x_6.fDefault.fBool, .int .i64 x_6.fDefault.fNum, S x_6.fDefault.fText, .slice A_12 x_6.fDefault.fList.length cap_12, .slice A_13 x_6.fDefault.fKeys.length cap_13, .slice A_14 x_6.fAllowed.length cap_14]) f (Y32 (cs := [S x_6.fName, .bool x_6.fNumber, .bool x_6.fHas, .int .i8 x_6.fDefault.fKind, .bool x_6.fDefault.fBool, .int .i64 x_6.fDefault.fNum, S x_6.fDefault.fText, .slice A_12 x_6.fDefault.fList.length cap_12, .slice A_13 x_6.fDefault.fKeys.length cap_13, .slice A_14 x_6.fAllowed.length cap_14]) rfl (ad := ⟨b_4, 0, none⟩) (own_cells (p_20.ownCell 1 rfl) 0 rfl)) fun _ f => Z (v := .agg #[S y_3.1, .bool y_3.2.1, .int .i8 y_3.2.2.1, .bool y_3.2.2.2.1, .int .i64 y_3.2.2.2.2.1, S y_3.2.2.2.2.2.1, .slice A_17 y_3.2.2.2.2.2.2.1.length cap_17, .slice A_18 y_3.2.2.2.2.2.2.2.length cap_18]) f (Y32 (cs := [S y_3.1, .bool y_3.2.1, .int .i8 y_3.2.2.1, .bool y_3.2.2.2.1, .int .i64 y_3.2.2.2.2.1, S y_3.2.2.2.2.2.1, .slice A_17 y_3.2.2.2.2.2.2.1.length cap_17, .slice A_18 y_3.2.2.2.2.2.2.2.length cap_18]) rfl (ad := ⟨b_5, 0, none⟩) (own_cells (p_20.ownCell 0 rfl) 0 rfl)) fun _ f => ?_
           obtain ⟨x_8, hx_8, hF_28⟩ := bS hF_27
           refine Y18 f p_20 (params_May_ok n _ (GL.mono ((((hM_1.trans hM_4).trans hM_5).trans hM_6).trans hM_7) hG) _ (⟨x_6.fName, (x_6.fNumber), (x_6.fHas), (⟨x_6.fDefault.fKind, (x_6.fDefault.fBool), x_6.fDefault.fNum, x_6.fDefault.fText, x_6.fDefault.fList, x_6.fDefault.fKeys⟩ : TB0), x_6.fAllowed⟩ : TC0) (TC0.shut (h_12.mono (hM_6.trans hM_7)) (h_13.mono (hM_6.trans hM_7)) (h_14.mono (hM_6.trans hM_7))) _ (⟨y_3.1, (y_3.2.1), (⟨y_3.2.2.1, (y_3.2.2.2.1), y_3.2.2.2.2.1, y_3.2.2.2.2.2.1, y_3.2.2.2.2.2.2.1, y_3.2.2.2.2.2.2.2⟩ : TB0)⟩ : TA0) (TA0.shut h_18 h_19) x_8 hx_8) fun w_18 p_21 _ f => Y f 2 fun _ f => eT ?_
           exact ⟨(!x_8), (sI hF_28).symm, M_7, (mR _), f.kp, p_21⟩
         ·have k_15 : (x_7.2) = true := by simpa using h_20
          have f := f.st 69 (cB h_20)
          refine Y f 5 fun _ f => Z (v := .agg #[S x_6.fName, .bool x_6.fNumber, .bool x_6.fHas, .int .i8 x_6.fDefault.fKind, .bool x_6.fDefault.fBool, .int .i64 x_6.fDefault.fNum, S x_6.fDefault.fText, .slice A_12 x_6.fDefault.fList.length cap_12, .slice A_13 x_6.fDefault.fKeys.length cap_13, .slice A_14 x_6.fAllowed.length cap_14]) f (Y32 (cs := [S x_6.fName, .bool x_6.fNumber, .bool x_6.fHas, .int .i8 x_6.fDefault.fKind, .bool x_6.fDefault.fBool, .int .i64 x_6.fDefault.fNum, S x_6.fDefault.fText, .slice A_12 x_6.fDefault.fList.length cap_12, .slice A_13 x_6.fDefault.fKeys.length cap_13, .slice A_14 x_6.fAllowed.length cap_14]) rfl (ad := ⟨b_4, 0, none⟩) (own_cells (p_20.ownCell 1 rfl) 0 rfl)) fun _ f => Z (v := .agg #[S y_3.1, .bool y_3.2.1, .int .i8 y_3.2.2.1, .bool y_3.2.2.2.1, .int .i64 y_3.2.2.2.2.1, S y_3.2.2.2.2.2.1, .slice A_17 y_3.2.2.2.2.2.2.1.length cap_17, .slice A_18 y_3.2.2.2.2.2.2.2.length cap_18]) f (Y32 (cs := [S y_3.1, .bool y_3.2.1, .int .i8 y_3.2.2.1, .bool y_3.2.2.2.1, .int .i64 y_3.2.2.2.2.1, S y_3.2.2.2.2.2.1, .slice A_17 y_3.2.2.2.2.2.2.1.length cap_17, .slice A_18 y_3.2.2.2.2.2.2.2.length cap_18]) rfl (ad := ⟨b_5, 0, none⟩) (own_cells (p_20.ownCell 0 rfl) 0 rfl)) fun _ f => ?_
          obtain ⟨x_9, hx_9, hF_30⟩ := bS hF_29
          refine Y18 f p_20 (params_May_ok n _ (GL.mono ((((hM_1.trans hM_4).trans hM_5).trans hM_6).trans hM_7) hG) _ (⟨x_6.fName, (x_6.fNumber), (x_6.fHas), (⟨x_6.fDefault.fKind, (x_6.fDefault.fBool), x_6.fDefault.fNum, x_6.fDefault.fText, x_6.fDefault.fList, x_6.fDefault.fKeys⟩ : TB0), x_6.fAllowed⟩ : TC0) (TC0.shut (h_12.mono (hM_6.trans hM_7)) (h_13.mono (hM_6.trans hM_7)) (h_14.mono (hM_6.trans hM_7))) _ (⟨y_3.1, (y_3.2.1), (⟨y_3.2.2.1, (y_3.2.2.2.1), y_3.2.2.2.2.1, y_3.2.2.2.2.2.1, y_3.2.2.2.2.2.2.1, y_3.2.2.2.2.2.2.2⟩ : TB0)⟩ : TA0) (TA0.shut h_18 h_19) x_9 hx_9) fun w_19 p_22 _ f => Y f 2 fun _ f => eT ?_
          exact ⟨(!x_9), (sI hF_30).symm, M_7, (mR _), f.kp, p_22⟩
        ·rintro a_74 w_20 ⟨y_4, hq_2, M_8, hM_8, f, p_23⟩
         subst j_2
         refine T_n (RcF f hF_24 (fun h_22 hF_31 => ?_) fun h_22 hF_32 => ?_)
         ·refine R_seq (R_draw p_23 (by kernel_rfl) (by kernel_rfl) (Y5 default f 1 fun _ f => Y2 (v := S x_6.fName) f (fun _ pq => Y31 (v := S x_6.fName) rfl (ad := ⟨b_4, 0, none⟩) (pq.ownCell 1 rfl 0)) fun _ f => Y5 default f 3 fun _ f => Q_end rfl ?_))
          intro w_21 p_24
          refine T_n (wp_ret (T_r (B_r (T_r (T_r ?_)))))
          obtain rfl := sI hF_31
          exact .inl ⟨rfl, x_6.fName, (sI hn_2).symm, M_8, (((hM_5.trans hM_6).trans hM_7).trans hM_8), f.kp, (p_24.dropN 3)⟩
         ·refine wp_skip (T_n (R_reg (Y f 1 fun _ f => Z (v := .agg #[S y_3.1, .bool y_3.2.1, .int .i8 y_3.2.2.1, .bool y_3.2.2.2.1, .int .i64 y_3.2.2.2.2.1, S y_3.2.2.2.2.2.1, .slice A_17 y_3.2.2.2.2.2.2.1.length cap_17, .slice A_18 y_3.2.2.2.2.2.2.2.length cap_18]) f (Y32 (cs := [S y_3.1, .bool y_3.2.1, .int .i8 y_3.2.2.1, .bool y_3.2.2.2.1, .int .i64 y_3.2.2.2.2.1, S y_3.2.2.2.2.2.1, .slice A_17 y_3.2.2.2.2.2.2.1.length cap_17, .slice A_18 y_3.2.2.2.2.2.2.2.length cap_18]) rfl (ad := ⟨b_5, 0, none⟩) (own_cells (p_23.ownCell 0 rfl) 0 rfl)) fun _ f => V_allocS (k := 1) (c := 1) f p_23 (.cells #[S y_3.1, .bool y_3.2.1, .int .i8 y_3.2.2.1, .bool y_3.2.2.2.1, .int .i64 y_3.2.2.2.2.1, S y_3.2.2.2.2.2.1, .slice A_17 y_3.2.2.2.2.2.2.1.length cap_17, .slice A_18 y_3.2.2.2.2.2.2.2.length cap_18] 35 (0, 0)) (by kernel_rfl) (fun _ => by kernel_rfl) fun b_6 w_22 p_25 _ f => ?_)))
          have p_26 := p_25.pl [3]
          obtain ⟨g_3, hF_33⟩ := nS hF_32
          refine Y20 (z := .agg #[S [], .bool false, .int .i8 0, .bool false, .int .i64 0, S [], .slice none 0 0, .slice none 0 0]) (f := emb_TA0) (xs := s_2.1) (ys := [(⟨y_3.1, (y_3.2.1), (⟨y_3.2.2.1, (y_3.2.2.2.1), y_3.2.2.2.2.1, y_3.2.2.2.2.2.1, y_3.2.2.2.2.2.2.1, y_3.2.2.2.2.2.2.2⟩ : TB0)⟩ : TA0)]) (news := [S y_3.1, .bool y_3.2.1, .int .i8 y_3.2.2.1, .bool y_3.2.2.2.1, .int .i64 y_3.2.2.2.2.1, S y_3.2.2.2.2.2.1, .slice A_17 y_3.2.2.2.2.2.2.1.length cap_17, .slice A_18 y_3.2.2.2.2.2.2.2.length cap_18]) (ad := ⟨b_6, 0, none⟩) (m := 1) (c := 1) f p_26 (RepSeq.mono ((hM_6.trans hM_7).trans hM_8) _ _ hr_8) (by exact ⟨_, _, rfl, TA0.shut (h_18.mono hM_8) (h_19.mono hM_8), rfl⟩) rfl rfl rfl rfl (own_cells (p_26.ownCell 1 rfl) 0 rfl) (by exact g_3) (by have hg_ := g_3; first | omega | (simp only [List.length_cons, List.length_nil] at *; omega)) fun A_19 cap_19 cs_2 w_23 p_27 hr_11 _ f => ?_
          have p_28 := p_27.pl [1]
          have p_29 := p_28.drop
          refine Y f 1 fun _ f => W_end rfl (B_n (T_n (R_reg ?_)))
          obtain ⟨g_4, hF_34⟩ := nS hF_33
          refine Y f 1 fun _ f => ?_
          have f := f.st 86 (congrArg (Value.int .i64) (inR_wrap g_4))
          refine Y f 1 fun _ f => W_end rfl ?_
          have p_33 := p_29.pl [2, 2]
          refine T_n ?_
          obtain rfl := sI hF_34
          exact ⟨⟨m_4, (s_2.1 ++ [(⟨y_3.1, (y_3.2.1), (⟨y_3.2.2.1, (y_3.2.2.2.1), y_3.2.2.2.2.1, y_3.2.2.2.2.2.1, y_3.2.2.2.2.2.2.1, y_3.2.2.2.2.2.2.2⟩ : TB0)⟩ : TA0)], s_2.2 + 1), A_19, cap_19, cs_2⟩, Nat.lt_succ_self _, M_8, (((hM_5.trans hM_6).trans hM_7).trans hM_8), ⟨hn_2, hr_11⟩, f.kp, (p_33.dropN 2)⟩
      ·have k_18 := iff_f dI h_11
       refine wp_exit (T_x (T_x ?_))
       obtain rfl := sI hF_35
       exact .inr ⟨rfl, s_2.1, (sI hn_2).symm, M_5, hM_5, A_11, cap_11, cs_1, hr_8, f.kp, p_13⟩
     ·rintro _ _ w_26 (⟨rfl, y_5, rfl, M_9, hM_9, f, p_30⟩ | ⟨rfl, y_6, rfl, M_10, hM_10, A_20, cap_20, cs_3, hr_12, f, p_31⟩)
      ·refine B_r (T_r ?_)
       obtain ⟨A_21, cap_21, hv_5⟩ : ∃ A cap, Value.slice none 0 0 = .slice A ([] : List TA0).length cap := ⟨none, 0, rfl⟩
       have p_34 : Hp w0 M_9 ((Ent.row 35 8 (.slice A_21 ([] : List TA0).length cap_21) ([] : List TA0).length []) :: H) w_26 := by rw [← hv_5]; exact p_30.nilRow 35 8
       have f := f.st 4 (hv_5)
       have hr_13 : RepSeq M_9 (([] : List TA0).map emb_TA0) [] := rfl
       refine E_ret3 f rfl (by kernel_rfl : Vc.look _ 4 = some (.slice A_21 ([] : List TA0).length cap_21)) (by kernel_rfl : Vc.look _ 5 = some (S y_5)) (by kernel_rfl : Vc.look _ 6 = some (.int .i64 140)) ?_
       obtain rfl := sI hF_17
       exact ⟨_, rfl, M_9, _, ((hM_1.trans hM_4).trans hM_9), p_34, ⟨A_21, cap_21, [], rfl, rfl, hr_13⟩⟩
      ·refine B_x (T_n (RR (Y f 4 fun _ f => eT (wp_ret (E_ret3 f rfl (by kernel_rfl : Vc.look _ 4 = some (.slice A_20 y_6.length cap_20)) (by kernel_rfl : Vc.look _ 5 = some (S [])) (by kernel_rfl : Vc.look _ 6 = some (.int .i64 0)) ?_)))))
       obtain rfl := sI hF_17
       exact ⟨_, rfl, M_10, _, ((hM_1.trans hM_4).trans hM_10), p_31, ⟨A_20, cap_20, cs_3, rfl, rfl, hr_12⟩⟩
def params_alike_s1 (n : Nat) (d0 : TB0) (d1 : TB0) (s_1 : Int) : Option (Lp Int (Sum Unit Unit)) :=
    bif (decide (s_1 < ((d0.fKeys.length : Nat) : Int))) then
      ((getI d0.fKeys s_1).bind fun x_1 =>
      (getI d1.fKeys s_1).bind fun x_2 =>
      bif (!(decide (x_1 = x_2))) then
        (some (.br (.inl ())))
      else
        need (inR .i64 (s_1 + 1)) <|
        some (.nx (s_1 + 1)))
    else
      some (.br (.inr ()))
def params_alike_s2 (n : Nat) (rec_params_alike : TB0 → TB0 → Option Bool) (d0 : TB0) (d1 : TB0) (s_2 : Int) : Option (Lp Int (Sum Unit Unit)) :=
    bif (decide (s_2 < ((d0.fList.length : Nat) : Int))) then
      ((getI d0.fList s_2).bind fun x_3 =>
      (getI d1.fList s_2).bind fun x_4 =>
      (rec_params_alike x_3 x_4).bind fun x_5 =>
      bif !x_5 then
        (some (.br (.inl ())))
      else
        need (inR .i64 (s_2 + 1)) <|
        some (.nx (s_2 + 1)))
    else
      some (.br (.inr ()))
def params_alike_b (n : Nat) (rec_params_alike : TB0 → TB0 → Option Bool) (d0 : TB0) (d1 : TB0) : Option Bool :=
  ((bif (!(decide (d0.fKind = d1.fKind))) then
      (some ((true)))
    else
      bif (!(d0.fBool == d1.fBool)) then
        (some ((true)))
      else
        bif (!(decide (d0.fNum = d1.fNum))) then
          (some ((true)))
        else
          bif (!(decide (d0.fText = d1.fText))) then
            (some ((true)))
          else
            bif (!(decide (((d0.fList.length : Nat) : Int) = ((d1.fList.length : Nat) : Int)))) then
              (some ((true)))
            else
              some ((!(decide (((d0.fKeys.length : Nat) : Int) = ((d1.fKeys.length : Nat) : Int))))) : Option Bool)).bind fun y_1 =>
  bif y_1 then
    (some ((false)))
  else
    (loopF (params_alike_s1 n d0 d1) n (0 : Int)).bind fun b_3 =>
    (match b_3 with 
    | .inl y_2 => some ((false)) 
    | .inr y_3 => (loopF (params_alike_s2 n rec_params_alike d0 d1) n (0 : Int)).bind fun b_4 =>
      (match b_4 with 
      | .inl y_4 => some ((false)) 
      | .inr y_5 => some ((true))))
theorem params_alike_b_ok (n : Nat) (rec_params_alike : TB0 → TB0 → Option Bool) (hrec_params_alike : ∀ (M : Mem) (hG : GL M) (c0 : List Value) (d0 : TB0) (h0 : Rep M (emb_TB0 d0) c0) (c1 : List Value) (d1 : TB0) (h1 : Rep M (emb_TB0 d1) c1) (r : Bool) (hF : rec_params_alike d0 d1 = some r), Ok Tryd.prog M 37 [.agg c0.toArray, .agg c1.toArray] (fun _ v => v = .bool r)) (M : Mem) (hG : GL M) (c0 : List Value) (d0 : TB0) (h0 : Rep M (emb_TB0 d0) c0) (c1 : List Value) (d1 : TB0) (h1 : Rep M (emb_TB0 d1) c1) (r : Bool) (hF : params_alike_b n rec_params_alike d0 d1 = some r) : Ok Tryd.prog M 37 [.agg c0.toArray, .agg c1.toArray] (fun _ v => v = .bool r) := by
 unfold params_alike_b at hF
 intro M1 hM0 w0 H w p0
 replace hG := GL.mono hM0 hG
 replace h0 := Rep.mono hM0 _ _ h0
 replace h1 := Rep.mono hM0 _ _ h1
 obtain ⟨A_1, cap_1, A_2, cap_2, rfl, h_1, h_2⟩ := TB0.opn h0
 obtain ⟨A_3, cap_3, A_4, cap_4, rfl, h_3, h_4⟩ := TB0.opn h1
 refine R_enter 88 Tryd.func37 rfl rfl (by simp) fun a0 f0 => RR (Y13 (cs := #[.int .i8 d0.fKind, .bool d0.fBool, .int .i64 d0.fNum, S d0.fText, .slice A_1 d0.fList.length cap_1, .slice A_2 d0.fKeys.length cap_2]) (T := 33) f0 p0 fun b_1 M_1 w_1 hM_1 hc_1 p_1 _ f => ?_)
 have hc_2 := fz_box hc_1
 refine Y13 (cs := #[.int .i8 d1.fKind, .bool d1.fBool, .int .i64 d1.fNum, S d1.fText, .slice A_3 d1.fList.length cap_3, .slice A_4 d1.fKeys.length cap_4]) (T := 33) f p_1 fun b_2 M_2 w_2 hM_2 hc_3 p_2 _ f => ?_
 have hc_4 := fz_box hc_3
 refine Y f 1 fun _ f => eT (R_seq (R_seq ?_))
 obtain ⟨j_1, hj_1, hF_1⟩ := bS hF
 refine R_mid (fun a_40 w_3 => ∃ y_1 : Bool, j_1 = y_1 ∧ ∃ M_3 : Mem, M_2.le M_3 ∧ Frm 88 [(2, .pointer (some (⟨b_1, 0, none⟩))), (3, .pointer (some (⟨b_2, 0, none⟩))), (50, .bool y_1)] a_40 ∧ Hp w0 M_3 (H) w_3) ?_ ?_
 ·refine R_reg (Y f 1 fun _ f => Y15 f p_2 (fzu hM_2 hc_2) 0 rfl fun _ f => Y f 1 fun _ f => Y15 f p_2 hc_4 0 rfl fun _ f => Y f 2 fun _ f => ?_)
  rcases cE hj_1 with ⟨h_5, hF_2⟩ | ⟨h_5, hF_3⟩
  ·have k_1 : ¬ (d0.fKind = d1.fKind) := (not_iff dI).1 h_5
   have f := f.st 12 (cB h_5)
   refine Y f 38 fun _ f => eT ?_
   exact ⟨(true), (sI hF_2).symm, M_2, (mR _), f.kp, p_2⟩
  ·have k_2 : ¬ (¬ (d0.fKind = d1.fKind)) := iff_f (not_iff dI) h_5
   have f := f.st 12 (cB h_5)
   refine Y f 1 fun _ f => Y15 f p_2 (fzu hM_2 hc_2) 1 rfl fun _ f => Y f 1 fun _ f => Y15 f p_2 hc_4 1 rfl fun _ f => Y f 3 fun _ f => ?_
   rcases cE hF_3 with ⟨h_6, hF_4⟩ | ⟨h_6, hF_5⟩
   ·have k_3 : (d0.fBool == d1.fBool) = false := by simpa using h_6
    have f := f.st 19 (cB h_6)
    refine Y f 31 fun _ f => eT ?_
    exact ⟨(true), (sI hF_4).symm, M_2, (mR _), f.kp, p_2⟩
   ·have k_4 : (d0.fBool == d1.fBool) = true := by simpa using h_6
    have f := f.st 19 (cB h_6)
    refine Y f 1 fun _ f => Y15 f p_2 (fzu hM_2 hc_2) 2 rfl fun _ f => Y f 1 fun _ f => Y15 f p_2 hc_4 2 rfl fun _ f => Y f 3 fun _ f => ?_
    rcases cE hF_5 with ⟨h_7, hF_6⟩ | ⟨h_7, hF_7⟩
    ·have k_5 : ¬ (d0.fNum = d1.fNum) := (not_iff dI).1 h_7
     have f := f.st 26 (cB h_7)
     refine Y f 24 fun _ f => eT ?_
     exact ⟨(true), (sI hF_6).symm, M_2, (mR _), f.kp, p_2⟩
    ·have k_6 : ¬ (¬ (d0.fNum = d1.fNum)) := iff_f (not_iff dI) h_7
     have f := f.st 26 (cB h_7)
     refine Y f 1 fun _ f => Y15 f p_2 (fzu hM_2 hc_2) 3 rfl fun _ f => Y f 1 fun _ f => Y15 f p_2 hc_4 3 rfl fun _ f => Z f (Y38 rfl (l := d0.fText) (m := d1.fText)) fun _ f => Y f 2 fun _ f => ?_
     rcases cE hF_7 with ⟨h_8, hF_8⟩ | ⟨h_8, hF_9⟩
     ·have k_7 : ¬ (d0.fText = d1.fText) := (not_iff dI).1 h_8
      have f := f.st 33 (cB h_8)
      refine Y f 17 fun _ f => eT ?_
      exact ⟨(true), (sI hF_8).symm, M_2, (mR _), f.kp, p_2⟩
     ·have k_8 : ¬ (¬ (d0.fText = d1.fText)) := iff_f (not_iff dI) h_8
      have f := f.st 33 (cB h_8)
      refine Y f 1 fun _ f => Y15 f p_2 (fzu hM_2 hc_2) 4 rfl fun _ f => Y f 2 fun _ f => Y15 f p_2 hc_4 4 rfl fun _ f => Y f 4 fun _ f => ?_
      rcases cE hF_9 with ⟨h_9, hF_10⟩ | ⟨h_9, hF_11⟩
      ·have k_9 : ¬ (((d0.fList.length : Nat) : Int) = ((d1.fList.length : Nat) : Int)) := (not_iff dI).1 h_9
       have f := f.st 42 (cB h_9)
       refine Y f 8 fun _ f => eT ?_
       exact ⟨(true), (sI hF_10).symm, M_2, (mR _), f.kp, p_2⟩
      ·have k_10 : ¬ (¬ (((d0.fList.length : Nat) : Int) = ((d1.fList.length : Nat) : Int))) := iff_f (not_iff dI) h_9
       have f := f.st 42 (cB h_9)
       refine Y f 1 fun _ f => Y15 f p_2 (fzu hM_2 hc_2) 5 rfl fun _ f => Y f 2 fun _ f => Y15 f p_2 hc_4 5 rfl fun _ f => Y f 3 fun _ f => eT ?_
       exact ⟨(!(decide (((d0.fKeys.length : Nat) : Int) = ((d1.fKeys.length : Nat) : Int)))), (sI hF_11).symm, M_2, (mR _), f.kp, p_2⟩
 ·rintro a_40 w_3 ⟨y_1, hq_1, M_3, hM_3, f, p_3⟩
  subst j_1
  refine T_n (RcF f hF_1 (fun h_10 hF_12 => ?_) fun h_10 hF_13 => ?_)
  ·refine RR (Y f 1 fun _ f => eT (wp_ret (T_r (E_ret1 f rfl (by kernel_rfl : Vc.look _ 4 = some (.bool false)) ?_))))
   obtain rfl := sI hF_12
   exact ⟨_, rfl, M_3, ((hM_1.trans hM_2).trans hM_3), p_3, rfl⟩
  ·refine wp_skip (T_n (R_seq (RR (Y f 1 fun _ f => Y15 f p_3 (fzu (hM_2.trans hM_3) hc_2) 5 rfl fun _ f => Y f 2 fun _ f => eT (wp_block ?_)))))
   obtain ⟨b_3, hL_1, hF_14⟩ := bS hF_13
   refine wp_mono (Q := fun e a w => (e = .ret ∧ (∃ y_2 : Unit, b_3 = .inl y_2 ∧ ∃ M_5 : Mem, M_3.le M_5 ∧ Frm 88 [(4, .bool false)] a ∧ Hp w0 M_5 (H) w)) ∨ (e = .exit 0 ∧ (∃ y_3 : Unit, b_3 = .inr y_3 ∧ ∃ M_6 : Mem, M_3.le M_6 ∧ Frm 88 [(2, .pointer (some (⟨b_1, 0, none⟩))), (3, .pointer (some (⟨b_2, 0, none⟩)))] a ∧ Hp w0 M_6 (H) w))) (R_loop (n := 88) (w0 := w0) (M := M_3) (fun (x : Nat × Int) => match x with | (m_1, s_1) => [(2, .pointer (some (⟨b_1, 0, none⟩))), (3, .pointer (some (⟨b_2, 0, none⟩))), (53, .int .i64 ((d0.fKeys.length : Nat) : Int)), (54, .int .i64 s_1)]) (fun (x : Nat × Int) => match x with | (m_1, s_1) => (H)) (fun (x : Nat × Int) (MM : Mem) => match x with | (m_1, s_1) => loopF (params_alike_s1 n d0 d1) m_1 s_1 = some b_3) (fun (x : Nat × Int) => match x with | (m_1, s_1) => m_1) (n, (0 : Int)) (f.kp) p_3 hL_1 ?_) ?_
   ·rintro ⟨m_1, s_1⟩ M_4 _ w_4 hM_4 I_1 f p_4
    have I_1L := I_1
    obtain ⟨m_2, r_1, rfl, hs_1, hn_1⟩ := loop_step I_1L
    unfold params_alike_s1 at hs_1
    refine RR (Y f 1 fun _ f => eT (R_seq (RcF f hs_1 (fun h_11 hF_15 => ?_) fun h_11 hF_21 => ?_)))
    ·have k_13 := dI.1 h_11
     refine wp_skip (T_n (R_seq (wp_block (RR (Y f 2 fun _ f => eT (R_seq (R_draw p_4 (by kernel_rfl) (by kernel_rfl) (Y5 default f 1 fun _ f => Y4 f (fzu ((hM_2.trans hM_3).trans hM_4) hc_2) 5 rfl fun _ f => Y5 default f 1 fun _ f => ?_))))))))
     obtain ⟨x_1, hx_1, hF_16⟩ := bS hF_15
     obtain ⟨ad_1, c_1, e_1, -, hr_1, hc_5⟩ := Sli.at_ (h_2.mono (((hM_1.trans hM_2).trans hM_3).trans hM_4)) hx_1
     obtain rfl : c_1 = [S x_1] := hr_1
     refine Y2 (v := .pointer (some (ad_1.add (s_1.toNat * 1)))) f (fun _ pq => Y30 e_1 rfl (len := d0.fKeys.length) (cap := cap_2) (k := .i64) (i := s_1) (e := 9) (sz := 1) (getI_nn hx_1) (getI_lt hx_1)) fun _ f => Y4 f hc_5 0 rfl fun _ f => Y5 default f 1 fun _ f => Y4 f (fzu (hM_3.trans hM_4) hc_4) 5 rfl fun _ f => Y5 default f 1 fun _ f => ?_
     obtain ⟨x_2, hx_2, hF_17⟩ := bS hF_16
     obtain ⟨ad_2, c_2, e_2, -, hr_2, hc_6⟩ := Sli.at_ (h_4.mono (((hM_1.trans hM_2).trans hM_3).trans hM_4)) hx_2
     obtain rfl : c_2 = [S x_2] := hr_2
     refine Y2 (v := .pointer (some (ad_2.add (s_1.toNat * 1)))) f (fun _ pq => Y30 e_2 rfl (len := d1.fKeys.length) (cap := cap_4) (k := .i64) (i := s_1) (e := 9) (sz := 1) (getI_nn hx_2) (getI_lt hx_2)) fun _ f => Y4 f hc_6 0 rfl fun _ f => Y2 (v := .bool (!(decide (x_1 = x_2)))) f (fun _ pq => Y38 rfl (l := x_1) (m := x_2)) fun _ f => Q_end rfl ?_
     intro w_5 p_5
     refine T_n (RcF f hF_17 (fun h_12 hF_18 => ?_) fun h_12 hF_19 => ?_)
     ·have k_14 : ¬ (x_1 = x_2) := (not_iff dI).1 h_12
      refine RR (Y f 1 fun _ f => eT (wp_ret (B_r (T_r (T_r ?_)))))
      obtain rfl := sI hF_18
      exact .inl ⟨rfl, (), (sI hn_1).symm, M_4, hM_4, f.kp, p_5⟩
     ·have k_15 : ¬ (¬ (x_1 = x_2)) := iff_f (not_iff dI) h_12
      refine wp_skip (B_n (T_n (R_reg ?_)))
      obtain ⟨g_1, hF_20⟩ := nS hF_19
      refine Y f 1 fun _ f => ?_
      have f := f.st 68 (congrArg (Value.int .i64) (inR_wrap g_1))
      refine Y f 1 fun _ f => eT ?_
      obtain rfl := sI hF_20
      exact ⟨⟨m_2, s_1 + 1⟩, Nat.lt_succ_self _, M_4, hM_4, hn_1, f.kp, p_5⟩
    ·have k_16 := iff_f dI h_11
     refine wp_exit (T_x (T_x ?_))
     obtain rfl := sI hF_21
     exact .inr ⟨rfl, (), (sI hn_1).symm, M_4, hM_4, f.kp, p_4⟩
   ·rintro _ _ w_8 (⟨rfl, y_2, rfl, M_5, hM_5, f, p_6⟩ | ⟨rfl, y_3, rfl, M_6, hM_6, f, p_7⟩)
    ·refine B_r (T_r (E_ret1 f rfl (by kernel_rfl : Vc.look _ 4 = some (.bool false)) ?_))
     obtain rfl := sI hF_14
     exact ⟨_, rfl, M_5, (((hM_1.trans hM_2).trans hM_3).trans hM_5), p_6, rfl⟩
    ·refine B_x (T_n (R_seq (RR (Y f 1 fun _ f => Y15 f p_7 (fzu ((hM_2.trans hM_3).trans hM_6) hc_2) 4 rfl fun _ f => Y f 2 fun _ f => eT (wp_block ?_)))))
     obtain ⟨b_4, hL_2, hF_22⟩ := bS hF_14
     refine wp_mono (Q := fun e a w => (e = .ret ∧ (∃ y_4 : Unit, b_4 = .inl y_4 ∧ ∃ M_8 : Mem, M_6.le M_8 ∧ Frm 88 [(4, .bool false)] a ∧ Hp w0 M_8 (H) w)) ∨ (e = .exit 2 ∧ (∃ y_5 : Unit, b_4 = .inr y_5 ∧ ∃ M_9 : Mem, M_6.le M_9 ∧ Frm 88 [] a ∧ Hp w0 M_9 (H) w))) (R_loop (n := 88) (w0 := w0) (M := M_6) (fun (x : Nat × Int) => match x with | (m_3, s_2) => [(2, .pointer (some (⟨b_1, 0, none⟩))), (3, .pointer (some (⟨b_2, 0, none⟩))), (71, .int .i64 ((d0.fList.length : Nat) : Int)), (72, .int .i64 s_2)]) (fun (x : Nat × Int) => match x with | (m_3, s_2) => (H)) (fun (x : Nat × Int) (MM : Mem) => match x with | (m_3, s_2) => loopF (params_alike_s2 n rec_params_alike d0 d1) m_3 s_2 = some b_4) (fun (x : Nat × Int) => match x with | (m_3, s_2) => m_3) (n, (0 : Int)) (f.kp) p_7 hL_2 ?_) ?_
     ·rintro ⟨m_3, s_2⟩ M_7 _ w_9 hM_7 I_2 f p_8
      have I_2L := I_2
      obtain ⟨m_4, r_2, rfl, hs_2, hn_2⟩ := loop_step I_2L
      unfold params_alike_s2 at hs_2
      refine RR (Y f 1 fun _ f => eT (R_seq (RcF f hs_2 (fun h_13 hF_23 => ?_) fun h_13 hF_30 => ?_)))
      ·have k_17 := dI.1 h_13
       refine wp_skip (T_n (R_seq (wp_block (RR (Y f 2 fun _ f => eT (R_seq (R_draw p_8 (by kernel_rfl) (by kernel_rfl) (Y5 default f 1 fun _ f => Y4 f (fzu (((hM_2.trans hM_3).trans hM_6).trans hM_7) hc_2) 4 rfl fun _ f => Y5 default f 1 fun _ f => ?_))))))))
       obtain ⟨x_3, hx_3, hF_24⟩ := bS hF_23
       obtain ⟨ad_3, c_3, e_3, -, hr_3, hc_7⟩ := Sli.at_ (h_1.mono ((((hM_1.trans hM_2).trans hM_3).trans hM_6).trans hM_7)) hx_3
       obtain ⟨A_5, cap_5, A_6, cap_6, rfl, h_14, h_15⟩ := TB0.opn hr_3
       refine Y2 (v := .pointer (some (ad_3.add (s_2.toNat * 6)))) f (fun _ pq => Y30 e_3 rfl (len := d0.fList.length) (cap := cap_1) (k := .i64) (i := s_2) (e := 33) (sz := 6) (getI_nn hx_3) (getI_lt hx_3)) fun _ f => Y2 (v := .agg #[.int .i8 x_3.fKind, .bool x_3.fBool, .int .i64 x_3.fNum, S x_3.fText, .slice A_5 x_3.fList.length cap_5, .slice A_6 x_3.fKeys.length cap_6]) f (fun _ pq => Y32 (cs := [.int .i8 x_3.fKind, .bool x_3.fBool, .int .i64 x_3.fNum, S x_3.fText, .slice A_5 x_3.fList.length cap_5, .slice A_6 x_3.fKeys.length cap_6]) rfl (ad := ad_3.add (s_2.toNat * 6)) (fun j v h => pq.cell (hc_7 j v h))) fun _ f => Y5 default f 1 fun _ f => Y4 f (fzu ((hM_3.trans hM_6).trans hM_7) hc_4) 4 rfl fun _ f => Y5 default f 1 fun _ f => ?_
       obtain ⟨x_4, hx_4, hF_25⟩ := bS hF_24
       obtain ⟨ad_4, c_4, e_4, -, hr_4, hc_8⟩ := Sli.at_ (h_3.mono ((((hM_1.trans hM_2).trans hM_3).trans hM_6).trans hM_7)) hx_4
       obtain ⟨A_7, cap_7, A_8, cap_8, rfl, h_16, h_17⟩ := TB0.opn hr_4
       refine Y2 (v := .pointer (some (ad_4.add (s_2.toNat * 6)))) f (fun _ pq => Y30 e_4 rfl (len := d1.fList.length) (cap := cap_3) (k := .i64) (i := s_2) (e := 33) (sz := 6) (getI_nn hx_4) (getI_lt hx_4)) fun _ f => Y2 (v := .agg #[.int .i8 x_4.fKind, .bool x_4.fBool, .int .i64 x_4.fNum, S x_4.fText, .slice A_7 x_4.fList.length cap_7, .slice A_8 x_4.fKeys.length cap_8]) f (fun _ pq => Y32 (cs := [.int .i8 x_4.fKind, .bool x_4.fBool, .int .i64 x_4.fNum, S x_4.fText, .slice A_7 x_4.fList.length cap_7, .slice A_8 x_4.fKeys.length cap_8]) rfl (ad := ad_4.add (s_2.toNat * 6)) (fun j v h => pq.cell (hc_8 j v h))) fun _ f => ?_
       obtain ⟨x_5, hx_5, hF_26⟩ := bS hF_25
       refine Y3 f (hrec_params_alike _ (GL.mono ((((hM_1.trans hM_2).trans hM_3).trans hM_6).trans hM_7) hG) _ x_3 (TB0.shutx (x := x_3) h_14 h_15) _ x_4 (TB0.shutx (x := x_4) h_16 h_17) x_5 hx_5) fun _ f => Y5 default f 1 fun _ f => Q_end rfl ?_
       intro w_11 p_10
       refine T_n (RcF f hF_26 (fun h_18 hF_27 => ?_) fun h_18 hF_28 => ?_)
       ·have k_18 : (x_5) = false := by simpa using h_18
        refine RR (Y f 1 fun _ f => eT (wp_ret (B_r (T_r (T_r ?_)))))
        obtain rfl := sI hF_27
        exact .inl ⟨rfl, (), (sI hn_2).symm, M_7, hM_7, f.kp, p_10⟩
       ·have k_19 : (x_5) = true := by simpa using h_18
        refine wp_skip (B_n (T_n (R_reg ?_)))
        obtain ⟨g_2, hF_29⟩ := nS hF_28
        refine Y f 1 fun _ f => ?_
        have f := f.st 87 (congrArg (Value.int .i64) (inR_wrap g_2))
        refine Y f 1 fun _ f => eT ?_
        obtain rfl := sI hF_29
        exact ⟨⟨m_4, s_2 + 1⟩, Nat.lt_succ_self _, M_7, hM_7, hn_2, f.kp, p_10⟩
      ·have k_20 := iff_f dI h_13
       refine wp_exit (T_x (T_x ?_))
       obtain rfl := sI hF_30
       exact .inr ⟨rfl, (), (sI hn_2).symm, M_7, hM_7, f.kp, p_8⟩
     ·rintro _ _ w_14 (⟨rfl, y_4, rfl, M_8, hM_8, f, p_11⟩ | ⟨rfl, y_5, rfl, M_9, hM_9, f, p_12⟩)
      ·refine B_r (T_r (E_ret1 f rfl (by kernel_rfl : Vc.look _ 4 = some (.bool false)) ?_))
       obtain rfl := sI hF_22
       exact ⟨_, rfl, M_8, ((((hM_1.trans hM_2).trans hM_3).trans hM_6).trans hM_8), p_11, rfl⟩
      ·refine B_x (T_n (RR (Y f 1 fun _ f => eT (wp_ret (E_ret1 f rfl (by kernel_rfl : Vc.look _ 4 = some (.bool true)) ?_)))))
       obtain rfl := sI hF_22
       exact ⟨_, rfl, M_9, ((((hM_1.trans hM_2).trans hM_3).trans hM_6).trans hM_9), p_12, rfl⟩
def params_alike_k (n : Nat) : Nat → TB0 → TB0 → Option Bool
  | 0 => fun _ _ => none
  | k + 1 => params_alike_b n (params_alike_k n k)
def params_alike (n : Nat) (d0 : TB0) (d1 : TB0) : Option Bool := params_alike_k n n d0 d1
theorem params_alike_ok (n : Nat) (M : Mem) (hG : GL M) (c0 : List Value) (d0 : TB0) (h0 : Rep M (emb_TB0 d0) c0) (c1 : List Value) (d1 : TB0) (h1 : Rep M (emb_TB0 d1) c1) (r : Bool) (hF : params_alike n d0 d1 = some r) : Ok Tryd.prog M 37 [.agg c0.toArray, .agg c1.toArray] (fun _ v => v = .bool r) := by
 have key : ∀ (k : Nat) (M : Mem) (hG : GL M) (c0 : List Value) (d0 : TB0) (h0 : Rep M (emb_TB0 d0) c0) (c1 : List Value) (d1 : TB0) (h1 : Rep M (emb_TB0 d1) c1) (r : Bool) (hF : params_alike_k n k d0 d1 = some r), Ok Tryd.prog M 37 [.agg c0.toArray, .agg c1.toArray] (fun _ v => v = .bool r) := by
  intro k
  induction k with
  | zero => intro M hG c0 d0 h0 c1 d1 h1 r hF; simp [params_alike_k] at hF
  | succ k ih => intro M hG c0 d0 h0 c1 d1 h1 r hF; exact params_alike_b_ok n (params_alike_k n k) ih M hG c0 d0 h0 c1 d1 h1 r hF
 exact key n M hG c0 d0 h0 c1 d1 h1 r hF
def params_Same_s1 (n : Nat) (d0 : List TA0) (d1 : List TA0) (s_1 : Int) : Option (Lp Int (Sum Unit Unit)) :=
    bif (decide (s_1 < ((d0.length : Nat) : Int))) then
      ((((getI d0 s_1).bind fun x_1 =>
        (getI d1 s_1).bind fun x_2 =>
        some ((x_1, x_2)) : Option (TA0 × TA0))).bind fun y_1 =>
      bif (!(decide (y_1.1.fName = y_1.2.fName))) then
        (some (.br (.inl ())))
      else
        bif (!(y_1.1.fUnknown == y_1.2.fUnknown)) then
          (some (.br (.inl ())))
        else
          (params_empty n (⟨y_1.1.fV.fKind, (y_1.1.fV.fBool), y_1.1.fV.fNum, y_1.1.fV.fText, y_1.1.fV.fList, y_1.1.fV.fKeys⟩ : TB0)).bind fun x_5 =>
          bif x_5 then
            ((params_empty n (⟨y_1.2.fV.fKind, (y_1.2.fV.fBool), y_1.2.fV.fNum, y_1.2.fV.fText, y_1.2.fV.fList, y_1.2.fV.fKeys⟩ : TB0)).bind fun x_6 =>
            bif !x_6 then
              ((tree_Equal n (⟨y_1.1.fV.fKind, (y_1.1.fV.fBool), y_1.1.fV.fNum, y_1.1.fV.fText, y_1.1.fV.fList, y_1.1.fV.fKeys⟩ : TB0) (⟨y_1.2.fV.fKind, (y_1.2.fV.fBool), y_1.2.fV.fNum, y_1.2.fV.fText, y_1.2.fV.fList, y_1.2.fV.fKeys⟩ : TB0)).bind fun x_7 =>
              bif !x_7 then
                ((params_alike n (⟨y_1.1.fV.fKind, (y_1.1.fV.fBool), y_1.1.fV.fNum, y_1.1.fV.fText, y_1.1.fV.fList, y_1.1.fV.fKeys⟩ : TB0) (⟨y_1.2.fV.fKind, (y_1.2.fV.fBool), y_1.2.fV.fNum, y_1.2.fV.fText, y_1.2.fV.fList, y_1.2.fV.fKeys⟩ : TB0)).bind fun x_8 =>
                bif !x_8 then
                  (some (.br (.inl ())))
                else
                  need (inR .i64 (s_1 + 1)) <|
                  some (.nx (s_1 + 1)))
              else
                need (inR .i64 (s_1 + 1)) <|
                some (.nx (s_1 + 1)))
            else
              need (inR .i64 (s_1 + 1)) <|
              some (.nx (s_1 + 1)))
          else
            (tree_Equal n (⟨y_1.1.fV.fKind, (y_1.1.fV.fBool), y_1.1.fV.fNum, y_1.1.fV.fText, y_1.1.fV.fList, y_1.1.fV.fKeys⟩ : TB0) (⟨y_1.2.fV.fKind, (y_1.2.fV.fBool), y_1.2.fV.fNum, y_1.2.fV.fText, y_1.2.fV.fList, y_1.2.fV.fKeys⟩ : TB0)).bind fun x_9 =>
            bif !x_9 then
              ((params_alike n (⟨y_1.1.fV.fKind, (y_1.1.fV.fBool), y_1.1.fV.fNum, y_1.1.fV.fText, y_1.1.fV.fList, y_1.1.fV.fKeys⟩ : TB0) (⟨y_1.2.fV.fKind, (y_1.2.fV.fBool), y_1.2.fV.fNum, y_1.2.fV.fText, y_1.2.fV.fList, y_1.2.fV.fKeys⟩ : TB0)).bind fun x_10 =>
              bif !x_10 then
                (some (.br (.inl ())))
              else
                need (inR .i64 (s_1 + 1)) <|
                some (.nx (s_1 + 1)))
            else
              need (inR .i64 (s_1 + 1)) <|
              some (.nx (s_1 + 1)))
    else
      some (.br (.inr ()))
def params_Same (n : Nat) (d0 : List TA0) (d1 : List TA0) : Option Bool :=
  bif (!(decide (((d0.length : Nat) : Int) = ((d1.length : Nat) : Int)))) then
    (some ((false)))
  else
    (loopF (params_Same_s1 n d0 d1) n (0 : Int)).bind fun b_1 =>
    (match b_1 with 
    | .inl y_2 => some ((false)) 
    | .inr y_3 => some ((true)))
theorem params_Same_ok (n : Nat) (M : Mem) (hG : GL M) (A0 : Option Addr) (cap0 : Nat) (d0 : List TA0) (h0 : Sli M 8 emb_TA0 A0 cap0 d0) (A1 : Option Addr) (cap1 : Nat) (d1 : List TA0) (h1 : Sli M 8 emb_TA0 A1 cap1 d1) (r : Bool) (hF : params_Same n d0 d1 = some r) : Ok Tryd.prog M 13 [.slice A0 d0.length cap0, .slice A1 d1.length cap1] (fun _ v => v = .bool r) := by
 unfold params_Same at hF
 intro M1 hM0 w0 H w p0
 replace hG := GL.mono hM0 hG
 replace h0 := h0.mono hM0
 replace h1 := h1.mono hM0
 refine R_enter 66 Tryd.func13 rfl rfl (by simp) fun a0 f0 => RR (Y f0 1 fun _ f => eT (R_seq (RR (Y f 5 fun _ f => eT (RcF f hF (fun h_1 hF_1 => ?_) fun h_1 hF_2 => ?_)))))
 ·have k_1 : ¬ (((d0.length : Nat) : Int) = ((d1.length : Nat) : Int)) := (not_iff dI).1 h_1
  refine RR (Y f 1 fun _ f => eT (wp_ret (T_r (E_ret1 f rfl (by kernel_rfl : Vc.look _ 4 = some (.bool false)) ?_))))
  obtain rfl := sI hF_1
  exact ⟨_, rfl, M1, (mR _), p0, rfl⟩
 ·have k_2 : ¬ (¬ (((d0.length : Nat) : Int) = ((d1.length : Nat) : Int))) := iff_f (not_iff dI) h_1
  refine wp_skip (T_n (R_seq (RR (Y f 3 fun _ f => eT (wp_block ?_)))))
  obtain ⟨b_1, hL_1, hF_3⟩ := bS hF_2
  refine wp_mono (Q := fun e a w => (e = .ret ∧ (∃ y_2 : Unit, b_1 = .inl y_2 ∧ ∃ M_7 : Mem, M1.le M_7 ∧ Frm 66 [(4, .bool false)] a ∧ Hp w0 M_7 (H) w)) ∨ (e = .exit 0 ∧ (∃ y_3 : Unit, b_1 = .inr y_3 ∧ ∃ M_8 : Mem, M1.le M_8 ∧ Frm 66 [] a ∧ Hp w0 M_8 (H) w))) (R_loop (n := 66) (w0 := w0) (M := M1) (fun (x : Nat × Int) => match x with | (m_1, s_1) => [(0, .slice A0 d0.length cap0), (1, .slice A1 d1.length cap1), (14, .int .i64 ((d0.length : Nat) : Int)), (15, .int .i64 s_1)]) (fun (x : Nat × Int) => match x with | (m_1, s_1) => (H)) (fun (x : Nat × Int) (MM : Mem) => match x with | (m_1, s_1) => loopF (params_Same_s1 n d0 d1) m_1 s_1 = some b_1) (fun (x : Nat × Int) => match x with | (m_1, s_1) => m_1) (n, (0 : Int)) (f.kp) p0 hL_1 ?_) ?_
  ·rintro ⟨m_1, s_1⟩ M_1 _ w_1 hM_1 I_1 f p_1
   have I_1L := I_1
   obtain ⟨m_2, r_1, rfl, hs_1, hn_1⟩ := loop_step I_1L
   unfold params_Same_s1 at hs_1
   refine RR (Y f 1 fun _ f => eT (R_seq (RcF f hs_1 (fun h_2 hF_4 => ?_) fun h_2 hF_35 => ?_)))
   ·have k_3 := dI.1 h_2
    refine wp_skip (T_n (R_seq (wp_block (RR (Y f 2 fun _ f => eT (R_seq ?_))))))
    obtain ⟨j_1, hj_1, hF_5⟩ := bS hF_4
    refine R_mid (fun a_33 w_21 => ∃ y_1 : TA0 × TA0, j_1 = y_1 ∧ ∃ M_2 : Mem, M_1.le M_2 ∧ ∃ (ad_5 : Addr), ∃ (c_5 : List Value), ∃ (ad_6 : Addr), ∃ (c_6 : List Value), Rep M_2 (emb_TA0 y_1.1) c_5 ∧ (∀ j u, c_5[j]? = some u → M_2.cell? (ad_5.add j) = some u) ∧ Rep M_2 (emb_TA0 y_1.2) c_6 ∧ (∀ j u, c_6[j]? = some u → M_2.cell? (ad_6.add j) = some u) ∧ Frm 66 [(0, .slice A0 d0.length cap0), (1, .slice A1 d1.length cap1), (6, .pointer (some ad_5)), (7, .pointer (some ad_6)), (14, .int .i64 ((d0.length : Nat) : Int)), (15, .int .i64 s_1)] a_33 ∧ Hp w0 M_2 (H) w_21) ?_ ?_
    ·obtain ⟨x_1, hx_1, hF_6⟩ := bS hj_1
     obtain ⟨x_2, hx_2, hF_7⟩ := bS hF_6
     refine R_plan (ks := [11]) (E := []) (Hr := (H)) (.quiet 0 (.quiet 1 (.quiet 2 (.quiet 3 (.quiet 4 (.quiet 5 (.quiet 6 (.quiet 7 (.alt 8 (.alt 9 (.alt 10 .done .none) .none) (.alt 9 (.alt 8 (.alt 10 .done .none) .none) .none)))))))))) p_1 (by kernel_rfl) (by kernel_rfl) (by kernel_rfl) (Y1 (v := .slice A0 d0.length cap0) rfl f rfl rfl (fun _ _ => by kernel_rfl) fun _ f => Y1 (v := .int .i64 s_1) rfl f rfl rfl (fun _ _ => by kernel_rfl) fun _ f => ?_)
     obtain ⟨ad_3, c_3, e_3, -, hr_3, hc_3⟩ := Sli.at_ (h0.mono hM_1) hx_1
     obtain ⟨A_5, cap_5, A_6, cap_6, rfl, h_7, h_8⟩ := TA0.opn hr_3
     refine Y1 (v := .pointer (some (ad_3.add (s_1.toNat * 8)))) rfl f rfl rfl (fun _ pq => Y30 e_3 rfl (len := d0.length) (cap := cap0) (k := .i64) (i := s_1) (e := 35) (sz := 8) (getI_nn hx_1) (getI_lt hx_1)) fun _ f => Y1 (v := .agg #[S x_1.fName, .bool x_1.fUnknown, .int .i8 x_1.fV.fKind, .bool x_1.fV.fBool, .int .i64 x_1.fV.fNum, S x_1.fV.fText, .slice A_5 x_1.fV.fList.length cap_5, .slice A_6 x_1.fV.fKeys.length cap_6]) rfl f rfl rfl (fun _ pq => Y32 (cs := [S x_1.fName, .bool x_1.fUnknown, .int .i8 x_1.fV.fKind, .bool x_1.fV.fBool, .int .i64 x_1.fV.fNum, S x_1.fV.fText, .slice A_5 x_1.fV.fList.length cap_5, .slice A_6 x_1.fV.fKeys.length cap_6]) rfl (ad := ad_3.add (s_1.toNat * 8)) (fun j v h => pq.cell (hc_3 j v h))) fun _ f => Y1 (v := .slice A1 d1.length cap1) rfl f rfl rfl (fun _ _ => by kernel_rfl) fun _ f => Y1 (v := .int .i64 s_1) rfl f rfl rfl (fun _ _ => by kernel_rfl) fun _ f => ?_
     obtain ⟨ad_4, c_4, e_4, -, hr_4, hc_4⟩ := Sli.at_ (h1.mono hM_1) hx_2
     obtain ⟨A_7, cap_7, A_8, cap_8, rfl, h_9, h_10⟩ := TA0.opn hr_4
     refine Y1 (v := .pointer (some (ad_4.add (s_1.toNat * 8)))) rfl f rfl rfl (fun _ pq => Y30 e_4 rfl (len := d1.length) (cap := cap1) (k := .i64) (i := s_1) (e := 35) (sz := 8) (getI_nn hx_2) (getI_lt hx_2)) fun _ f => Y1 (v := .agg #[S x_2.fName, .bool x_2.fUnknown, .int .i8 x_2.fV.fKind, .bool x_2.fV.fBool, .int .i64 x_2.fV.fNum, S x_2.fV.fText, .slice A_7 x_2.fV.fList.length cap_7, .slice A_8 x_2.fV.fKeys.length cap_8]) rfl f rfl rfl (fun _ pq => Y32 (cs := [S x_2.fName, .bool x_2.fUnknown, .int .i8 x_2.fV.fKind, .bool x_2.fV.fBool, .int .i64 x_2.fV.fNum, S x_2.fV.fText, .slice A_7 x_2.fV.fList.length cap_7, .slice A_8 x_2.fV.fKeys.length cap_8]) rfl (ad := ad_4.add (s_1.toNat * 8)) (fun j v h => pq.cell (hc_4 j v h))) fun _ f => N_alt rfl (fun w_5 p_6 => ?_) ?_
     ·refine Y12 f p_6 (.cells #[S [], .bool false, .int .i8 0, .bool false, .int .i64 0, S [], .slice none 0 0, .slice none 0 0] 35 (0, 0)) fun b_4 w_6 p_7 _ f => W_end rfl (N_goN 1 (mR _) p_7 rfl (N_alt rfl (fun w_7 p_8 => ?_) ?_))
      ·refine Y12 f p_8 (.cells #[S [], .bool false, .int .i8 0, .bool false, .int .i64 0, S [], .slice none 0 0, .slice none 0 0] 35 (0, 0)) fun b_5 w_8 p_9 _ f => W_end rfl (N_goN 2 (mR _) p_9 rfl (N_alt rfl (fun w_9 p_10 => ?_) ?_))
       ·have p_11 := p_10.pl [1]
        refine Y28 (vs := [S x_1.fName, .bool x_1.fUnknown, .int .i8 x_1.fV.fKind, .bool x_1.fV.fBool, .int .i64 x_1.fV.fNum, S x_1.fV.fText, .slice A_5 x_1.fV.fList.length cap_5, .slice A_6 x_1.fV.fKeys.length cap_6]) (j := 0) f p_11 rfl rfl (by simp [Value.oneCell', S]) (by simp) (by decide) (cs' := #[S x_1.fName, .bool x_1.fUnknown, .int .i8 x_1.fV.fKind, .bool x_1.fV.fBool, .int .i64 x_1.fV.fNum, S x_1.fV.fText, .slice A_5 x_1.fV.fList.length cap_5, .slice A_6 x_1.fV.fKeys.length cap_6]) fun w_10 p_12 _ f => W_end rfl (N_goN 2 (mR _) p_12 rfl (N_tail fun w_11 p_13 => ?_))
        have p_14 := p_13.pl [1]
        refine Y28 (vs := [S x_2.fName, .bool x_2.fUnknown, .int .i8 x_2.fV.fKind, .bool x_2.fV.fBool, .int .i64 x_2.fV.fNum, S x_2.fV.fText, .slice A_7 x_2.fV.fList.length cap_7, .slice A_8 x_2.fV.fKeys.length cap_8]) (j := 0) f p_14 rfl rfl (by simp [Value.oneCell', S]) (by simp) (by decide) (cs' := #[S x_2.fName, .bool x_2.fUnknown, .int .i8 x_2.fV.fKind, .bool x_2.fV.fBool, .int .i64 x_2.fV.fNum, S x_2.fV.fText, .slice A_7 x_2.fV.fList.length cap_7, .slice A_8 x_2.fV.fKeys.length cap_8]) fun w_12 p_15 _ f => W_end rfl (N_te ?_)
        have p_26 := p_15.pl [1]
        obtain ⟨M_3, hM_3, p_27, hc_5⟩ := p_26.fzOwn
        obtain ⟨M_4, hM_4, p_28, hc_6⟩ := p_27.fzOwn
        refine T_n ?_
        exact ⟨(x_1, x_2), (sI hF_7).symm, M_4, (hM_3.trans hM_4), ⟨b_4, 0, none⟩, [S x_1.fName, .bool x_1.fUnknown, .int .i8 x_1.fV.fKind, .bool x_1.fV.fBool, .int .i64 x_1.fV.fNum, S x_1.fV.fText, .slice A_5 x_1.fV.fList.length cap_5, .slice A_6 x_1.fV.fKeys.length cap_6], ⟨b_5, 0, none⟩, [S x_2.fName, .bool x_2.fUnknown, .int .i8 x_2.fV.fKind, .bool x_2.fV.fBool, .int .i64 x_2.fV.fNum, S x_2.fV.fText, .slice A_7 x_2.fV.fList.length cap_7, .slice A_8 x_2.fV.fKeys.length cap_8], (TA0.shutx (x := x_1) (h_7.mono (hM_3.trans hM_4)) (h_8.mono (hM_3.trans hM_4))), (fz_at ((fzu hM_4 hc_5)) 0 rfl), (TA0.shutx (x := x_2) (h_9.mono (hM_3.trans hM_4)) (h_10.mono (hM_3.trans hM_4))), (fz_at (hc_6) 0 rfl), f.kp, p_28⟩
       exact N_none
      exact N_none
     refine N_alt rfl (fun w_13 p_16 => ?_) ?_
     ·refine Y12 f p_16 (.cells #[S [], .bool false, .int .i8 0, .bool false, .int .i64 0, S [], .slice none 0 0, .slice none 0 0] 35 (0, 0)) fun b_6 w_14 p_17 _ f => W_end rfl (N_goN 1 (mR _) p_17 rfl (N_alt rfl (fun w_15 p_18 => ?_) ?_))
      ·refine Y12 f p_18 (.cells #[S [], .bool false, .int .i8 0, .bool false, .int .i64 0, S [], .slice none 0 0, .slice none 0 0] 35 (0, 0)) fun b_7 w_16 p_19 _ f => W_end rfl (N_goN 2 (mR _) p_19 rfl (N_alt rfl (fun w_17 p_20 => ?_) ?_))
       ·refine Y28 (vs := [S x_1.fName, .bool x_1.fUnknown, .int .i8 x_1.fV.fKind, .bool x_1.fV.fBool, .int .i64 x_1.fV.fNum, S x_1.fV.fText, .slice A_5 x_1.fV.fList.length cap_5, .slice A_6 x_1.fV.fKeys.length cap_6]) (j := 0) f p_20 rfl rfl (by simp [Value.oneCell', S]) (by simp) (by decide) (cs' := #[S x_1.fName, .bool x_1.fUnknown, .int .i8 x_1.fV.fKind, .bool x_1.fV.fBool, .int .i64 x_1.fV.fNum, S x_1.fV.fText, .slice A_5 x_1.fV.fList.length cap_5, .slice A_6 x_1.fV.fKeys.length cap_6]) fun w_18 p_21 _ f => W_end rfl (N_goN 2 (mR _) p_21 rfl (N_tail fun w_19 p_22 => ?_))
        have p_23 := p_22.pl [1]
        refine Y28 (vs := [S x_2.fName, .bool x_2.fUnknown, .int .i8 x_2.fV.fKind, .bool x_2.fV.fBool, .int .i64 x_2.fV.fNum, S x_2.fV.fText, .slice A_7 x_2.fV.fList.length cap_7, .slice A_8 x_2.fV.fKeys.length cap_8]) (j := 0) f p_23 rfl rfl (by simp [Value.oneCell', S]) (by simp) (by decide) (cs' := #[S x_2.fName, .bool x_2.fUnknown, .int .i8 x_2.fV.fKind, .bool x_2.fV.fBool, .int .i64 x_2.fV.fNum, S x_2.fV.fText, .slice A_7 x_2.fV.fList.length cap_7, .slice A_8 x_2.fV.fKeys.length cap_8]) fun w_20 p_24 _ f => W_end rfl (N_te ?_)
        have p_29 := p_24.pl [1]
        obtain ⟨M_5, hM_5, p_30, hc_7⟩ := p_29.fzOwn
        obtain ⟨M_6, hM_6, p_31, hc_8⟩ := p_30.fzOwn
        refine T_n ?_
        exact ⟨(x_1, x_2), (sI hF_7).symm, M_6, (hM_5.trans hM_6), ⟨b_7, 0, none⟩, [S x_1.fName, .bool x_1.fUnknown, .int .i8 x_1.fV.fKind, .bool x_1.fV.fBool, .int .i64 x_1.fV.fNum, S x_1.fV.fText, .slice A_5 x_1.fV.fList.length cap_5, .slice A_6 x_1.fV.fKeys.length cap_6], ⟨b_6, 0, none⟩, [S x_2.fName, .bool x_2.fUnknown, .int .i8 x_2.fV.fKind, .bool x_2.fV.fBool, .int .i64 x_2.fV.fNum, S x_2.fV.fText, .slice A_7 x_2.fV.fList.length cap_7, .slice A_8 x_2.fV.fKeys.length cap_8], (TA0.shutx (x := x_1) (h_7.mono (hM_5.trans hM_6)) (h_8.mono (hM_5.trans hM_6))), (fz_at ((fzu hM_6 hc_7)) 0 rfl), (TA0.shutx (x := x_2) (h_9.mono (hM_5.trans hM_6)) (h_10.mono (hM_5.trans hM_6))), (fz_at (hc_8) 0 rfl), f.kp, p_31⟩
       exact N_none
      exact N_none
     exact N_none
    ·rintro a_33 w_21 ⟨y_1, hq_3, M_2, hM_2, ad_5, c_5, ad_6, c_6, hr_5, hq_1, hr_6, hq_2, f, p_25⟩
     subst j_1
     obtain ⟨A_9, cap_9, A_10, cap_10, rfl, h_11, h_12⟩ := TA0.opn hr_5
     obtain ⟨A_11, cap_11, A_12, cap_12, rfl, h_13, h_14⟩ := TA0.opn hr_6
     refine T_n (RR (Y f 1 fun _ f => Y15 f p_25 hq_1 0 rfl fun _ f => Y f 1 fun _ f => Y15 f p_25 hq_2 0 rfl fun _ f => Z f (Y38 rfl (l := y_1.1.fName) (m := y_1.2.fName)) fun _ f => Y f 1 fun _ f => ?_))
     rcases cE hF_5 with ⟨h_15, hF_8⟩ | ⟨h_15, hF_9⟩
     ·have k_4 : ¬ (y_1.1.fName = y_1.2.fName) := (not_iff dI).1 h_15
      have f := f.st 31 (cB h_15)
      refine Y f 33 fun _ f => eT (Y8 f (RR (Y f 1 fun _ f => eT (wp_ret (B_r (T_r (T_r ?_)))))))
      obtain rfl := sI hF_8
      exact .inl ⟨rfl, (), (sI hn_1).symm, M_2, (hM_1.trans hM_2), f.kp, p_25⟩
     ·have k_5 : ¬ (¬ (y_1.1.fName = y_1.2.fName)) := iff_f (not_iff dI) h_15
      have f := f.st 31 (cB h_15)
      refine Y f 1 fun _ f => Y15 f p_25 hq_1 1 rfl fun _ f => Y f 1 fun _ f => Y15 f p_25 hq_2 1 rfl fun _ f => Y f 3 fun _ f => ?_
      rcases cE hF_9 with ⟨h_16, hF_10⟩ | ⟨h_16, hF_11⟩
      ·have k_6 : (y_1.1.fUnknown == y_1.2.fUnknown) = false := by simpa using h_16
       have f := f.st 38 (cB h_16)
       refine Y f 26 fun _ f => eT (Y8 f (RR (Y f 1 fun _ f => eT (wp_ret (B_r (T_r (T_r ?_)))))))
       obtain rfl := sI hF_10
       exact .inl ⟨rfl, (), (sI hn_1).symm, M_2, (hM_1.trans hM_2), f.kp, p_25⟩
      ·have k_7 : (y_1.1.fUnknown == y_1.2.fUnknown) = true := by simpa using h_16
       have f := f.st 38 (cB h_16)
       refine Y f 1 fun _ f => Z (v := .agg #[.int .i8 y_1.1.fV.fKind, .bool y_1.1.fV.fBool, .int .i64 y_1.1.fV.fNum, S y_1.1.fV.fText, .slice A_9 y_1.1.fV.fList.length cap_9, .slice A_10 y_1.1.fV.fKeys.length cap_10]) f (Y32 (cs := [.int .i8 y_1.1.fV.fKind, .bool y_1.1.fV.fBool, .int .i64 y_1.1.fV.fNum, S y_1.1.fV.fText, .slice A_9 y_1.1.fV.fList.length cap_9, .slice A_10 y_1.1.fV.fKeys.length cap_10]) rfl (ad := ad_5.add 2) (fz_part (base := ad_5) (fun j v h => p_25.cell (hq_1 j v h)) 2 rfl)) fun _ f => ?_
       obtain ⟨x_5, hx_3, hF_12⟩ := bS hF_11
       refine Y18 f p_25 (params_empty_ok n _ (GL.mono (hM_1.trans hM_2) hG) _ (⟨y_1.1.fV.fKind, (y_1.1.fV.fBool), y_1.1.fV.fNum, y_1.1.fV.fText, y_1.1.fV.fList, y_1.1.fV.fKeys⟩ : TB0) (TB0.shut h_11 h_12) x_5 hx_3) fun w_22 p_32 _ f => Y f 1 fun _ f => ?_
       rcases cE hF_12 with ⟨h_17, hF_13⟩ | ⟨h_17, hF_26⟩
       ·have f := f.st 42 (cB h_17)
        refine Y f 1 fun _ f => Z (v := .agg #[.int .i8 y_1.2.fV.fKind, .bool y_1.2.fV.fBool, .int .i64 y_1.2.fV.fNum, S y_1.2.fV.fText, .slice A_11 y_1.2.fV.fList.length cap_11, .slice A_12 y_1.2.fV.fKeys.length cap_12]) f (Y32 (cs := [.int .i8 y_1.2.fV.fKind, .bool y_1.2.fV.fBool, .int .i64 y_1.2.fV.fNum, S y_1.2.fV.fText, .slice A_11 y_1.2.fV.fList.length cap_11, .slice A_12 y_1.2.fV.fKeys.length cap_12]) rfl (ad := ad_6.add 2) (fz_part (base := ad_6) (fun j v h => p_32.cell (hq_2 j v h)) 2 rfl)) fun _ f => ?_
        obtain ⟨x_6, hx_4, hF_14⟩ := bS hF_13
        refine Y18 f p_32 (params_empty_ok n _ (GL.mono (hM_1.trans hM_2) hG) _ (⟨y_1.2.fV.fKind, (y_1.2.fV.fBool), y_1.2.fV.fNum, y_1.2.fV.fText, y_1.2.fV.fList, y_1.2.fV.fKeys⟩ : TB0) (TB0.shut h_13 h_14) x_6 hx_4) fun w_23 p_33 _ f => Y f 3 fun _ f => ?_
        rcases cE hF_14 with ⟨h_18, hF_15⟩ | ⟨h_18, hF_24⟩
        ·have k_9 : (x_6) = false := by simpa using h_18
         have f := f.st 48 (cB h_18)
         refine Y f 1 fun _ f => Z (v := .agg #[.int .i8 y_1.1.fV.fKind, .bool y_1.1.fV.fBool, .int .i64 y_1.1.fV.fNum, S y_1.1.fV.fText, .slice A_9 y_1.1.fV.fList.length cap_9, .slice A_10 y_1.1.fV.fKeys.length cap_10]) f (Y32 (cs := [.int .i8 y_1.1.fV.fKind, .bool y_1.1.fV.fBool, .int .i64 y_1.1.fV.fNum, S y_1.1.fV.fText, .slice A_9 y_1.1.fV.fList.length cap_9, .slice A_10 y_1.1.fV.fKeys.length cap_10]) rfl (ad := ad_5.add 2) (fz_part (base := ad_5) (fun j v h => p_33.cell (hq_1 j v h)) 2 rfl)) fun _ f => Y f 1 fun _ f => Z (v := .agg #[.int .i8 y_1.2.fV.fKind, .bool y_1.2.fV.fBool, .int .i64 y_1.2.fV.fNum, S y_1.2.fV.fText, .slice A_11 y_1.2.fV.fList.length cap_11, .slice A_12 y_1.2.fV.fKeys.length cap_12]) f (Y32 (cs := [.int .i8 y_1.2.fV.fKind, .bool y_1.2.fV.fBool, .int .i64 y_1.2.fV.fNum, S y_1.2.fV.fText, .slice A_11 y_1.2.fV.fList.length cap_11, .slice A_12 y_1.2.fV.fKeys.length cap_12]) rfl (ad := ad_6.add 2) (fz_part (base := ad_6) (fun j v h => p_33.cell (hq_2 j v h)) 2 rfl)) fun _ f => ?_
         obtain ⟨x_7, hx_5, hF_16⟩ := bS hF_15
         refine Y18 f p_33 (tree_Equal_ok n _ (GL.mono (hM_1.trans hM_2) hG) _ (⟨y_1.1.fV.fKind, (y_1.1.fV.fBool), y_1.1.fV.fNum, y_1.1.fV.fText, y_1.1.fV.fList, y_1.1.fV.fKeys⟩ : TB0) (TB0.shut h_11 h_12) _ (⟨y_1.2.fV.fKind, (y_1.2.fV.fBool), y_1.2.fV.fNum, y_1.2.fV.fText, y_1.2.fV.fList, y_1.2.fV.fKeys⟩ : TB0) (TB0.shut h_13 h_14) x_7 hx_5) fun w_24 p_34 _ f => Y f 3 fun _ f => ?_
         rcases cE hF_16 with ⟨h_19, hF_17⟩ | ⟨h_19, hF_22⟩
         ·have k_10 : (x_7) = false := by simpa using h_19
          have f := f.st 56 (cB h_19)
          refine Y f 1 fun _ f => Z (v := .agg #[.int .i8 y_1.1.fV.fKind, .bool y_1.1.fV.fBool, .int .i64 y_1.1.fV.fNum, S y_1.1.fV.fText, .slice A_9 y_1.1.fV.fList.length cap_9, .slice A_10 y_1.1.fV.fKeys.length cap_10]) f (Y32 (cs := [.int .i8 y_1.1.fV.fKind, .bool y_1.1.fV.fBool, .int .i64 y_1.1.fV.fNum, S y_1.1.fV.fText, .slice A_9 y_1.1.fV.fList.length cap_9, .slice A_10 y_1.1.fV.fKeys.length cap_10]) rfl (ad := ad_5.add 2) (fz_part (base := ad_5) (fun j v h => p_34.cell (hq_1 j v h)) 2 rfl)) fun _ f => Y f 1 fun _ f => Z (v := .agg #[.int .i8 y_1.2.fV.fKind, .bool y_1.2.fV.fBool, .int .i64 y_1.2.fV.fNum, S y_1.2.fV.fText, .slice A_11 y_1.2.fV.fList.length cap_11, .slice A_12 y_1.2.fV.fKeys.length cap_12]) f (Y32 (cs := [.int .i8 y_1.2.fV.fKind, .bool y_1.2.fV.fBool, .int .i64 y_1.2.fV.fNum, S y_1.2.fV.fText, .slice A_11 y_1.2.fV.fList.length cap_11, .slice A_12 y_1.2.fV.fKeys.length cap_12]) rfl (ad := ad_6.add 2) (fz_part (base := ad_6) (fun j v h => p_34.cell (hq_2 j v h)) 2 rfl)) fun _ f => ?_
          obtain ⟨x_8, hx_6, hF_18⟩ := bS hF_17
          refine Y18 f p_34 (params_alike_ok n _ (GL.mono (hM_1.trans hM_2) hG) _ (⟨y_1.1.fV.fKind, (y_1.1.fV.fBool), y_1.1.fV.fNum, y_1.1.fV.fText, y_1.1.fV.fList, y_1.1.fV.fKeys⟩ : TB0) (TB0.shut h_11 h_12) _ (⟨y_1.2.fV.fKind, (y_1.2.fV.fBool), y_1.2.fV.fNum, y_1.2.fV.fText, y_1.2.fV.fList, y_1.2.fV.fKeys⟩ : TB0) (TB0.shut h_13 h_14) x_8 hx_6) fun w_25 p_35 _ f => Y f 3 fun _ f => eT (RcF f hF_18 (fun h_20 hF_19 => ?_) fun h_20 hF_20 => ?_)
          ·have k_11 : (x_8) = false := by simpa using h_20
           refine RR (Y f 1 fun _ f => eT (wp_ret (B_r (T_r (T_r ?_)))))
           obtain rfl := sI hF_19
           exact .inl ⟨rfl, (), (sI hn_1).symm, M_2, (hM_1.trans hM_2), f.kp, p_35⟩
          ·have k_12 : (x_8) = true := by simpa using h_20
           refine wp_skip (B_n (T_n (R_reg ?_)))
           obtain ⟨g_1, hF_21⟩ := nS hF_20
           refine Y f 1 fun _ f => ?_
           have f := f.st 65 (congrArg (Value.int .i64) (inR_wrap g_1))
           refine Y f 1 fun _ f => eT ?_
           obtain rfl := sI hF_21
           exact ⟨⟨m_2, s_1 + 1⟩, Nat.lt_succ_self _, M_2, (hM_1.trans hM_2), hn_1, f.kp, p_35⟩
         ·have k_13 : (x_7) = true := by simpa using h_19
          have f := f.st 56 (cB h_19)
          refine Y f 8 fun _ f => eT (Y7 f (wp_skip (B_n (T_n (R_reg ?_)))))
          obtain ⟨g_2, hF_23⟩ := nS hF_22
          refine Y f 1 fun _ f => ?_
          have f := f.st 65 (congrArg (Value.int .i64) (inR_wrap g_2))
          refine Y f 1 fun _ f => eT ?_
          obtain rfl := sI hF_23
          exact ⟨⟨m_2, s_1 + 1⟩, Nat.lt_succ_self _, M_2, (hM_1.trans hM_2), hn_1, f.kp, p_34⟩
        ·have k_14 : (x_6) = true := by simpa using h_18
         have f := f.st 48 (cB h_18)
         refine Y f 16 fun _ f => eT (Y7 f (wp_skip (B_n (T_n (R_reg ?_)))))
         obtain ⟨g_3, hF_25⟩ := nS hF_24
         refine Y f 1 fun _ f => ?_
         have f := f.st 65 (congrArg (Value.int .i64) (inR_wrap g_3))
         refine Y f 1 fun _ f => eT ?_
         obtain rfl := sI hF_25
         exact ⟨⟨m_2, s_1 + 1⟩, Nat.lt_succ_self _, M_2, (hM_1.trans hM_2), hn_1, f.kp, p_33⟩
       ·have f := f.st 42 (cB h_17)
        refine Y f 7 fun _ f => Z (v := .agg #[.int .i8 y_1.1.fV.fKind, .bool y_1.1.fV.fBool, .int .i64 y_1.1.fV.fNum, S y_1.1.fV.fText, .slice A_9 y_1.1.fV.fList.length cap_9, .slice A_10 y_1.1.fV.fKeys.length cap_10]) f (Y32 (cs := [.int .i8 y_1.1.fV.fKind, .bool y_1.1.fV.fBool, .int .i64 y_1.1.fV.fNum, S y_1.1.fV.fText, .slice A_9 y_1.1.fV.fList.length cap_9, .slice A_10 y_1.1.fV.fKeys.length cap_10]) rfl (ad := ad_5.add 2) (fz_part (base := ad_5) (fun j v h => p_32.cell (hq_1 j v h)) 2 rfl)) fun _ f => Y f 1 fun _ f => Z (v := .agg #[.int .i8 y_1.2.fV.fKind, .bool y_1.2.fV.fBool, .int .i64 y_1.2.fV.fNum, S y_1.2.fV.fText, .slice A_11 y_1.2.fV.fList.length cap_11, .slice A_12 y_1.2.fV.fKeys.length cap_12]) f (Y32 (cs := [.int .i8 y_1.2.fV.fKind, .bool y_1.2.fV.fBool, .int .i64 y_1.2.fV.fNum, S y_1.2.fV.fText, .slice A_11 y_1.2.fV.fList.length cap_11, .slice A_12 y_1.2.fV.fKeys.length cap_12]) rfl (ad := ad_6.add 2) (fz_part (base := ad_6) (fun j v h => p_32.cell (hq_2 j v h)) 2 rfl)) fun _ f => ?_
        obtain ⟨x_9, hx_7, hF_27⟩ := bS hF_26
        refine Y18 f p_32 (tree_Equal_ok n _ (GL.mono (hM_1.trans hM_2) hG) _ (⟨y_1.1.fV.fKind, (y_1.1.fV.fBool), y_1.1.fV.fNum, y_1.1.fV.fText, y_1.1.fV.fList, y_1.1.fV.fKeys⟩ : TB0) (TB0.shut h_11 h_12) _ (⟨y_1.2.fV.fKind, (y_1.2.fV.fBool), y_1.2.fV.fNum, y_1.2.fV.fText, y_1.2.fV.fList, y_1.2.fV.fKeys⟩ : TB0) (TB0.shut h_13 h_14) x_9 hx_7) fun w_26 p_36 _ f => Y f 3 fun _ f => ?_
        rcases cE hF_27 with ⟨h_21, hF_28⟩ | ⟨h_21, hF_33⟩
        ·have k_16 : (x_9) = false := by simpa using h_21
         have f := f.st 56 (cB h_21)
         refine Y f 1 fun _ f => Z (v := .agg #[.int .i8 y_1.1.fV.fKind, .bool y_1.1.fV.fBool, .int .i64 y_1.1.fV.fNum, S y_1.1.fV.fText, .slice A_9 y_1.1.fV.fList.length cap_9, .slice A_10 y_1.1.fV.fKeys.length cap_10]) f (Y32 (cs := [.int .i8 y_1.1.fV.fKind, .bool y_1.1.fV.fBool, .int .i64 y_1.1.fV.fNum, S y_1.1.fV.fText, .slice A_9 y_1.1.fV.fList.length cap_9, .slice A_10 y_1.1.fV.fKeys.length cap_10]) rfl (ad := ad_5.add 2) (fz_part (base := ad_5) (fun j v h => p_36.cell (hq_1 j v h)) 2 rfl)) fun _ f => Y f 1 fun _ f => Z (v := .agg #[.int .i8 y_1.2.fV.fKind, .bool y_1.2.fV.fBool, .int .i64 y_1.2.fV.fNum, S y_1.2.fV.fText, .slice A_11 y_1.2.fV.fList.length cap_11, .slice A_12 y_1.2.fV.fKeys.length cap_12]) f (Y32 (cs := [.int .i8 y_1.2.fV.fKind, .bool y_1.2.fV.fBool, .int .i64 y_1.2.fV.fNum, S y_1.2.fV.fText, .slice A_11 y_1.2.fV.fList.length cap_11, .slice A_12 y_1.2.fV.fKeys.length cap_12]) rfl (ad := ad_6.add 2) (fz_part (base := ad_6) (fun j v h => p_36.cell (hq_2 j v h)) 2 rfl)) fun _ f => ?_
         obtain ⟨x_10, hx_8, hF_29⟩ := bS hF_28
         refine Y18 f p_36 (params_alike_ok n _ (GL.mono (hM_1.trans hM_2) hG) _ (⟨y_1.1.fV.fKind, (y_1.1.fV.fBool), y_1.1.fV.fNum, y_1.1.fV.fText, y_1.1.fV.fList, y_1.1.fV.fKeys⟩ : TB0) (TB0.shut h_11 h_12) _ (⟨y_1.2.fV.fKind, (y_1.2.fV.fBool), y_1.2.fV.fNum, y_1.2.fV.fText, y_1.2.fV.fList, y_1.2.fV.fKeys⟩ : TB0) (TB0.shut h_13 h_14) x_10 hx_8) fun w_27 p_37 _ f => Y f 3 fun _ f => eT (RcF f hF_29 (fun h_22 hF_30 => ?_) fun h_22 hF_31 => ?_)
         ·have k_17 : (x_10) = false := by simpa using h_22
          refine RR (Y f 1 fun _ f => eT (wp_ret (B_r (T_r (T_r ?_)))))
          obtain rfl := sI hF_30
          exact .inl ⟨rfl, (), (sI hn_1).symm, M_2, (hM_1.trans hM_2), f.kp, p_37⟩
         ·have k_18 : (x_10) = true := by simpa using h_22
          refine wp_skip (B_n (T_n (R_reg ?_)))
          obtain ⟨g_4, hF_32⟩ := nS hF_31
          refine Y f 1 fun _ f => ?_
          have f := f.st 65 (congrArg (Value.int .i64) (inR_wrap g_4))
          refine Y f 1 fun _ f => eT ?_
          obtain rfl := sI hF_32
          exact ⟨⟨m_2, s_1 + 1⟩, Nat.lt_succ_self _, M_2, (hM_1.trans hM_2), hn_1, f.kp, p_37⟩
        ·have k_19 : (x_9) = true := by simpa using h_21
         have f := f.st 56 (cB h_21)
         refine Y f 8 fun _ f => eT (Y7 f (wp_skip (B_n (T_n (R_reg ?_)))))
         obtain ⟨g_5, hF_34⟩ := nS hF_33
         refine Y f 1 fun _ f => ?_
         have f := f.st 65 (congrArg (Value.int .i64) (inR_wrap g_5))
         refine Y f 1 fun _ f => eT ?_
         obtain rfl := sI hF_34
         exact ⟨⟨m_2, s_1 + 1⟩, Nat.lt_succ_self _, M_2, (hM_1.trans hM_2), hn_1, f.kp, p_36⟩
   ·have k_20 := iff_f dI h_2
    refine wp_exit (T_x (T_x ?_))
    obtain rfl := sI hF_35
    exact .inr ⟨rfl, (), (sI hn_1).symm, M_1, hM_1, f.kp, p_1⟩
  ·rintro _ _ w_30 (⟨rfl, y_2, rfl, M_7, hM_7, f, p_38⟩ | ⟨rfl, y_3, rfl, M_8, hM_8, f, p_39⟩)
   ·refine B_r (T_r (E_ret1 f rfl (by kernel_rfl : Vc.look _ 4 = some (.bool false)) ?_))
    obtain rfl := sI hF_3
    exact ⟨_, rfl, M_7, hM_7, p_38, rfl⟩
   ·refine B_x (T_n (RR (Y f 1 fun _ f => eT (wp_ret (E_ret1 f rfl (by kernel_rfl : Vc.look _ 4 = some (.bool true)) ?_)))))
    obtain rfl := sI hF_3
    exact ⟨_, rfl, M_8, hM_8, p_39, rfl⟩
def ref14_GreatParams_s2 (n : Nat) (d0 : List TC0) (s_1 : Int) (s_2 : Int) : Option (Lp Int (Sum Unit Unit)) :=
    (getI d0 s_1).bind fun x_5 =>
    bif (decide (s_2 < ((x_5.fAllowed.length : Nat) : Int))) then
      ((getI d0 s_1).bind fun x_6 =>
      (getI x_6.fAllowed s_2).bind fun x_7 =>
      (ref03_Great n x_7).bind fun x_8 =>
      bif x_8 then
        (some (.br (.inl ())))
      else
        need (inR .i64 (s_2 + 1)) <|
        some (.nx (s_2 + 1)))
    else
      some (.br (.inr ()))
def ref14_GreatParams_s1 (n : Nat) (d0 : List TC0) (s_1 : Int) : Option (Lp Int (Sum Unit Unit)) :=
    ((bif (decide (s_1 < ((d0.length : Nat) : Int))) then
        (some ((decide (s_1 ≤ 40))))
      else
        some ((false)) : Option Bool)).bind fun y_1 =>
    bif y_1 then
      ((((getI d0 s_1).bind fun x_1 =>
        (ref03_Great n (⟨x_1.fDefault.fKind, (x_1.fDefault.fBool), x_1.fDefault.fNum, x_1.fDefault.fText, x_1.fDefault.fList, x_1.fDefault.fKeys⟩ : TB0)).bind fun x_2 =>
        bif x_2 then
          (some ((true)))
        else
          (getI d0 s_1).bind fun x_3 =>
          bif (decide ((40 : Int) < ((x_3.fAllowed.length : Nat) : Int))) then
            (some ((true)))
          else
            (getI d0 s_1).bind fun x_4 =>
            some ((decide ((400 : Int) < (x_4.fName.length : Int)))) : Option Bool)).bind fun y_2 =>
      bif y_2 then
        (some (.br (.inl ())))
      else
        (loopF (ref14_GreatParams_s2 n d0 s_1) n (0 : Int)).bind fun b_2 =>
        (match b_2 with 
        | .inl y_3 => some (.br (.inl ())) 
        | .inr y_4 => need (inR .i64 (s_1 + 1)) <|
          some (.nx (s_1 + 1))))
    else
      some (.br (.inr ()))
def ref14_GreatParams (n : Nat) (d0 : List TC0) : Option Bool :=
  (loopF (ref14_GreatParams_s1 n d0) n (0 : Int)).bind fun b_1 =>
  (match b_1 with 
  | .inl y_5 => some ((true)) 
  | .inr y_6 => some ((decide ((40 : Int) < ((d0.length : Nat) : Int)))))
theorem ref14_GreatParams_ok (n : Nat) (M : Mem) (hG : GL M) (A0 : Option Addr) (cap0 : Nat) (d0 : List TC0) (h0 : Sli M 10 emb_TC0 A0 cap0 d0) (r : Bool) (hF : ref14_GreatParams n d0 = some r) : Ok Tryd.prog M 25 [.slice A0 d0.length cap0] (fun _ v => v = .bool r) := by
 unfold ref14_GreatParams at hF
 intro M1 hM0 w0 H w p0
 replace hG := GL.mono hM0 hG
 replace h0 := h0.mono hM0
 refine R_enter 61 Tryd.func25 rfl rfl (by simp) fun a0 f0 => RR (Y f0 1 fun _ f => eT (R_seq (RR (Y f 1 fun _ f => eT (wp_block ?_)))))
 obtain ⟨b_1, hL_1, hF_1⟩ := bS hF
 refine wp_mono (Q := fun e a w => (e = .ret ∧ (∃ y_5 : Unit, b_1 = .inl y_5 ∧ ∃ M_7 : Mem, M1.le M_7 ∧ Frm 61 [(2, .bool true)] a ∧ Hp w0 M_7 (H) w)) ∨ (e = .exit 0 ∧ (∃ y_6 : Unit, b_1 = .inr y_6 ∧ ∃ M_8 : Mem, M1.le M_8 ∧ Frm 61 [(0, .slice A0 d0.length cap0)] a ∧ Hp w0 M_8 (H) w))) (R_loop (n := 61) (w0 := w0) (M := M1) (fun (x : Nat × Int) => match x with | (m_1, s_1) => [(0, .slice A0 d0.length cap0), (3, .int .i64 s_1)]) (fun (x : Nat × Int) => match x with | (m_1, s_1) => (H)) (fun (x : Nat × Int) (MM : Mem) => match x with | (m_1, s_1) => loopF (ref14_GreatParams_s1 n d0) m_1 s_1 = some b_1) (fun (x : Nat × Int) => match x with | (m_1, s_1) => m_1) (n, (0 : Int)) (f.kp) p0 hL_1 ?_) ?_
 ·rintro ⟨m_1, s_1⟩ M_1 _ w_1 hM_1 I_1 f p_1
  have I_1L := I_1
  obtain ⟨m_2, r_1, rfl, hs_1, hn_1⟩ := loop_step I_1L
  unfold ref14_GreatParams_s1 at hs_1
  refine R_seq (R_seq ?_)
  obtain ⟨j_1, hj_1, hF_2⟩ := bS hs_1
  refine R_mid (fun a_7 w_2 => ∃ y_1 : Bool, j_1 = y_1 ∧ ∃ M_2 : Mem, M_1.le M_2 ∧ Frm 61 [(0, .slice A0 d0.length cap0), (3, .int .i64 s_1), (12, .bool y_1)] a_7 ∧ Hp w0 M_2 (H) w_2) ?_ ?_
  ·refine R_reg (Y f 5 fun _ f => ?_)
   rcases cE hj_1 with ⟨h_1, hF_3⟩ | ⟨h_1, hF_4⟩
   ·have k_1 := dI.1 h_1
    have f := f.st 9 (cB h_1)
    refine Y f 3 fun _ f => eT ?_
    exact ⟨(decide (s_1 ≤ 40)), (sI hF_3).symm, M_1, (mR _), f.kp, p_1⟩
   ·have k_2 := iff_f dI h_1
    have f := f.st 9 (cB h_1)
    refine Y f 3 fun _ f => eT ?_
    exact ⟨(false), (sI hF_4).symm, M_1, (mR _), f.kp, p_1⟩
  ·rintro a_7 w_2 ⟨y_1, hq_1, M_2, hM_2, f, p_2⟩
   subst j_1
   refine T_n (RcF f hF_2 (fun h_2 hF_5 => ?_) fun h_2 hF_28 => ?_)
   ·refine wp_skip (T_n (R_seq (wp_block (R_seq (R_seq ?_)))))
    obtain ⟨j_2, hj_2, hF_6⟩ := bS hF_5
    refine R_mid (fun a_26 w_4 => ∃ y_2 : Bool, j_2 = y_2 ∧ ∃ M_3 : Mem, M_2.le M_3 ∧ Frm 61 [(0, .slice A0 d0.length cap0), (3, .int .i64 s_1), (38, .bool y_2)] a_26 ∧ Hp w0 M_3 (H) w_4) ?_ ?_
    ·refine R_reg (Y f 2 fun _ f => ?_)
     obtain ⟨x_1, hx_1, hF_7⟩ := bS hj_2
     obtain ⟨ad_1, c_1, e_1, -, hr_1, hc_1⟩ := Sli.at_ (h0.mono (hM_1.trans hM_2)) hx_1
     obtain ⟨A_1, cap_1, A_2, cap_2, A_3, cap_3, rfl, h_3, h_4, h_5⟩ := TC0.opn hr_1
     refine Z f (Y30 e_1 rfl (len := d0.length) (cap := cap0) (k := .i64) (i := s_1) (e := 37) (sz := 10) (getI_nn hx_1) (getI_lt hx_1)) fun _ f => Y f 1 fun _ f => Z (v := .agg #[.int .i8 x_1.fDefault.fKind, .bool x_1.fDefault.fBool, .int .i64 x_1.fDefault.fNum, S x_1.fDefault.fText, .slice A_1 x_1.fDefault.fList.length cap_1, .slice A_2 x_1.fDefault.fKeys.length cap_2]) f (Y32 (cs := [.int .i8 x_1.fDefault.fKind, .bool x_1.fDefault.fBool, .int .i64 x_1.fDefault.fNum, S x_1.fDefault.fText, .slice A_1 x_1.fDefault.fList.length cap_1, .slice A_2 x_1.fDefault.fKeys.length cap_2]) rfl (ad := (ad_1.add (s_1.toNat * 10)).add 3) (fz_part (base := ad_1.add (s_1.toNat * 10)) (fun j v h => p_2.cell (hc_1 j v h)) 3 rfl)) fun _ f => ?_
     obtain ⟨x_2, hx_2, hF_8⟩ := bS hF_7
     refine Y18 f p_2 (ref03_Great_ok n _ _ (⟨x_1.fDefault.fKind, (x_1.fDefault.fBool), x_1.fDefault.fNum, x_1.fDefault.fText, x_1.fDefault.fList, x_1.fDefault.fKeys⟩ : TB0) (TB0.shut h_3 h_4) x_2 hx_2) fun w_3 p_3 _ f => Y f 1 fun _ f => ?_
     rcases cE hF_8 with ⟨h_6, hF_9⟩ | ⟨h_6, hF_10⟩
     ·have f := f.st 21 (cB h_6)
      refine Y f 17 fun _ f => eT ?_
      exact ⟨(true), (sI hF_9).symm, M_2, (mR _), f.kp, p_3⟩
     ·have f := f.st 21 (cB h_6)
      refine Y f 2 fun _ f => ?_
      obtain ⟨x_3, hx_3, hF_11⟩ := bS hF_10
      obtain ⟨ad_2, c_2, e_2, -, hr_2, hc_2⟩ := Sli.at_ (h0.mono (hM_1.trans hM_2)) hx_3
      obtain ⟨A_4, cap_4, A_5, cap_5, A_6, cap_6, rfl, h_7, h_8, h_9⟩ := TC0.opn hr_2
      refine Z f (Y30 e_2 rfl (len := d0.length) (cap := cap0) (k := .i64) (i := s_1) (e := 37) (sz := 10) (getI_nn hx_3) (getI_lt hx_3)) fun _ f => Y f 1 fun _ f => Y15 f p_3 hc_2 9 rfl fun _ f => Y f 4 fun _ f => ?_
      rcases cE hF_11 with ⟨h_10, hF_12⟩ | ⟨h_10, hF_13⟩
      ·have k_6 := dI.1 h_10
       have f := f.st 30 (cB h_10)
       refine Y f 8 fun _ f => eT ?_
       exact ⟨(true), (sI hF_12).symm, M_2, (mR _), f.kp, p_3⟩
      ·have k_7 := iff_f dI h_10
       have f := f.st 30 (cB h_10)
       refine Y f 2 fun _ f => ?_
       obtain ⟨x_4, hx_4, hF_14⟩ := bS hF_13
       obtain ⟨ad_3, c_3, e_3, -, hr_3, hc_3⟩ := Sli.at_ (h0.mono (hM_1.trans hM_2)) hx_4
       obtain ⟨A_7, cap_7, A_8, cap_8, A_9, cap_9, rfl, h_11, h_12, h_13⟩ := TC0.opn hr_3
       refine Z f (Y30 e_3 rfl (len := d0.length) (cap := cap0) (k := .i64) (i := s_1) (e := 37) (sz := 10) (getI_nn hx_4) (getI_lt hx_4)) fun _ f => Y f 1 fun _ f => Y15 f p_3 hc_3 0 rfl fun _ f => Y f 3 fun _ f => eT ?_
       exact ⟨(decide ((400 : Int) < (x_4.fName.length : Int))), (sI hF_14).symm, M_2, (mR _), f.kp, p_3⟩
    ·rintro a_26 w_4 ⟨y_2, hq_2, M_3, hM_3, f, p_4⟩
     subst j_2
     refine T_n (RcF f hF_6 (fun h_14 hF_15 => ?_) fun h_14 hF_16 => ?_)
     ·refine RR (Y f 1 fun _ f => eT (wp_ret (T_r (B_r (T_r (T_r ?_))))))
      obtain rfl := sI hF_15
      exact .inl ⟨rfl, (), (sI hn_1).symm, M_3, ((hM_1.trans hM_2).trans hM_3), f.kp, p_4⟩
     ·refine wp_skip (T_n (RR (Y f 1 fun _ f => eT (wp_block ?_))))
      obtain ⟨b_2, hL_2, hF_17⟩ := bS hF_16
      refine wp_mono (Q := fun e a w => (e = .ret ∧ (∃ y_3 : Unit, b_2 = .inl y_3 ∧ ∃ M_5 : Mem, M_3.le M_5 ∧ Frm 61 [(2, .bool true)] a ∧ Hp w0 M_5 (H) w)) ∨ (e = .exit 2 ∧ (∃ y_4 : Unit, b_2 = .inr y_4 ∧ ∃ M_6 : Mem, M_3.le M_6 ∧ Frm 61 [(0, .slice A0 d0.length cap0), (3, .int .i64 s_1)] a ∧ Hp w0 M_6 (H) w))) (R_loop (n := 61) (w0 := w0) (M := M_3) (fun (x : Nat × Int) => match x with | (m_3, s_2) => [(0, .slice A0 d0.length cap0), (3, .int .i64 s_1), (4, .int .i64 s_2)]) (fun (x : Nat × Int) => match x with | (m_3, s_2) => (H)) (fun (x : Nat × Int) (MM : Mem) => match x with | (m_3, s_2) => loopF (ref14_GreatParams_s2 n d0 s_1) m_3 s_2 = some b_2) (fun (x : Nat × Int) => match x with | (m_3, s_2) => m_3) (n, (0 : Int)) (f.kp) p_4 hL_2 ?_) ?_
      ·rintro ⟨m_3, s_2⟩ M_4 _ w_5 hM_4 I_2 f p_5
       have I_2L := I_2
       obtain ⟨m_4, r_2, rfl, hs_2, hn_2⟩ := loop_step I_2L
       unfold ref14_GreatParams_s2 at hs_2
       refine R_seq (RR (Y f 3 fun _ f => ?_))
       obtain ⟨x_5, hx_5, hF_18⟩ := bS hs_2
       obtain ⟨ad_4, c_4, e_4, -, hr_4, hc_4⟩ := Sli.at_ (h0.mono (((hM_1.trans hM_2).trans hM_3).trans hM_4)) hx_5
       obtain ⟨A_10, cap_10, A_11, cap_11, A_12, cap_12, rfl, h_15, h_16, h_17⟩ := TC0.opn hr_4
       refine Z f (Y30 e_4 rfl (len := d0.length) (cap := cap0) (k := .i64) (i := s_1) (e := 37) (sz := 10) (getI_nn hx_5) (getI_lt hx_5)) fun _ f => Y f 1 fun _ f => Y15 f p_5 hc_4 9 rfl fun _ f => Y f 2 fun _ f => eT (RcF f hF_18 (fun h_18 hF_19 => ?_) fun h_18 hF_26 => ?_)
       ·have k_10 := dI.1 h_18
        refine wp_skip (T_n (R_seq (wp_block (RR (Y f 2 fun _ f => ?_)))))
        obtain ⟨x_6, hx_6, hF_20⟩ := bS hF_19
        obtain ⟨ad_5, c_5, e_5, -, hr_5, hc_5⟩ := Sli.at_ (h0.mono (((hM_1.trans hM_2).trans hM_3).trans hM_4)) hx_6
        obtain ⟨A_13, cap_13, A_14, cap_14, A_15, cap_15, rfl, h_19, h_20, h_21⟩ := TC0.opn hr_5
        refine Z f (Y30 e_5 rfl (len := d0.length) (cap := cap0) (k := .i64) (i := s_1) (e := 37) (sz := 10) (getI_nn hx_6) (getI_lt hx_6)) fun _ f => Y f 1 fun _ f => Y15 f p_5 hc_5 9 rfl fun _ f => Y f 1 fun _ f => ?_
        obtain ⟨x_7, hx_7, hF_21⟩ := bS hF_20
        obtain ⟨ad_6, c_6, e_6, -, hr_6, hc_6⟩ := Sli.at_ h_21 hx_7
        obtain ⟨A_16, cap_16, A_17, cap_17, rfl, h_22, h_23⟩ := TB0.opn hr_6
        refine Z f (Y30 e_6 rfl (len := x_6.fAllowed.length) (cap := cap_15) (k := .i64) (i := s_2) (e := 33) (sz := 6) (getI_nn hx_7) (getI_lt hx_7)) fun _ f => Z (v := .agg #[.int .i8 x_7.fKind, .bool x_7.fBool, .int .i64 x_7.fNum, S x_7.fText, .slice A_16 x_7.fList.length cap_16, .slice A_17 x_7.fKeys.length cap_17]) f (Y32 (cs := [.int .i8 x_7.fKind, .bool x_7.fBool, .int .i64 x_7.fNum, S x_7.fText, .slice A_16 x_7.fList.length cap_16, .slice A_17 x_7.fKeys.length cap_17]) rfl (ad := ad_6.add (s_2.toNat * 6)) (fun j v h => p_5.cell (hc_6 j v h))) fun _ f => ?_
        obtain ⟨x_8, hx_8, hF_22⟩ := bS hF_21
        refine Y18 f p_5 (ref03_Great_ok n _ _ x_7 (TB0.shutx (x := x_7) h_22 h_23) x_8 hx_8) fun w_6 p_6 _ f => eT (RcF f hF_22 (fun h_24 hF_23 => ?_) fun h_24 hF_24 => ?_)
        ·refine RR (Y f 1 fun _ f => eT (wp_ret (B_r (T_r (T_r ?_)))))
         obtain rfl := sI hF_23
         exact .inl ⟨rfl, (), (sI hn_2).symm, M_4, hM_4, f.kp, p_6⟩
        ·refine wp_skip (B_n (T_n (R_reg (Y f 1 fun _ f => ?_))))
         obtain ⟨g_1, hF_25⟩ := nS hF_24
         refine Y f 1 fun _ f => ?_
         have f := f.st 48 (congrArg (Value.int .i64) (inR_wrap g_1))
         refine Y f 1 fun _ f => eT ?_
         obtain rfl := sI hF_25
         exact ⟨⟨m_4, s_2 + 1⟩, Nat.lt_succ_self _, M_4, hM_4, hn_2, f.kp, p_6⟩
       ·have k_13 := iff_f dI h_18
        refine wp_exit (T_x (T_x ?_))
        obtain rfl := sI hF_26
        exact .inr ⟨rfl, (), (sI hn_2).symm, M_4, hM_4, f.kp, p_5⟩
      ·rintro _ _ w_9 (⟨rfl, y_3, rfl, M_5, hM_5, f, p_7⟩ | ⟨rfl, y_4, rfl, M_6, hM_6, f, p_8⟩)
       ·refine B_r (B_r (T_r (T_r ?_)))
        obtain rfl := sI hF_17
        exact .inl ⟨rfl, (), (sI hn_1).symm, M_5, (((hM_1.trans hM_2).trans hM_3).trans hM_5), f.kp, p_7⟩
       ·refine B_x (B_n (T_n (R_reg (Y f 1 fun _ f => ?_))))
        obtain ⟨g_2, hF_27⟩ := nS hF_17
        refine Y f 1 fun _ f => ?_
        have f := f.st 14 (congrArg (Value.int .i64) (inR_wrap g_2))
        refine Y f 1 fun _ f => eT ?_
        obtain rfl := sI hF_27
        exact ⟨⟨m_2, s_1 + 1⟩, Nat.lt_succ_self _, M_6, (((hM_1.trans hM_2).trans hM_3).trans hM_6), hn_1, f.kp, p_8⟩
   ·refine wp_exit (T_x (T_x ?_))
    obtain rfl := sI hF_28
    exact .inr ⟨rfl, (), (sI hn_1).symm, M_2, (hM_1.trans hM_2), f.kp, p_2⟩
 ·rintro _ _ w_12 (⟨rfl, y_5, rfl, M_7, hM_7, f, p_9⟩ | ⟨rfl, y_6, rfl, M_8, hM_8, f, p_10⟩)
  ·refine B_r (T_r (E_ret1 f rfl (by kernel_rfl : Vc.look _ 2 = some (.bool true)) ?_))
   obtain rfl := sI hF_1
   exact ⟨_, rfl, M_7, hM_7, p_9, rfl⟩
  ·refine B_x (T_n (RR (Y f 4 fun _ f => eT (wp_ret (E_ret1 f rfl (by kernel_rfl : Vc.look _ 2 = some (.bool (decide ((40 : Int) < ((d0.length : Nat) : Int))))) ?_)))))
   obtain rfl := sI hF_1
   exact ⟨_, rfl, M_8, hM_8, p_10, rfl⟩
def ref14_Great_s1 (n : Nat) (d0 : List TA0) (s_1 : Int) : Option (Lp Int (Sum Unit Unit)) :=
    ((bif (decide (s_1 < ((d0.length : Nat) : Int))) then
        (some ((decide (s_1 ≤ 40))))
      else
        some ((false)) : Option Bool)).bind fun y_1 =>
    bif y_1 then
      ((getI d0 s_1).bind fun x_1 =>
      (ref03_Great n (⟨x_1.fV.fKind, (x_1.fV.fBool), x_1.fV.fNum, x_1.fV.fText, x_1.fV.fList, x_1.fV.fKeys⟩ : TB0)).bind fun x_2 =>
      bif x_2 then
        (some (.br (.inl ())))
      else
        (getI d0 s_1).bind fun x_3 =>
        bif (decide ((400 : Int) < (x_3.fName.length : Int))) then
          (some (.br (.inl ())))
        else
          need (inR .i64 (s_1 + 1)) <|
          some (.nx (s_1 + 1)))
    else
      some (.br (.inr ()))
def ref14_Great (n : Nat) (d0 : List TA0) : Option Bool :=
  (loopF (ref14_Great_s1 n d0) n (0 : Int)).bind fun b_1 =>
  (match b_1 with 
  | .inl y_2 => some ((true)) 
  | .inr y_3 => some ((decide ((40 : Int) < ((d0.length : Nat) : Int)))))
theorem ref14_Great_ok (n : Nat) (M : Mem) (hG : GL M) (A0 : Option Addr) (cap0 : Nat) (d0 : List TA0) (h0 : Sli M 8 emb_TA0 A0 cap0 d0) (r : Bool) (hF : ref14_Great n d0 = some r) : Ok Tryd.prog M 26 [.slice A0 d0.length cap0] (fun _ v => v = .bool r) := by
 unfold ref14_Great at hF
 intro M1 hM0 w0 H w p0
 replace hG := GL.mono hM0 hG
 replace h0 := h0.mono hM0
 refine R_enter 32 Tryd.func26 rfl rfl (by simp) fun a0 f0 => RR (Y f0 1 fun _ f => eT (R_seq (RR (Y f 1 fun _ f => eT (wp_block ?_)))))
 obtain ⟨b_1, hL_1, hF_1⟩ := bS hF
 refine wp_mono (Q := fun e a w => (e = .ret ∧ (∃ y_2 : Unit, b_1 = .inl y_2 ∧ ∃ M_3 : Mem, M1.le M_3 ∧ Frm 32 [(2, .bool true)] a ∧ Hp w0 M_3 (H) w)) ∨ (e = .exit 0 ∧ (∃ y_3 : Unit, b_1 = .inr y_3 ∧ ∃ M_4 : Mem, M1.le M_4 ∧ Frm 32 [(0, .slice A0 d0.length cap0)] a ∧ Hp w0 M_4 (H) w))) (R_loop (n := 32) (w0 := w0) (M := M1) (fun (x : Nat × Int) => match x with | (m_1, s_1) => [(0, .slice A0 d0.length cap0), (3, .int .i64 s_1)]) (fun (x : Nat × Int) => match x with | (m_1, s_1) => (H)) (fun (x : Nat × Int) (MM : Mem) => match x with | (m_1, s_1) => loopF (ref14_Great_s1 n d0) m_1 s_1 = some b_1) (fun (x : Nat × Int) => match x with | (m_1, s_1) => m_1) (n, (0 : Int)) (f.kp) p0 hL_1 ?_) ?_
 ·rintro ⟨m_1, s_1⟩ M_1 _ w_1 hM_1 I_1 f p_1
  have I_1L := I_1
  obtain ⟨m_2, r_1, rfl, hs_1, hn_1⟩ := loop_step I_1L
  unfold ref14_Great_s1 at hs_1
  refine R_seq (R_seq ?_)
  obtain ⟨j_1, hj_1, hF_2⟩ := bS hs_1
  refine R_mid (fun a_7 w_2 => ∃ y_1 : Bool, j_1 = y_1 ∧ ∃ M_2 : Mem, M_1.le M_2 ∧ Frm 32 [(0, .slice A0 d0.length cap0), (3, .int .i64 s_1), (11, .bool y_1)] a_7 ∧ Hp w0 M_2 (H) w_2) ?_ ?_
  ·refine R_reg (Y f 5 fun _ f => ?_)
   rcases cE hj_1 with ⟨h_1, hF_3⟩ | ⟨h_1, hF_4⟩
   ·have k_1 := dI.1 h_1
    have f := f.st 8 (cB h_1)
    refine Y f 3 fun _ f => eT ?_
    exact ⟨(decide (s_1 ≤ 40)), (sI hF_3).symm, M_1, (mR _), f.kp, p_1⟩
   ·have k_2 := iff_f dI h_1
    have f := f.st 8 (cB h_1)
    refine Y f 3 fun _ f => eT ?_
    exact ⟨(false), (sI hF_4).symm, M_1, (mR _), f.kp, p_1⟩
  ·rintro a_7 w_2 ⟨y_1, hq_1, M_2, hM_2, f, p_2⟩
   subst j_1
   refine T_n (RcF f hF_2 (fun h_2 hF_5 => ?_) fun h_2 hF_14 => ?_)
   ·refine wp_skip (T_n (R_seq (wp_block (RR (Y f 2 fun _ f => ?_)))))
    obtain ⟨x_1, hx_1, hF_6⟩ := bS hF_5
    obtain ⟨ad_1, c_1, e_1, -, hr_1, hc_1⟩ := Sli.at_ (h0.mono (hM_1.trans hM_2)) hx_1
    obtain ⟨A_1, cap_1, A_2, cap_2, rfl, h_3, h_4⟩ := TA0.opn hr_1
    refine Z f (Y30 e_1 rfl (len := d0.length) (cap := cap0) (k := .i64) (i := s_1) (e := 35) (sz := 8) (getI_nn hx_1) (getI_lt hx_1)) fun _ f => Y f 1 fun _ f => Z (v := .agg #[.int .i8 x_1.fV.fKind, .bool x_1.fV.fBool, .int .i64 x_1.fV.fNum, S x_1.fV.fText, .slice A_1 x_1.fV.fList.length cap_1, .slice A_2 x_1.fV.fKeys.length cap_2]) f (Y32 (cs := [.int .i8 x_1.fV.fKind, .bool x_1.fV.fBool, .int .i64 x_1.fV.fNum, S x_1.fV.fText, .slice A_1 x_1.fV.fList.length cap_1, .slice A_2 x_1.fV.fKeys.length cap_2]) rfl (ad := (ad_1.add (s_1.toNat * 8)).add 2) (fz_part (base := ad_1.add (s_1.toNat * 8)) (fun j v h => p_2.cell (hc_1 j v h)) 2 rfl)) fun _ f => ?_
    obtain ⟨x_2, hx_2, hF_7⟩ := bS hF_6
    refine Y18 f p_2 (ref03_Great_ok n _ _ (⟨x_1.fV.fKind, (x_1.fV.fBool), x_1.fV.fNum, x_1.fV.fText, x_1.fV.fList, x_1.fV.fKeys⟩ : TB0) (TB0.shut h_3 h_4) x_2 hx_2) fun w_3 p_3 _ f => Y f 1 fun _ f => ?_
    rcases cE hF_7 with ⟨h_5, hF_8⟩ | ⟨h_5, hF_9⟩
    ·have f := f.st 20 (cB h_5)
     refine Y f 8 fun _ f => eT (Y8 f (RR (Y f 1 fun _ f => eT (wp_ret (B_r (T_r (T_r ?_)))))))
     obtain rfl := sI hF_8
     exact .inl ⟨rfl, (), (sI hn_1).symm, M_2, (hM_1.trans hM_2), f.kp, p_3⟩
    ·have f := f.st 20 (cB h_5)
     refine Y f 2 fun _ f => ?_
     obtain ⟨x_3, hx_3, hF_10⟩ := bS hF_9
     obtain ⟨ad_2, c_2, e_2, -, hr_2, hc_2⟩ := Sli.at_ (h0.mono (hM_1.trans hM_2)) hx_3
     obtain ⟨A_3, cap_3, A_4, cap_4, rfl, h_6, h_7⟩ := TA0.opn hr_2
     refine Z f (Y30 e_2 rfl (len := d0.length) (cap := cap0) (k := .i64) (i := s_1) (e := 35) (sz := 8) (getI_nn hx_3) (getI_lt hx_3)) fun _ f => Y f 1 fun _ f => Y15 f p_3 hc_2 0 rfl fun _ f => Y f 3 fun _ f => eT (RcF f hF_10 (fun h_8 hF_11 => ?_) fun h_8 hF_12 => ?_)
     ·have k_6 := dI.1 h_8
      refine RR (Y f 1 fun _ f => eT (wp_ret (B_r (T_r (T_r ?_)))))
      obtain rfl := sI hF_11
      exact .inl ⟨rfl, (), (sI hn_1).symm, M_2, (hM_1.trans hM_2), f.kp, p_3⟩
     ·have k_7 := iff_f dI h_8
      refine wp_skip (B_n (T_n (R_reg (Y f 1 fun _ f => ?_))))
      obtain ⟨g_1, hF_13⟩ := nS hF_12
      refine Y f 1 fun _ f => ?_
      have f := f.st 13 (congrArg (Value.int .i64) (inR_wrap g_1))
      refine Y f 1 fun _ f => eT ?_
      obtain rfl := sI hF_13
      exact ⟨⟨m_2, s_1 + 1⟩, Nat.lt_succ_self _, M_2, (hM_1.trans hM_2), hn_1, f.kp, p_3⟩
   ·refine wp_exit (T_x (T_x ?_))
    obtain rfl := sI hF_14
    exact .inr ⟨rfl, (), (sI hn_1).symm, M_2, (hM_1.trans hM_2), f.kp, p_2⟩
 ·rintro _ _ w_6 (⟨rfl, y_2, rfl, M_3, hM_3, f, p_4⟩ | ⟨rfl, y_3, rfl, M_4, hM_4, f, p_5⟩)
  ·refine B_r (T_r (E_ret1 f rfl (by kernel_rfl : Vc.look _ 2 = some (.bool true)) ?_))
   obtain rfl := sI hF_1
   exact ⟨_, rfl, M_3, hM_3, p_4, rfl⟩
  ·refine B_x (T_n (RR (Y f 4 fun _ f => eT (wp_ret (E_ret1 f rfl (by kernel_rfl : Vc.look _ 2 = some (.bool (decide ((40 : Int) < ((d0.length : Nat) : Int))))) ?_)))))
   obtain rfl := sI hF_1
   exact ⟨_, rfl, M_4, hM_4, p_5, rfl⟩
def law14_great (n : Nat) (d0 : List TC0) (d1 : List TA0) : Option Bool :=
  (ref14_GreatParams n d0).bind fun x_1 =>
  bif x_1 then
    (some ((true)))
  else
    (ref14_Great n d1).bind fun x_2 =>
    some ((x_2))
theorem law14_great_ok (n : Nat) (M : Mem) (hG : GL M) (A0 : Option Addr) (cap0 : Nat) (d0 : List TC0) (h0 : Sli M 10 emb_TC0 A0 cap0 d0) (A1 : Option Addr) (cap1 : Nat) (d1 : List TA0) (h1 : Sli M 8 emb_TA0 A1 cap1 d1) (r : Bool) (hF : law14_great n d0 d1 = some r) : Ok Tryd.prog M 9 [.slice A0 d0.length cap0, .slice A1 d1.length cap1] (fun _ v => v = .bool r) := by
 unfold law14_great at hF
 intro M1 hM0 w0 H w p0
 replace hG := GL.mono hM0 hG
 replace h0 := h0.mono hM0
 replace h1 := h1.mono hM0
 refine R_enter 11 Tryd.func9 rfl rfl (by simp) fun a0 f0 => RR (Y f0 1 fun _ f => eT (RR (Y f 1 fun _ f => ?_)))
 obtain ⟨x_1, hx_1, hF_1⟩ := bS hF
 refine Y18 f p0 (ref14_GreatParams_ok n _ hG A0 cap0 d0 h0 x_1 hx_1) fun w_1 p_1 _ f => Y f 1 fun _ f => ?_
 rcases cE hF_1 with ⟨h_1, hF_2⟩ | ⟨h_1, hF_3⟩
 ·have f := f.st 7 (cB h_1)
  refine Y f 4 fun _ f => eT (wp_ret (E_ret1 f rfl (by kernel_rfl : Vc.look _ 4 = some (.bool true)) ?_))
  obtain rfl := sI hF_2
  exact ⟨_, rfl, M1, (mR _), p_1, rfl⟩
 ·have f := f.st 7 (cB h_1)
  refine Y f 1 fun _ f => ?_
  obtain ⟨x_2, hx_2, hF_4⟩ := bS hF_3
  refine Y18 f p_1 (ref14_Great_ok n _ hG A1 cap1 d1 h1 x_2 hx_2) fun w_2 p_2 _ f => Y f 2 fun _ f => eT (wp_ret (E_ret1 f rfl (by kernel_rfl : Vc.look _ 4 = some (.bool x_2)) ?_))
  obtain rfl := sI hF_4
  exact ⟨_, rfl, M1, (mR _), p_2, rfl⟩
theorem first14 {n : Nat} {α : Type} (d : α) (q : α → Bool) (xs : List α) {step : Int → Option (Lp Int (Sum Int Unit))} (hd : ∀ k : Nat, k < xs.length → step (k : Int) = some (if q (xs.getD k d) then .br (.inl (k : Int)) else .nx ((k : Int) + 1))) (he : step ((xs.length : Nat) : Int) = some (.br (.inr ()))) (hn : xs.length < n) :
  ∃ b, loopF step n 0 = some b ∧ (match b with | .inl i => 0 ≤ i ∧ getI xs i = xs.find? q ∧ xs.any q = true | .inr () => xs.find? q = none ∧ xs.any q = false) := by
 refine loop_inv (fun k s => s = (k : Int) ∧ ∀ x ∈ xs.take k, q x = false) _ xs.length ⟨rfl, by simp⟩ (fun k s hk hI => ?_) (fun s hI => ?_) hn
 ·obtain ⟨rfl, hf⟩ := hI
  have hx : xs[k]? = some xs[k] := List.getElem?_eq_getElem hk
  have hg : xs.getD k d = xs[k] := by simp [List.getD, hk]
  rw [hd k hk, hg]
  cases hv : q xs[k] with
  | false =>
   refine .inl ⟨_, rfl, by omega, fun y hy => ?_⟩
   rcases (mem_take_succ hx y).1 hy with h | h
   ·exact hf y h
   ·rw [h]; exact hv
  | true =>
   refine .inr ⟨_, rfl, by omega, ?_, List.any_eq_true.2 ⟨_, List.getElem_mem hk, hv⟩⟩
   rw [getI_at d hk, hg]
   symm
   rw [List.find?_eq_some_iff_append]
   refine ⟨hv, xs.take k, xs.drop (k + 1), ?_, fun a ha => by simp [hf a ha]⟩
   rw [← List.drop_eq_getElem_cons hk, List.take_append_drop]
 ·obtain ⟨rfl, hf⟩ := hI
  rw [List.take_length] at hf
  refine ⟨_, he, ?_⟩
  dsimp only
  constructor
  ·rw [List.find?_eq_none]
   intro x hx
   simp [hf x hx]
  ·rw [List.any_eq_false]
   intro x hx
   simp [hf x hx]
theorem memD {α : Type} {d : α} {xs : List α} {k : Nat} (hk : k < xs.length) : xs.getD k d ∈ xs := by simp [List.getD, hk]
def word14 (t : List UInt8) : Bool := bif decide ((t.length : Int) ≤ 64) then Lib.validD t else false
theorem word14_run {n : Nat} {t : List UInt8} : print_Word n t = some (word14 t) := by
 unfold print_Word word14
 by_cases h : (t.length : Int) ≤ 64
 ·rw [decide_eq_true h, cT, cT, valid_run (by omega), bnd]
 ·rw [decide_eq_false h, cF, cF]
def kindV (p : TC0) (v : TB0) : Bool := bif !decide (checkV v = 0) then false else bif p.fNumber then decide (v.fKind = 2) else bif decide (v.fKind = 3) then word14 v.fText else false
theorem kind_run {n : Nat} (hn : 6000 < n) {v : TB0} (h : Fine v) (p : TC0) : params_kind n p v = some (kindV p v) := by
 unfold params_kind kindV
 rw [check_run hn h, bnd, word14_run, bnd]
 cases decide (checkV v = 0) <;> cases p.fNumber <;> cases decide (v.fKind = 3) <;> rfl
def allowV (p : TC0) (v : TB0) : Bool := decide (p.fAllowed.length = 0) || p.fAllowed.any fun x => eqV x v
theorem allowed_run {n : Nat} (hn : 6000 < n) {p : TC0} (hl : p.fAllowed.length ≤ 400) (hp : ∀ x ∈ p.fAllowed, Fine x) {v : TB0} (h : Fine v) : params_allowed n p v = some (allowV p v) := by
 unfold params_allowed allowV
 by_cases h0 : p.fAllowed.length = 0
 ·rw [decide_eq_true (by omega : ((p.fAllowed.length : Nat) : Int) = 0), cT, decide_eq_true h0]; rfl
 rw [decide_eq_false (by omega : ¬ ((p.fAllowed.length : Nat) : Int) = 0), cF, decide_eq_false h0, Bool.false_or]
 obtain ⟨b, hb, hp2⟩ := first14 (n := n) z_TB0 (fun x => eqV x v) p.fAllowed (step := params_find_s1 n p.fAllowed v) (fun k hk => by
  unfold params_find_s1 params_allowed_1
  rw [decide_eq_true (by omega), cT, getI_at z_TB0 hk, bnd, Equal_run hn (hp _ (memD hk)) h, bnd, bnd]
  cases eqV (p.fAllowed.getD k z_TB0) v
  ·rw [cF, need_i (by omega) (by omega)]; rfl
  ·rfl) (by
  unfold params_find_s1
  rw [decide_eq_false (by omega), cF]) (by omega)
 unfold params_find
 rw [hb, bnd]
 cases b with
 | inl i =>
  show some (decide ((0 : Int) ≤ i)) = _
  rw [decide_eq_true hp2.1, hp2.2.2]
 | inr u =>
  show some (decide ((0 : Int) ≤ -1)) = _
  rw [hp2.2]; rfl
def empty14 (v : TB0) : Bool := decide (v.fKind = 0) && (!v.fBool && (decide (v.fNum = 0) && (decide (v.fText = []) && (decide (((v.fList.length : Nat) : Int) = 0) && decide (((v.fKeys.length : Nat) : Int) = 0)))))
theorem empty14_run {n : Nat} (v : TB0) : params_empty n v = some (empty14 v) := by
 unfold params_empty empty14
 cases decide (v.fKind = 0) <;> cases v.fBool <;> cases decide (v.fNum = 0) <;> cases decide (v.fText = []) <;> cases decide (((v.fList.length : Nat) : Int) = 0) <;> rfl
def twiceV (l : List TB0) : Bool := (List.range l.length).any fun k => (l.take k).any fun x => eqV x (l.getD k z_TB0)
theorem find2_run {n : Nat} (hn : 6000 < n) {l d : List TB0} (hl : l.length ≤ 400) (h : ∀ x ∈ l, Fine x) {j : Nat} (hj : j < d.length) (h' : Fine (d.getD j z_TB0)) :
  ∃ r, params_find_2 n l d (j : Int) = some r ∧ decide ((0 : Int) ≤ r.1) = l.any fun x => eqV x (d.getD j z_TB0) := by
 unfold params_find_2
 obtain ⟨b, hb, hp⟩ := loop_inv (step := params_find_2_s1 n l d) (n := n) (s0 := ((0 : Int), (j : Int))) (fun k s => s = ((k : Int), (j : Int)) ∧ ∀ x ∈ l.take k, eqV x (d.getD j z_TB0) = false)
  (fun b => match b with | .inl y => 0 ≤ y.1 ∧ (l.any fun x => eqV x (d.getD j z_TB0)) = true | .inr _ => (l.any fun x => eqV x (d.getD j z_TB0)) = false) l.length ⟨rfl, by simp⟩
  (fun k s hk hI => by
   obtain ⟨rfl, hf⟩ := hI
   have hx : l[k]? = some l[k] := List.getElem?_eq_getElem hk
   have hg : l.getD k z_TB0 = l[k] := by simp [List.getD, hk]
   unfold params_find_2_s1 params_twice_1
   dsimp only
   rw [decide_eq_true (by omega), cT, getI_at z_TB0 hk, bnd, getI_at z_TB0 hj, bnd, Equal_run hn (h _ (memD hk)) h', bnd, bnd, hg]
   cases hv : eqV l[k] (d.getD j z_TB0) with
   | true => exact .inr ⟨_, rfl, by dsimp only; omega, List.any_eq_true.2 ⟨_, List.getElem_mem hk, hv⟩⟩
   | false =>
    dsimp only
    rw [cF, need_i (by omega) (by omega)]
    refine .inl ⟨_, rfl, rfl, fun y hy => ?_⟩
    rcases (mem_take_succ hx y).1 hy with h | h
    ·exact hf y h
    ·rw [h]; exact hv)
  (fun s hI => by
   obtain ⟨rfl, hf⟩ := hI
   rw [List.take_length] at hf
   unfold params_find_2_s1
   dsimp only
   rw [decide_eq_false (by omega), cF]
   refine ⟨_, rfl, ?_⟩
   dsimp only
   rw [List.any_eq_false]
   intro x hx
   rw [hf x hx]
   decide) (by omega)
 rw [hb, bnd]
 cases b with
 | inl y => exact ⟨_, rfl, by dsimp only; rw [hp.2, decide_eq_true hp.1]⟩
 | inr y => exact ⟨_, rfl, by rw [hp]; rfl⟩
theorem twice14_run {n : Nat} (hn : 6000 < n) {l : List TB0} (hl : l.length ≤ 400) (h : ∀ x ∈ l, Fine x) : params_twice n l = some (twiceV l) := by
 unfold params_twice twiceV
 have := loop_any (n := n) (step := params_twice_s1 n l) (fun k => (l.take k).any fun x => eqV x (l.getD k z_TB0)) l.length (.inl ()) (.inr ()) (fun k hk => by
  unfold params_twice_s1
  rw [decide_eq_true (by omega), cT, need_t (by omega)]
  have e : (l.take (k : Int).toNat).drop 0 = l.take k := by simp
  obtain ⟨r, hr, h2⟩ := find2_run hn (l := l.take k) (d := l) (by simp; omega) (fun x hx => h x (List.mem_of_mem_take hx)) hk (h _ (memD hk))
  rw [e, hr, bnd, h2, need_i (by omega) (by omega)]
  cases (l.take k).any fun x => eqV x (l.getD k z_TB0) <;> rfl) (by
  unfold params_twice_s1
  rw [decide_eq_false (by omega), cF]) (by omega)
 rw [this, bnd]
 cases (List.range l.length).any fun k => (l.take k).any fun x => eqV x (l.getD k z_TB0) <;> rfl
def nameB (s : List UInt8) (k : Nat) : Bool :=
  !(bif decide ((97 : Int) ≤ bOr .u8 ((s.getD k 0).toNat : Int) (32 : Int)) then decide (bOr .u8 ((s.getD k 0).toNat : Int) (32 : Int) ≤ 122) else false) && (decide (k = 0) || (decide (((s.getD k 0).toNat : Int) < 48) || decide ((57 : Int) < ((s.getD k 0).toNat : Int))))
def nameV (s : List UInt8) : Bool := !((List.range s.length).any (nameB s)) && (decide ((0 : Int) < (s.length : Int)) && decide ((s.length : Int) ≤ 32))
theorem name14_run {n : Nat} {s : List UInt8} (hn : s.length < n) (hs : s.length ≤ 6000) : runes_Name n s = some (nameV s) := by
 unfold runes_Name nameV
 have := loop_any (n := n) (step := runes_Name_s1 n s) (nameB s) s.length (.inl ()) (.inr ()) (fun k hk => by
  unfold runes_Name_s1 nameB
  have e1 : ∀ a b : Bool, (bif a then some b else some false : Option Bool) = some (bif a then b else false) := by intro a b; cases a <;> rfl
  have e2 : decide ((k : Int) = 0) = decide (k = 0) := decide_eq_decide.2 (by omega)
  rw [decide_eq_true (by omega), cT, getI_at 0 hk, bnd, e1, bnd, bnd, bnd, e2, need_i (by omega) (by omega)]
  cases (bif decide ((97 : Int) ≤ bOr .u8 ((s.getD k 0).toNat : Int) (32 : Int)) then decide (bOr .u8 ((s.getD k 0).toNat : Int) (32 : Int) ≤ 122) else false) <;> cases decide (k = 0) <;> cases decide (((s.getD k 0).toNat : Int) < 48) <;> cases decide ((57 : Int) < ((s.getD k 0).toNat : Int)) <;> rfl) (by
  unfold runes_Name_s1
  rw [decide_eq_false (by omega), cF]) hn
 rw [this, bnd]
 cases (List.range s.length).any (nameB s)
 ·show (bif decide ((0 : Int) < (s.length : Int)) then some (decide ((s.length : Int) ≤ 32)) else some false) = _
  cases decide ((0 : Int) < (s.length : Int)) <;> rfl
 ·rfl
def FineP (p : TC0) : Prop := p.fName.length ≤ 400 ∧ p.fAllowed.length ≤ 40 ∧ Fine p.fDefault ∧ ∀ x ∈ p.fAllowed, Fine x
def w1 (p : TC0) : Bool := !nameV p.fName || decide ((8 : Int) < ((p.fAllowed.length : Nat) : Int))
def w2 (p : TC0) : Bool := p.fAllowed.any fun x => !kindV p x
def w4 (p : TC0) : Bool := !p.fHas && !empty14 p.fDefault
def w5 (p : TC0) : Bool := p.fHas && !(kindV p p.fDefault && allowV p p.fDefault)
def mayV (p : TC0) : Bool := !(w1 p || (w2 p || (twiceV p.fAllowed || (w4 p || w5 p))))
theorem may_run {n : Nat} (hn : 6000 < n) {p : TC0} (h : FineP p) : params_may n p = some (mayV p) := by
 obtain ⟨h1, h2, h3, h4⟩ := h
 have r1 : params_may_6 n p = some (w1 p) := by
  unfold params_may_6 params_may_1 w1
  rw [name14_run (by omega) (by omega), bnd]
  cases nameV p.fName <;> rfl
 have r2 : params_may_6_2 n p = some (w2 p) := by
  unfold params_may_6_2 params_may_2 w2
  obtain ⟨b, hb, hp2⟩ := first14 (n := n) z_TB0 (fun x => !kindV p x) p.fAllowed (step := params_find_5_s1 n p.fAllowed p) (fun k hk => by
   unfold params_find_5_s1 params_may_2_1
   rw [decide_eq_true (by omega), cT, getI_at z_TB0 hk, bnd, kind_run hn (h4 _ (memD hk)), bnd, bnd, need_i (by omega) (by omega)]
   cases kindV p (p.fAllowed.getD k z_TB0) <;> rfl) (by
   unfold params_find_5_s1
   rw [decide_eq_false (by omega), cF]) (by omega)
  unfold params_find_5
  rw [hb, bnd]
  cases b with
  | inl i =>
   show some (decide ((0 : Int) ≤ i)) = _
   rw [decide_eq_true hp2.1, hp2.2.2]
  | inr u =>
   show some (decide ((0 : Int) ≤ -1)) = _
   rw [hp2.2]; rfl
 have r3 : params_may_6_3 n p = some (twiceV p.fAllowed) := by
  unfold params_may_6_3 params_may_3
  rw [twice14_run hn (by omega) h4, bnd, bnd]
 have r4 : params_may_6_4 n p = some (w4 p) := by
  unfold params_may_6_4 params_may_4 w4
  rw [evV, empty14_run, bnd]
  cases p.fHas <;> rfl
 have r5 : params_may_6_5 n p = some (w5 p) := by
  unfold params_may_6_5 params_may_5 w5
  rw [evV, kind_run hn h3, bnd, allowed_run hn (by omega) h4 h3, bnd]
  cases p.fHas <;> cases kindV p p.fDefault <;> rfl
 unfold params_may params_find_4 mayV
 rw [r1, r2, r3, r4, r5]
 simp only [bnd]
 cases w1 p <;> cases w2 p <;> cases twiceV p.fAllowed <;> cases w4 p <;> cases w5 p <;> rfl
def restV (p : TC0) (g : TA0) : Bool := bif !g.fUnknown then kindV p g.fV && allowV p g.fV else !p.fNumber && (!decide ((0 : Int) < ((p.fAllowed.length : Nat) : Int)) && empty14 g.fV)
def MayV (p : TC0) (g : TA0) : Bool := mayV p && restV p g
theorem May_run {n : Nat} (hn : 6000 < n) {p : TC0} (h : FineP p) {g : TA0} (hg : Fine g.fV) : params_May n p g = some (MayV p g) := by
 unfold params_May MayV restV
 rw [may_run hn h, evV, bnd, kind_run hn hg, allowed_run hn (by have := h.2.1; omega) h.2.2.2 hg, empty14_run]
 simp only [bnd]
 cases mayV p <;> cases g.fUnknown <;> cases p.fNumber <;> cases decide ((0 : Int) < ((p.fAllowed.length : Nat) : Int)) <;> cases kindV p g.fV <;> rfl
def lastV (l : List TC0) (k : Nat) : List UInt8 := if k = 0 then [] else (l.getD (k - 1) z_TC0).fName
def badP (l : List TC0) (k : Nat) : Bool := !mayV (l.getD k z_TC0) || (Op.bytesLess (l.getD k z_TC0).fName (lastV l k) || (l.getD k z_TC0).fName == lastV l k)
def check14 (l : List TC0) : Int := if 6 < l.length then 3 else if (List.range l.length).any (badP l) = true then 2 else 0
theorem check14_run {n : Nat} (hn : 6000 < n) {l : List TC0} (h : ∀ p ∈ l, FineP p) : params_Check n l = some (check14 l) := by
 unfold params_Check check14
 by_cases h6 : 6 < l.length
 ·rw [decide_eq_true (by omega : (6 : Int) < ((l.length : Nat) : Int)), cT, if_pos h6]
 rw [decide_eq_false (by omega : ¬ (6 : Int) < ((l.length : Nat) : Int)), cF, if_neg h6]
 unfold params_find_6
 obtain ⟨b, hb, hp⟩ := loop_inv (step := params_find_6_s1 n l) (n := n) (s0 := ((0 : Int), ([] : List UInt8))) (fun k s => s = ((k : Int), lastV l k) ∧ ∀ j, j < k → badP l j = false)
  (fun b => match b with | .inl y => 0 ≤ y.1 ∧ (List.range l.length).any (badP l) = true | .inr _ => (List.range l.length).any (badP l) = false) l.length ⟨rfl, fun j hj => absurd hj (by omega)⟩
  (fun k s hk hI => by
   obtain ⟨rfl, hf⟩ := hI
   unfold params_find_6_s1 params_Check_1
   dsimp only
   rw [decide_eq_true (by omega), cT, getI_at z_TC0 hk, bnd, may_run hn (h _ (memD hk)), bnd]
   have e : (bif !mayV (l.getD k z_TC0) then some (true, (l.getD k z_TC0).fName) else some ((Op.bytesLess (l.getD k z_TC0).fName (lastV l k) || (l.getD k z_TC0).fName == lastV l k), (l.getD k z_TC0).fName) : Option (Bool × List UInt8)) = some (badP l k, (l.getD k z_TC0).fName) := by
    unfold badP
    cases mayV (l.getD k z_TC0) <;> rfl
   rw [e, bnd]
   cases hv : badP l k with
   | true => exact .inr ⟨_, rfl, by dsimp only; omega, List.any_eq_true.2 ⟨k, List.mem_range.2 hk, hv⟩⟩
   | false =>
    dsimp only
    rw [cF, need_i (by omega) (by omega)]
    refine .inl ⟨_, rfl, ?_, fun j hj => ?_⟩
    ·unfold lastV
     rw [if_neg (by omega)]
     rfl
    ·by_cases hjk : j = k
     ·rw [hjk]; exact hv
     ·exact hf j (by omega))
  (fun s hI => by
   obtain ⟨rfl, hf⟩ := hI
   unfold params_find_6_s1
   dsimp only
   rw [decide_eq_false (by omega), cF]
   refine ⟨_, rfl, ?_⟩
   dsimp only
   rw [List.any_eq_false]
   intro x hx
   rw [hf x (List.mem_range.1 hx)]
   decide) (by omega)
 rw [hb, bnd]
 cases b with
 | inl y =>
  show (bif decide ((0 : Int) ≤ y.1) then some (2 : Int) else some 0) = _
  rw [decide_eq_true hp.1, cT, if_pos hp.2]
 | inr y =>
  show (bif decide ((0 : Int) ≤ -1) then some (2 : Int) else some 0) = _
  rw [hp]; rfl
def rises14 (g : List TA0) : Bool := !((List.range (g.length - 1)).any fun k => !Op.bytesLess (g.getD k z_TA0).fName (g.getD (k + 1) z_TA0).fName)
theorem order14 {n : Nat} (hn : 6000 < n) {g : List TA0} (hg : g.length ≤ 400) : ∃ b, loopF (params_Bind_s1 n g) n 1 = some b ∧ (match b with | .inl _ => rises14 g = false | .inr _ => rises14 g = true) := by
 refine loop_inv (fun k s => s = (k : Int) + 1 ∧ ∀ j, j < k → Op.bytesLess (g.getD j z_TA0).fName (g.getD (j + 1) z_TA0).fName = true) _ (g.length - 1) ⟨rfl, fun j hj => absurd hj (by omega)⟩ (fun k s hk hI => ?_) (fun s hI => ?_) (by omega)
 ·obtain ⟨rfl, hf⟩ := hI
  unfold params_Bind_s1
  have e1 : (k : Int) + 1 - 1 = (k : Int) := by omega
  have e2 : (k : Int) + 1 = ((k + 1 : Nat) : Int) := rfl
  rw [decide_eq_true (by omega), cT, need_i (by omega) (by omega), e1, getI_at z_TA0 (by omega : k < g.length), bnd, e2, getI_at z_TA0 (by omega : k + 1 < g.length), bnd]
  cases hv : Op.bytesLess (g.getD k z_TA0).fName (g.getD (k + 1) z_TA0).fName with
  | false =>
   refine .inr ⟨_, rfl, ?_⟩
   unfold rises14
   have : ((List.range (g.length - 1)).any fun k => !Op.bytesLess (g.getD k z_TA0).fName (g.getD (k + 1) z_TA0).fName) = true := List.any_eq_true.2 ⟨k, List.mem_range.2 hk, by rw [hv]; rfl⟩
   rw [this]; rfl
  | true =>
   rw [Bool.not_true, cF, need_i (by omega) (by omega)]
   refine .inl ⟨_, rfl, rfl, fun j hj => ?_⟩
   by_cases hjk : j = k
   ·rw [hjk]; exact hv
   ·exact hf j (by omega)
 ·obtain ⟨rfl, hf⟩ := hI
  unfold params_Bind_s1
  rw [decide_eq_false (by omega), cF]
  refine ⟨_, rfl, ?_⟩
  dsimp only
  unfold rises14
  have : ((List.range (g.length - 1)).any fun k => !Op.bytesLess (g.getD k z_TA0).fName (g.getD (k + 1) z_TA0).fName) = false := by
   rw [List.any_eq_false]
   intro x hx
   rw [hf x (List.mem_range.1 hx)]
   decide
  rw [this]; rfl
def known14 (l : List TC0) (g : TA0) : Bool := l.any fun p => decide (p.fName = g.fName)
theorem Bind1_run {n : Nat} (hn : 6000 < n) {l : List TC0} (hl : l.length ≤ 400) (g : TA0) : params_Bind_1 n g l = some (!known14 l g) := by
 unfold params_Bind_1 known14
 obtain ⟨b, hb, hp2⟩ := first14 (n := n) z_TC0 (fun p => decide (p.fName = g.fName)) l (step := params_find_8_s1 n l g) (fun k hk => by
  unfold params_find_8_s1 params_Bind_1_1
  rw [decide_eq_true (by omega), cT, getI_at z_TC0 hk, bnd, bnd, need_i (by omega) (by omega)]
  cases decide ((l.getD k z_TC0).fName = g.fName) <;> rfl) (by
  unfold params_find_8_s1
  rw [decide_eq_false (by omega), cF]) (by omega)
 unfold params_find_8
 rw [hb, bnd]
 cases b with
 | inl i =>
  show some (decide (i < 0)) = _
  rw [decide_eq_false (by have := hp2.1; omega), hp2.2.2]; rfl
 | inr u =>
  show some (decide ((-1 : Int) < 0)) = _
  rw [hp2.2]; rfl
theorem Find14_run {n : Nat} (hn : 6000 < n) {g : List TA0} (hg : g.length ≤ 400) (nm : List UInt8) : params_Find n g nm = some (match g.find? (fun x => decide (x.fName = nm)) with | some x => (x, true) | none => (⟨[], false, z_TB0⟩, false)) := by
 obtain ⟨b, hb, hp2⟩ := first14 (n := n) z_TA0 (fun x => decide (x.fName = nm)) g (step := params_find_3_s1 n g nm) (fun k hk => by
  unfold params_find_3_s1 params_Find_1
  rw [decide_eq_true (by omega), cT, getI_at z_TA0 hk, bnd, bnd, need_i (by omega) (by omega)]
  cases decide ((g.getD k z_TA0).fName = nm) <;> rfl) (by
  unfold params_find_3_s1
  rw [decide_eq_false (by omega), cF]) (by omega)
 unfold params_Find params_find_3
 rw [hb, bnd]
 cases b with
 | inl i =>
  show (bif decide ((0 : Int) ≤ i) then (getI g i).bind fun x => some (x, true) else _) = _
  rw [decide_eq_true hp2.1, cT, hp2.2.1]
  cases hf : g.find? (fun x => decide (x.fName = nm)) with
  | some x => rfl
  | none =>
   have := hp2.2.2
   rw [List.find?_eq_none] at hf
   obtain ⟨x, hx, hq⟩ := List.any_eq_true.1 this
   exact absurd hq (hf x hx)
 | inr u =>
  rw [hp2.1]; rfl
def foundV (g : List TA0) (p : TC0) : TA0 := (g.find? fun x => decide (x.fName = p.fName)).getD ⟨p.fName, false, p.fDefault⟩
def fitsV (g : List TA0) (p : TC0) : Bool := ((g.find? fun x => decide (x.fName = p.fName)).isSome || p.fHas) && MayV p (foundV g p)
theorem take14 {n : Nat} (hn : 6000 < n) {l : List TC0} (h : ∀ p ∈ l, FineP p) (hl : l.length ≤ 400) {g : List TA0} (hg : g.length ≤ 400) (hf : ∀ x ∈ g, Fine x.fV) :
  ∃ b, loopF (params_Bind_s2 n l g) n (([] : List TA0), (0 : Int)) = some b ∧ (match b with | .inl s => ∃ p, l.find? (fun p => !fitsV g p) = some p ∧ s = p.fName | .inr r => l.find? (fun p => !fitsV g p) = none ∧ r = l.map (foundV g)) := by
 refine loop_inv (fun k s => s = ((l.take k).map (foundV g), (k : Int)) ∧ ∀ p ∈ l.take k, fitsV g p = true) _ l.length ⟨rfl, by simp⟩ (fun k s hk hI => ?_) (fun s hI => ?_) (by omega)
 ·obtain ⟨rfl, ht⟩ := hI
  have hx : l[k]? = some l[k] := List.getElem?_eq_getElem hk
  have hk2 : l.getD k z_TC0 = l[k] := by simp [List.getD, hk]
  have hp := h _ (List.getElem_mem hk)
  have hM : ∀ x : TA0, Fine x.fV → params_May n (⟨l[k].fName, (l[k].fNumber), (l[k].fHas), (⟨l[k].fDefault.fKind, (l[k].fDefault.fBool), l[k].fDefault.fNum, l[k].fDefault.fText, l[k].fDefault.fList, l[k].fDefault.fKeys⟩ : TB0), l[k].fAllowed⟩ : TC0) (⟨x.fName, (x.fUnknown), (⟨x.fV.fKind, (x.fV.fBool), x.fV.fNum, x.fV.fText, x.fV.fList, x.fV.fKeys⟩ : TB0)⟩ : TA0) = some (MayV l[k] x) := by
   intro x hx
   rw [evV, evV]
   exact May_run hn hp hx
  have last : (fitsV g l[k] = false → ∃ b, some (Lp.br (.inl l[k].fName) : Lp (List TA0 × Int) (Sum (List UInt8) (List TA0))) = some (.br b) ∧ (match b with | .inl s => ∃ p, l.find? (fun p => !fitsV g p) = some p ∧ s = p.fName | .inr r => l.find? (fun p => !fitsV g p) = none ∧ r = l.map (foundV g))) := by
   intro hv
   refine ⟨_, rfl, l[k], ?_, rfl⟩
   rw [List.find?_eq_some_iff_append]
   refine ⟨by rw [hv]; rfl, l.take k, l.drop (k + 1), ?_, fun a ha => by rw [ht a ha]; rfl⟩
   rw [← List.drop_eq_getElem_cons hk, List.take_append_drop]
  have next : fitsV g l[k] = true → ((l.take k).map (foundV g) ++ [foundV g l[k]], (k : Int) + 1) = ((l.take (k + 1)).map (foundV g), ((k + 1 : Nat) : Int)) ∧ ∀ p ∈ l.take (k + 1), fitsV g p = true := by
   intro hv
   refine ⟨?_, fun y hy => ?_⟩
   ·rw [List.take_add_one, hx, List.map_append]; rfl
   ·rcases (mem_take_succ hx y).1 hy with h | h
    ·exact ht y h
    ·rw [h]; exact hv
  have lenk : ((l.take k).map (foundV g)).length ≤ 400 := by simp; omega
  unfold params_Bind_s2
  dsimp only
  rw [decide_eq_true (by omega), cT, getI_at z_TC0 hk, bnd, hk2, Find14_run hn hg, bnd]
  cases hq : g.find? (fun x => decide (x.fName = l[k].fName)) with
  | none =>
   have ef : foundV g l[k] = ⟨l[k].fName, false, l[k].fDefault⟩ := by unfold foundV; rw [hq]; rfl
   have ev : fitsV g l[k] = (l[k].fHas && MayV l[k] ⟨l[k].fName, false, l[k].fDefault⟩) := by unfold fitsV; rw [ef, hq]; rfl
   dsimp only
   rw [Bool.not_false, cT, bnd, cT]
   dsimp only
   rw [hM ⟨l[k].fName, false, l[k].fDefault⟩ hp.2.2.1, bnd]
   cases hh : l[k].fHas with
   | false =>
    rw [Bool.not_false, cT, bnd, cT]
    exact .inr (last (by rw [ev, hh]; rfl))
   | true =>
    rw [Bool.not_true, cF, bnd]
    cases hm : MayV l[k] ⟨l[k].fName, false, l[k].fDefault⟩ with
    | false => exact .inr (last (by rw [ev, hm, Bool.and_false]))
    | true =>
     rw [Bool.not_true, cF, need_t (by omega), need_i (by omega) (by omega), evV, ← ef]
     exact .inl ⟨_, rfl, next (by rw [ev, hh, hm]; rfl)⟩
  | some x =>
   have hxm := List.mem_of_find?_eq_some hq
   have ef : foundV g l[k] = x := by unfold foundV; rw [hq]; rfl
   have ev : fitsV g l[k] = MayV l[k] x := by unfold fitsV; rw [ef, hq]; rfl
   dsimp only
   rw [Bool.not_true, cF, bnd, cF]
   dsimp only
   rw [hM x (hf x hxm), bnd, bnd]
   cases hm : MayV l[k] x with
   | false => exact .inr (last (by rw [ev, hm]))
   | true =>
    rw [Bool.not_true, cF, need_t (by omega), need_i (by omega) (by omega), evV]
    exact .inl ⟨_, rfl, by have := next (by rw [ev, hm]); rw [ef] at this; exact this⟩
 ·obtain ⟨rfl, ht⟩ := hI
  rw [List.take_length] at ht
  unfold params_Bind_s2
  dsimp only
  rw [decide_eq_false (by omega), cF]
  refine ⟨_, rfl, ?_⟩
  dsimp only
  rw [List.take_length]
  refine ⟨?_, rfl⟩
  rw [List.find?_eq_none]
  intro x hx
  rw [ht x hx]
  decide
def bindV (l : List TC0) (g : List TA0) : List TA0 × List UInt8 × Int :=
  if check14 l = 0 then
    if rises14 g = true then
      match g.find? (fun x => !known14 l x) with
      | some x => ([], x.fName, 140)
      | none => match l.find? (fun p => !fitsV g p) with
        | some p => ([], p.fName, 140)
        | none => (l.map (foundV g), [], 0)
    else ([], [], 2)
  else ([], [], check14 l)
theorem Bind_run {n : Nat} (hn : 6000 < n) {l : List TC0} (h : ∀ p ∈ l, FineP p) (hl : l.length ≤ 400) {g : List TA0} (hg : g.length ≤ 400) (hf : ∀ x ∈ g, Fine x.fV) : params_Bind n l g = some (bindV l g) := by
 unfold params_Bind bindV
 rw [check14_run hn h, bnd]
 by_cases hc : check14 l = 0
 ·rw [decide_eq_true hc, Bool.not_true, cF, if_pos hc]
  obtain ⟨b, hb, hp⟩ := order14 hn hg
  rw [hb, bnd]
  cases b with
  | inl u => rw [if_neg (by rw [hp]; decide)]
  | inr u =>
   rw [if_pos hp]
   obtain ⟨b, hb, hp2⟩ := first14 (n := n) z_TA0 (fun x => !known14 l x) g (step := params_find_7_s1 n g l) (fun k hk => by
    unfold params_find_7_s1
    rw [decide_eq_true (by omega), cT, getI_at z_TA0 hk, bnd, Bind1_run hn hl, bnd, need_i (by omega) (by omega)]
    cases known14 l (g.getD k z_TA0) <;> rfl) (by
    unfold params_find_7_s1
    rw [decide_eq_false (by omega), cF]) (by omega)
   dsimp only
   unfold params_find_7
   rw [hb, bnd]
   cases b with
   | inl i =>
    dsimp only
    rw [bnd, decide_eq_true hp2.1, cT, hp2.2.1]
    cases hq : g.find? (fun x => !known14 l x) with
    | some x => rfl
    | none =>
     have := hp2.2.2
     rw [List.find?_eq_none] at hq
     obtain ⟨x, hx, hq2⟩ := List.any_eq_true.1 this
     exact absurd hq2 (hq x hx)
   | inr u =>
    dsimp only
    rw [bnd, decide_eq_false (by omega), cF, hp2.1]
    obtain ⟨b, hb, hp3⟩ := take14 hn h hl hg hf
    rw [hb, bnd]
    cases b with
    | inl s =>
     obtain ⟨p, h1, h2⟩ := hp3
     dsimp only
     rw [h1, h2]
    | inr r =>
     dsimp only
     rw [hp3.1, hp3.2]
 ·rw [decide_eq_false hc, Bool.not_false, cT, if_neg hc]
def law14_wakes (n : Nat) : Option Bool :=
  (params_Bind n [(⟨[80], (false), (true), (⟨(3 : Int), (false), (0 : Int), [97], ([] : List TB0), ([] : List (List UInt8))⟩ : TB0), ([] : List TB0)⟩ : TC0)] ([] : List TA0)).bind fun x_1 =>
  (params_Bind n [(⟨[80], (true), (false), z_TB0, [(⟨(2 : Int), (false), (1 : Int), ([] : List UInt8), ([] : List TB0), ([] : List (List UInt8))⟩ : TB0), (⟨(2 : Int), (false), (2 : Int), ([] : List UInt8), ([] : List TB0), ([] : List (List UInt8))⟩ : TB0)]⟩ : TC0)] [(⟨[80], (false), (⟨(2 : Int), (false), (3 : Int), ([] : List UInt8), ([] : List TB0), ([] : List (List UInt8))⟩ : TB0)⟩ : TA0)]).bind fun x_2 =>
  bif (decide (x_1.2.2 = 0)) then
    (bif (decide (((x_1.1.length : Nat) : Int) = 1)) then
      ((getI x_1.1 (0 : Int)).bind fun x_3 =>
      bif (decide (x_3.fV.fText = [97])) then
        (bif (decide (x_2.2.2 = 140)) then
          (some ((decide (x_2.2.1 = [80]))))
        else
          some ((false)))
      else
        some ((false)))
    else
      some ((false)))
  else
    some ((false))
theorem law14_wakes_ok (n : Nat) (M : Mem) (hG : GL M) (r : Bool) (hF : law14_wakes n = some r) : Ok Tryd.prog M 10 [] (fun _ v => v = .bool r) := by
 unfold law14_wakes at hF
 intro M1 hM0 w0 H w p0
 replace hG := GL.mono hM0 hG
 refine R_enter 55 Tryd.func10 rfl rfl (by simp) fun a0 f0 => RR (Y f0 1 fun _ f => eT (RR (Y f 1 fun _ f => Y12 f p0 (.cells #[.int .i8 0, .bool false, .int .i64 0, S [], .slice none 0 0, .slice none 0 0] 33 (0, 0)) fun b_1 w_1 p_1 _ f => Y28 (vs := [.int .i8 3, .bool false, .int .i64 0, S [97], .slice none 0 0, .slice none 0 0]) (j := 0) f p_1 rfl rfl (by simp [Value.oneCell', S]) (by simp) (by decide) (cs' := #[.int .i8 3, .bool false, .int .i64 0, S [97], .slice none 0 0, .slice none 0 0]) fun w_2 p_2 _ f => eT (RR (Z (v := .agg #[.int .i8 3, .bool false, .int .i64 0, S [97], .slice none 0 0, .slice none 0 0]) f (Y32 (cs := [.int .i8 3, .bool false, .int .i64 0, S [97], .slice none 0 0, .slice none 0 0]) rfl (ad := ⟨b_1, 0, none⟩) (own_cells (p_2.ownCell 0 rfl) 0 rfl)) fun _ f => Y f 1 fun _ f => V_allocS (k := 1) (c := 1) f p_2 (.cells #[S [80], .bool false, .bool true, .int .i8 3, .bool false, .int .i64 0, S [97], .slice none 0 0, .slice none 0 0, .slice none 0 0] 37 (0, 0)) (by kernel_rfl) (fun _ => by kernel_rfl) fun b_2 w_3 p_3 _ f => ?_)))))
 have hr_1 : RepSeq M1 ([(⟨[80], (false), (true), (⟨(3 : Int), (false), (0 : Int), [97], ([] : List TB0), ([] : List (List UInt8))⟩ : TB0), ([] : List TB0)⟩ : TC0)].map emb_TC0) [S [80], .bool false, .bool true, .int .i8 3, .bool false, .int .i64 0, S [97], .slice none 0 0, .slice none 0 0, .slice none 0 0] := ⟨_, _, rfl, TC0.shut Sli.nil Sli.nil Sli.nil, rfl⟩
 have p_4 : Hp w0 M1 ((Ent.row 37 10 (.slice (some ⟨b_2, 0, none⟩) 1 1) [(⟨[80], (false), (true), (⟨(3 : Int), (false), (0 : Int), [97], ([] : List TB0), ([] : List (List UInt8))⟩ : TB0), ([] : List TB0)⟩ : TC0)].length [S [80], .bool false, .bool true, .int .i8 3, .bool false, .int .i64 0, S [97], .slice none 0 0, .slice none 0 0, .slice none 0 0]) :: (Ent.obj b_1 (.cells #[.int .i8 3, .bool false, .int .i64 0, S [97], .slice none 0 0, .slice none 0 0] 33 (0, 0))) :: H) w_3 := p_3.objRow (n := 1) (cap := 1) (size := 10) (by decide) (by decide) rfl rfl rfl
 obtain ⟨A_1, cap_1, M_1, hv_1, hM_1, p_5, h_1⟩ := p_4.rowSli (f := emb_TC0) (xs := [(⟨[80], (false), (true), (⟨(3 : Int), (false), (0 : Int), [97], ([] : List TB0), ([] : List (List UInt8))⟩ : TB0), ([] : List TB0)⟩ : TC0)]) szd_TC0 hr_1
 have f := f.st 13 (hv_1)
 obtain ⟨x_1, hx_1, hF_1⟩ := bS hF
 refine Y17 (E := []) (H := ((Ent.obj b_1 (.cells #[.int .i8 3, .bool false, .int .i64 0, S [97], .slice none 0 0, .slice none 0 0] 33 (0, 0))) :: H)) f p_5 (params_Bind_ok n _ (GL.mono hM_1 hG) A_1 cap_1 [(⟨[80], (false), (true), (⟨(3 : Int), (false), (0 : Int), [97], ([] : List TB0), ([] : List (List UInt8))⟩ : TB0), ([] : List TB0)⟩ : TC0)] h_1 none 0 ([] : List TA0) Sli.nil x_1 hx_1) fun _ M_2 E_1 w_4 hM_2 p_6 q_1 _ f => ?_
 obtain ⟨A_2, cap_2, cs_1, rfl, rfl, hr_2⟩ := q_1
 refine Y f 7 fun _ f => eT (RR (Y f 2 fun _ f => V_allocS (k := 2) (c := 2) f p_6 (.cells #[.int .i8 2, .bool false, .int .i64 1, S [], .slice none 0 0, .slice none 0 0, .int .i8 2, .bool false, .int .i64 2, S [], .slice none 0 0, .slice none 0 0] 33 (0, 0)) (by kernel_rfl) (fun _ => by kernel_rfl) fun b_3 w_5 p_7 _ f => Y f 1 fun _ f => eT (RR (Y f 2 fun _ f => V_allocS (k := 1) (c := 1) f p_7 (.cells #[S [80], .bool true, .bool false, .int .i8 0, .bool false, .int .i64 0, S [], .slice none 0 0, .slice none 0 0, .slice (some ⟨b_3, 0, none⟩) 2 2] 37 (0, 0)) (by kernel_rfl) (fun _ => by kernel_rfl) fun b_4 w_6 p_8 _ f => Y f 2 fun _ f => V_allocS (k := 1) (c := 1) f p_8 (.cells #[S [80], .bool false, .int .i8 2, .bool false, .int .i64 3, S [], .slice none 0 0, .slice none 0 0] 35 (0, 0)) (by kernel_rfl) (fun _ => by kernel_rfl) fun b_5 w_7 p_9 _ f => ?_))))
 have p_10 := p_9.pl [2]
 have hr_3 : RepSeq M_2 ([(⟨(2 : Int), (false), (1 : Int), ([] : List UInt8), ([] : List TB0), ([] : List (List UInt8))⟩ : TB0), (⟨(2 : Int), (false), (2 : Int), ([] : List UInt8), ([] : List TB0), ([] : List (List UInt8))⟩ : TB0)].map emb_TB0) [.int .i8 2, .bool false, .int .i64 1, S [], .slice none 0 0, .slice none 0 0, .int .i8 2, .bool false, .int .i64 2, S [], .slice none 0 0, .slice none 0 0] := ⟨_, _, rfl, TB0.shut Sli.nil Sli.nil, ⟨_, _, rfl, TB0.shut Sli.nil Sli.nil, rfl⟩⟩
 have p_11 : Hp w0 M_2 ((Ent.row 33 6 (.slice (some ⟨b_3, 0, none⟩) 2 2) [(⟨(2 : Int), (false), (1 : Int), ([] : List UInt8), ([] : List TB0), ([] : List (List UInt8))⟩ : TB0), (⟨(2 : Int), (false), (2 : Int), ([] : List UInt8), ([] : List TB0), ([] : List (List UInt8))⟩ : TB0)].length [.int .i8 2, .bool false, .int .i64 1, S [], .slice none 0 0, .slice none 0 0, .int .i8 2, .bool false, .int .i64 2, S [], .slice none 0 0, .slice none 0 0]) :: (Ent.obj b_5 (.cells #[S [80], .bool false, .int .i8 2, .bool false, .int .i64 3, S [], .slice none 0 0, .slice none 0 0] 35 (0, 0))) :: (Ent.obj b_4 (.cells #[S [80], .bool true, .bool false, .int .i8 0, .bool false, .int .i64 0, S [], .slice none 0 0, .slice none 0 0, .slice (some ⟨b_3, 0, none⟩) 2 2] 37 (0, 0))) :: (Ent.row 35 8 (.slice A_2 x_1.1.length cap_2) x_1.1.length cs_1) :: (Ent.obj b_1 (.cells #[.int .i8 3, .bool false, .int .i64 0, S [97], .slice none 0 0, .slice none 0 0] 33 (0, 0))) :: H) w_7 := p_10.objRow (n := 2) (cap := 2) (size := 6) (by decide) (by decide) rfl rfl rfl
 obtain ⟨A_3, cap_3, M_3, hv_2, hM_3, p_12, h_2⟩ := p_11.rowSli (f := emb_TB0) (xs := [(⟨(2 : Int), (false), (1 : Int), ([] : List UInt8), ([] : List TB0), ([] : List (List UInt8))⟩ : TB0), (⟨(2 : Int), (false), (2 : Int), ([] : List UInt8), ([] : List TB0), ([] : List (List UInt8))⟩ : TB0)]) szd_TB0 hr_3
 have p_13 : Hp w0 M_3 ((Ent.obj b_5 (.cells #[S [80], .bool false, .int .i8 2, .bool false, .int .i64 3, S [], .slice none 0 0, .slice none 0 0] 35 (0, 0))) :: (Ent.obj b_4 (.cells #[S [80], .bool true, .bool false, .int .i8 0, .bool false, .int .i64 0, S [], .slice none 0 0, .slice none 0 0, .slice A_3 [(⟨(2 : Int), (false), (1 : Int), ([] : List UInt8), ([] : List TB0), ([] : List (List UInt8))⟩ : TB0), (⟨(2 : Int), (false), (2 : Int), ([] : List UInt8), ([] : List TB0), ([] : List (List UInt8))⟩ : TB0)].length cap_3] 37 (0, 0))) :: (Ent.row 35 8 (.slice A_2 x_1.1.length cap_2) x_1.1.length cs_1) :: (Ent.obj b_1 (.cells #[.int .i8 3, .bool false, .int .i64 0, S [97], .slice none 0 0, .slice none 0 0] 33 (0, 0))) :: H) w_7 := by rw [hv_2] at p_12; exact p_12
 have p_14 := p_13.pl [1]
 have hr_4 : RepSeq M_3 ([(⟨[80], (true), (false), z_TB0, [(⟨(2 : Int), (false), (1 : Int), ([] : List UInt8), ([] : List TB0), ([] : List (List UInt8))⟩ : TB0), (⟨(2 : Int), (false), (2 : Int), ([] : List UInt8), ([] : List TB0), ([] : List (List UInt8))⟩ : TB0)]⟩ : TC0)].map emb_TC0) [S [80], .bool true, .bool false, .int .i8 0, .bool false, .int .i64 0, S [], .slice none 0 0, .slice none 0 0, .slice A_3 [(⟨(2 : Int), (false), (1 : Int), ([] : List UInt8), ([] : List TB0), ([] : List (List UInt8))⟩ : TB0), (⟨(2 : Int), (false), (2 : Int), ([] : List UInt8), ([] : List TB0), ([] : List (List UInt8))⟩ : TB0)].length cap_3] := ⟨_, _, rfl, TC0.shut Sli.nil Sli.nil h_2, rfl⟩
 have p_15 : Hp w0 M_3 ((Ent.row 37 10 (.slice (some ⟨b_4, 0, none⟩) 1 1) [(⟨[80], (true), (false), z_TB0, [(⟨(2 : Int), (false), (1 : Int), ([] : List UInt8), ([] : List TB0), ([] : List (List UInt8))⟩ : TB0), (⟨(2 : Int), (false), (2 : Int), ([] : List UInt8), ([] : List TB0), ([] : List (List UInt8))⟩ : TB0)]⟩ : TC0)].length [S [80], .bool true, .bool false, .int .i8 0, .bool false, .int .i64 0, S [], .slice none 0 0, .slice none 0 0, .slice A_3 [(⟨(2 : Int), (false), (1 : Int), ([] : List UInt8), ([] : List TB0), ([] : List (List UInt8))⟩ : TB0), (⟨(2 : Int), (false), (2 : Int), ([] : List UInt8), ([] : List TB0), ([] : List (List UInt8))⟩ : TB0)].length cap_3]) :: (Ent.obj b_5 (.cells #[S [80], .bool false, .int .i8 2, .bool false, .int .i64 3, S [], .slice none 0 0, .slice none 0 0] 35 (0, 0))) :: (Ent.row 35 8 (.slice A_2 x_1.1.length cap_2) x_1.1.length cs_1) :: (Ent.obj b_1 (.cells #[.int .i8 3, .bool false, .int .i64 0, S [97], .slice none 0 0, .slice none 0 0] 33 (0, 0))) :: H) w_7 := p_14.objRow (n := 1) (cap := 1) (size := 10) (by decide) (by decide) rfl rfl rfl
 obtain ⟨A_4, cap_4, M_4, hv_3, hM_4, p_16, h_3⟩ := p_15.rowSli (f := emb_TC0) (xs := [(⟨[80], (true), (false), z_TB0, [(⟨(2 : Int), (false), (1 : Int), ([] : List UInt8), ([] : List TB0), ([] : List (List UInt8))⟩ : TB0), (⟨(2 : Int), (false), (2 : Int), ([] : List UInt8), ([] : List TB0), ([] : List (List UInt8))⟩ : TB0)]⟩ : TC0)]) szd_TC0 hr_4
 have f := f.st 24 (hv_3)
 have hr_5 : RepSeq M_4 ([(⟨[80], (false), (⟨(2 : Int), (false), (3 : Int), ([] : List UInt8), ([] : List TB0), ([] : List (List UInt8))⟩ : TB0)⟩ : TA0)].map emb_TA0) [S [80], .bool false, .int .i8 2, .bool false, .int .i64 3, S [], .slice none 0 0, .slice none 0 0] := ⟨_, _, rfl, TA0.shut Sli.nil Sli.nil, rfl⟩
 have p_17 : Hp w0 M_4 ((Ent.row 35 8 (.slice (some ⟨b_5, 0, none⟩) 1 1) [(⟨[80], (false), (⟨(2 : Int), (false), (3 : Int), ([] : List UInt8), ([] : List TB0), ([] : List (List UInt8))⟩ : TB0)⟩ : TA0)].length [S [80], .bool false, .int .i8 2, .bool false, .int .i64 3, S [], .slice none 0 0, .slice none 0 0]) :: (Ent.row 35 8 (.slice A_2 x_1.1.length cap_2) x_1.1.length cs_1) :: (Ent.obj b_1 (.cells #[.int .i8 3, .bool false, .int .i64 0, S [97], .slice none 0 0, .slice none 0 0] 33 (0, 0))) :: H) w_7 := p_16.objRow (n := 1) (cap := 1) (size := 8) (by decide) (by decide) rfl rfl rfl
 obtain ⟨A_5, cap_5, M_5, hv_4, hM_5, p_18, h_4⟩ := p_17.rowSli (f := emb_TA0) (xs := [(⟨[80], (false), (⟨(2 : Int), (false), (3 : Int), ([] : List UInt8), ([] : List TB0), ([] : List (List UInt8))⟩ : TB0)⟩ : TA0)]) szd_TA0 hr_5
 have f := f.st 27 (hv_4)
 obtain ⟨x_2, hx_2, hF_2⟩ := bS hF_1
 refine Y17 (E := []) (H := ((Ent.row 35 8 (.slice A_2 x_1.1.length cap_2) x_1.1.length cs_1) :: (Ent.obj b_1 (.cells #[.int .i8 3, .bool false, .int .i64 0, S [97], .slice none 0 0, .slice none 0 0] 33 (0, 0))) :: H)) f p_18 (params_Bind_ok n _ (GL.mono ((((hM_1.trans hM_2).trans hM_3).trans hM_4).trans hM_5) hG) A_4 cap_4 [(⟨[80], (true), (false), z_TB0, [(⟨(2 : Int), (false), (1 : Int), ([] : List UInt8), ([] : List TB0), ([] : List (List UInt8))⟩ : TB0), (⟨(2 : Int), (false), (2 : Int), ([] : List UInt8), ([] : List TB0), ([] : List (List UInt8))⟩ : TB0)]⟩ : TC0)] (h_3.mono hM_5) A_5 cap_5 [(⟨[80], (false), (⟨(2 : Int), (false), (3 : Int), ([] : List UInt8), ([] : List TB0), ([] : List (List UInt8))⟩ : TB0)⟩ : TA0)] h_4 x_2 hx_2) fun _ M_6 E_2 w_8 hM_6 p_19 q_2 _ f => ?_
 obtain ⟨A_6, cap_6, cs_2, rfl, rfl, hr_6⟩ := q_2
 refine Y f 7 fun _ f => eT (RR (Y f 3 fun _ f => ?_))
 rcases cE hF_2 with ⟨h_5, hF_3⟩ | ⟨h_5, hF_11⟩
 ·have k_1 := dI.1 h_5
  have f := f.st 34 (cB h_5)
  refine Y f 5 fun _ f => ?_
  rcases cE hF_3 with ⟨h_6, hF_4⟩ | ⟨h_6, hF_10⟩
  ·have k_2 := dI.1 h_6
   have f := f.st 39 (cB h_6)
   refine Y f 1 fun _ f => ?_
   obtain ⟨x_3, hx_3, hF_5⟩ := bS hF_4
   obtain ⟨b_6, cap_7, hv_5, hcap_1⟩ := p_19.rowAddr 1 rfl (getI_pos hx_3)
   have f := f.st 40 (hv_5)
   refine Z f (Y29 rfl (ad := ⟨b_6, 0, none⟩) (len := x_1.1.length) (cap := cap_7) (k := .i64) (i := (0 : Int)) (e := 35) (sz := 8) (getI_nn hx_3) (getI_lt hx_3)) fun _ f => ?_
   have f := f.st 40 (hv_5.symm)
   refine Y f 2 fun _ f => ?_
   obtain ⟨c_1, -, hr_7, hc_1⟩ := RepSeq.get (0 : Int).toNat (szd_all szd_TA0) (RepSeq.mono (((hM_3.trans hM_4).trans hM_5).trans hM_6) _ _ hr_2) (getI_map hx_3)
   obtain ⟨A_7, cap_8, A_8, cap_9, rfl, h_7, h_8⟩ := TA0.opn hr_7
   refine Z f (Y31 (v := S x_3.fV.fText) rfl (ad := ((⟨b_6, 0, none⟩ : Addr).add ((0 : Int).toNat * 8)).add 5) ((fun j v h => row_at (p_19.rowCell 1 rfl hv_5) hc_1 j v h) 5 _ rfl)) fun _ f => Z f (Y37 rfl (l := x_3.fV.fText) (m := [97])) fun _ f => Y f 2 fun _ f => ?_
   rcases cE hF_5 with ⟨h_9, hF_6⟩ | ⟨h_9, hF_9⟩
   ·have k_3 := dI.1 h_9
    have f := f.st 47 (cB h_9)
    refine Y f 4 fun _ f => ?_
    rcases cE hF_6 with ⟨h_10, hF_7⟩ | ⟨h_10, hF_8⟩
    ·have k_4 := dI.1 h_10
     have f := f.st 51 (cB h_10)
     refine Y f 1 fun _ f => Z f (Y37 rfl (l := x_2.2.1) (m := [80])) fun _ f => Y f 2 fun _ f => eT (wp_ret (E_ret1 f rfl (by kernel_rfl : Vc.look _ 0 = some (.bool (decide (x_2.2.1 = [80])))) ?_))
     obtain rfl := sI hF_7
     exact ⟨_, rfl, M_6, (((((hM_1.trans hM_2).trans hM_3).trans hM_4).trans hM_5).trans hM_6), (p_19.dropN 3), rfl⟩
    ·have k_5 := iff_f dI h_10
     have f := f.st 51 (cB h_10)
     refine Y f 4 fun _ f => eT (wp_ret (E_ret1 f rfl (by kernel_rfl : Vc.look _ 0 = some (.bool false)) ?_))
     obtain rfl := sI hF_8
     exact ⟨_, rfl, M_6, (((((hM_1.trans hM_2).trans hM_3).trans hM_4).trans hM_5).trans hM_6), (p_19.dropN 3), rfl⟩
   ·have k_6 := iff_f dI h_9
    have f := f.st 47 (cB h_9)
    refine Y f 8 fun _ f => eT (wp_ret (E_ret1 f rfl (by kernel_rfl : Vc.look _ 0 = some (.bool false)) ?_))
    obtain rfl := sI hF_9
    exact ⟨_, rfl, M_6, (((((hM_1.trans hM_2).trans hM_3).trans hM_4).trans hM_5).trans hM_6), (p_19.dropN 3), rfl⟩
  ·have k_7 := iff_f dI h_6
   have f := f.st 39 (cB h_6)
   refine Y f 16 fun _ f => eT (wp_ret (E_ret1 f rfl (by kernel_rfl : Vc.look _ 0 = some (.bool false)) ?_))
   obtain rfl := sI hF_10
   exact ⟨_, rfl, M_6, (((((hM_1.trans hM_2).trans hM_3).trans hM_4).trans hM_5).trans hM_6), (p_19.dropN 3), rfl⟩
 ·have k_8 := iff_f dI h_5
  have f := f.st 34 (cB h_5)
  refine Y f 21 fun _ f => eT (wp_ret (E_ret1 f rfl (by kernel_rfl : Vc.look _ 0 = some (.bool false)) ?_))
  obtain rfl := sI hF_11
  exact ⟨_, rfl, M_6, (((((hM_1.trans hM_2).trans hM_3).trans hM_4).trans hM_5).trans hM_6), (p_19.dropN 3), rfl⟩
theorem alike14 {n : Nat} (hn : 6000 < n) : ∀ (m d : Nat) (v : TB0), d < m → Small d v → params_alike_k n m v v = some true
 | 0, d, v, hd, _ => absurd hd (by omega)
 | m + 1, 0, v, _, h => h.elim
 | m + 1, d + 1, v, hd, h => by
  obtain ⟨h1, h2, h3, h4, h5⟩ := h
  have l1 := loop_all (step := params_alike_s1 n v v) (n := n) (fun k => (k : Int)) v.fKeys.length (.inr ()) (fun k hk => by
   unfold params_alike_s1
   rw [decide_eq_true (by omega), cT, getI_at [] hk, bnd, bnd, decide_eq_true rfl, Bool.not_true, cF, need_i (by omega) (by omega)]
   rfl) (by
   unfold params_alike_s1
   rw [decide_eq_false (by omega), cF]) (by omega)
  have l2 := loop_all (step := params_alike_s2 n (params_alike_k n m) v v) (n := n) (fun k => (k : Int)) v.fList.length (.inr ()) (fun k hk => by
   unfold params_alike_s2
   rw [decide_eq_true (by omega), cT, getI_at z_TB0 hk, bnd, bnd, alike14 hn m d _ (by omega) (h5 _ (memD hk)), bnd, Bool.not_true, cF, need_i (by omega) (by omega)]
   rfl) (by
   unfold params_alike_s2
   rw [decide_eq_false (by omega), cF]) (by omega)
  have e0 : ((0 : Nat) : Int) = 0 := rfl
  simp only [e0] at l1 l2
  unfold params_alike_k params_alike_b
  simp only [beq_self_eq_true, eq_self, decide_true, Bool.not_true, cF, bnd]
  rw [l1, bnd]
  dsimp only
  rw [l2, bnd]
theorem Same14 {n : Nat} (hn : 6000 < n) {a : List TA0} (la : a.length ≤ 400) (ha : ∀ g ∈ a, Fine g.fV) : params_Same n a a = some true := by
 unfold params_Same
 rw [decide_eq_true rfl, Bool.not_true, cF]
 have l1 := loop_all (step := params_Same_s1 n a a) (n := n) (fun k => (k : Int)) a.length (.inr ()) (fun k hk => by
  have hf := ha _ (memD (d := z_TA0) hk)
  unfold params_Same_s1 params_alike
  rw [decide_eq_true (by omega), cT, getI_at z_TA0 hk, bnd, bnd, bnd]
  dsimp only
  rw [evV, decide_eq_true rfl, Bool.not_true, cF, beq_self_eq_true, Bool.not_true, cF, empty14_run, bnd, Equal_run hn hf hf, bnd, alike14 hn n 60 _ (by omega) hf.small, bnd, need_i (by omega) (by omega)]
  cases empty14 (a.getD k z_TA0).fV <;> cases eqV (a.getD k z_TA0).fV (a.getD k z_TA0).fV <;> rfl) (by
  unfold params_Same_s1
  rw [decide_eq_false (by omega), cF]) (by omega)
 have e0 : ((0 : Nat) : Int) = 0 := rfl
 simp only [e0] at l1
 rw [l1, bnd]
theorem greatP14 {n : Nat} (hn : 6000 < n) (l : List TC0) : ∃ g, ref14_GreatParams n l = some g ∧ (g = false → l.length ≤ 40 ∧ ∀ p ∈ l, FineP p) := by
 unfold ref14_GreatParams
 obtain ⟨b, hb, hp⟩ := loop_inv (step := ref14_GreatParams_s1 n l) (n := n) (s0 := (0 : Int)) (fun k s => s = (k : Int) ∧ ∀ x ∈ l.take k, FineP x)
  (fun b => match b with | .inl _ => True | .inr _ => l.length ≤ 40 → ∀ x ∈ l, FineP x) (min l.length 41) ⟨rfl, by simp⟩
  (fun k s hk hI => by
   obtain ⟨rfl, hf⟩ := hI
   have hk1 : k < l.length := by omega
   have hx : l[k]? = some l[k] := List.getElem?_eq_getElem hk1
   have hg : l.getD k z_TC0 = l[k] := by simp [List.getD, hk1]
   obtain ⟨g, hg1, hg2⟩ := great_fine hn l[k].fDefault
   unfold ref14_GreatParams_s1
   rw [decide_eq_true (by omega : (k : Int) < ((l.length : Nat) : Int)), cT, bnd, decide_eq_true (by omega : (k : Int) ≤ 40), cT, getI_at z_TC0 hk1, hg]
   simp only [bnd]
   rw [evV, hg1, bnd]
   cases g with
   | true => rw [cT, bnd, cT]; exact .inr ⟨_, rfl, trivial⟩
   | false =>
    rw [cF]
    by_cases h40 : (40 : Int) < ((l[k].fAllowed.length : Nat) : Int)
    ·rw [decide_eq_true h40, cT, bnd, cT]; exact .inr ⟨_, rfl, trivial⟩
    rw [decide_eq_false h40, cF, bnd]
    by_cases h400 : (400 : Int) < (l[k].fName.length : Int)
    ·rw [decide_eq_true h400, cT]; exact .inr ⟨_, rfl, trivial⟩
    rw [decide_eq_false h400, cF]
    obtain ⟨b, hb, hp⟩ := loop_inv (step := ref14_GreatParams_s2 n l (k : Int)) (n := n) (s0 := (0 : Int)) (fun j s => s = (j : Int) ∧ ∀ x ∈ l[k].fAllowed.take j, Fine x)
     (fun b => match b with | .inl _ => True | .inr _ => ∀ x ∈ l[k].fAllowed, Fine x) l[k].fAllowed.length ⟨rfl, by simp⟩
     (fun j s hj hJ => by
      obtain ⟨rfl, hF⟩ := hJ
      have hy : l[k].fAllowed[j]? = some l[k].fAllowed[j] := List.getElem?_eq_getElem hj
      have hG : l[k].fAllowed.getD j z_TB0 = l[k].fAllowed[j] := by simp [List.getD, hj]
      obtain ⟨g, hg1, hg2⟩ := great_fine hn l[k].fAllowed[j]
      unfold ref14_GreatParams_s2
      rw [getI_at z_TC0 hk1, hg, bnd, bnd, decide_eq_true (by omega), cT, getI_at z_TB0 hj, bnd, hG, hg1, bnd]
      cases g with
      | true => rw [cT]; exact .inr ⟨_, rfl, trivial⟩
      | false =>
       rw [cF, need_i (by omega) (by omega)]
       refine .inl ⟨_, rfl, rfl, fun y hz => ?_⟩
       rcases (mem_take_succ hy y).1 hz with h | h
       ·exact hF y h
       ·rw [h]; exact (hg2 rfl).1)
     (fun s hJ => by
      obtain ⟨rfl, hF⟩ := hJ
      rw [List.take_length] at hF
      unfold ref14_GreatParams_s2
      rw [getI_at z_TC0 hk1, hg, bnd, decide_eq_false (by omega), cF]
      exact ⟨_, rfl, hF⟩) (by omega)
    rw [hb, bnd]
    cases b with
    | inl u => exact .inr ⟨_, rfl, trivial⟩
    | inr u =>
     dsimp only
     rw [need_i (by omega) (by omega)]
     refine .inl ⟨_, rfl, rfl, fun y hz => ?_⟩
     rcases (mem_take_succ hx y).1 hz with h | h
     ·exact hf y h
     ·rw [h]; exact ⟨by omega, by omega, (hg2 rfl).1, hp⟩)
  (fun s hI => by
   obtain ⟨rfl, hf⟩ := hI
   unfold ref14_GreatParams_s1
   by_cases h : ((min l.length 41 : Nat) : Int) < ((l.length : Nat) : Int)
   ·rw [decide_eq_true h, cT, bnd, decide_eq_false (by omega), cF]
    exact ⟨_, rfl, fun h2 => absurd h2 (by omega)⟩
   ·rw [decide_eq_false h, cF, bnd, cF]
    refine ⟨_, rfl, fun h2 x hx => hf x ?_⟩
    rw [List.take_of_length_le (by omega)]; exact hx) (by omega)
 rw [hb, bnd]
 cases b with
 | inl u => exact ⟨true, rfl, fun h => by cases h⟩
 | inr u => exact ⟨_, rfl, fun h => by have := of_decide_eq_false h; exact ⟨by omega, hp (by omega)⟩⟩
theorem greatG14 {n : Nat} (hn : 6000 < n) (gs : List TA0) : ∃ g, ref14_Great n gs = some g ∧ (g = false → gs.length ≤ 40 ∧ ∀ x ∈ gs, Fine x.fV) := by
 unfold ref14_Great
 obtain ⟨b, hb, hp⟩ := loop_inv (step := ref14_Great_s1 n gs) (n := n) (s0 := (0 : Int)) (fun k s => s = (k : Int) ∧ ∀ x ∈ gs.take k, Fine x.fV)
  (fun b => match b with | .inl _ => True | .inr _ => gs.length ≤ 40 → ∀ x ∈ gs, Fine x.fV) (min gs.length 41) ⟨rfl, by simp⟩
  (fun k s hk hI => by
   obtain ⟨rfl, hf⟩ := hI
   have hk1 : k < gs.length := by omega
   have hx : gs[k]? = some gs[k] := List.getElem?_eq_getElem hk1
   have hg : gs.getD k z_TA0 = gs[k] := by simp [List.getD, hk1]
   obtain ⟨g, hg1, hg2⟩ := great_fine hn gs[k].fV
   unfold ref14_Great_s1
   rw [decide_eq_true (by omega : (k : Int) < ((gs.length : Nat) : Int)), cT, bnd, decide_eq_true (by omega : (k : Int) ≤ 40), cT, getI_at z_TA0 hk1, hg]
   simp only [bnd]
   rw [evV, hg1, bnd]
   cases g with
   | true => rw [cT]; exact .inr ⟨_, rfl, trivial⟩
   | false =>
    rw [cF]
    by_cases h400 : (400 : Int) < (gs[k].fName.length : Int)
    ·rw [decide_eq_true h400, cT]; exact .inr ⟨_, rfl, trivial⟩
    rw [decide_eq_false h400, cF, need_i (by omega) (by omega)]
    refine .inl ⟨_, rfl, rfl, fun y hz => ?_⟩
    rcases (mem_take_succ hx y).1 hz with h | h
    ·exact hf y h
    ·rw [h]; exact (hg2 rfl).1)
  (fun s hI => by
   obtain ⟨rfl, hf⟩ := hI
   unfold ref14_Great_s1
   by_cases h : ((min gs.length 41 : Nat) : Int) < ((gs.length : Nat) : Int)
   ·rw [decide_eq_true h, cT, bnd, decide_eq_false (by omega), cF]
    exact ⟨_, rfl, fun h2 => absurd h2 (by omega)⟩
   ·rw [decide_eq_false h, cF, bnd, cF]
    refine ⟨_, rfl, fun h2 x hx => hf x ?_⟩
    rw [List.take_of_length_le (by omega)]; exact hx) (by omega)
 rw [hb, bnd]
 cases b with
 | inl u => exact ⟨true, rfl, fun h => by cases h⟩
 | inr u => exact ⟨_, rfl, fun h => by have := of_decide_eq_false h; exact ⟨by omega, hp (by omega)⟩⟩
theorem great14 {n : Nat} (hn : 6000 < n) (l : List TC0) (gs : List TA0) : ∃ g, law14_great n l gs = some g ∧ (g = false → l.length ≤ 40 ∧ (∀ p ∈ l, FineP p) ∧ gs.length ≤ 40 ∧ ∀ x ∈ gs, Fine x.fV) := by
 unfold law14_great
 obtain ⟨a, ha, hp⟩ := greatP14 hn l
 obtain ⟨b, hb, hq⟩ := greatG14 hn gs
 rw [ha, bnd, hb, bnd]
 cases a with
 | true => exact ⟨true, rfl, fun h => by cases h⟩
 | false => exact ⟨b, rfl, fun h => ⟨(hp rfl).1, (hp rfl).2, (hq h).1, (hq h).2⟩⟩
set_option maxRecDepth 100000 in
theorem wakes14 : law14_wakes 10000 = some true := by decide +kernel
theorem cb_flip14 (a b : List UInt8) : (Lib.compareBytes a b < 0 ∨ a = b) ↔ ¬ Lib.compareBytes b a < 0 := by
 have h := cb_anti a b
 constructor
 ·rintro (h1 | rfl)
  ·omega
  ·rw [cb_self]; omega
 ·intro h1
  by_cases e : Lib.compareBytes a b = 0
  ·exact .inr (cb_eq _ _ e)
  ·exact .inl (by omega)
theorem less_flip14 (a b : List UInt8) : (Op.bytesLess a b || a == b) = !Op.bytesLess b a := by
 have h1 := less_cb a b
 have h2 := less_cb b a
 rw [h1, h2]
 rw [Bool.eq_iff_iff]
 simp only [Bool.or_eq_true, decide_eq_true_eq, beq_iff_eq, Bool.not_eq_true', decide_eq_false_iff_not]
 exact cb_flip14 a b
def Up (N : List (List UInt8)) : Prop := N.Pairwise fun a b => Lib.compareBytes a b < 0
theorem up_adj {N : List (List UInt8)} : (∀ k, k + 1 < N.length → Op.bytesLess (N.getD k []) (N.getD (k + 1) []) = true) ↔ Up N := by
 have gd : ∀ {k : Nat}, k < N.length → ∀ h : k < N.length, N.getD k [] = N[k] := fun hk h => by simp [List.getD, hk]
 unfold Up
 constructor
 ·intro hadj
  have hlt : ∀ m i, i + m + 1 < N.length → Lib.compareBytes (N.getD i []) (N.getD (i + m + 1) []) < 0 := by
   intro m
   induction m with
   | zero => intro i hi; have := hadj i hi; rw [less_cb] at this; exact of_decide_eq_true this
   | succ m ih =>
    intro i hi
    have h1 := ih i (by omega)
    have h2 := hadj (i + m + 1) hi
    rw [less_cb] at h2
    have h2 := of_decide_eq_true h2
    exact (cb_trans _ _ _ (Int.le_of_lt h1) (Int.le_of_lt h2)).2 (.inl h1)
  rw [List.pairwise_iff_getElem]
  intro i j hi hj hij
  have := hlt (j - i - 1) i (by omega)
  rw [show i + (j - i - 1) + 1 = j by omega, gd hi hi, gd hj hj] at this
  exact this
 ·intro h k hk
  rw [List.pairwise_iff_getElem] at h
  have := h k (k + 1) (by omega) hk (by omega)
  rw [less_cb, gd (by omega) (by omega), gd hk hk]
  exact decide_eq_true this
theorem Up.nodup {N : List (List UInt8)} (h : Up N) : N.Nodup := List.Pairwise.imp (fun {a b} hab e => by subst e; rw [cb_self] at hab; omega) h
theorem check14_zero {l : List TC0} : check14 l = 0 ↔ l.length ≤ 6 ∧ (∀ p ∈ l, mayV p = true) ∧ Up ([] :: l.map (·.fName)) := by
 have hN : ∀ k, k < l.length → ([] :: l.map (·.fName) : List (List UInt8)).getD k [] = lastV l k ∧ ([] :: l.map (·.fName) : List (List UInt8)).getD (k + 1) [] = (l.getD k z_TC0).fName := by
  intro k hk
  refine ⟨?_, by simp [List.getD, hk]⟩
  unfold lastV
  cases k with
  | zero => rfl
  | succ k => rw [if_neg (by omega)]; simp [List.getD, (by omega : k < l.length)]
 have key : (∀ k, k < l.length → badP l k = false) ↔ (∀ p ∈ l, mayV p = true) ∧ Up ([] :: l.map (·.fName)) := by
  rw [← up_adj]
  constructor
  ·intro h
   refine ⟨fun p hp => ?_, fun k hk => ?_⟩
   ·obtain ⟨k, hk, rfl⟩ := List.mem_iff_getElem.1 hp
    have := h k hk
    unfold badP at this
    have e : l.getD k z_TC0 = l[k] := by simp [List.getD, hk]
    rw [e] at this
    cases hm : mayV l[k] with
    | true => rfl
    | false => rw [hm] at this; cases this
   ·have hk : k < l.length := by simpa using hk
    have := h k hk
    unfold badP at this
    rw [less_flip14, Bool.or_eq_false_iff] at this
    rw [(hN k hk).1, (hN k hk).2]
    simpa using this.2
  ·rintro ⟨h1, h2⟩ k hk
   have := h2 k (by simp; omega)
   rw [(hN k hk).1, (hN k hk).2] at this
   unfold badP
   rw [h1 _ (memD hk), less_flip14, this]; rfl
 unfold check14
 by_cases h6 : 6 < l.length
 ·rw [if_pos h6]
  exact ⟨fun h => absurd h (by decide), fun h => absurd h.1 (by omega)⟩
 rw [if_neg h6]
 constructor
 ·intro h
  refine ⟨by omega, key.1 fun k hk => ?_⟩
  cases hb : badP l k with
  | false => rfl
  | true =>
   rw [if_pos (List.any_eq_true.2 ⟨k, List.mem_range.2 hk, hb⟩)] at h
   exact absurd h (by decide)
 ·rintro ⟨_, h⟩
  have h := key.2 h
  rw [if_neg]
  intro ha
  obtain ⟨k, hk, hb⟩ := List.any_eq_true.1 ha
  rw [h k (List.mem_range.1 hk)] at hb
  cases hb
theorem rises14_up {g : List TA0} : rises14 g = true ↔ Up (g.map (·.fName)) := by
 rw [← up_adj]
 have hN : ∀ k, k < g.length → (g.map (·.fName)).getD k [] = (g.getD k z_TA0).fName := by
  intro k hk; simp [List.getD, hk]
 unfold rises14
 constructor
 ·intro h k hk
  have hk : k + 1 < g.length := by simpa using hk
  rw [hN k (by omega), hN (k + 1) hk]
  have h2 : ((List.range (g.length - 1)).any fun k => !Op.bytesLess (g.getD k z_TA0).fName (g.getD (k + 1) z_TA0).fName) = false := by simpa using h
  have := List.any_eq_false.1 h2 k (List.mem_range.2 (by omega))
  simpa using this
 ·intro h
  have h2 : ((List.range (g.length - 1)).any fun k => !Op.bytesLess (g.getD k z_TA0).fName (g.getD (k + 1) z_TA0).fName) = false := by
   rw [List.any_eq_false]
   intro k hk
   have hk := List.mem_range.1 hk
   have := h k (by simp; omega)
   rw [hN k (by omega), hN (k + 1) (by omega)] at this
   rw [this]; decide
  rw [h2]; rfl
theorem found_name (g : List TA0) (p : TC0) : (foundV g p).fName = p.fName := by
 unfold foundV
 cases h : g.find? (fun x => decide (x.fName = p.fName)) with
 | none => rfl
 | some x =>
  have := List.find?_some h
  exact of_decide_eq_true this
theorem found_names (g : List TA0) (l : List TC0) : (l.map (foundV g)).map (·.fName) = l.map (·.fName) := by
 rw [List.map_map]
 exact List.map_congr_left fun p _ => found_name g p
theorem bindV_mk {l : List TC0} {g : List TA0} (h1 : check14 l = 0) (h2 : rises14 g = true) (h3 : ∀ x ∈ g, known14 l x = true) (h4 : ∀ p ∈ l, fitsV g p = true) : bindV l g = (l.map (foundV g), [], 0) := by
 unfold bindV
 have e1 : g.find? (fun x => !known14 l x) = none := by rw [List.find?_eq_none]; intro x hx; rw [h3 x hx]; decide
 have e2 : l.find? (fun p => !fitsV g p) = none := by rw [List.find?_eq_none]; intro x hx; rw [h4 x hx]; decide
 rw [if_pos h1, if_pos h2, e1, e2]
theorem bindV_ok {l : List TC0} {g : List TA0} (h : (bindV l g).2.2 = 0) : check14 l = 0 ∧ rises14 g = true ∧ (∀ x ∈ g, known14 l x = true) ∧ (∀ p ∈ l, fitsV g p = true) := by
 unfold bindV at h
 by_cases h1 : check14 l = 0
 ·rw [if_pos h1] at h
  by_cases h2 : rises14 g = true
  ·rw [if_pos h2] at h
   cases e1 : g.find? (fun x => !known14 l x) with
   | some x => rw [e1] at h; exact absurd (show (140 : Int) = 0 from h) (by decide)
   | none =>
    rw [e1] at h
    cases e2 : l.find? (fun p => !fitsV g p) with
    | some x => rw [e2] at h; exact absurd (show (140 : Int) = 0 from h) (by decide)
    | none =>
     rw [List.find?_eq_none] at e1 e2
     exact ⟨h1, h2, fun x hx => by simpa using e1 x hx, fun x hx => by simpa using e2 x hx⟩
  ·rw [if_neg h2] at h; exact absurd h (by decide)
 ·rw [if_neg h1] at h; exact absurd h h1
theorem bindV_not {l : List TC0} {g : List TA0} (h : (bindV l g).2.2 ≠ 0) : (bindV l g).1 = [] := by
 unfold bindV at h ⊢
 by_cases h1 : check14 l = 0
 ·rw [if_pos h1] at h ⊢
  by_cases h2 : rises14 g = true
  ·rw [if_pos h2] at h ⊢
   cases e1 : g.find? (fun x => !known14 l x) with
   | some x => rfl
   | none =>
    rw [e1] at h
    cases e2 : l.find? (fun p => !fitsV g p) with
    | some x => rfl
    | none => rw [e2] at h; exact absurd rfl h
  ·rw [if_neg h2]
 ·rw [if_neg h1]
theorem find_mem {g : List TA0} (hr : (g.map (·.fName)).Nodup) {x : TA0} (hx : x ∈ g) : g.find? (fun y => decide (y.fName = x.fName)) = some x := by
 induction g with
 | nil => cases hx
 | cons y g ih =>
  rw [List.map_cons, List.nodup_cons] at hr
  rcases List.mem_cons.1 hx with rfl | h
  ·rw [List.find?_cons, decide_eq_true rfl]
  ·have hne : ¬ y.fName = x.fName := fun e => hr.1 (by rw [e]; exact List.mem_map_of_mem h)
   rw [List.find?_cons, decide_eq_false hne]
   exact ih hr.2 h
def ref03_sorted_s2 (n : Nat) (d0 : TB0) (s_1 : Int × List TB0 × List (List UInt8)) (s_2 : Int) : Option (Lp Int Int) :=
    bif (decide (s_2 < ((s_1.2.2.length : Nat) : Int))) then
      ((getI s_1.2.2 s_2).bind fun x_3 =>
      (getI d0.fKeys s_1.1).bind fun x_4 =>
      bif (Op.bytesLess x_3 x_4) then
        (need (inR .i64 (s_2 + 1)) <|
        some (.nx (s_2 + 1)))
      else
        some (.br s_2))
    else
      some (.br s_2)
def ref03_sorted_s1 (n : Nat) (rec_ref03_sorted : TB0 → Option TB0) (d0 : TB0) (s_1 : Int × List TB0 × List (List UInt8)) : Option (Lp (Int × List TB0 × List (List UInt8)) (List TB0 × List (List UInt8))) :=
    bif (decide (s_1.1 < ((d0.fList.length : Nat) : Int))) then
      ((getI d0.fList s_1.1).bind fun x_1 =>
      (rec_ref03_sorted x_1).bind fun x_2 =>
      bif (decide (d0.fKind = 4)) then
        (need ((s_1.2.1.length + 1) * 80 ≤ 140737488355328) <|
        need (inR .i64 (s_1.1 + 1)) <|
        some (.nx (s_1.1 + 1, s_1.2.1 ++ [(⟨x_2.fKind, (x_2.fBool), x_2.fNum, x_2.fText, x_2.fList, x_2.fKeys⟩ : TB0)], s_1.2.2)))
      else
        (loopF (ref03_sorted_s2 n d0 s_1) n (0 : Int)).bind fun y_1 =>
        need (0 ≤ y_1 ∧ y_1 ≤ (s_1.2.2.length : Int)) <|
        need ((([] : List (List UInt8)).length + (s_1.2.2.length - y_1.toNat)) * 16 ≤ 140737488355328) <|
        need (0 ≤ y_1 ∧ y_1 ≤ (s_1.2.1.length : Int)) <|
        need ((([] : List TB0).length + (s_1.2.1.length - y_1.toNat)) * 80 ≤ 140737488355328) <|
        (((getI d0.fKeys s_1.1).bind fun x_5 =>
          need (0 ≤ y_1 ∧ y_1 ≤ (s_1.2.2.length : Int)) <|
          need (((s_1.2.2.take y_1.toNat).length + 1) * 16 ≤ 140737488355328) <|
          need ((((s_1.2.2.take y_1.toNat) ++ [x_5]).length + (([] : List (List UInt8)) ++ (s_1.2.2.take s_1.2.2.length).drop y_1.toNat).length) * 16 ≤ 140737488355328) <|
          some (((s_1.2.2.take y_1.toNat) ++ [x_5]) ++ (([] : List (List UInt8)) ++ (s_1.2.2.take s_1.2.2.length).drop y_1.toNat)) : Option (List (List UInt8)))).bind fun y_2 =>
        ((need (0 ≤ y_1 ∧ y_1 ≤ (s_1.2.1.length : Int)) <|
          need (((s_1.2.1.take y_1.toNat).length + 1) * 80 ≤ 140737488355328) <|
          need ((((s_1.2.1.take y_1.toNat) ++ [(⟨x_2.fKind, (x_2.fBool), x_2.fNum, x_2.fText, x_2.fList, x_2.fKeys⟩ : TB0)]).length + (([] : List TB0) ++ (s_1.2.1.take s_1.2.1.length).drop y_1.toNat).length) * 80 ≤ 140737488355328) <|
          some (((s_1.2.1.take y_1.toNat) ++ [(⟨x_2.fKind, (x_2.fBool), x_2.fNum, x_2.fText, x_2.fList, x_2.fKeys⟩ : TB0)]) ++ (([] : List TB0) ++ (s_1.2.1.take s_1.2.1.length).drop y_1.toNat)) : Option (List TB0))).bind fun y_3 =>
        need (inR .i64 (s_1.1 + 1)) <|
        some (.nx (s_1.1 + 1, y_3, y_2)))
    else
      some (.br (s_1.2.1, s_1.2.2))
def ref03_sorted_b (n : Nat) (rec_ref03_sorted : TB0 → Option TB0) (d0 : TB0) : Option TB0 :=
  (loopF (ref03_sorted_s1 n rec_ref03_sorted d0) n ((0 : Int), ([] : List TB0), ([] : List (List UInt8)))).bind fun y_4 =>
  some ((⟨d0.fKind, (d0.fBool), d0.fNum, d0.fText, y_4.1, y_4.2⟩ : TB0))
theorem ref03_sorted_b_ok (n : Nat) (rec_ref03_sorted : TB0 → Option TB0) (hrec_ref03_sorted : ∀ (M : Mem) (c0 : List Value) (d0 : TB0) (h0 : Rep M (emb_TB0 d0) c0) (r : TB0) (hF : rec_ref03_sorted d0 = some r), Ok Tryd.prog M 40 [.agg c0.toArray] (fun M' v => ∃ (c0 : List Value), v = .agg c0.toArray ∧ Rep M' (emb_TB0 r) c0)) (M : Mem) (c0 : List Value) (d0 : TB0) (h0 : Rep M (emb_TB0 d0) c0) (r : TB0) (hF : ref03_sorted_b n rec_ref03_sorted d0 = some r) : Ok Tryd.prog M 40 [.agg c0.toArray] (fun M' v => ∃ (c0 : List Value), v = .agg c0.toArray ∧ Rep M' (emb_TB0 r) c0) := by
 unfold ref03_sorted_b at hF
 intro M1 hM0 w0 H w p0
 replace h0 := Rep.mono hM0 _ _ h0
 obtain ⟨A_1, cap_1, A_2, cap_2, rfl, h_1, h_2⟩ := TB0.opn h0
 refine R_enter 97 Tryd.func40 rfl rfl (by simp) fun a0 f0 => RR (Y13 (cs := #[.int .i8 d0.fKind, .bool d0.fBool, .int .i64 d0.fNum, S d0.fText, .slice A_1 d0.fList.length cap_1, .slice A_2 d0.fKeys.length cap_2]) (T := 33) f0 p0 fun b_1 M_1 w_1 hM_1 hc_1 p_1 _ f => ?_)
 have hc_2 := fz_box hc_1
 refine Y12 f p_1 (.cells #[.int .i8 0, .bool false, .int .i64 0, S [], .slice none 0 0, .slice none 0 0] 33 (0, 0)) fun b_2 w_2 p_2 _ f => eT (RR (Y f 1 fun _ f => Y15 f p_2 hc_2 0 rfl fun _ f => Y f 1 fun _ f => Y15 f p_2 hc_2 1 rfl fun _ f => Y f 1 fun _ f => Y15 f p_2 hc_2 2 rfl fun _ f => Y f 1 fun _ f => Y15 f p_2 hc_2 3 rfl fun _ f => Y f 1 fun _ f => ?_))
 refine Y12 f p_2 (.cells #[.int .i8 0, .bool false, .int .i64 0, S [], .slice none 0 0, .slice none 0 0] 33 (0, 0)) fun b_3 w_3 p_3 _ f => Y28 (vs := [.int .i8 d0.fKind, .bool d0.fBool, .int .i64 d0.fNum, S d0.fText, .slice none 0 0, .slice none 0 0]) (j := 0) f p_3 rfl rfl (by simp [Value.oneCell', S]) (by simp) (by decide) (cs' := #[.int .i8 d0.fKind, .bool d0.fBool, .int .i64 d0.fNum, S d0.fText, .slice none 0 0, .slice none 0 0]) fun w_4 p_4 _ f => eT (R_seq (RR (Y f 1 fun _ f => eT (wp_block ?_))))
 obtain ⟨A_3, cap_3, hv_1⟩ : ∃ A cap, Value.slice none 0 0 = .slice A ([] : List TB0).length cap := ⟨none, 0, rfl⟩
 have p_5 : Hp w0 M_1 ((Ent.row 33 6 (.slice A_3 ([] : List TB0).length cap_3) ([] : List TB0).length []) :: (Ent.obj b_3 (.cells #[.int .i8 d0.fKind, .bool d0.fBool, .int .i64 d0.fNum, S d0.fText, .slice A_3 ([] : List TB0).length cap_3, .slice none 0 0] 33 (0, 0))) :: (Ent.obj b_2 (.cells #[.int .i8 0, .bool false, .int .i64 0, S [], .slice none 0 0, .slice none 0 0] 33 (0, 0))) :: H) w_4 := by rw [← hv_1]; exact p_4.nilRow 33 6
 have hr_1 : RepSeq M_1 (([] : List TB0).map emb_TB0) [] := rfl
 obtain ⟨A_4, cap_4, hv_2⟩ : ∃ A cap, Value.slice none 0 0 = .slice A ([] : List (List UInt8)).length cap := ⟨none, 0, rfl⟩
 have p_6 : Hp w0 M_1 ((Ent.row 9 1 (.slice A_4 ([] : List (List UInt8)).length cap_4) ([] : List (List UInt8)).length []) :: (Ent.row 33 6 (.slice A_3 ([] : List TB0).length cap_3) ([] : List TB0).length []) :: (Ent.obj b_3 (.cells #[.int .i8 d0.fKind, .bool d0.fBool, .int .i64 d0.fNum, S d0.fText, .slice A_3 ([] : List TB0).length cap_3, .slice A_4 ([] : List (List UInt8)).length cap_4] 33 (0, 0))) :: (Ent.obj b_2 (.cells #[.int .i8 0, .bool false, .int .i64 0, S [], .slice none 0 0, .slice none 0 0] 33 (0, 0))) :: H) w_4 := by rw [← hv_2]; exact p_5.nilRow 9 1
 have hr_2 : RepSeq M_1 (([] : List (List UInt8)).map Dat.str) [] := rfl
 have p_10 := p_6.pl [3, 3, 2, 3]
 obtain ⟨b_4, hL_1, hF_1⟩ := bS hF
 refine wp_mono (Q := fun e a w => (e = .exit 0 ∧ (∃ y_4 : List TB0 × List (List UInt8), b_4 = y_4 ∧ ∃ M_14 : Mem, M_1.le M_14 ∧ ∃ (A_44 : Option Addr), ∃ (cap_45 : Nat), ∃ (cs_20 : List Value), ∃ (A_45 : Option Addr), ∃ (cap_46 : Nat), ∃ (cs_21 : List Value), RepSeq M_14 (y_4.1.map emb_TB0) cs_20 ∧ RepSeq M_14 (y_4.2.map Dat.str) cs_21 ∧ Frm 97 [(2, .pointer (some (⟨b_2, 0, none⟩))), (3, .pointer (some (⟨b_3, 0, none⟩)))] a ∧ Hp w0 M_14 ((Ent.row 33 6 (.slice A_44 y_4.1.length cap_45) y_4.1.length cs_20) :: (Ent.row 9 1 (.slice A_45 y_4.2.length cap_46) y_4.2.length cs_21) :: (Ent.obj b_3 (.cells #[.int .i8 d0.fKind, .bool d0.fBool, .int .i64 d0.fNum, S d0.fText, .slice A_44 y_4.1.length cap_45, .slice A_45 y_4.2.length cap_46] 33 (0, 0))) :: (Ent.obj b_2 (.cells #[.int .i8 0, .bool false, .int .i64 0, S [], .slice none 0 0, .slice none 0 0] 33 (0, 0))) :: H) w))) (R_loop (n := 97) (w0 := w0) (M := M_1) (fun (x : Nat × (Int × List TB0 × List (List UInt8)) × (Option Addr) × Nat × (List Value) × (Option Addr) × Nat × (List Value)) => match x with | (m_1, s_1, A_5, cap_5, cs_1, A_6, cap_6, cs_2) => [(1, .pointer (some (⟨b_1, 0, none⟩))), (2, .pointer (some (⟨b_2, 0, none⟩))), (3, .pointer (some (⟨b_3, 0, none⟩))), (4, .int .i64 s_1.1)]) (fun (x : Nat × (Int × List TB0 × List (List UInt8)) × (Option Addr) × Nat × (List Value) × (Option Addr) × Nat × (List Value)) => match x with | (m_1, s_1, A_5, cap_5, cs_1, A_6, cap_6, cs_2) => ((Ent.row 33 6 (.slice A_5 s_1.2.1.length cap_5) s_1.2.1.length cs_1) :: (Ent.row 9 1 (.slice A_6 s_1.2.2.length cap_6) s_1.2.2.length cs_2) :: (Ent.obj b_3 (.cells #[.int .i8 d0.fKind, .bool d0.fBool, .int .i64 d0.fNum, S d0.fText, .slice A_5 s_1.2.1.length cap_5, .slice A_6 s_1.2.2.length cap_6] 33 (0, 0))) :: (Ent.obj b_2 (.cells #[.int .i8 0, .bool false, .int .i64 0, S [], .slice none 0 0, .slice none 0 0] 33 (0, 0))) :: H)) (fun (x : Nat × (Int × List TB0 × List (List UInt8)) × (Option Addr) × Nat × (List Value) × (Option Addr) × Nat × (List Value)) (MM : Mem) => match x with | (m_1, s_1, A_5, cap_5, cs_1, A_6, cap_6, cs_2) => loopF (ref03_sorted_s1 n rec_ref03_sorted d0) m_1 s_1 = some b_4 ∧ RepSeq MM (s_1.2.1.map emb_TB0) cs_1 ∧ RepSeq MM (s_1.2.2.map Dat.str) cs_2) (fun (x : Nat × (Int × List TB0 × List (List UInt8)) × (Option Addr) × Nat × (List Value) × (Option Addr) × Nat × (List Value)) => match x with | (m_1, s_1, A_5, cap_5, cs_1, A_6, cap_6, cs_2) => m_1) (n, ((0 : Int), ([] : List TB0), ([] : List (List UInt8))), A_3, cap_3, [], A_4, cap_4, []) (f.kp) p_10 ⟨hL_1, hr_1, hr_2⟩ ?_) ?_
 ·rintro ⟨m_1, s_1, A_5, cap_5, cs_1, A_6, cap_6, cs_2⟩ M_2 _ w_5 hM_2 I_1 f p_11
  obtain ⟨I_1L, hr_3, hr_4⟩ := I_1
  obtain ⟨m_2, r_1, rfl, hs_1, hn_1⟩ := loop_step I_1L
  unfold ref03_sorted_s1 at hs_1
  refine R_seq (RR (Y f 2 fun _ f => Y15 f p_11 (fzu hM_2 hc_2) 4 rfl fun _ f => Y f 2 fun _ f => eT (RcF f hs_1 (fun h_3 hF_2 => ?_) fun h_3 hF_31 => ?_)))
  ·have k_1 := dI.1 h_3
   refine wp_skip (T_n (R_seq (wp_block (RR (Y f 1 fun _ f => Y15 f p_11 (fzu hM_2 hc_2) 4 rfl fun _ f => Y f 1 fun _ f => ?_)))))
   obtain ⟨x_1, hx_1, hF_3⟩ := bS hF_2
   obtain ⟨ad_1, c_1, e_1, -, hr_5, hc_3⟩ := Sli.at_ (h_1.mono (hM_1.trans hM_2)) hx_1
   obtain ⟨A_7, cap_7, A_8, cap_8, rfl, h_4, h_5⟩ := TB0.opn hr_5
   refine Z f (Y30 e_1 rfl (len := d0.fList.length) (cap := cap_1) (k := .i64) (i := s_1.1) (e := 33) (sz := 6) (getI_nn hx_1) (getI_lt hx_1)) fun _ f => Z (v := .agg #[.int .i8 x_1.fKind, .bool x_1.fBool, .int .i64 x_1.fNum, S x_1.fText, .slice A_7 x_1.fList.length cap_7, .slice A_8 x_1.fKeys.length cap_8]) f (Y32 (cs := [.int .i8 x_1.fKind, .bool x_1.fBool, .int .i64 x_1.fNum, S x_1.fText, .slice A_7 x_1.fList.length cap_7, .slice A_8 x_1.fKeys.length cap_8]) rfl (ad := ad_1.add (s_1.1.toNat * 6)) (fun j v h => p_11.cell (hc_3 j v h))) fun _ f => ?_
   obtain ⟨x_2, hx_2, hF_4⟩ := bS hF_3
   refine Y16 f p_11 (hrec_ref03_sorted _ _ x_1 (TB0.shutx (x := x_1) h_4 h_5) x_2 hx_2) fun _ M_3 w_6 hM_3 p_12 q_1 _ f => ?_
   obtain ⟨c_2, rfl, hr_6⟩ := q_1
   obtain ⟨A_9, cap_9, A_10, cap_10, rfl, h_6, h_7⟩ := TB0.opn hr_6
   refine Y12 f p_12 (.cells #[.int .i8 0, .bool false, .int .i64 0, S [], .slice none 0 0, .slice none 0 0] 33 (0, 0)) fun b_5 w_7 p_13 _ f => Y28 (vs := [.int .i8 x_2.fKind, .bool x_2.fBool, .int .i64 x_2.fNum, S x_2.fText, .slice A_9 x_2.fList.length cap_9, .slice A_10 x_2.fKeys.length cap_10]) (j := 0) f p_13 rfl rfl (by simp [Value.oneCell', S]) (by simp) (by decide) (cs' := #[.int .i8 x_2.fKind, .bool x_2.fBool, .int .i64 x_2.fNum, S x_2.fText, .slice A_9 x_2.fList.length cap_9, .slice A_10 x_2.fKeys.length cap_10]) fun w_8 p_14 _ f => eT (R_seq (RR (Y f 1 fun _ f => Y15 f p_14 (fzu (hM_2.trans hM_3) hc_2) 0 rfl fun _ f => Y f 1 fun _ f => eT (RcF f hF_4 (fun h_8 hF_5 => ?_) fun h_8 hF_8 => ?_))))
   ·have k_2 := dI.1 h_8
    refine RR (Y f 1 fun _ f => Z f (Y31 (v := .slice A_5 s_1.2.1.length cap_5) rfl (ad := ⟨b_3, 4, none⟩) (p_14.ownCell 3 rfl 4)) fun _ f => Z (v := .agg #[.int .i8 x_2.fKind, .bool x_2.fBool, .int .i64 x_2.fNum, S x_2.fText, .slice A_9 x_2.fList.length cap_9, .slice A_10 x_2.fKeys.length cap_10]) f (Y32 (cs := [.int .i8 x_2.fKind, .bool x_2.fBool, .int .i64 x_2.fNum, S x_2.fText, .slice A_9 x_2.fList.length cap_9, .slice A_10 x_2.fKeys.length cap_10]) rfl (ad := ⟨b_5, 0, none⟩) (own_cells (p_14.ownCell 0 rfl) 0 rfl)) fun _ f => V_allocS (k := 1) (c := 1) f p_14 (.cells #[.int .i8 x_2.fKind, .bool x_2.fBool, .int .i64 x_2.fNum, S x_2.fText, .slice A_9 x_2.fList.length cap_9, .slice A_10 x_2.fKeys.length cap_10] 33 (0, 0)) (by kernel_rfl) (fun _ => by kernel_rfl) fun b_6 w_9 p_15 _ f => ?_)
    have p_16 := p_15.pl [2]
    obtain ⟨g_1, hF_6⟩ := nS hF_5
    refine Y20 (z := .agg #[.int .i8 0, .bool false, .int .i64 0, S [], .slice none 0 0, .slice none 0 0]) (f := emb_TB0) (xs := s_1.2.1) (ys := [(⟨x_2.fKind, (x_2.fBool), x_2.fNum, x_2.fText, x_2.fList, x_2.fKeys⟩ : TB0)]) (news := [.int .i8 x_2.fKind, .bool x_2.fBool, .int .i64 x_2.fNum, S x_2.fText, .slice A_9 x_2.fList.length cap_9, .slice A_10 x_2.fKeys.length cap_10]) (ad := ⟨b_6, 0, none⟩) (m := 1) (c := 1) f p_16 (RepSeq.mono hM_3 _ _ hr_3) (by exact ⟨_, _, rfl, TB0.shut h_6 h_7, rfl⟩) rfl rfl rfl rfl (own_cells (p_16.ownCell 1 rfl) 0 rfl) (by exact g_1) (by have hg_ := g_1; first | omega | (simp only [List.length_cons, List.length_nil] at *; omega)) fun A_11 cap_11 cs_3 w_10 p_17 hr_7 _ f => ?_
    have p_18 := p_17.pl [1]
    have p_19 := p_18.drop
    refine Y f 1 fun _ f => Y27 f p_19 3 rfl rfl (b := b_3) (j := 4) (v := .slice A_11 (s_1.2.1 ++ [(⟨x_2.fKind, (x_2.fBool), x_2.fNum, x_2.fText, x_2.fList, x_2.fKeys⟩ : TB0)]).length cap_11) rfl (by exact rfl) (by simp) (by simp) ((Ent.row 33 6 (.slice A_11 (s_1.2.1 ++ [(⟨x_2.fKind, (x_2.fBool), x_2.fNum, x_2.fText, x_2.fList, x_2.fKeys⟩ : TB0)]).length cap_11) (s_1.2.1 ++ [(⟨x_2.fKind, (x_2.fBool), x_2.fNum, x_2.fText, x_2.fList, x_2.fKeys⟩ : TB0)]).length cs_3) :: (Ent.obj b_5 (.cells #[.int .i8 x_2.fKind, .bool x_2.fBool, .int .i64 x_2.fNum, S x_2.fText, .slice A_9 x_2.fList.length cap_9, .slice A_10 x_2.fKeys.length cap_10] 33 (0, 0))) :: (Ent.row 9 1 (.slice A_6 s_1.2.2.length cap_6) s_1.2.2.length cs_2) :: (Ent.obj b_3 (.cells #[.int .i8 d0.fKind, .bool d0.fBool, .int .i64 d0.fNum, S d0.fText, .slice A_11 (s_1.2.1 ++ [(⟨x_2.fKind, (x_2.fBool), x_2.fNum, x_2.fText, x_2.fList, x_2.fKeys⟩ : TB0)]).length cap_11, .slice A_6 s_1.2.2.length cap_6] 33 (0, 0))) :: (Ent.obj b_2 (.cells #[.int .i8 0, .bool false, .int .i64 0, S [], .slice none 0 0, .slice none 0 0] 33 (0, 0))) :: H) rfl fun w_11 p_20 _ f => eT (wp_exit (T_x (B_x (T_n (R_reg (Y f 1 fun _ f => ?_))))))
    obtain ⟨g_2, hF_7⟩ := nS hF_6
    refine Y f 1 fun _ f => ?_
    have f := f.st 24 (congrArg (Value.int .i64) (inR_wrap g_2))
    refine Y f 1 fun _ f => W_end rfl ?_
    have p_127 := p_20.pl [4, 4, 4, 3, 4]
    refine T_n ?_
    obtain rfl := sI hF_7
    exact ⟨⟨m_2, (s_1.1 + 1, s_1.2.1 ++ [(⟨x_2.fKind, (x_2.fBool), x_2.fNum, x_2.fText, x_2.fList, x_2.fKeys⟩ : TB0)], s_1.2.2), A_11, cap_11, cs_3, A_6, cap_6, cs_2⟩, Nat.lt_succ_self _, M_3, (hM_2.trans hM_3), ⟨hn_1, hr_7, (RepSeq.mono hM_3 _ _ hr_4)⟩, f.kp, (p_127.dropN 1)⟩
   ·have k_3 := iff_f dI h_8
    refine wp_skip (T_n (RR (Y f 1 fun _ f => eT (R_seq (wp_block ?_)))))
    obtain ⟨b_7, hL_2, hF_9⟩ := bS hF_8
    refine wp_mono (Q := fun e a w => (e = .exit 2 ∧ (∃ y_1 : Int, b_7 = y_1 ∧ ∃ M_5 : Mem, M_3.le M_5 ∧ Frm 97 [(1, .pointer (some (⟨b_1, 0, none⟩))), (2, .pointer (some (⟨b_2, 0, none⟩))), (3, .pointer (some (⟨b_3, 0, none⟩))), (4, .int .i64 s_1.1), (5, .pointer (some (⟨b_5, 0, none⟩))), (6, .int .i64 y_1)] a ∧ Hp w0 M_5 ((Ent.obj b_5 (.cells #[.int .i8 x_2.fKind, .bool x_2.fBool, .int .i64 x_2.fNum, S x_2.fText, .slice A_9 x_2.fList.length cap_9, .slice A_10 x_2.fKeys.length cap_10] 33 (0, 0))) :: (Ent.row 33 6 (.slice A_5 s_1.2.1.length cap_5) s_1.2.1.length cs_1) :: (Ent.row 9 1 (.slice A_6 s_1.2.2.length cap_6) s_1.2.2.length cs_2) :: (Ent.obj b_3 (.cells #[.int .i8 d0.fKind, .bool d0.fBool, .int .i64 d0.fNum, S d0.fText, .slice A_5 s_1.2.1.length cap_5, .slice A_6 s_1.2.2.length cap_6] 33 (0, 0))) :: (Ent.obj b_2 (.cells #[.int .i8 0, .bool false, .int .i64 0, S [], .slice none 0 0, .slice none 0 0] 33 (0, 0))) :: H) w))) (R_loop (n := 97) (w0 := w0) (M := M_3) (fun (x : Nat × Int) => match x with | (m_3, s_2) => [(1, .pointer (some (⟨b_1, 0, none⟩))), (2, .pointer (some (⟨b_2, 0, none⟩))), (3, .pointer (some (⟨b_3, 0, none⟩))), (4, .int .i64 s_1.1), (5, .pointer (some (⟨b_5, 0, none⟩))), (6, .int .i64 s_2)]) (fun (x : Nat × Int) => match x with | (m_3, s_2) => ((Ent.obj b_5 (.cells #[.int .i8 x_2.fKind, .bool x_2.fBool, .int .i64 x_2.fNum, S x_2.fText, .slice A_9 x_2.fList.length cap_9, .slice A_10 x_2.fKeys.length cap_10] 33 (0, 0))) :: (Ent.row 33 6 (.slice A_5 s_1.2.1.length cap_5) s_1.2.1.length cs_1) :: (Ent.row 9 1 (.slice A_6 s_1.2.2.length cap_6) s_1.2.2.length cs_2) :: (Ent.obj b_3 (.cells #[.int .i8 d0.fKind, .bool d0.fBool, .int .i64 d0.fNum, S d0.fText, .slice A_5 s_1.2.1.length cap_5, .slice A_6 s_1.2.2.length cap_6] 33 (0, 0))) :: (Ent.obj b_2 (.cells #[.int .i8 0, .bool false, .int .i64 0, S [], .slice none 0 0, .slice none 0 0] 33 (0, 0))) :: H)) (fun (x : Nat × Int) (MM : Mem) => match x with | (m_3, s_2) => loopF (ref03_sorted_s2 n d0 s_1) m_3 s_2 = some b_7) (fun (x : Nat × Int) => match x with | (m_3, s_2) => m_3) (n, (0 : Int)) (f.kp) p_14 hL_2 ?_) ?_
    ·rintro ⟨m_3, s_2⟩ M_4 _ w_12 hM_4 I_2 f p_21
     have I_2L := I_2
     obtain ⟨m_4, r_2, rfl, hs_2, hn_2⟩ := loop_step I_2L
     unfold ref03_sorted_s2 at hs_2
     refine R_seq (R_seq (R_draw p_21 (by kernel_rfl) (by kernel_rfl) (Y5 default f 2 fun _ f => Y2 (v := .slice A_6 s_1.2.2.length cap_6) f (fun _ pq => Y31 (v := .slice A_6 s_1.2.2.length cap_6) rfl (ad := ⟨b_3, 5, none⟩) (pq.ownCell 3 rfl 5)) fun _ f => Y5 default f 3 fun _ f => ?_)))
     rcases cE hs_2 with ⟨h_9, hF_10⟩ | ⟨h_9, hF_16⟩
     ·have k_4 := dI.1 h_9
      have f := f.st 45 (cB h_9)
      refine Y5 default f 1 fun _ f => Y2 (v := .slice A_6 s_1.2.2.length cap_6) f (fun _ pq => Y31 (v := .slice A_6 s_1.2.2.length cap_6) rfl (ad := ⟨b_3, 5, none⟩) (pq.ownCell 3 rfl 5)) fun _ f => Y5 default f 1 fun _ f => ?_
      obtain ⟨x_3, hx_3, hF_11⟩ := bS hF_10
      obtain ⟨b_8, cap_12, hv_3, hcap_1⟩ := p_21.rowAddr 2 rfl (getI_pos hx_3)
      have f := f.st 47 (hv_3)
      refine Y2 (v := .pointer (some ((⟨b_8, 0, none⟩ : Addr).add (s_2.toNat * 1)))) f (fun _ pq => Y29 rfl (ad := ⟨b_8, 0, none⟩) (len := s_1.2.2.length) (cap := cap_12) (k := .i64) (i := s_2) (e := 9) (sz := 1) (getI_nn hx_3) (getI_lt hx_3)) fun _ f => ?_
      have f := f.st 47 (hv_3.symm)
      obtain ⟨c_3, -, hr_8, hc_4⟩ := RepSeq.get s_2.toNat (szd_all szd_str) (RepSeq.mono (hM_3.trans hM_4) _ _ hr_4) (getI_map hx_3)
      obtain rfl : c_3 = [S x_3] := hr_8
      refine Y2 (v := S x_3) f (fun _ pq => Y31 (v := S x_3) rfl (ad := (⟨b_8, 0, none⟩ : Addr).add (s_2.toNat * 1)) (by simpa [Addr.add] using (fun j v h => row_at (pq.rowCell 2 rfl hv_3) hc_4 j v h) 0 _ rfl)) fun _ f => Y5 default f 1 fun _ f => Y4 f (fzu ((hM_2.trans hM_3).trans hM_4) hc_2) 5 rfl fun _ f => Y5 default f 1 fun _ f => ?_
      obtain ⟨x_4, hx_4, hF_12⟩ := bS hF_11
      obtain ⟨ad_2, c_4, e_2, -, hr_9, hc_5⟩ := Sli.at_ (h_2.mono (((hM_1.trans hM_2).trans hM_3).trans hM_4)) hx_4
      obtain rfl : c_4 = [S x_4] := hr_9
      refine Y2 (v := .pointer (some (ad_2.add (s_1.1.toNat * 1)))) f (fun _ pq => Y30 e_2 rfl (len := d0.fKeys.length) (cap := cap_2) (k := .i64) (i := s_1.1) (e := 9) (sz := 1) (getI_nn hx_4) (getI_lt hx_4)) fun _ f => Y4 f hc_5 0 rfl fun _ f => Y2 (v := .bool (Op.bytesLess x_3 x_4)) f (fun _ pq => X_strlt rfl (l := x_3) (m := x_4) (by kernel_rfl) (by kernel_rfl)) fun _ f => Y5 default f 1 fun _ f => Q_end rfl ?_
      intro w_13 p_22
      refine T_n (RcF f hF_12 (fun h_10 hF_13 => ?_) fun h_10 hF_15 => ?_)
      ·refine wp_skip (T_n (wp_block (R_reg (Y f 1 fun _ f => ?_))))
       obtain ⟨g_3, hF_14⟩ := nS hF_13
       refine Y f 1 fun _ f => ?_
       have f := f.st 59 (congrArg (Value.int .i64) (inR_wrap g_3))
       refine Y f 1 fun _ f => W_end rfl (B_n (T_n ?_))
       obtain rfl := sI hF_14
       exact ⟨⟨m_4, s_2 + 1⟩, Nat.lt_succ_self _, M_4, hM_4, hn_2, f.kp, p_22⟩
      ·refine wp_exit (T_x (T_x ?_))
       obtain rfl := sI hF_15
       exact ⟨rfl, s_2, (sI hn_2).symm, M_4, hM_4, f.kp, p_22⟩
     ·have k_7 := iff_f dI h_9
      have f := f.st 45 (cB h_9)
      refine Y5 default f 12 fun _ f => Q_end rfl ?_
      intro w_14 p_23
      refine T_n (Y7 f (wp_exit (T_x (T_x ?_))))
      obtain rfl := sI hF_16
      exact ⟨rfl, s_2, (sI hn_2).symm, M_4, hM_4, f.kp, p_23⟩
    ·rintro _ _ w_16 ⟨rfl, y_1, hq_, M_5, hM_5, f, p_24⟩
     subst b_7
     refine B_x (T_n (RR (Y f 1 fun _ f => eT (RR (Y f 1 fun _ f => eT (RR (Y f 2 fun _ f => Z f (Y31 (v := .slice A_6 s_1.2.2.length cap_6) rfl (ad := ⟨b_3, 5, none⟩) (p_24.ownCell 3 rfl 5)) fun _ f => Y f 1 fun _ f => ?_)))))))
     obtain ⟨g_4, hF_17⟩ := nS hF_9
     obtain ⟨A_12, cap_13, hv_4, hcap_2, hcn_1⟩ := p_24.rowShape 2 rfl
     have f := f.st 62 (hv_4)
     refine Z f (Y34 rfl (A := A_12) (len := s_1.2.2.length) (cap := cap_13) (k := .i64) (a := y_1) (e := 9) (sz := 1) (by omega) (by omega)) fun _ f => ?_
     have f := f.st 62 (hv_4.symm)
     obtain ⟨A_13, cap_14, hv_5⟩ : ∃ A cap, Value.slice none 0 0 = .slice A ([] : List (List UInt8)).length cap := ⟨none, 0, rfl⟩
     have p_25 : Hp w0 M_5 ((Ent.row 9 1 (.slice A_13 ([] : List (List UInt8)).length cap_14) ([] : List (List UInt8)).length []) :: (Ent.obj b_5 (.cells #[.int .i8 x_2.fKind, .bool x_2.fBool, .int .i64 x_2.fNum, S x_2.fText, .slice A_9 x_2.fList.length cap_9, .slice A_10 x_2.fKeys.length cap_10] 33 (0, 0))) :: (Ent.row 33 6 (.slice A_5 s_1.2.1.length cap_5) s_1.2.1.length cs_1) :: (Ent.row 9 1 (.slice A_6 s_1.2.2.length cap_6) s_1.2.2.length cs_2) :: (Ent.obj b_3 (.cells #[.int .i8 d0.fKind, .bool d0.fBool, .int .i64 d0.fNum, S d0.fText, .slice A_5 s_1.2.1.length cap_5, .slice A_6 s_1.2.2.length cap_6] 33 (0, 0))) :: (Ent.obj b_2 (.cells #[.int .i8 0, .bool false, .int .i64 0, S [], .slice none 0 0, .slice none 0 0] 33 (0, 0))) :: H) w_16 := by rw [← hv_5]; exact p_24.nilRow 9 1
     have f := f.st 60 (hv_5)
     have hr_10 : RepSeq M_5 (([] : List (List UInt8)).map Dat.str) [] := rfl
     obtain ⟨g_5, hF_18⟩ := nS hF_17
     refine Y21 (z := S []) (f := Dat.str) (xs := ([] : List (List UInt8))) (ys := s_1.2.2) (lo := y_1.toNat) (hi := s_1.2.2.length) f p_25 szd_str hr_10 (RepSeq.mono (hM_3.trans hM_5) _ _ hr_4) 3 rfl hv_4 (by omega) (by omega) rfl rfl rfl g_5 (by omega) fun A_14 cap_15 cs_4 w_17 p_26 hr_11 _ f => Y f 1 fun _ f => eT (RR (Y f 2 fun _ f => Z f (Y31 (v := .slice A_5 s_1.2.1.length cap_5) rfl (ad := ⟨b_3, 4, none⟩) (p_26.ownCell 4 rfl 4)) fun _ f => Y f 1 fun _ f => ?_))
     obtain ⟨g_6, hF_19⟩ := nS hF_18
     obtain ⟨A_15, cap_16, hv_6, hcap_3, hcn_2⟩ := p_26.rowShape 2 rfl
     have f := f.st 68 (hv_6)
     refine Z f (Y34 rfl (A := A_15) (len := s_1.2.1.length) (cap := cap_16) (k := .i64) (a := y_1) (e := 33) (sz := 6) (by omega) (by omega)) fun _ f => ?_
     have f := f.st 68 (hv_6.symm)
     obtain ⟨A_16, cap_17, hv_7⟩ : ∃ A cap, Value.slice none 0 0 = .slice A ([] : List TB0).length cap := ⟨none, 0, rfl⟩
     have p_27 : Hp w0 M_5 ((Ent.row 33 6 (.slice A_16 ([] : List TB0).length cap_17) ([] : List TB0).length []) :: (Ent.row 9 1 (.slice A_14 (([] : List (List UInt8)) ++ (s_1.2.2.take s_1.2.2.length).drop y_1.toNat).length cap_15) (([] : List (List UInt8)) ++ (s_1.2.2.take s_1.2.2.length).drop y_1.toNat).length cs_4) :: (Ent.obj b_5 (.cells #[.int .i8 x_2.fKind, .bool x_2.fBool, .int .i64 x_2.fNum, S x_2.fText, .slice A_9 x_2.fList.length cap_9, .slice A_10 x_2.fKeys.length cap_10] 33 (0, 0))) :: (Ent.row 33 6 (.slice A_5 s_1.2.1.length cap_5) s_1.2.1.length cs_1) :: (Ent.row 9 1 (.slice A_6 s_1.2.2.length cap_6) s_1.2.2.length cs_2) :: (Ent.obj b_3 (.cells #[.int .i8 d0.fKind, .bool d0.fBool, .int .i64 d0.fNum, S d0.fText, .slice A_5 s_1.2.1.length cap_5, .slice A_6 s_1.2.2.length cap_6] 33 (0, 0))) :: (Ent.obj b_2 (.cells #[.int .i8 0, .bool false, .int .i64 0, S [], .slice none 0 0, .slice none 0 0] 33 (0, 0))) :: H) w_17 := by rw [← hv_7]; exact p_26.nilRow 33 6
     have f := f.st 66 (hv_7)
     have hr_12 : RepSeq M_5 (([] : List TB0).map emb_TB0) [] := rfl
     obtain ⟨g_7, hF_20⟩ := nS hF_19
     refine Y21 (z := .agg #[.int .i8 0, .bool false, .int .i64 0, S [], .slice none 0 0, .slice none 0 0]) (f := emb_TB0) (xs := ([] : List TB0)) (ys := s_1.2.1) (lo := y_1.toNat) (hi := s_1.2.1.length) f p_27 szd_TB0 hr_12 (RepSeq.mono (hM_3.trans hM_5) _ _ hr_3) 3 rfl hv_6 (by omega) (by omega) rfl rfl rfl g_7 (by omega) fun A_17 cap_18 cs_5 w_18 p_28 hr_13 _ f => Y f 1 fun _ f => eT (R_seq ?_)
     obtain ⟨j_1, hj_1, hF_21⟩ := bS hF_20
     refine R_mid (fun a_110 w_40 => ∃ y_2 : List (List UInt8), j_1 = y_2 ∧ ∃ M_9 : Mem, M_5.le M_9 ∧ ∃ (A_30 : Option Addr), ∃ (cap_31 : Nat), ∃ (cs_12 : List Value), RepSeq M_9 (y_2.map Dat.str) cs_12 ∧ Frm 97 [(1, .pointer (some (⟨b_1, 0, none⟩))), (2, .pointer (some (⟨b_2, 0, none⟩))), (3, .pointer (some (⟨b_3, 0, none⟩))), (4, .int .i64 s_1.1), (5, .pointer (some (⟨b_5, 0, none⟩))), (6, .int .i64 y_1), (8, .slice A_17 (([] : List TB0) ++ (s_1.2.1.take s_1.2.1.length).drop y_1.toNat).length cap_18)] a_110 ∧ Hp w0 M_9 ((Ent.row 9 1 (.slice A_30 y_2.length cap_31) y_2.length cs_12) :: (Ent.row 33 6 (.slice A_17 (([] : List TB0) ++ (s_1.2.1.take s_1.2.1.length).drop y_1.toNat).length cap_18) (([] : List TB0) ++ (s_1.2.1.take s_1.2.1.length).drop y_1.toNat).length cs_5) :: (Ent.obj b_5 (.cells #[.int .i8 x_2.fKind, .bool x_2.fBool, .int .i64 x_2.fNum, S x_2.fText, .slice A_9 x_2.fList.length cap_9, .slice A_10 x_2.fKeys.length cap_10] 33 (0, 0))) :: (Ent.row 33 6 (.slice A_5 s_1.2.1.length cap_5) s_1.2.1.length cs_1) :: (Ent.obj b_3 (.cells #[.int .i8 d0.fKind, .bool d0.fBool, .int .i64 d0.fNum, S d0.fText, .slice A_5 s_1.2.1.length cap_5, .slice A_30 y_2.length cap_31] 33 (0, 0))) :: (Ent.obj b_2 (.cells #[.int .i8 0, .bool false, .int .i64 0, S [], .slice none 0 0, .slice none 0 0] 33 (0, 0))) :: H) w_40) ?_ ?_
     ·have p_44 := p_28.pl [6, 6, 5, 5, 4, 6, 6]
      obtain ⟨x_5, hx_5, hF_22⟩ := bS hj_1
      obtain ⟨g_8, hF_23⟩ := nS hF_22
      obtain ⟨g_9, hF_24⟩ := nS hF_23
      obtain ⟨g_10, hF_25⟩ := nS hF_24
      refine R_plan (ks := [13, 14]) (E := [Ent.row 9 1 (.slice A_14 (([] : List (List UInt8)) ++ (s_1.2.2.take s_1.2.2.length).drop y_1.toNat).length cap_15) (([] : List (List UInt8)) ++ (s_1.2.2.take s_1.2.2.length).drop y_1.toNat).length cs_4, Ent.row 9 1 (.slice A_6 s_1.2.2.length cap_6) s_1.2.2.length cs_2]) (Hr := ((Ent.row 33 6 (.slice A_17 (([] : List TB0) ++ (s_1.2.1.take s_1.2.1.length).drop y_1.toNat).length cap_18) (([] : List TB0) ++ (s_1.2.1.take s_1.2.1.length).drop y_1.toNat).length cs_5) :: (Ent.obj b_5 (.cells #[.int .i8 x_2.fKind, .bool x_2.fBool, .int .i64 x_2.fNum, S x_2.fText, .slice A_9 x_2.fList.length cap_9, .slice A_10 x_2.fKeys.length cap_10] 33 (0, 0))) :: (Ent.row 33 6 (.slice A_5 s_1.2.1.length cap_5) s_1.2.1.length cs_1) :: (Ent.obj b_3 (.cells #[.int .i8 d0.fKind, .bool d0.fBool, .int .i64 d0.fNum, S d0.fText, .slice A_5 s_1.2.1.length cap_5, .slice A_6 s_1.2.2.length cap_6] 33 (0, 0))) :: (Ent.obj b_2 (.cells #[.int .i8 0, .bool false, .int .i64 0, S [], .slice none 0 0, .slice none 0 0] 33 (0, 0))) :: H)) (.quiet 0 (.quiet 1 (.quiet 2 (.quiet 4 (.quiet 5 (.quiet 6 (.quiet 7 (.quiet 8 (.quiet 11 (.alt 3 (.alt 9 (.alt 10 (.alt 12 .done .none) .none) .none) (.alt 9 (.alt 3 (.alt 10 (.alt 12 .done .none) .none) .none) .none))))))))))) p_44 (by kernel_rfl) (by kernel_rfl) (by kernel_rfl) (Y1 (v := .pointer (some (⟨b_3, 5, none⟩))) rfl f rfl rfl (fun _ _ => by kernel_rfl) fun _ f => Y1 (v := .slice A_6 s_1.2.2.length cap_6) rfl f rfl rfl (fun _ pq => Y31 (v := .slice A_6 s_1.2.2.length cap_6) rfl (ad := ⟨b_3, 5, none⟩) (pq.ownCell 3 rfl 5)) fun _ f => Y1 (v := .int .i64 y_1) rfl f rfl rfl (fun _ _ => by kernel_rfl) fun _ f => Y1 (v := .pointer (some ((⟨b_1, 0, none⟩ : Addr).add 5))) rfl f rfl rfl (fun _ _ => by kernel_rfl) fun _ f => Y1 (v := .slice A_2 d0.fKeys.length cap_2) rfl f rfl rfl (fun _ pq => Y31 (v := .slice A_2 d0.fKeys.length cap_2) rfl (ad := (⟨b_1, 0, none⟩ : Addr).add 5) (pq.cell ((fzu ((hM_2.trans hM_3).trans hM_5) hc_2) 5 _ rfl))) fun _ f => Y1 (v := .int .i64 s_1.1) rfl f rfl rfl (fun _ _ => by kernel_rfl) fun _ f => ?_)
      obtain ⟨ad_4, c_6, e_4, -, hr_18, hc_7⟩ := Sli.at_ (h_2.mono (((hM_1.trans hM_2).trans hM_3).trans hM_5)) hx_5
      obtain rfl : c_6 = [S x_5] := hr_18
      refine Y1 (v := .pointer (some (ad_4.add (s_1.1.toNat * 1)))) rfl f rfl rfl (fun _ pq => Y30 e_4 rfl (len := d0.fKeys.length) (cap := cap_2) (k := .i64) (i := s_1.1) (e := 9) (sz := 1) (getI_nn hx_5) (getI_lt hx_5)) fun _ f => Y1 (v := S x_5) rfl f rfl rfl (fun _ pq => Y31 (v := S x_5) rfl (ad := ad_4.add (s_1.1.toNat * 1)) (pq.cell (hc_7 0 _ rfl))) fun _ f => Y1 (v := .slice A_14 (([] : List (List UInt8)) ++ (s_1.2.2.take s_1.2.2.length).drop y_1.toNat).length cap_15) rfl f rfl rfl (fun _ _ => by kernel_rfl) fun _ f => N_alt rfl (fun w_22 p_45 => ?_) ?_
      ·obtain ⟨A_22, cap_23, hv_10, hcap_5, hcn_4⟩ := p_45.rowShape 1 rfl
       have f := f.st 73 (hv_10)
       refine Z f (Y35 rfl (A := A_22) (len := s_1.2.2.length) (cap := cap_23) (k' := .i64) (b := y_1) (e := 9) (sz := 1) (by omega) (by omega)) fun _ f => ?_
       have f := f.st 73 (hv_10.symm)
       refine W_end rfl (N_goN 2 (mR _) p_45 rfl (N_alt rfl (fun w_23 p_46 => ?_) ?_))
       ·refine V_allocS (k := 1) (c := 1) f p_46 (.cells #[S x_5] 9 (0, 0)) (by kernel_rfl) (fun _ => by kernel_rfl) fun b_10 w_24 p_47 _ f => W_end rfl (N_goN 3 (mR _) p_47 rfl (N_alt rfl (fun w_25 p_48 => ?_) ?_))
        ·have p_49 := p_48.pl [2]
         have hr_19 : RepSeq M_5 ((s_1.2.2.take y_1.toNat).map Dat.str) (cs_2.take (y_1.toNat * 1)) := by rw [List.map_take]; exact RepSeq.takeD _ (szd_all szd_str) (RepSeq.mono (hM_3.trans hM_5) _ _ hr_4)
         have hl_7 : (s_1.2.2.take y_1.toNat).length = y_1.toNat := by rw [List.length_take]; omega
         have p_50 : Hp w0 M_5 ((Ent.row 9 1 (.slice (cutA A_22 1 0 cap_23) (s_1.2.2.take y_1.toNat).length cap_23) (s_1.2.2.take y_1.toNat).length (cs_2.take (y_1.toNat * 1))) :: (Ent.obj b_10 (.cells #[S x_5] 9 (0, 0))) :: (Ent.row 9 1 (.slice A_14 (([] : List (List UInt8)) ++ (s_1.2.2.take s_1.2.2.length).drop y_1.toNat).length cap_15) (([] : List (List UInt8)) ++ (s_1.2.2.take s_1.2.2.length).drop y_1.toNat).length cs_4) :: (Ent.row 33 6 (.slice A_17 (([] : List TB0) ++ (s_1.2.1.take s_1.2.1.length).drop y_1.toNat).length cap_18) (([] : List TB0) ++ (s_1.2.1.take s_1.2.1.length).drop y_1.toNat).length cs_5) :: (Ent.obj b_5 (.cells #[.int .i8 x_2.fKind, .bool x_2.fBool, .int .i64 x_2.fNum, S x_2.fText, .slice A_9 x_2.fList.length cap_9, .slice A_10 x_2.fKeys.length cap_10] 33 (0, 0))) :: (Ent.row 33 6 (.slice A_5 s_1.2.1.length cap_5) s_1.2.1.length cs_1) :: (Ent.obj b_3 (.cells #[.int .i8 d0.fKind, .bool d0.fBool, .int .i64 d0.fNum, S d0.fText, .slice A_5 s_1.2.1.length cap_5, .slice A_6 s_1.2.2.length cap_6] 33 (0, 0))) :: (Ent.obj b_2 (.cells #[.int .i8 0, .bool false, .int .i64 0, S [], .slice none 0 0, .slice none 0 0] 33 (0, 0))) :: H) w_25 := by rw [hl_7]; exact p_49.rowFront hv_10 (by omega)
         have f := Frm.set f 75 (v := .slice (cutA A_22 1 0 cap_23) y_1.toNat cap_23) (v' := .slice (cutA A_22 1 0 cap_23) (s_1.2.2.take y_1.toNat).length cap_23) (by kernel_rfl) (by rw [hl_7])
         refine Y20 (z := S []) (f := Dat.str) (xs := s_1.2.2.take y_1.toNat) (ys := [x_5]) (news := [S x_5]) (ad := ⟨b_10, 0, none⟩) (m := 1) (c := 1) f p_50 hr_19 (by exact ⟨_, _, rfl, rfl, rfl⟩) rfl rfl rfl rfl (own_cells (p_50.ownCell 1 rfl) 0 rfl) (by exact g_9) (by have hg_ := g_9; first | omega | (simp only [List.length_cons, List.length_nil] at *; omega)) fun A_23 cap_24 cs_8 w_26 p_51 hr_20 _ f => ?_
         have p_52 := p_51.pl [1]
         have p_53 := p_52.drop
         refine W_end rfl (N_goN 2 (mR _) p_53 rfl (N_alt rfl (fun w_27 p_54 => ?_) ?_))
         ·have p_55 := p_54.pl [1]
          obtain ⟨A_24, cap_25, M_7, hv_11, hM_7, p_56, h_12⟩ := p_55.rowSli (f := Dat.str) (xs := ([] : List (List UInt8)) ++ (s_1.2.2.take s_1.2.2.length).drop y_1.toNat) szd_str hr_11
          have f := f.st 83 (hv_11)
          refine Y22 (z := S []) (f := Dat.str) (xs := (s_1.2.2.take y_1.toNat) ++ [x_5]) (ys := ([] : List (List UInt8)) ++ (s_1.2.2.take s_1.2.2.length).drop y_1.toNat) (c := cap_25) f p_56 (RepSeq.mono hM_7 _ _ hr_20) h_12 rfl rfl rfl g_10 (by omega) fun A_25 cap_26 cs_9 w_28 p_57 hr_21 _ f => W_end rfl (N_goN 1 hM_7 p_57 rfl (N_tail fun w_29 p_58 => Y f 1 fun _ f => Y27 f p_58 4 rfl rfl (b := b_3) (j := 5) (v := .slice A_25 (((s_1.2.2.take y_1.toNat) ++ [x_5]) ++ (([] : List (List UInt8)) ++ (s_1.2.2.take s_1.2.2.length).drop y_1.toNat)).length cap_26) rfl (by exact rfl) (by simp) (by simp) ((Ent.row 9 1 (.slice A_25 (((s_1.2.2.take y_1.toNat) ++ [x_5]) ++ (([] : List (List UInt8)) ++ (s_1.2.2.take s_1.2.2.length).drop y_1.toNat)).length cap_26) (((s_1.2.2.take y_1.toNat) ++ [x_5]) ++ (([] : List (List UInt8)) ++ (s_1.2.2.take s_1.2.2.length).drop y_1.toNat)).length cs_9) :: (Ent.row 33 6 (.slice A_17 (([] : List TB0) ++ (s_1.2.1.take s_1.2.1.length).drop y_1.toNat).length cap_18) (([] : List TB0) ++ (s_1.2.1.take s_1.2.1.length).drop y_1.toNat).length cs_5) :: (Ent.obj b_5 (.cells #[.int .i8 x_2.fKind, .bool x_2.fBool, .int .i64 x_2.fNum, S x_2.fText, .slice A_9 x_2.fList.length cap_9, .slice A_10 x_2.fKeys.length cap_10] 33 (0, 0))) :: (Ent.row 33 6 (.slice A_5 s_1.2.1.length cap_5) s_1.2.1.length cs_1) :: (Ent.obj b_3 (.cells #[.int .i8 d0.fKind, .bool d0.fBool, .int .i64 d0.fNum, S d0.fText, .slice A_5 s_1.2.1.length cap_5, .slice A_25 (((s_1.2.2.take y_1.toNat) ++ [x_5]) ++ (([] : List (List UInt8)) ++ (s_1.2.2.take s_1.2.2.length).drop y_1.toNat)).length cap_26] 33 (0, 0))) :: (Ent.obj b_2 (.cells #[.int .i8 0, .bool false, .int .i64 0, S [], .slice none 0 0, .slice none 0 0] 33 (0, 0))) :: H) rfl fun w_30 p_59 _ f => W_end rfl (N_te (T_n ?_))))
          exact ⟨((s_1.2.2.take y_1.toNat) ++ [x_5]) ++ (([] : List (List UInt8)) ++ (s_1.2.2.take s_1.2.2.length).drop y_1.toNat), (sI hF_25).symm, M_7, hM_7, A_25, cap_26, cs_9, hr_21, f.kp, p_59⟩
         exact N_none
        exact N_none
       exact N_none
      refine N_alt rfl (fun w_31 p_60 => ?_) ?_
      ·refine V_allocS (k := 1) (c := 1) f p_60 (.cells #[S x_5] 9 (0, 0)) (by kernel_rfl) (fun _ => by kernel_rfl) fun b_11 w_32 p_61 _ f => W_end rfl (N_goN 3 (mR _) p_61 rfl (N_alt rfl (fun w_33 p_62 => ?_) ?_))
       ·obtain ⟨A_26, cap_27, hv_12, hcap_6, hcn_5⟩ := p_62.rowShape 2 rfl
        have f := f.st 73 (hv_12)
        refine Z f (Y35 rfl (A := A_26) (len := s_1.2.2.length) (cap := cap_27) (k' := .i64) (b := y_1) (e := 9) (sz := 1) (by omega) (by omega)) fun _ f => ?_
        have f := f.st 73 (hv_12.symm)
        refine W_end rfl (N_goN 3 (mR _) p_62 rfl (N_alt rfl (fun w_34 p_63 => ?_) ?_))
        ·have p_64 := p_63.pl [2]
         have hr_22 : RepSeq M_5 ((s_1.2.2.take y_1.toNat).map Dat.str) (cs_2.take (y_1.toNat * 1)) := by rw [List.map_take]; exact RepSeq.takeD _ (szd_all szd_str) (RepSeq.mono (hM_3.trans hM_5) _ _ hr_4)
         have hl_8 : (s_1.2.2.take y_1.toNat).length = y_1.toNat := by rw [List.length_take]; omega
         have p_65 : Hp w0 M_5 ((Ent.row 9 1 (.slice (cutA A_26 1 0 cap_27) (s_1.2.2.take y_1.toNat).length cap_27) (s_1.2.2.take y_1.toNat).length (cs_2.take (y_1.toNat * 1))) :: (Ent.obj b_11 (.cells #[S x_5] 9 (0, 0))) :: (Ent.row 9 1 (.slice A_14 (([] : List (List UInt8)) ++ (s_1.2.2.take s_1.2.2.length).drop y_1.toNat).length cap_15) (([] : List (List UInt8)) ++ (s_1.2.2.take s_1.2.2.length).drop y_1.toNat).length cs_4) :: (Ent.row 33 6 (.slice A_17 (([] : List TB0) ++ (s_1.2.1.take s_1.2.1.length).drop y_1.toNat).length cap_18) (([] : List TB0) ++ (s_1.2.1.take s_1.2.1.length).drop y_1.toNat).length cs_5) :: (Ent.obj b_5 (.cells #[.int .i8 x_2.fKind, .bool x_2.fBool, .int .i64 x_2.fNum, S x_2.fText, .slice A_9 x_2.fList.length cap_9, .slice A_10 x_2.fKeys.length cap_10] 33 (0, 0))) :: (Ent.row 33 6 (.slice A_5 s_1.2.1.length cap_5) s_1.2.1.length cs_1) :: (Ent.obj b_3 (.cells #[.int .i8 d0.fKind, .bool d0.fBool, .int .i64 d0.fNum, S d0.fText, .slice A_5 s_1.2.1.length cap_5, .slice A_6 s_1.2.2.length cap_6] 33 (0, 0))) :: (Ent.obj b_2 (.cells #[.int .i8 0, .bool false, .int .i64 0, S [], .slice none 0 0, .slice none 0 0] 33 (0, 0))) :: H) w_34 := by rw [hl_8]; exact p_64.rowFront hv_12 (by omega)
         have f := Frm.set f 75 (v := .slice (cutA A_26 1 0 cap_27) y_1.toNat cap_27) (v' := .slice (cutA A_26 1 0 cap_27) (s_1.2.2.take y_1.toNat).length cap_27) (by kernel_rfl) (by rw [hl_8])
         refine Y20 (z := S []) (f := Dat.str) (xs := s_1.2.2.take y_1.toNat) (ys := [x_5]) (news := [S x_5]) (ad := ⟨b_11, 0, none⟩) (m := 1) (c := 1) f p_65 hr_22 (by exact ⟨_, _, rfl, rfl, rfl⟩) rfl rfl rfl rfl (own_cells (p_65.ownCell 1 rfl) 0 rfl) (by exact g_9) (by have hg_ := g_9; first | omega | (simp only [List.length_cons, List.length_nil] at *; omega)) fun A_27 cap_28 cs_10 w_35 p_66 hr_23 _ f => ?_
         have p_67 := p_66.pl [1]
         have p_68 := p_67.drop
         refine W_end rfl (N_goN 2 (mR _) p_68 rfl (N_alt rfl (fun w_36 p_69 => ?_) ?_))
         ·have p_70 := p_69.pl [1]
          obtain ⟨A_28, cap_29, M_8, hv_13, hM_8, p_71, h_13⟩ := p_70.rowSli (f := Dat.str) (xs := ([] : List (List UInt8)) ++ (s_1.2.2.take s_1.2.2.length).drop y_1.toNat) szd_str hr_11
          have f := f.st 83 (hv_13)
          refine Y22 (z := S []) (f := Dat.str) (xs := (s_1.2.2.take y_1.toNat) ++ [x_5]) (ys := ([] : List (List UInt8)) ++ (s_1.2.2.take s_1.2.2.length).drop y_1.toNat) (c := cap_29) f p_71 (RepSeq.mono hM_8 _ _ hr_23) h_13 rfl rfl rfl g_10 (by omega) fun A_29 cap_30 cs_11 w_37 p_72 hr_24 _ f => W_end rfl (N_goN 1 hM_8 p_72 rfl (N_tail fun w_38 p_73 => Y f 1 fun _ f => Y27 f p_73 4 rfl rfl (b := b_3) (j := 5) (v := .slice A_29 (((s_1.2.2.take y_1.toNat) ++ [x_5]) ++ (([] : List (List UInt8)) ++ (s_1.2.2.take s_1.2.2.length).drop y_1.toNat)).length cap_30) rfl (by exact rfl) (by simp) (by simp) ((Ent.row 9 1 (.slice A_29 (((s_1.2.2.take y_1.toNat) ++ [x_5]) ++ (([] : List (List UInt8)) ++ (s_1.2.2.take s_1.2.2.length).drop y_1.toNat)).length cap_30) (((s_1.2.2.take y_1.toNat) ++ [x_5]) ++ (([] : List (List UInt8)) ++ (s_1.2.2.take s_1.2.2.length).drop y_1.toNat)).length cs_11) :: (Ent.row 33 6 (.slice A_17 (([] : List TB0) ++ (s_1.2.1.take s_1.2.1.length).drop y_1.toNat).length cap_18) (([] : List TB0) ++ (s_1.2.1.take s_1.2.1.length).drop y_1.toNat).length cs_5) :: (Ent.obj b_5 (.cells #[.int .i8 x_2.fKind, .bool x_2.fBool, .int .i64 x_2.fNum, S x_2.fText, .slice A_9 x_2.fList.length cap_9, .slice A_10 x_2.fKeys.length cap_10] 33 (0, 0))) :: (Ent.row 33 6 (.slice A_5 s_1.2.1.length cap_5) s_1.2.1.length cs_1) :: (Ent.obj b_3 (.cells #[.int .i8 d0.fKind, .bool d0.fBool, .int .i64 d0.fNum, S d0.fText, .slice A_5 s_1.2.1.length cap_5, .slice A_29 (((s_1.2.2.take y_1.toNat) ++ [x_5]) ++ (([] : List (List UInt8)) ++ (s_1.2.2.take s_1.2.2.length).drop y_1.toNat)).length cap_30] 33 (0, 0))) :: (Ent.obj b_2 (.cells #[.int .i8 0, .bool false, .int .i64 0, S [], .slice none 0 0, .slice none 0 0] 33 (0, 0))) :: H) rfl fun w_39 p_74 _ f => W_end rfl (N_te (T_n ?_))))
          exact ⟨((s_1.2.2.take y_1.toNat) ++ [x_5]) ++ (([] : List (List UInt8)) ++ (s_1.2.2.take s_1.2.2.length).drop y_1.toNat), (sI hF_25).symm, M_8, hM_8, A_29, cap_30, cs_11, hr_24, f.kp, p_74⟩
         exact N_none
        exact N_none
       exact N_none
      exact N_none
     ·rintro a_110 w_40 ⟨y_2, hq_1, M_9, hM_9, A_30, cap_31, cs_12, hr_25, f, p_75⟩
      subst j_1
      refine T_n ?_
      obtain ⟨j_2, hj_2, hF_26⟩ := bS hF_21
      refine R_mid (fun a_137 w_62 => ∃ y_3 : List TB0, j_2 = y_3 ∧ ∃ M_13 : Mem, M_9.le M_13 ∧ ∃ (A_43 : Option Addr), ∃ (cap_44 : Nat), ∃ (cs_19 : List Value), RepSeq M_13 (y_3.map emb_TB0) cs_19 ∧ Frm 97 [(1, .pointer (some (⟨b_1, 0, none⟩))), (2, .pointer (some (⟨b_2, 0, none⟩))), (3, .pointer (some (⟨b_3, 0, none⟩))), (4, .int .i64 s_1.1)] a_137 ∧ Hp w0 M_13 ((Ent.row 33 6 (.slice A_43 y_3.length cap_44) y_3.length cs_19) :: (Ent.row 9 1 (.slice A_30 y_2.length cap_31) y_2.length cs_12) :: (Ent.obj b_5 (.cells #[.int .i8 x_2.fKind, .bool x_2.fBool, .int .i64 x_2.fNum, S x_2.fText, .slice A_9 x_2.fList.length cap_9, .slice A_10 x_2.fKeys.length cap_10] 33 (0, 0))) :: (Ent.obj b_3 (.cells #[.int .i8 d0.fKind, .bool d0.fBool, .int .i64 d0.fNum, S d0.fText, .slice A_43 y_3.length cap_44, .slice A_30 y_2.length cap_31] 33 (0, 0))) :: (Ent.obj b_2 (.cells #[.int .i8 0, .bool false, .int .i64 0, S [], .slice none 0 0, .slice none 0 0] 33 (0, 0))) :: H) w_62) ?_ ?_
      ·have p_90 := p_75.pl [5, 5, 4, 3, 5, 5]
       obtain ⟨g_11, hF_27⟩ := nS hj_2
       obtain ⟨g_12, hF_28⟩ := nS hF_27
       obtain ⟨g_13, hF_29⟩ := nS hF_28
       refine R_plan (ks := [9, 10]) (E := [Ent.row 33 6 (.slice A_17 (([] : List TB0) ++ (s_1.2.1.take s_1.2.1.length).drop y_1.toNat).length cap_18) (([] : List TB0) ++ (s_1.2.1.take s_1.2.1.length).drop y_1.toNat).length cs_5, Ent.row 33 6 (.slice A_5 s_1.2.1.length cap_5) s_1.2.1.length cs_1]) (Hr := ((Ent.row 9 1 (.slice A_30 y_2.length cap_31) y_2.length cs_12) :: (Ent.obj b_5 (.cells #[.int .i8 x_2.fKind, .bool x_2.fBool, .int .i64 x_2.fNum, S x_2.fText, .slice A_9 x_2.fList.length cap_9, .slice A_10 x_2.fKeys.length cap_10] 33 (0, 0))) :: (Ent.obj b_3 (.cells #[.int .i8 d0.fKind, .bool d0.fBool, .int .i64 d0.fNum, S d0.fText, .slice A_5 s_1.2.1.length cap_5, .slice A_30 y_2.length cap_31] 33 (0, 0))) :: (Ent.obj b_2 (.cells #[.int .i8 0, .bool false, .int .i64 0, S [], .slice none 0 0, .slice none 0 0] 33 (0, 0))) :: H)) (.quiet 0 (.quiet 1 (.quiet 2 (.quiet 4 (.quiet 7 (.alt 3 (.alt 5 (.alt 6 (.alt 8 .done .none) .none) .none) (.alt 5 (.alt 3 (.alt 6 (.alt 8 .done .none) .none) .none) .none))))))) p_90 (by kernel_rfl) (by kernel_rfl) (by kernel_rfl) (Y1 (v := .pointer (some (⟨b_3, 4, none⟩))) rfl f rfl rfl (fun _ _ => by kernel_rfl) fun _ f => Y1 (v := .slice A_5 s_1.2.1.length cap_5) rfl f rfl rfl (fun _ pq => Y31 (v := .slice A_5 s_1.2.1.length cap_5) rfl (ad := ⟨b_3, 4, none⟩) (pq.ownCell 2 rfl 4)) fun _ f => Y1 (v := .int .i64 y_1) rfl f rfl rfl (fun _ _ => by kernel_rfl) fun _ f => Y1 (v := .agg #[.int .i8 x_2.fKind, .bool x_2.fBool, .int .i64 x_2.fNum, S x_2.fText, .slice A_9 x_2.fList.length cap_9, .slice A_10 x_2.fKeys.length cap_10]) rfl f rfl rfl (fun _ pq => Y32 (cs := [.int .i8 x_2.fKind, .bool x_2.fBool, .int .i64 x_2.fNum, S x_2.fText, .slice A_9 x_2.fList.length cap_9, .slice A_10 x_2.fKeys.length cap_10]) rfl (ad := ⟨b_5, 0, none⟩) (own_cells (pq.ownCell 1 rfl) 0 rfl)) fun _ f => Y1 (v := .slice A_17 (([] : List TB0) ++ (s_1.2.1.take s_1.2.1.length).drop y_1.toNat).length cap_18) rfl f rfl rfl (fun _ _ => by kernel_rfl) fun _ f => N_alt rfl (fun w_44 p_91 => ?_) ?_)
       ·obtain ⟨A_35, cap_36, hv_16, hcap_8, hcn_7⟩ := p_91.rowShape 1 rfl
        have f := f.st 87 (hv_16)
        refine Z f (Y35 rfl (A := A_35) (len := s_1.2.1.length) (cap := cap_36) (k' := .i64) (b := y_1) (e := 33) (sz := 6) (by omega) (by omega)) fun _ f => ?_
        have f := f.st 87 (hv_16.symm)
        refine W_end rfl (N_goN 2 (mR _) p_91 rfl (N_alt rfl (fun w_45 p_92 => ?_) ?_))
        ·refine V_allocS (k := 1) (c := 1) f p_92 (.cells #[.int .i8 x_2.fKind, .bool x_2.fBool, .int .i64 x_2.fNum, S x_2.fText, .slice A_9 x_2.fList.length cap_9, .slice A_10 x_2.fKeys.length cap_10] 33 (0, 0)) (by kernel_rfl) (fun _ => by kernel_rfl) fun b_13 w_46 p_93 _ f => W_end rfl (N_goN 3 (mR _) p_93 rfl (N_alt rfl (fun w_47 p_94 => ?_) ?_))
         ·have p_95 := p_94.pl [2]
          have hr_29 : RepSeq M_9 ((s_1.2.1.take y_1.toNat).map emb_TB0) (cs_1.take (y_1.toNat * 6)) := by rw [List.map_take]; exact RepSeq.takeD _ (szd_all szd_TB0) (RepSeq.mono ((hM_3.trans hM_5).trans hM_9) _ _ hr_3)
          have hl_10 : (s_1.2.1.take y_1.toNat).length = y_1.toNat := by rw [List.length_take]; omega
          have p_96 : Hp w0 M_9 ((Ent.row 33 6 (.slice (cutA A_35 6 0 cap_36) (s_1.2.1.take y_1.toNat).length cap_36) (s_1.2.1.take y_1.toNat).length (cs_1.take (y_1.toNat * 6))) :: (Ent.obj b_13 (.cells #[.int .i8 x_2.fKind, .bool x_2.fBool, .int .i64 x_2.fNum, S x_2.fText, .slice A_9 x_2.fList.length cap_9, .slice A_10 x_2.fKeys.length cap_10] 33 (0, 0))) :: (Ent.row 33 6 (.slice A_17 (([] : List TB0) ++ (s_1.2.1.take s_1.2.1.length).drop y_1.toNat).length cap_18) (([] : List TB0) ++ (s_1.2.1.take s_1.2.1.length).drop y_1.toNat).length cs_5) :: (Ent.row 9 1 (.slice A_30 y_2.length cap_31) y_2.length cs_12) :: (Ent.obj b_5 (.cells #[.int .i8 x_2.fKind, .bool x_2.fBool, .int .i64 x_2.fNum, S x_2.fText, .slice A_9 x_2.fList.length cap_9, .slice A_10 x_2.fKeys.length cap_10] 33 (0, 0))) :: (Ent.obj b_3 (.cells #[.int .i8 d0.fKind, .bool d0.fBool, .int .i64 d0.fNum, S d0.fText, .slice A_5 s_1.2.1.length cap_5, .slice A_30 y_2.length cap_31] 33 (0, 0))) :: (Ent.obj b_2 (.cells #[.int .i8 0, .bool false, .int .i64 0, S [], .slice none 0 0, .slice none 0 0] 33 (0, 0))) :: H) w_47 := by rw [hl_10]; exact p_95.rowFront hv_16 (by omega)
          have f := Frm.set f 89 (v := .slice (cutA A_35 6 0 cap_36) y_1.toNat cap_36) (v' := .slice (cutA A_35 6 0 cap_36) (s_1.2.1.take y_1.toNat).length cap_36) (by kernel_rfl) (by rw [hl_10])
          refine Y20 (z := .agg #[.int .i8 0, .bool false, .int .i64 0, S [], .slice none 0 0, .slice none 0 0]) (f := emb_TB0) (xs := s_1.2.1.take y_1.toNat) (ys := [(⟨x_2.fKind, (x_2.fBool), x_2.fNum, x_2.fText, x_2.fList, x_2.fKeys⟩ : TB0)]) (news := [.int .i8 x_2.fKind, .bool x_2.fBool, .int .i64 x_2.fNum, S x_2.fText, .slice A_9 x_2.fList.length cap_9, .slice A_10 x_2.fKeys.length cap_10]) (ad := ⟨b_13, 0, none⟩) (m := 1) (c := 1) f p_96 hr_29 (by exact ⟨_, _, rfl, TB0.shut (h_6.mono (hM_5.trans hM_9)) (h_7.mono (hM_5.trans hM_9)), rfl⟩) rfl rfl rfl rfl (own_cells (p_96.ownCell 1 rfl) 0 rfl) (by exact g_12) (by have hg_ := g_12; first | omega | (simp only [List.length_cons, List.length_nil] at *; omega)) fun A_36 cap_37 cs_15 w_48 p_97 hr_30 _ f => ?_
          have p_98 := p_97.pl [1]
          have p_99 := p_98.drop
          refine W_end rfl (N_goN 2 (mR _) p_99 rfl (N_alt rfl (fun w_49 p_100 => ?_) ?_))
          ·have p_101 := p_100.pl [1]
           obtain ⟨A_37, cap_38, M_11, hv_17, hM_11, p_102, h_15⟩ := p_101.rowSli (f := emb_TB0) (xs := ([] : List TB0) ++ (s_1.2.1.take s_1.2.1.length).drop y_1.toNat) szd_TB0 (RepSeq.mono hM_9 _ _ hr_13)
           have f := f.st 93 (hv_17)
           refine Y22 (z := .agg #[.int .i8 0, .bool false, .int .i64 0, S [], .slice none 0 0, .slice none 0 0]) (f := emb_TB0) (xs := (s_1.2.1.take y_1.toNat) ++ [(⟨x_2.fKind, (x_2.fBool), x_2.fNum, x_2.fText, x_2.fList, x_2.fKeys⟩ : TB0)]) (ys := ([] : List TB0) ++ (s_1.2.1.take s_1.2.1.length).drop y_1.toNat) (c := cap_38) f p_102 (RepSeq.mono hM_11 _ _ hr_30) h_15 rfl rfl rfl g_13 (by omega) fun A_38 cap_39 cs_16 w_50 p_103 hr_31 _ f => W_end rfl (N_goN 1 hM_11 p_103 rfl (N_tail fun w_51 p_104 => Y f 1 fun _ f => Y27 f p_104 3 rfl rfl (b := b_3) (j := 4) (v := .slice A_38 (((s_1.2.1.take y_1.toNat) ++ [(⟨x_2.fKind, (x_2.fBool), x_2.fNum, x_2.fText, x_2.fList, x_2.fKeys⟩ : TB0)]) ++ (([] : List TB0) ++ (s_1.2.1.take s_1.2.1.length).drop y_1.toNat)).length cap_39) rfl (by exact rfl) (by simp) (by simp) ((Ent.row 33 6 (.slice A_38 (((s_1.2.1.take y_1.toNat) ++ [(⟨x_2.fKind, (x_2.fBool), x_2.fNum, x_2.fText, x_2.fList, x_2.fKeys⟩ : TB0)]) ++ (([] : List TB0) ++ (s_1.2.1.take s_1.2.1.length).drop y_1.toNat)).length cap_39) (((s_1.2.1.take y_1.toNat) ++ [(⟨x_2.fKind, (x_2.fBool), x_2.fNum, x_2.fText, x_2.fList, x_2.fKeys⟩ : TB0)]) ++ (([] : List TB0) ++ (s_1.2.1.take s_1.2.1.length).drop y_1.toNat)).length cs_16) :: (Ent.row 9 1 (.slice A_30 y_2.length cap_31) y_2.length cs_12) :: (Ent.obj b_5 (.cells #[.int .i8 x_2.fKind, .bool x_2.fBool, .int .i64 x_2.fNum, S x_2.fText, .slice A_9 x_2.fList.length cap_9, .slice A_10 x_2.fKeys.length cap_10] 33 (0, 0))) :: (Ent.obj b_3 (.cells #[.int .i8 d0.fKind, .bool d0.fBool, .int .i64 d0.fNum, S d0.fText, .slice A_38 (((s_1.2.1.take y_1.toNat) ++ [(⟨x_2.fKind, (x_2.fBool), x_2.fNum, x_2.fText, x_2.fList, x_2.fKeys⟩ : TB0)]) ++ (([] : List TB0) ++ (s_1.2.1.take s_1.2.1.length).drop y_1.toNat)).length cap_39, .slice A_30 y_2.length cap_31] 33 (0, 0))) :: (Ent.obj b_2 (.cells #[.int .i8 0, .bool false, .int .i64 0, S [], .slice none 0 0, .slice none 0 0] 33 (0, 0))) :: H) rfl fun w_52 p_105 _ f => W_end rfl (N_te (T_n ?_))))
           exact ⟨((s_1.2.1.take y_1.toNat) ++ [(⟨x_2.fKind, (x_2.fBool), x_2.fNum, x_2.fText, x_2.fList, x_2.fKeys⟩ : TB0)]) ++ (([] : List TB0) ++ (s_1.2.1.take s_1.2.1.length).drop y_1.toNat), (sI hF_29).symm, M_11, hM_11, A_38, cap_39, cs_16, hr_31, f.kp, p_105⟩
          exact N_none
         exact N_none
        exact N_none
       refine N_alt rfl (fun w_53 p_106 => ?_) ?_
       ·refine V_allocS (k := 1) (c := 1) f p_106 (.cells #[.int .i8 x_2.fKind, .bool x_2.fBool, .int .i64 x_2.fNum, S x_2.fText, .slice A_9 x_2.fList.length cap_9, .slice A_10 x_2.fKeys.length cap_10] 33 (0, 0)) (by kernel_rfl) (fun _ => by kernel_rfl) fun b_14 w_54 p_107 _ f => W_end rfl (N_goN 3 (mR _) p_107 rfl (N_alt rfl (fun w_55 p_108 => ?_) ?_))
        ·obtain ⟨A_39, cap_40, hv_18, hcap_9, hcn_8⟩ := p_108.rowShape 2 rfl
         have f := f.st 87 (hv_18)
         refine Z f (Y35 rfl (A := A_39) (len := s_1.2.1.length) (cap := cap_40) (k' := .i64) (b := y_1) (e := 33) (sz := 6) (by omega) (by omega)) fun _ f => ?_
         have f := f.st 87 (hv_18.symm)
         refine W_end rfl (N_goN 3 (mR _) p_108 rfl (N_alt rfl (fun w_56 p_109 => ?_) ?_))
         ·have p_110 := p_109.pl [2]
          have hr_32 : RepSeq M_9 ((s_1.2.1.take y_1.toNat).map emb_TB0) (cs_1.take (y_1.toNat * 6)) := by rw [List.map_take]; exact RepSeq.takeD _ (szd_all szd_TB0) (RepSeq.mono ((hM_3.trans hM_5).trans hM_9) _ _ hr_3)
          have hl_11 : (s_1.2.1.take y_1.toNat).length = y_1.toNat := by rw [List.length_take]; omega
          have p_111 : Hp w0 M_9 ((Ent.row 33 6 (.slice (cutA A_39 6 0 cap_40) (s_1.2.1.take y_1.toNat).length cap_40) (s_1.2.1.take y_1.toNat).length (cs_1.take (y_1.toNat * 6))) :: (Ent.obj b_14 (.cells #[.int .i8 x_2.fKind, .bool x_2.fBool, .int .i64 x_2.fNum, S x_2.fText, .slice A_9 x_2.fList.length cap_9, .slice A_10 x_2.fKeys.length cap_10] 33 (0, 0))) :: (Ent.row 33 6 (.slice A_17 (([] : List TB0) ++ (s_1.2.1.take s_1.2.1.length).drop y_1.toNat).length cap_18) (([] : List TB0) ++ (s_1.2.1.take s_1.2.1.length).drop y_1.toNat).length cs_5) :: (Ent.row 9 1 (.slice A_30 y_2.length cap_31) y_2.length cs_12) :: (Ent.obj b_5 (.cells #[.int .i8 x_2.fKind, .bool x_2.fBool, .int .i64 x_2.fNum, S x_2.fText, .slice A_9 x_2.fList.length cap_9, .slice A_10 x_2.fKeys.length cap_10] 33 (0, 0))) :: (Ent.obj b_3 (.cells #[.int .i8 d0.fKind, .bool d0.fBool, .int .i64 d0.fNum, S d0.fText, .slice A_5 s_1.2.1.length cap_5, .slice A_30 y_2.length cap_31] 33 (0, 0))) :: (Ent.obj b_2 (.cells #[.int .i8 0, .bool false, .int .i64 0, S [], .slice none 0 0, .slice none 0 0] 33 (0, 0))) :: H) w_56 := by rw [hl_11]; exact p_110.rowFront hv_18 (by omega)
          have f := Frm.set f 89 (v := .slice (cutA A_39 6 0 cap_40) y_1.toNat cap_40) (v' := .slice (cutA A_39 6 0 cap_40) (s_1.2.1.take y_1.toNat).length cap_40) (by kernel_rfl) (by rw [hl_11])
          refine Y20 (z := .agg #[.int .i8 0, .bool false, .int .i64 0, S [], .slice none 0 0, .slice none 0 0]) (f := emb_TB0) (xs := s_1.2.1.take y_1.toNat) (ys := [(⟨x_2.fKind, (x_2.fBool), x_2.fNum, x_2.fText, x_2.fList, x_2.fKeys⟩ : TB0)]) (news := [.int .i8 x_2.fKind, .bool x_2.fBool, .int .i64 x_2.fNum, S x_2.fText, .slice A_9 x_2.fList.length cap_9, .slice A_10 x_2.fKeys.length cap_10]) (ad := ⟨b_14, 0, none⟩) (m := 1) (c := 1) f p_111 hr_32 (by exact ⟨_, _, rfl, TB0.shut (h_6.mono (hM_5.trans hM_9)) (h_7.mono (hM_5.trans hM_9)), rfl⟩) rfl rfl rfl rfl (own_cells (p_111.ownCell 1 rfl) 0 rfl) (by exact g_12) (by have hg_ := g_12; first | omega | (simp only [List.length_cons, List.length_nil] at *; omega)) fun A_40 cap_41 cs_17 w_57 p_112 hr_33 _ f => ?_
          have p_113 := p_112.pl [1]
          have p_114 := p_113.drop
          refine W_end rfl (N_goN 2 (mR _) p_114 rfl (N_alt rfl (fun w_58 p_115 => ?_) ?_))
          ·have p_116 := p_115.pl [1]
           obtain ⟨A_41, cap_42, M_12, hv_19, hM_12, p_117, h_16⟩ := p_116.rowSli (f := emb_TB0) (xs := ([] : List TB0) ++ (s_1.2.1.take s_1.2.1.length).drop y_1.toNat) szd_TB0 (RepSeq.mono hM_9 _ _ hr_13)
           have f := f.st 93 (hv_19)
           refine Y22 (z := .agg #[.int .i8 0, .bool false, .int .i64 0, S [], .slice none 0 0, .slice none 0 0]) (f := emb_TB0) (xs := (s_1.2.1.take y_1.toNat) ++ [(⟨x_2.fKind, (x_2.fBool), x_2.fNum, x_2.fText, x_2.fList, x_2.fKeys⟩ : TB0)]) (ys := ([] : List TB0) ++ (s_1.2.1.take s_1.2.1.length).drop y_1.toNat) (c := cap_42) f p_117 (RepSeq.mono hM_12 _ _ hr_33) h_16 rfl rfl rfl g_13 (by omega) fun A_42 cap_43 cs_18 w_59 p_118 hr_34 _ f => W_end rfl (N_goN 1 hM_12 p_118 rfl (N_tail fun w_60 p_119 => Y f 1 fun _ f => Y27 f p_119 3 rfl rfl (b := b_3) (j := 4) (v := .slice A_42 (((s_1.2.1.take y_1.toNat) ++ [(⟨x_2.fKind, (x_2.fBool), x_2.fNum, x_2.fText, x_2.fList, x_2.fKeys⟩ : TB0)]) ++ (([] : List TB0) ++ (s_1.2.1.take s_1.2.1.length).drop y_1.toNat)).length cap_43) rfl (by exact rfl) (by simp) (by simp) ((Ent.row 33 6 (.slice A_42 (((s_1.2.1.take y_1.toNat) ++ [(⟨x_2.fKind, (x_2.fBool), x_2.fNum, x_2.fText, x_2.fList, x_2.fKeys⟩ : TB0)]) ++ (([] : List TB0) ++ (s_1.2.1.take s_1.2.1.length).drop y_1.toNat)).length cap_43) (((s_1.2.1.take y_1.toNat) ++ [(⟨x_2.fKind, (x_2.fBool), x_2.fNum, x_2.fText, x_2.fList, x_2.fKeys⟩ : TB0)]) ++ (([] : List TB0) ++ (s_1.2.1.take s_1.2.1.length).drop y_1.toNat)).length cs_18) :: (Ent.row 9 1 (.slice A_30 y_2.length cap_31) y_2.length cs_12) :: (Ent.obj b_5 (.cells #[.int .i8 x_2.fKind, .bool x_2.fBool, .int .i64 x_2.fNum, S x_2.fText, .slice A_9 x_2.fList.length cap_9, .slice A_10 x_2.fKeys.length cap_10] 33 (0, 0))) :: (Ent.obj b_3 (.cells #[.int .i8 d0.fKind, .bool d0.fBool, .int .i64 d0.fNum, S d0.fText, .slice A_42 (((s_1.2.1.take y_1.toNat) ++ [(⟨x_2.fKind, (x_2.fBool), x_2.fNum, x_2.fText, x_2.fList, x_2.fKeys⟩ : TB0)]) ++ (([] : List TB0) ++ (s_1.2.1.take s_1.2.1.length).drop y_1.toNat)).length cap_43, .slice A_30 y_2.length cap_31] 33 (0, 0))) :: (Ent.obj b_2 (.cells #[.int .i8 0, .bool false, .int .i64 0, S [], .slice none 0 0, .slice none 0 0] 33 (0, 0))) :: H) rfl fun w_61 p_120 _ f => W_end rfl (N_te (T_n ?_))))
           exact ⟨((s_1.2.1.take y_1.toNat) ++ [(⟨x_2.fKind, (x_2.fBool), x_2.fNum, x_2.fText, x_2.fList, x_2.fKeys⟩ : TB0)]) ++ (([] : List TB0) ++ (s_1.2.1.take s_1.2.1.length).drop y_1.toNat), (sI hF_29).symm, M_12, hM_12, A_42, cap_43, cs_18, hr_34, f.kp, p_120⟩
          exact N_none
         exact N_none
        exact N_none
       exact N_none
      ·rintro a_137 w_62 ⟨y_3, hq_2, M_13, hM_13, A_43, cap_44, cs_19, hr_35, f, p_121⟩
       subst j_2
       refine B_n (T_n (R_reg (Y f 1 fun _ f => ?_)))
       obtain ⟨g_14, hF_30⟩ := nS hF_26
       refine Y f 1 fun _ f => ?_
       have f := f.st 24 (congrArg (Value.int .i64) (inR_wrap g_14))
       refine Y f 1 fun _ f => W_end rfl ?_
       have p_132 := p_121.pl [4, 4, 3, 3, 4]
       refine T_n ?_
       obtain rfl := sI hF_30
       exact ⟨⟨m_2, (s_1.1 + 1, y_3, y_2), A_43, cap_44, cs_19, A_30, cap_31, cs_12⟩, Nat.lt_succ_self _, M_13, ((((hM_2.trans hM_3).trans hM_5).trans hM_9).trans hM_13), ⟨hn_1, hr_35, (RepSeq.mono hM_13 _ _ hr_25)⟩, f.kp, (p_132.dropN 1)⟩
  ·have k_8 := iff_f dI h_3
   refine wp_exit (T_x (T_x ?_))
   obtain rfl := sI hF_31
   exact ⟨rfl, (s_1.2.1, s_1.2.2), (sI hn_1).symm, M_2, hM_2, A_5, cap_5, cs_1, A_6, cap_6, cs_2, hr_3, hr_4, f.kp, p_11⟩
 ·rintro _ _ w_64 ⟨rfl, y_4, hq_, M_14, hM_14, A_44, cap_45, cs_20, A_45, cap_46, cs_21, hr_36, hr_37, f, p_122⟩
  subst b_4
  refine B_x (T_n (RR (Z (v := .agg #[.int .i8 d0.fKind, .bool d0.fBool, .int .i64 d0.fNum, S d0.fText, .slice A_44 y_4.1.length cap_45, .slice A_45 y_4.2.length cap_46]) f (Y32 (cs := [.int .i8 d0.fKind, .bool d0.fBool, .int .i64 d0.fNum, S d0.fText, .slice A_44 y_4.1.length cap_45, .slice A_45 y_4.2.length cap_46]) rfl (ad := ⟨b_3, 0, none⟩) (own_cells (p_122.ownCell 2 rfl) 0 rfl)) fun _ f => ?_)))
  obtain ⟨A_46, cap_47, M_15, hv_20, hM_15, p_133, h_17⟩ := p_122.rowSli (f := emb_TB0) (xs := y_4.1) szd_TB0 hr_36
  have f := Frm.set f 96 (v := .agg #[.int .i8 d0.fKind, .bool d0.fBool, .int .i64 d0.fNum, S d0.fText, .slice A_44 y_4.1.length cap_45, .slice A_45 y_4.2.length cap_46]) (v' := .agg #[.int .i8 d0.fKind, .bool d0.fBool, .int .i64 d0.fNum, S d0.fText, .slice A_46 y_4.1.length cap_47, .slice A_45 y_4.2.length cap_46]) (by kernel_rfl) (by rw [hv_20])
  have p_134 : Hp w0 M_15 ((Ent.row 9 1 (.slice A_45 y_4.2.length cap_46) y_4.2.length cs_21) :: (Ent.obj b_3 (.cells #[.int .i8 d0.fKind, .bool d0.fBool, .int .i64 d0.fNum, S d0.fText, .slice A_46 y_4.1.length cap_47, .slice A_45 y_4.2.length cap_46] 33 (0, 0))) :: (Ent.obj b_2 (.cells #[.int .i8 0, .bool false, .int .i64 0, S [], .slice none 0 0, .slice none 0 0] 33 (0, 0))) :: H) w_64 := by rw [hv_20] at p_133; exact p_133
  obtain ⟨A_47, cap_48, M_16, hv_21, hM_16, p_135, h_18⟩ := p_134.rowSli (f := Dat.str) (xs := y_4.2) szd_str (RepSeq.mono hM_15 _ _ hr_37)
  have f := Frm.set f 96 (v := .agg #[.int .i8 d0.fKind, .bool d0.fBool, .int .i64 d0.fNum, S d0.fText, .slice A_46 y_4.1.length cap_47, .slice A_45 y_4.2.length cap_46]) (v' := .agg #[.int .i8 d0.fKind, .bool d0.fBool, .int .i64 d0.fNum, S d0.fText, .slice A_46 y_4.1.length cap_47, .slice A_47 y_4.2.length cap_48]) (by kernel_rfl) (by rw [hv_21])
  have p_136 : Hp w0 M_16 ((Ent.obj b_3 (.cells #[.int .i8 d0.fKind, .bool d0.fBool, .int .i64 d0.fNum, S d0.fText, .slice A_46 y_4.1.length cap_47, .slice A_47 y_4.2.length cap_48] 33 (0, 0))) :: (Ent.obj b_2 (.cells #[.int .i8 0, .bool false, .int .i64 0, S [], .slice none 0 0, .slice none 0 0] 33 (0, 0))) :: H) w_64 := by rw [hv_21] at p_135; exact p_135
  have p_137 := p_136.pl [1]
  refine Y28 (vs := [.int .i8 d0.fKind, .bool d0.fBool, .int .i64 d0.fNum, S d0.fText, .slice A_46 y_4.1.length cap_47, .slice A_47 y_4.2.length cap_48]) (j := 0) f p_137 rfl rfl (by simp [Value.oneCell', S]) (by simp) (by decide) (cs' := #[.int .i8 d0.fKind, .bool d0.fBool, .int .i64 d0.fNum, S d0.fText, .slice A_46 y_4.1.length cap_47, .slice A_47 y_4.2.length cap_48]) fun w_65 p_138 _ f => eT (wp_ret (E_rv1 f rfl (Y10 (cs := [.int .i8 d0.fKind, .bool d0.fBool, .int .i64 d0.fNum, S d0.fText, .slice A_46 y_4.1.length cap_47, .slice A_47 y_4.2.length cap_48]) (ad := ⟨b_2, 0, none⟩) f (own_cells (p_138.ownCell 0 rfl) 0 rfl)) ?_))
  obtain rfl := sI hF_1
  exact ⟨_, rfl, M_16, (((hM_1.trans hM_14).trans hM_15).trans hM_16), (p_138.dropN 2), ⟨[.int .i8 d0.fKind, .bool d0.fBool, .int .i64 d0.fNum, S d0.fText, .slice A_46 y_4.1.length cap_47, .slice A_47 y_4.2.length cap_48], rfl, (TB0.shut (h_17.mono hM_16) h_18)⟩⟩
def ref03_sorted_k (n : Nat) : Nat → TB0 → Option TB0
  | 0 => fun _ => none
  | k + 1 => ref03_sorted_b n (ref03_sorted_k n k)
def ref03_sorted (n : Nat) (d0 : TB0) : Option TB0 := ref03_sorted_k n n d0
theorem ref03_sorted_ok (n : Nat) (M : Mem) (c0 : List Value) (d0 : TB0) (h0 : Rep M (emb_TB0 d0) c0) (r : TB0) (hF : ref03_sorted n d0 = some r) : Ok Tryd.prog M 40 [.agg c0.toArray] (fun M' v => ∃ (c0 : List Value), v = .agg c0.toArray ∧ Rep M' (emb_TB0 r) c0) := by
 have key : ∀ (k : Nat) (M : Mem) (c0 : List Value) (d0 : TB0) (h0 : Rep M (emb_TB0 d0) c0) (r : TB0) (hF : ref03_sorted_k n k d0 = some r), Ok Tryd.prog M 40 [.agg c0.toArray] (fun M' v => ∃ (c0 : List Value), v = .agg c0.toArray ∧ Rep M' (emb_TB0 r) c0) := by
  intro k
  induction k with
  | zero => intro M c0 d0 h0 r hF; simp [ref03_sorted_k] at hF
  | succ k ih => intro M c0 d0 h0 r hF; exact ref03_sorted_b_ok n (ref03_sorted_k n k) ih M c0 d0 h0 r hF
 exact key n M c0 d0 h0 r hF
end Go.Proofs.YtalifkcchfkgmaaDoor
