/-
  Texts of this claim, packed (what nothing names is left out): D2, D3, BkP2, BkP3, BkP4, BkP5, RdyPlain, R6, RdyTurned, R7, RdyAdapt. Own work, partly printed by own programs. No condition.
-/
import Derived.Test.YtfdmlionhbeebaaGreatPkB3
import Derived.Test.YtfdmlionhbeebaaGreatPkB2
import Derived.Test.YtfdmlionhbeebaaGreatPkB1
import Derived.Test.YtfdmlionhbeebaaGreatRows
set_option linter.unusedVariables false
set_option linter.unusedSimpArgs false
set_option maxHeartbeats 2000000
section
namespace Go.Proofs.YtfdmlionhbeebaaGreat
open Go Go.Vc Go.RowKit
def ref25_Task_s1 (n : Nat) (d0 : TK0) (d1 : Int) (d2 : Int) (s_1 : Int × Int × Int × Int × Int × List UInt8 × List UInt8 × List TE0 × Int × List UInt8) : Option (Lp (Int × Int × Int × Int × Int × List UInt8 × List UInt8 × List TE0 × Int × List UInt8) (Sum (Int × Int × Int × Int × List UInt8 × List UInt8 × List TE0 × Int × List UInt8) (Int × Int × Int × Int × List UInt8 × List UInt8 × List TE0 × Int × List UInt8))) :=
    bif (decide (s_1.1 < ((d0.fTasks.length : Nat) : Int))) then
      ((((getI d0.fTasks s_1.1).bind fun x_1 =>
        bif (decide (x_1.fChange = d1)) then
          ((getI d0.fTasks s_1.1).bind fun x_2 =>
          some ((decide (x_2.fPhase = d2))))
        else
          some ((false)) : Option Bool)).bind fun y_1 =>
      bif y_1 then
        ((getI d0.fTasks s_1.1).bind fun x_3 =>
        some (.br (.inl (x_3.fChange, x_3.fPhase, x_3.fCall.fToken, x_3.fCall.fKind, x_3.fCall.fPhys, x_3.fCall.fType, x_3.fCall.fProps, x_3.fState, x_3.fPhys))))
      else
        need (inR .i64 (s_1.1 + 1)) <|
        some (.nx (s_1.1 + 1, s_1.2.1, s_1.2.2.1, s_1.2.2.2.1, s_1.2.2.2.2.1, s_1.2.2.2.2.2.1, s_1.2.2.2.2.2.2.1, s_1.2.2.2.2.2.2.2.1, s_1.2.2.2.2.2.2.2.2.1, s_1.2.2.2.2.2.2.2.2.2)))
    else
      some (.br (.inr (s_1.2.1, s_1.2.2.1, s_1.2.2.2.1, s_1.2.2.2.2.1, s_1.2.2.2.2.2.1, s_1.2.2.2.2.2.2.1, s_1.2.2.2.2.2.2.2.1, s_1.2.2.2.2.2.2.2.2.1, s_1.2.2.2.2.2.2.2.2.2)))
def ref25_Task (n : Nat) (d0 : TK0) (d1 : Int) (d2 : Int) : Option (TR0 × Bool) :=
  (loopF (ref25_Task_s1 n d0 d1 d2) n ((0 : Int), (0 : Int), (0 : Int), (0 : Int), (0 : Int), ([] : List UInt8), ([] : List UInt8), ([] : List TE0), (0 : Int), ([] : List UInt8))).bind fun b_3 =>
  (match b_3 with 
  | .inl y_2 => some (((⟨y_2.1, y_2.2.1, (⟨y_2.2.2.1, y_2.2.2.2.1, y_2.2.2.2.2.1, y_2.2.2.2.2.2.1, y_2.2.2.2.2.2.2.1⟩ : TQ0), y_2.2.2.2.2.2.2.2.1, y_2.2.2.2.2.2.2.2.2⟩ : TR0), (true))) 
  | .inr y_3 => some (((⟨(0 : Int), (0 : Int), z_TQ0, (0 : Int), ([] : List UInt8)⟩ : TR0), (false))))
set_option maxRecDepth 20000 in
theorem ref25_Task_ok (n : Nat) (M : Mem) (c0 : List Value) (d0 : TK0) (h0 : Rep M (emb_TK0 d0) c0) (d1 : Int) (d2 : Int) (r : TR0 × Bool) (hF : ref25_Task n d0 d1 d2 = some r) : Ok Tryz.prog M 12 [.agg c0.toArray, .int .i64 d1, .int .i8 d2] (fun M' v => ∃ (c0 : List Value), v = .tuple #[.agg c0.toArray, .bool r.2] ∧ Rep M' (emb_TR0 r.1) c0) := by
 unfold ref25_Task at hF
 intro M1 hM0 w0 H w p0
 replace h0 := Rep.mono hM0 _ _ h0
 obtain ⟨A_1, cap_1, A_2, cap_2, A_3, cap_3, A_4, cap_4, A_5, cap_5, A_6, cap_6, A_7, cap_7, A_8, cap_8, A_9, cap_9, A_10, cap_10, rfl, h_1, h_2, h_3, h_4, h_5, h_6, h_7, h_8, h_9, h_10⟩ := TK0.opn h0
 refine R_enter 40 Tryz.func12 rfl rfl (by simp) fun a0 f0 => RR (Y12 (cs := #[.int .i8 d0.fKind, .int .i64 d0.fWidth, .slice A_1 d0.fOld.fOwned.length cap_1, .slice A_2 d0.fOld.fPending.length cap_2, .slice A_3 d0.fOld.fRetained.length cap_3, .slice A_4 d0.fOld.fOuts.length cap_4, S d0.fOld.fText, .slice A_5 d0.fOld.fArgs.length cap_5, .int .i64 d0.fOld.fCalls, .int .i8 d0.fOld.fStatus, .slice A_6 d0.fNew.fScopes.length cap_6, .slice A_7 d0.fNew.fNodes.length cap_7, S d0.fText, .slice A_8 d0.fArgs.length cap_8, .slice A_9 d0.fChanges.length cap_9, .slice A_10 d0.fTasks.length cap_10, .int .i8 d0.fPhase, .int .i8 d0.fStatus]) (T := 34) f0 p0 fun b_1 M_1 w_1 hM_1 hc_1 p_1 _ f => ?_)
 have hc_2 := fz_box hc_1
 refine Y11 f p_1 (.cells #[.int .i64 0, .int .i8 0, .int .i64 0, .int .i8 0, S [], S [], .slice none 0 0, .int .i8 0, S []] 44 (0, 0)) fun b_2 w_2 p_2 _ f => Y f 1 fun _ f => eT (R_seq (RR (Y f 1 fun _ f => eT (wp_block ?_))))
 obtain ⟨b_3, hL_1, hF_1⟩ := bS hF
 refine wp_mono (Q := fun e a w => (e = .ret ∧ (∃ y_2 : Int × Int × Int × Int × List UInt8 × List UInt8 × List TE0 × Int × List UInt8, b_3 = .inl y_2 ∧ ∃ M_4 : Mem, M_1.le M_4 ∧ ∃ (A_15 : Option Addr), ∃ (cap_15 : Nat), Sli M_4 8 emb_TE0 A_15 cap_15 y_2.2.2.2.2.2.2.1 ∧ Frm 40 [(6, .pointer (some (⟨b_2, 0, none⟩))), (7, .bool true)] a ∧ Hp w0 M_4 ((Ent.obj b_2 (.cells #[.int .i64 y_2.1, .int .i8 y_2.2.1, .int .i64 y_2.2.2.1, .int .i8 y_2.2.2.2.1, S y_2.2.2.2.2.1, S y_2.2.2.2.2.2.1, .slice A_15 y_2.2.2.2.2.2.2.1.length cap_15, .int .i8 y_2.2.2.2.2.2.2.2.1, S y_2.2.2.2.2.2.2.2.2] 44 (0, 0))) :: H) w)) ∨ (e = .exit 0 ∧ (∃ y_3 : Int × Int × Int × Int × List UInt8 × List UInt8 × List TE0 × Int × List UInt8, b_3 = .inr y_3 ∧ ∃ M_5 : Mem, M_1.le M_5 ∧ ∃ (A_16 : Option Addr), ∃ (cap_16 : Nat), Sli M_5 8 emb_TE0 A_16 cap_16 y_3.2.2.2.2.2.2.1 ∧ Frm 40 [(6, .pointer (some (⟨b_2, 0, none⟩)))] a ∧ Hp w0 M_5 ((Ent.obj b_2 (.cells #[.int .i64 y_3.1, .int .i8 y_3.2.1, .int .i64 y_3.2.2.1, .int .i8 y_3.2.2.2.1, S y_3.2.2.2.2.1, S y_3.2.2.2.2.2.1, .slice A_16 y_3.2.2.2.2.2.2.1.length cap_16, .int .i8 y_3.2.2.2.2.2.2.2.1, S y_3.2.2.2.2.2.2.2.2] 44 (0, 0))) :: H) w))) (R_loop (n := 40) (w0 := w0) (M := M_1) (fun (x : Nat × (Int × Int × Int × Int × Int × List UInt8 × List UInt8 × List TE0 × Int × List UInt8) × (Option Addr) × Nat) => match x with | (m_1, s_1, A_11, cap_11) => [(1, .int .i64 d1), (2, .int .i8 d2), (3, .pointer (some (⟨b_1, 0, none⟩))), (6, .pointer (some (⟨b_2, 0, none⟩))), (8, .int .i64 s_1.1)]) (fun (x : Nat × (Int × Int × Int × Int × Int × List UInt8 × List UInt8 × List TE0 × Int × List UInt8) × (Option Addr) × Nat) => match x with | (m_1, s_1, A_11, cap_11) => ((Ent.obj b_2 (.cells #[.int .i64 s_1.2.1, .int .i8 s_1.2.2.1, .int .i64 s_1.2.2.2.1, .int .i8 s_1.2.2.2.2.1, S s_1.2.2.2.2.2.1, S s_1.2.2.2.2.2.2.1, .slice A_11 s_1.2.2.2.2.2.2.2.1.length cap_11, .int .i8 s_1.2.2.2.2.2.2.2.2.1, S s_1.2.2.2.2.2.2.2.2.2] 44 (0, 0))) :: H)) (fun (x : Nat × (Int × Int × Int × Int × Int × List UInt8 × List UInt8 × List TE0 × Int × List UInt8) × (Option Addr) × Nat) (MM : Mem) => match x with | (m_1, s_1, A_11, cap_11) => loopF (ref25_Task_s1 n d0 d1 d2) m_1 s_1 = some b_3 ∧ Sli MM 8 emb_TE0 A_11 cap_11 s_1.2.2.2.2.2.2.2.1) (fun (x : Nat × (Int × Int × Int × Int × Int × List UInt8 × List UInt8 × List TE0 × Int × List UInt8) × (Option Addr) × Nat) => match x with | (m_1, s_1, A_11, cap_11) => m_1) (n, ((0 : Int), (0 : Int), (0 : Int), (0 : Int), (0 : Int), ([] : List UInt8), ([] : List UInt8), ([] : List TE0), (0 : Int), ([] : List UInt8)), none, 0) (f.kp) p_2 ⟨hL_1, Sli.nil⟩ ?_) ?_
 ·rintro ⟨m_1, s_1, A_11, cap_11⟩ M_2 _ w_3 hM_2 I_1 f p_3
  obtain ⟨I_1L, h_11⟩ := I_1
  obtain ⟨m_2, r_1, rfl, hs_1, hn_1⟩ := loop_step I_1L
  unfold ref25_Task_s1 at hs_1
  refine R_seq (RR (Y f 2 fun _ f => Y14 f p_3 (fzu hM_2 hc_2) 15 rfl fun _ f => Y f 2 fun _ f => eT (RcF f hs_1 (fun h_12 hF_2 => ?_) fun h_12 hF_12 => ?_)))
  ·have k_1 := dI.1 h_12
   refine wp_skip (T_n (R_seq (wp_block (R_seq ?_))))
   obtain ⟨j_1, hj_1, hF_3⟩ := bS hF_2
   refine R_mid (fun a_24 w_4 => ∃ y_1 : Bool, j_1 = y_1 ∧ ∃ M_3 : Mem, M_2.le M_3 ∧ Frm 40 [(1, .int .i64 d1), (2, .int .i8 d2), (3, .pointer (some (⟨b_1, 0, none⟩))), (6, .pointer (some (⟨b_2, 0, none⟩))), (8, .int .i64 s_1.1), (33, .bool y_1)] a_24 ∧ Hp w0 M_3 ((Ent.obj b_2 (.cells #[.int .i64 s_1.2.1, .int .i8 s_1.2.2.1, .int .i64 s_1.2.2.2.1, .int .i8 s_1.2.2.2.2.1, S s_1.2.2.2.2.2.1, S s_1.2.2.2.2.2.2.1, .slice A_11 s_1.2.2.2.2.2.2.2.1.length cap_11, .int .i8 s_1.2.2.2.2.2.2.2.2.1, S s_1.2.2.2.2.2.2.2.2.2] 44 (0, 0))) :: H) w_4) ?_ ?_
   ·refine R_reg (Y f 1 fun _ f => Y14 f p_3 (fzu hM_2 hc_2) 15 rfl fun _ f => Y f 1 fun _ f => ?_)
    obtain ⟨x_1, hx_1, hF_4⟩ := bS hj_1
    obtain ⟨ad_1, c_1, e_1, -, hr_1, hc_3⟩ := Sli.at_ (h_10.mono (hM_1.trans hM_2)) hx_1
    obtain ⟨A_12, cap_12, rfl, h_13⟩ := TR0.opn hr_1
    refine Z f (Y28 e_1 rfl (len := d0.fTasks.length) (cap := cap_10) (k := .i64) (i := s_1.1) (e := 44) (sz := 9) (getI_nn hx_1) (getI_lt hx_1)) fun _ f => Y f 1 fun _ f => Y14 f p_3 hc_3 0 rfl fun _ f => Y f 3 fun _ f => ?_
    rcases cE hF_4 with ⟨h_14, hF_5⟩ | ⟨h_14, hF_7⟩
    ·have k_2 := dI.1 h_14
     have f := f.st 24 (cB h_14)
     refine Y f 1 fun _ f => Y14 f p_3 (fzu hM_2 hc_2) 15 rfl fun _ f => Y f 1 fun _ f => ?_
     obtain ⟨x_2, hx_2, hF_6⟩ := bS hF_5
     obtain ⟨ad_2, c_2, e_2, -, hr_2, hc_4⟩ := Sli.at_ (h_10.mono (hM_1.trans hM_2)) hx_2
     obtain ⟨A_13, cap_13, rfl, h_15⟩ := TR0.opn hr_2
     refine Z f (Y28 e_2 rfl (len := d0.fTasks.length) (cap := cap_10) (k := .i64) (i := s_1.1) (e := 44) (sz := 9) (getI_nn hx_2) (getI_lt hx_2)) fun _ f => Y f 1 fun _ f => Y14 f p_3 hc_4 1 rfl fun _ f => Y f 3 fun _ f => eT ?_
     exact ⟨(decide (x_2.fPhase = d2)), (sI hF_6).symm, M_2, (mR _), f.kp, p_3⟩
    ·have k_3 := iff_f dI h_14
     have f := f.st 24 (cB h_14)
     refine Y f 9 fun _ f => eT ?_
     exact ⟨(false), (sI hF_7).symm, M_2, (mR _), f.kp, p_3⟩
   ·rintro a_24 w_4 ⟨y_1, hq_1, M_3, hM_3, f, p_4⟩
    subst j_1
    refine T_n (RcF f hF_3 (fun h_16 hF_8 => ?_) fun h_16 hF_10 => ?_)
    ·refine RR (Y f 1 fun _ f => Y14 f p_4 (fzu (hM_2.trans hM_3) hc_2) 15 rfl fun _ f => Y f 1 fun _ f => ?_)
     obtain ⟨x_3, hx_3, hF_9⟩ := bS hF_8
     obtain ⟨ad_3, c_3, e_3, -, hr_3, hc_5⟩ := Sli.at_ (h_10.mono ((hM_1.trans hM_2).trans hM_3)) hx_3
     obtain ⟨A_14, cap_14, rfl, h_17⟩ := TR0.opn hr_3
     refine Z f (Y28 e_3 rfl (len := d0.fTasks.length) (cap := cap_10) (k := .i64) (i := s_1.1) (e := 44) (sz := 9) (getI_nn hx_3) (getI_lt hx_3)) fun _ f => Z (v := .agg #[.int .i64 x_3.fChange, .int .i8 x_3.fPhase, .int .i64 x_3.fCall.fToken, .int .i8 x_3.fCall.fKind, S x_3.fCall.fPhys, S x_3.fCall.fType, .slice A_14 x_3.fCall.fProps.length cap_14, .int .i8 x_3.fState, S x_3.fPhys]) f (Y30 (cs := [.int .i64 x_3.fChange, .int .i8 x_3.fPhase, .int .i64 x_3.fCall.fToken, .int .i8 x_3.fCall.fKind, S x_3.fCall.fPhys, S x_3.fCall.fType, .slice A_14 x_3.fCall.fProps.length cap_14, .int .i8 x_3.fState, S x_3.fPhys]) rfl (ad := ad_3.add (s_1.1.toNat * 9)) (fun j v h => p_4.cell (hc_5 j v h))) fun _ f => Y26 (vs := [.int .i64 x_3.fChange, .int .i8 x_3.fPhase, .int .i64 x_3.fCall.fToken, .int .i8 x_3.fCall.fKind, S x_3.fCall.fPhys, S x_3.fCall.fType, .slice A_14 x_3.fCall.fProps.length cap_14, .int .i8 x_3.fState, S x_3.fPhys]) (j := 0) f p_4 rfl rfl (by simp [Value.oneCell', S]) (by simp) (by decide) (cs' := #[.int .i64 x_3.fChange, .int .i8 x_3.fPhase, .int .i64 x_3.fCall.fToken, .int .i8 x_3.fCall.fKind, S x_3.fCall.fPhys, S x_3.fCall.fType, .slice A_14 x_3.fCall.fProps.length cap_14, .int .i8 x_3.fState, S x_3.fPhys]) fun w_5 p_5 _ f => Y f 1 fun _ f => eT (wp_ret (B_r (T_r (T_r ?_))))
     obtain rfl := sI hF_9
     exact .inl ⟨rfl, (x_3.fChange, x_3.fPhase, x_3.fCall.fToken, x_3.fCall.fKind, x_3.fCall.fPhys, x_3.fCall.fType, x_3.fCall.fProps, x_3.fState, x_3.fPhys), (sI hn_1).symm, M_3, (hM_2.trans hM_3), A_14, cap_14, h_17, f.kp, p_5⟩
    ·refine wp_skip (B_n (T_n (R_reg (Y f 1 fun _ f => ?_))))
     obtain ⟨g_1, hF_11⟩ := nS hF_10
     refine Y f 1 fun _ f => ?_
     have f := f.st 15 (congrArg (Value.int .i64) (inR_wrap g_1))
     refine Y f 1 fun _ f => eT ?_
     obtain rfl := sI hF_11
     exact ⟨⟨m_2, (s_1.1 + 1, s_1.2.1, s_1.2.2.1, s_1.2.2.2.1, s_1.2.2.2.2.1, s_1.2.2.2.2.2.1, s_1.2.2.2.2.2.2.1, s_1.2.2.2.2.2.2.2.1, s_1.2.2.2.2.2.2.2.2.1, s_1.2.2.2.2.2.2.2.2.2), A_11, cap_11⟩, Nat.lt_succ_self _, M_3, (hM_2.trans hM_3), ⟨hn_1, (h_11.mono hM_3)⟩, f.kp, p_4⟩
  ·have k_6 := iff_f dI h_12
   refine wp_exit (T_x (T_x ?_))
   obtain rfl := sI hF_12
   exact .inr ⟨rfl, (s_1.2.1, s_1.2.2.1, s_1.2.2.2.1, s_1.2.2.2.2.1, s_1.2.2.2.2.2.1, s_1.2.2.2.2.2.2.1, s_1.2.2.2.2.2.2.2.1, s_1.2.2.2.2.2.2.2.2.1, s_1.2.2.2.2.2.2.2.2.2), (sI hn_1).symm, M_2, hM_2, A_11, cap_11, h_11, f.kp, p_3⟩
 ·rintro _ _ w_8 (⟨rfl, y_2, rfl, M_4, hM_4, A_15, cap_15, h_18, f, p_6⟩ | ⟨rfl, y_3, rfl, M_5, hM_5, A_16, cap_16, h_19, f, p_7⟩)
  ·refine B_r (T_r (E_rv2 f rfl (Y9 (cs := [.int .i64 y_2.1, .int .i8 y_2.2.1, .int .i64 y_2.2.2.1, .int .i8 y_2.2.2.2.1, S y_2.2.2.2.2.1, S y_2.2.2.2.2.2.1, .slice A_15 y_2.2.2.2.2.2.2.1.length cap_15, .int .i8 y_2.2.2.2.2.2.2.2.1, S y_2.2.2.2.2.2.2.2.2]) (ad := ⟨b_2, 0, none⟩) f (own_cells (p_6.ownCell 0 rfl) 0 rfl)) (Y10 (v := .bool true) f) ?_))
   obtain rfl := sI hF_1
   exact ⟨_, rfl, M_4, (hM_1.trans hM_4), (p_6.dropN 1), ⟨[.int .i64 y_2.1, .int .i8 y_2.2.1, .int .i64 y_2.2.2.1, .int .i8 y_2.2.2.2.1, S y_2.2.2.2.2.1, S y_2.2.2.2.2.2.1, .slice A_15 y_2.2.2.2.2.2.2.1.length cap_15, .int .i8 y_2.2.2.2.2.2.2.2.1, S y_2.2.2.2.2.2.2.2.2], rfl, (TR0.shut h_18)⟩⟩
  ·refine B_x (T_n (RR (Y f 1 fun _ f => Y26 (vs := [.int .i64 0, .int .i8 0, .int .i64 0, .int .i8 0, S [], S [], .slice none 0 0, .int .i8 0, S []]) (j := 0) f p_7 rfl rfl (by simp [Value.oneCell', S]) (by simp) (by decide) (cs' := #[.int .i64 0, .int .i8 0, .int .i64 0, .int .i8 0, S [], S [], .slice none 0 0, .int .i8 0, S []]) fun w_9 p_8 _ f => Y f 1 fun _ f => eT (wp_ret (E_rv2 f rfl (Y9 (cs := [.int .i64 0, .int .i8 0, .int .i64 0, .int .i8 0, S [], S [], .slice none 0 0, .int .i8 0, S []]) (ad := ⟨b_2, 0, none⟩) f (own_cells (p_8.ownCell 0 rfl) 0 rfl)) (Y10 (v := .bool false) f) ?_)))))
   obtain rfl := sI hF_1
   exact ⟨_, rfl, M_5, (hM_1.trans hM_5), (p_8.dropN 1), ⟨[.int .i64 0, .int .i8 0, .int .i64 0, .int .i8 0, S [], S [], .slice none 0 0, .int .i8 0, S []], rfl, (TR0.shut Sli.nil)⟩⟩
def ref25_kept_s1 (n : Nat) (d0 : TK0) (s_1 : List TC0 × Int) : Option (Lp (List TC0 × Int) (List TC0)) :=
    bif (decide (s_1.2 < ((d0.fChanges.length : Nat) : Int))) then
      ((getI d0.fChanges s_1.2).bind fun x_1 =>
      ((bif (decide (x_1.fKind = 4)) then
          (some (([] : List (List UInt8))))
        else
          some (x_1.fLeans) : Option (List (List UInt8)))).bind fun y_1 =>
      need ((s_1.1.length + 1) * 112 ≤ 140737488355328) <|
      need (inR .i64 (s_1.2 + 1)) <|
      some (.nx (s_1.1 ++ [(⟨x_1.fId, x_1.fKind, x_1.fType, x_1.fProps, (x_1.fRetain), x_1.fNode, (x_1.fOld), y_1⟩ : TC0)], s_1.2 + 1)))
    else
      some (.br s_1.1)
def ref25_kept (n : Nat) (d0 : TK0) : Option TK0 :=
  (loopF (ref25_kept_s1 n d0) n (([] : List TC0), (0 : Int))).bind fun y_2 =>
  some ((⟨d0.fKind, d0.fWidth, (⟨d0.fOld.fOwned, d0.fOld.fPending, d0.fOld.fRetained, d0.fOld.fOuts, d0.fOld.fText, d0.fOld.fArgs, d0.fOld.fCalls, d0.fOld.fStatus⟩ : TF0), (⟨d0.fNew.fScopes, d0.fNew.fNodes⟩ : TL0), d0.fText, d0.fArgs, y_2, d0.fTasks, d0.fPhase, d0.fStatus⟩ : TK0))
set_option maxRecDepth 20000 in
theorem ref25_kept_ok (n : Nat) (M : Mem) (c0 : List Value) (d0 : TK0) (h0 : Rep M (emb_TK0 d0) c0) (r : TK0) (hF : ref25_kept n d0 = some r) : Ok Tryz.prog M 29 [.agg c0.toArray] (fun M' v => ∃ (c0 : List Value), v = .agg c0.toArray ∧ Rep M' (emb_TK0 r) c0) := by
 unfold ref25_kept at hF
 intro M1 hM0 w0 H w p0
 replace h0 := Rep.mono hM0 _ _ h0
 obtain ⟨A_1, cap_1, A_2, cap_2, A_3, cap_3, A_4, cap_4, A_5, cap_5, A_6, cap_6, A_7, cap_7, A_8, cap_8, A_9, cap_9, A_10, cap_10, rfl, h_1, h_2, h_3, h_4, h_5, h_6, h_7, h_8, h_9, h_10⟩ := TK0.opn h0
 refine R_enter 29 Tryz.func29 rfl rfl (by simp) fun a0 f0 => RR (Y11 f0 p0 (.cells #[.int .i8 d0.fKind, .int .i64 d0.fWidth, .slice A_1 d0.fOld.fOwned.length cap_1, .slice A_2 d0.fOld.fPending.length cap_2, .slice A_3 d0.fOld.fRetained.length cap_3, .slice A_4 d0.fOld.fOuts.length cap_4, S d0.fOld.fText, .slice A_5 d0.fOld.fArgs.length cap_5, .int .i64 d0.fOld.fCalls, .int .i8 d0.fOld.fStatus, .slice A_6 d0.fNew.fScopes.length cap_6, .slice A_7 d0.fNew.fNodes.length cap_7, S d0.fText, .slice A_8 d0.fArgs.length cap_8, .slice A_9 d0.fChanges.length cap_9, .slice A_10 d0.fTasks.length cap_10, .int .i8 d0.fPhase, .int .i8 d0.fStatus] 34 (0, 0)) fun b_1 w_1 p_1 _ f => Y11 f p_1 (.cells #[.int .i8 0, .int .i64 0, .slice none 0 0, .slice none 0 0, .slice none 0 0, .slice none 0 0, S [], .slice none 0 0, .int .i64 0, .int .i8 0, .slice none 0 0, .slice none 0 0, S [], .slice none 0 0, .slice none 0 0, .slice none 0 0, .int .i8 0, .int .i8 0] 34 (0, 0)) fun b_2 w_2 p_2 _ f => eT (RR (Y f 1 fun _ f => eT (R_seq (RR (Y f 1 fun _ f => eT (wp_block ?_)))))))
 obtain ⟨A_11, cap_11, hv_1⟩ : ∃ A cap, Value.slice none 0 0 = .slice A ([] : List TC0).length cap := ⟨none, 0, rfl⟩
 have p_3 : Hp w0 M1 ((Ent.row 72 8 (.slice A_11 ([] : List TC0).length cap_11) ([] : List TC0).length []) :: (Ent.obj b_2 (.cells #[.int .i8 0, .int .i64 0, .slice none 0 0, .slice none 0 0, .slice none 0 0, .slice none 0 0, S [], .slice none 0 0, .int .i64 0, .int .i8 0, .slice none 0 0, .slice none 0 0, S [], .slice none 0 0, .slice none 0 0, .slice none 0 0, .int .i8 0, .int .i8 0] 34 (0, 0))) :: (Ent.obj b_1 (.cells #[.int .i8 d0.fKind, .int .i64 d0.fWidth, .slice A_1 d0.fOld.fOwned.length cap_1, .slice A_2 d0.fOld.fPending.length cap_2, .slice A_3 d0.fOld.fRetained.length cap_3, .slice A_4 d0.fOld.fOuts.length cap_4, S d0.fOld.fText, .slice A_5 d0.fOld.fArgs.length cap_5, .int .i64 d0.fOld.fCalls, .int .i8 d0.fOld.fStatus, .slice A_6 d0.fNew.fScopes.length cap_6, .slice A_7 d0.fNew.fNodes.length cap_7, S d0.fText, .slice A_8 d0.fArgs.length cap_8, .slice A_9 d0.fChanges.length cap_9, .slice A_10 d0.fTasks.length cap_10, .int .i8 d0.fPhase, .int .i8 d0.fStatus] 34 (0, 0))) :: H) w_2 := by rw [← hv_1]; exact p_2.nilRow 72 8
 have f := f.st 3 (hv_1)
 have hr_1 : RepSeq M1 (([] : List TC0).map emb_TC0) [] := rfl
 obtain ⟨b_3, hL_1, hF_1⟩ := bS hF
 refine wp_mono (Q := fun e a w => (e = .exit 0 ∧ (∃ y_2 : List TC0, b_3 = y_2 ∧ ∃ M_3 : Mem, M1.le M_3 ∧ ∃ (A_17 : Option Addr), ∃ (cap_17 : Nat), ∃ (cs_3 : List Value), RepSeq M_3 (y_2.map emb_TC0) cs_3 ∧ Frm 29 [(1, .pointer (some (⟨b_1, 0, none⟩))), (2, .pointer (some (⟨b_2, 0, none⟩))), (3, .slice A_17 y_2.length cap_17)] a ∧ Hp w0 M_3 ((Ent.row 72 8 (.slice A_17 y_2.length cap_17) y_2.length cs_3) :: (Ent.obj b_2 (.cells #[.int .i8 0, .int .i64 0, .slice none 0 0, .slice none 0 0, .slice none 0 0, .slice none 0 0, S [], .slice none 0 0, .int .i64 0, .int .i8 0, .slice none 0 0, .slice none 0 0, S [], .slice none 0 0, .slice none 0 0, .slice none 0 0, .int .i8 0, .int .i8 0] 34 (0, 0))) :: (Ent.obj b_1 (.cells #[.int .i8 d0.fKind, .int .i64 d0.fWidth, .slice A_1 d0.fOld.fOwned.length cap_1, .slice A_2 d0.fOld.fPending.length cap_2, .slice A_3 d0.fOld.fRetained.length cap_3, .slice A_4 d0.fOld.fOuts.length cap_4, S d0.fOld.fText, .slice A_5 d0.fOld.fArgs.length cap_5, .int .i64 d0.fOld.fCalls, .int .i8 d0.fOld.fStatus, .slice A_6 d0.fNew.fScopes.length cap_6, .slice A_7 d0.fNew.fNodes.length cap_7, S d0.fText, .slice A_8 d0.fArgs.length cap_8, .slice A_9 d0.fChanges.length cap_9, .slice A_10 d0.fTasks.length cap_10, .int .i8 d0.fPhase, .int .i8 d0.fStatus] 34 (0, 0))) :: H) w))) (R_loop (n := 29) (w0 := w0) (M := M1) (fun (x : Nat × (List TC0 × Int) × (Option Addr) × Nat × (List Value)) => match x with | (m_1, s_1, A_12, cap_12, cs_1) => [(1, .pointer (some (⟨b_1, 0, none⟩))), (2, .pointer (some (⟨b_2, 0, none⟩))), (3, .slice A_12 s_1.1.length cap_12), (4, .int .i64 s_1.2)]) (fun (x : Nat × (List TC0 × Int) × (Option Addr) × Nat × (List Value)) => match x with | (m_1, s_1, A_12, cap_12, cs_1) => ((Ent.row 72 8 (.slice A_12 s_1.1.length cap_12) s_1.1.length cs_1) :: (Ent.obj b_2 (.cells #[.int .i8 0, .int .i64 0, .slice none 0 0, .slice none 0 0, .slice none 0 0, .slice none 0 0, S [], .slice none 0 0, .int .i64 0, .int .i8 0, .slice none 0 0, .slice none 0 0, S [], .slice none 0 0, .slice none 0 0, .slice none 0 0, .int .i8 0, .int .i8 0] 34 (0, 0))) :: (Ent.obj b_1 (.cells #[.int .i8 d0.fKind, .int .i64 d0.fWidth, .slice A_1 d0.fOld.fOwned.length cap_1, .slice A_2 d0.fOld.fPending.length cap_2, .slice A_3 d0.fOld.fRetained.length cap_3, .slice A_4 d0.fOld.fOuts.length cap_4, S d0.fOld.fText, .slice A_5 d0.fOld.fArgs.length cap_5, .int .i64 d0.fOld.fCalls, .int .i8 d0.fOld.fStatus, .slice A_6 d0.fNew.fScopes.length cap_6, .slice A_7 d0.fNew.fNodes.length cap_7, S d0.fText, .slice A_8 d0.fArgs.length cap_8, .slice A_9 d0.fChanges.length cap_9, .slice A_10 d0.fTasks.length cap_10, .int .i8 d0.fPhase, .int .i8 d0.fStatus] 34 (0, 0))) :: H)) (fun (x : Nat × (List TC0 × Int) × (Option Addr) × Nat × (List Value)) (MM : Mem) => match x with | (m_1, s_1, A_12, cap_12, cs_1) => loopF (ref25_kept_s1 n d0) m_1 s_1 = some b_3 ∧ RepSeq MM (s_1.1.map emb_TC0) cs_1) (fun (x : Nat × (List TC0 × Int) × (Option Addr) × Nat × (List Value)) => match x with | (m_1, s_1, A_12, cap_12, cs_1) => m_1) (n, (([] : List TC0), (0 : Int)), A_11, cap_11, []) (f.kp) p_3 ⟨hL_1, hr_1⟩ ?_) ?_
 ·rintro ⟨m_1, s_1, A_12, cap_12, cs_1⟩ M_1 _ w_3 hM_1 I_1 f p_4
  obtain ⟨I_1L, hr_2⟩ := I_1
  obtain ⟨m_2, r_1, rfl, hs_1, hn_1⟩ := loop_step I_1L
  unfold ref25_kept_s1 at hs_1
  refine R_seq (RR (Y f 2 fun _ f => Z f (Y29 (v := .slice A_9 d0.fChanges.length cap_9) rfl (ad := ⟨b_1, 14, none⟩) (p_4.ownCell 2 rfl 14)) fun _ f => Y f 2 fun _ f => eT (RcF f hs_1 (fun h_11 hF_2 => ?_) fun h_11 hF_9 => ?_)))
  ·have k_1 := dI.1 h_11
   refine wp_skip (T_n (R_seq (wp_block (RR (Y f 1 fun _ f => Z f (Y29 (v := .slice A_9 d0.fChanges.length cap_9) rfl (ad := ⟨b_1, 14, none⟩) (p_4.ownCell 2 rfl 14)) fun _ f => Y f 1 fun _ f => ?_)))))
   obtain ⟨x_1, hx_1, hF_3⟩ := bS hF_2
   obtain ⟨ad_1, c_1, e_1, -, hr_3, hc_1⟩ := Sli.at_ (h_9.mono hM_1) hx_1
   obtain ⟨A_13, cap_13, A_14, cap_14, rfl, h_12, h_13⟩ := TC0.opn hr_3
   refine Z f (Y28 e_1 rfl (len := d0.fChanges.length) (cap := cap_9) (k := .i64) (i := s_1.2) (e := 72) (sz := 8) (getI_nn hx_1) (getI_lt hx_1)) fun _ f => Z (v := .agg #[S x_1.fId, .int .i8 x_1.fKind, S x_1.fType, .slice A_13 x_1.fProps.length cap_13, .bool x_1.fRetain, .int .i64 x_1.fNode, .bool x_1.fOld, .slice A_14 x_1.fLeans.length cap_14]) f (Y30 (cs := [S x_1.fId, .int .i8 x_1.fKind, S x_1.fType, .slice A_13 x_1.fProps.length cap_13, .bool x_1.fRetain, .int .i64 x_1.fNode, .bool x_1.fOld, .slice A_14 x_1.fLeans.length cap_14]) rfl (ad := ad_1.add (s_1.2.toNat * 8)) (fun j v h => p_4.cell (hc_1 j v h))) fun _ f => Y11 f p_4 (.cells #[S [], .int .i8 0, S [], .slice none 0 0, .bool false, .int .i64 0, .bool false, .slice none 0 0] 72 (0, 0)) fun b_4 w_4 p_5 _ f => Y26 (vs := [S x_1.fId, .int .i8 x_1.fKind, S x_1.fType, .slice A_13 x_1.fProps.length cap_13, .bool x_1.fRetain, .int .i64 x_1.fNode, .bool x_1.fOld, .slice A_14 x_1.fLeans.length cap_14]) (j := 0) f p_5 rfl rfl (by simp [Value.oneCell', S]) (by simp) (by decide) (cs' := #[S x_1.fId, .int .i8 x_1.fKind, S x_1.fType, .slice A_13 x_1.fProps.length cap_13, .bool x_1.fRetain, .int .i64 x_1.fNode, .bool x_1.fOld, .slice A_14 x_1.fLeans.length cap_14]) fun w_5 p_6 _ f => eT (R_seq (RR (Y f 1 fun _ f => Z f (Y29 (v := .int .i8 x_1.fKind) rfl (ad := ⟨b_4, 1, none⟩) (p_6.ownCell 0 rfl 1)) fun _ f => Y f 1 fun _ f => eT ?_)))
   obtain ⟨j_1, hj_1, hF_4⟩ := bS hF_3
   refine R_mid (fun a_21 w_7 => ∃ y_1 : List (List UInt8), j_1 = y_1 ∧ ∃ M_2 : Mem, M_1.le M_2 ∧ ∃ (A_15 : Option Addr), ∃ (cap_15 : Nat), Sli M_2 1 Dat.str A_15 cap_15 y_1 ∧ Frm 29 [(1, .pointer (some (⟨b_1, 0, none⟩))), (2, .pointer (some (⟨b_2, 0, none⟩))), (3, .slice A_12 s_1.1.length cap_12), (4, .int .i64 s_1.2), (5, .pointer (some (⟨b_4, 0, none⟩)))] a_21 ∧ Hp w0 M_2 ((Ent.obj b_4 (.cells #[S x_1.fId, .int .i8 x_1.fKind, S x_1.fType, .slice A_13 x_1.fProps.length cap_13, .bool x_1.fRetain, .int .i64 x_1.fNode, .bool x_1.fOld, .slice A_15 y_1.length cap_15] 72 (0, 0))) :: (Ent.row 72 8 (.slice A_12 s_1.1.length cap_12) s_1.1.length cs_1) :: (Ent.obj b_2 (.cells #[.int .i8 0, .int .i64 0, .slice none 0 0, .slice none 0 0, .slice none 0 0, .slice none 0 0, S [], .slice none 0 0, .int .i64 0, .int .i8 0, .slice none 0 0, .slice none 0 0, S [], .slice none 0 0, .slice none 0 0, .slice none 0 0, .int .i8 0, .int .i8 0] 34 (0, 0))) :: (Ent.obj b_1 (.cells #[.int .i8 d0.fKind, .int .i64 d0.fWidth, .slice A_1 d0.fOld.fOwned.length cap_1, .slice A_2 d0.fOld.fPending.length cap_2, .slice A_3 d0.fOld.fRetained.length cap_3, .slice A_4 d0.fOld.fOuts.length cap_4, S d0.fOld.fText, .slice A_5 d0.fOld.fArgs.length cap_5, .int .i64 d0.fOld.fCalls, .int .i8 d0.fOld.fStatus, .slice A_6 d0.fNew.fScopes.length cap_6, .slice A_7 d0.fNew.fNodes.length cap_7, S d0.fText, .slice A_8 d0.fArgs.length cap_8, .slice A_9 d0.fChanges.length cap_9, .slice A_10 d0.fTasks.length cap_10, .int .i8 d0.fPhase, .int .i8 d0.fStatus] 34 (0, 0))) :: H) w_7) ?_ ?_
   ·refine RcF f hj_1 (fun h_14 hF_5 => ?_) fun h_14 hF_6 => ?_
    ·have k_2 := dI.1 h_14
     refine R_reg (Y f 1 fun _ f => Y25 f p_6 0 rfl rfl (b := b_4) (j := 7) (v := .slice none 0 0) rfl (by exact rfl) (by simp) (by simp) ((Ent.obj b_4 (.cells #[S x_1.fId, .int .i8 x_1.fKind, S x_1.fType, .slice A_13 x_1.fProps.length cap_13, .bool x_1.fRetain, .int .i64 x_1.fNode, .bool x_1.fOld, .slice none 0 0] 72 (0, 0))) :: (Ent.row 72 8 (.slice A_12 s_1.1.length cap_12) s_1.1.length cs_1) :: (Ent.obj b_2 (.cells #[.int .i8 0, .int .i64 0, .slice none 0 0, .slice none 0 0, .slice none 0 0, .slice none 0 0, S [], .slice none 0 0, .int .i64 0, .int .i8 0, .slice none 0 0, .slice none 0 0, S [], .slice none 0 0, .slice none 0 0, .slice none 0 0, .int .i8 0, .int .i8 0] 34 (0, 0))) :: (Ent.obj b_1 (.cells #[.int .i8 d0.fKind, .int .i64 d0.fWidth, .slice A_1 d0.fOld.fOwned.length cap_1, .slice A_2 d0.fOld.fPending.length cap_2, .slice A_3 d0.fOld.fRetained.length cap_3, .slice A_4 d0.fOld.fOuts.length cap_4, S d0.fOld.fText, .slice A_5 d0.fOld.fArgs.length cap_5, .int .i64 d0.fOld.fCalls, .int .i8 d0.fOld.fStatus, .slice A_6 d0.fNew.fScopes.length cap_6, .slice A_7 d0.fNew.fNodes.length cap_7, S d0.fText, .slice A_8 d0.fArgs.length cap_8, .slice A_9 d0.fChanges.length cap_9, .slice A_10 d0.fTasks.length cap_10, .int .i8 d0.fPhase, .int .i8 d0.fStatus] 34 (0, 0))) :: H) rfl fun w_6 p_7 _ f => eT ?_)
     exact ⟨([] : List (List UInt8)), (sI hF_5).symm, M_1, (mR _), none, 0, Sli.nil, f.kp, p_7⟩
    ·have k_3 := iff_f dI h_14
     refine wp_skip (T_n ?_)
     exact ⟨x_1.fLeans, (sI hF_6).symm, M_1, (mR _), A_14, cap_14, h_13, f.kp, p_6⟩
   ·rintro a_21 w_7 ⟨y_1, hq_1, M_2, hM_2, A_15, cap_15, h_15, f, p_8⟩
    subst j_1
    refine T_n (R_reg (Y f 1 fun _ f => Z (v := .agg #[S x_1.fId, .int .i8 x_1.fKind, S x_1.fType, .slice A_13 x_1.fProps.length cap_13, .bool x_1.fRetain, .int .i64 x_1.fNode, .bool x_1.fOld, .slice A_15 y_1.length cap_15]) f (Y30 (cs := [S x_1.fId, .int .i8 x_1.fKind, S x_1.fType, .slice A_13 x_1.fProps.length cap_13, .bool x_1.fRetain, .int .i64 x_1.fNode, .bool x_1.fOld, .slice A_15 y_1.length cap_15]) rfl (ad := ⟨b_4, 0, none⟩) (own_cells (p_8.ownCell 0 rfl) 0 rfl)) fun _ f => V_allocS (k := 1) (c := 1) f p_8 (.cells #[S x_1.fId, .int .i8 x_1.fKind, S x_1.fType, .slice A_13 x_1.fProps.length cap_13, .bool x_1.fRetain, .int .i64 x_1.fNode, .bool x_1.fOld, .slice A_15 y_1.length cap_15] 72 (0, 0)) (by kernel_rfl) (fun _ => by kernel_rfl) fun b_5 w_8 p_9 _ f => ?_))
    have p_10 := p_9.pl [2]
    obtain ⟨g_1, hF_7⟩ := nS hF_4
    refine Y20 (z := .agg #[S [], .int .i8 0, S [], .slice none 0 0, .bool false, .int .i64 0, .bool false, .slice none 0 0]) (f := emb_TC0) (xs := s_1.1) (ys := [(⟨x_1.fId, x_1.fKind, x_1.fType, x_1.fProps, (x_1.fRetain), x_1.fNode, (x_1.fOld), y_1⟩ : TC0)]) (news := [S x_1.fId, .int .i8 x_1.fKind, S x_1.fType, .slice A_13 x_1.fProps.length cap_13, .bool x_1.fRetain, .int .i64 x_1.fNode, .bool x_1.fOld, .slice A_15 y_1.length cap_15]) (ad := ⟨b_5, 0, none⟩) (m := 1) (c := 1) f p_10 (RepSeq.mono hM_2 _ _ hr_2) (by exact ⟨_, _, rfl, TC0.shut (h_12.mono hM_2) h_15, rfl⟩) rfl rfl rfl rfl (own_cells (p_10.ownCell 1 rfl) 0 rfl) (by exact g_1) (by have hg_ := g_1; first | omega | (simp only [List.length_cons, List.length_nil] at *; omega)) fun A_16 cap_16 cs_2 w_9 p_11 hr_4 _ f => ?_
    have p_12 := p_11.pl [1]
    have p_13 := p_12.drop
    refine Y f 1 fun _ f => W_end rfl (B_n (T_n (R_reg (Y f 1 fun _ f => ?_))))
    obtain ⟨g_2, hF_8⟩ := nS hF_7
    refine Y f 1 fun _ f => ?_
    have f := f.st 12 (congrArg (Value.int .i64) (inR_wrap g_2))
    refine Y f 1 fun _ f => W_end rfl ?_
    have p_18 := p_13.pl [3, 3, 2, 3]
    refine T_n ?_
    obtain rfl := sI hF_8
    exact ⟨⟨m_2, (s_1.1 ++ [(⟨x_1.fId, x_1.fKind, x_1.fType, x_1.fProps, (x_1.fRetain), x_1.fNode, (x_1.fOld), y_1⟩ : TC0)], s_1.2 + 1), A_16, cap_16, cs_2⟩, Nat.lt_succ_self _, M_2, (hM_1.trans hM_2), ⟨hn_1, hr_4⟩, f.kp, (p_18.dropN 1)⟩
  ·have k_4 := iff_f dI h_11
   refine wp_exit (T_x (T_x ?_))
   obtain rfl := sI hF_9
   exact ⟨rfl, s_1.1, (sI hn_1).symm, M_1, hM_1, A_12, cap_12, cs_1, hr_2, f.kp, p_4⟩
 ·rintro _ _ w_11 ⟨rfl, y_2, hq_, M_3, hM_3, A_17, cap_17, cs_3, hr_5, f, p_14⟩
  subst b_3
  refine B_x (T_n (RR (Y f 2 fun _ f => Y25 f p_14 2 rfl rfl (b := b_1) (j := 14) (v := .slice A_17 y_2.length cap_17) rfl (by exact rfl) (by simp) (by simp) ((Ent.row 72 8 (.slice A_17 y_2.length cap_17) y_2.length cs_3) :: (Ent.obj b_2 (.cells #[.int .i8 0, .int .i64 0, .slice none 0 0, .slice none 0 0, .slice none 0 0, .slice none 0 0, S [], .slice none 0 0, .int .i64 0, .int .i8 0, .slice none 0 0, .slice none 0 0, S [], .slice none 0 0, .slice none 0 0, .slice none 0 0, .int .i8 0, .int .i8 0] 34 (0, 0))) :: (Ent.obj b_1 (.cells #[.int .i8 d0.fKind, .int .i64 d0.fWidth, .slice A_1 d0.fOld.fOwned.length cap_1, .slice A_2 d0.fOld.fPending.length cap_2, .slice A_3 d0.fOld.fRetained.length cap_3, .slice A_4 d0.fOld.fOuts.length cap_4, S d0.fOld.fText, .slice A_5 d0.fOld.fArgs.length cap_5, .int .i64 d0.fOld.fCalls, .int .i8 d0.fOld.fStatus, .slice A_6 d0.fNew.fScopes.length cap_6, .slice A_7 d0.fNew.fNodes.length cap_7, S d0.fText, .slice A_8 d0.fArgs.length cap_8, .slice A_17 y_2.length cap_17, .slice A_10 d0.fTasks.length cap_10, .int .i8 d0.fPhase, .int .i8 d0.fStatus] 34 (0, 0))) :: H) rfl fun w_12 p_19 _ f => eT (RR (Z (v := .agg #[.int .i8 d0.fKind, .int .i64 d0.fWidth, .slice A_1 d0.fOld.fOwned.length cap_1, .slice A_2 d0.fOld.fPending.length cap_2, .slice A_3 d0.fOld.fRetained.length cap_3, .slice A_4 d0.fOld.fOuts.length cap_4, S d0.fOld.fText, .slice A_5 d0.fOld.fArgs.length cap_5, .int .i64 d0.fOld.fCalls, .int .i8 d0.fOld.fStatus, .slice A_6 d0.fNew.fScopes.length cap_6, .slice A_7 d0.fNew.fNodes.length cap_7, S d0.fText, .slice A_8 d0.fArgs.length cap_8, .slice A_17 y_2.length cap_17, .slice A_10 d0.fTasks.length cap_10, .int .i8 d0.fPhase, .int .i8 d0.fStatus]) f (Y30 (cs := [.int .i8 d0.fKind, .int .i64 d0.fWidth, .slice A_1 d0.fOld.fOwned.length cap_1, .slice A_2 d0.fOld.fPending.length cap_2, .slice A_3 d0.fOld.fRetained.length cap_3, .slice A_4 d0.fOld.fOuts.length cap_4, S d0.fOld.fText, .slice A_5 d0.fOld.fArgs.length cap_5, .int .i64 d0.fOld.fCalls, .int .i8 d0.fOld.fStatus, .slice A_6 d0.fNew.fScopes.length cap_6, .slice A_7 d0.fNew.fNodes.length cap_7, S d0.fText, .slice A_8 d0.fArgs.length cap_8, .slice A_17 y_2.length cap_17, .slice A_10 d0.fTasks.length cap_10, .int .i8 d0.fPhase, .int .i8 d0.fStatus]) rfl (ad := ⟨b_1, 0, none⟩) (own_cells (p_19.ownCell 2 rfl) 0 rfl)) fun _ f => ?_)))))
  obtain ⟨A_18, cap_18, M_4, hv_2, hM_4, p_20, h_16⟩ := p_19.rowSli (f := emb_TC0) (xs := y_2) szd_TC0 hr_5
  have f := Frm.set f 28 (v := .agg #[.int .i8 d0.fKind, .int .i64 d0.fWidth, .slice A_1 d0.fOld.fOwned.length cap_1, .slice A_2 d0.fOld.fPending.length cap_2, .slice A_3 d0.fOld.fRetained.length cap_3, .slice A_4 d0.fOld.fOuts.length cap_4, S d0.fOld.fText, .slice A_5 d0.fOld.fArgs.length cap_5, .int .i64 d0.fOld.fCalls, .int .i8 d0.fOld.fStatus, .slice A_6 d0.fNew.fScopes.length cap_6, .slice A_7 d0.fNew.fNodes.length cap_7, S d0.fText, .slice A_8 d0.fArgs.length cap_8, .slice A_17 y_2.length cap_17, .slice A_10 d0.fTasks.length cap_10, .int .i8 d0.fPhase, .int .i8 d0.fStatus]) (v' := .agg #[.int .i8 d0.fKind, .int .i64 d0.fWidth, .slice A_1 d0.fOld.fOwned.length cap_1, .slice A_2 d0.fOld.fPending.length cap_2, .slice A_3 d0.fOld.fRetained.length cap_3, .slice A_4 d0.fOld.fOuts.length cap_4, S d0.fOld.fText, .slice A_5 d0.fOld.fArgs.length cap_5, .int .i64 d0.fOld.fCalls, .int .i8 d0.fOld.fStatus, .slice A_6 d0.fNew.fScopes.length cap_6, .slice A_7 d0.fNew.fNodes.length cap_7, S d0.fText, .slice A_8 d0.fArgs.length cap_8, .slice A_18 y_2.length cap_18, .slice A_10 d0.fTasks.length cap_10, .int .i8 d0.fPhase, .int .i8 d0.fStatus]) (by kernel_rfl) (by rw [hv_2])
  have f := f.st 26 (hv_2)
  have p_21 : Hp w0 M_4 ((Ent.obj b_2 (.cells #[.int .i8 0, .int .i64 0, .slice none 0 0, .slice none 0 0, .slice none 0 0, .slice none 0 0, S [], .slice none 0 0, .int .i64 0, .int .i8 0, .slice none 0 0, .slice none 0 0, S [], .slice none 0 0, .slice none 0 0, .slice none 0 0, .int .i8 0, .int .i8 0] 34 (0, 0))) :: (Ent.obj b_1 (.cells #[.int .i8 d0.fKind, .int .i64 d0.fWidth, .slice A_1 d0.fOld.fOwned.length cap_1, .slice A_2 d0.fOld.fPending.length cap_2, .slice A_3 d0.fOld.fRetained.length cap_3, .slice A_4 d0.fOld.fOuts.length cap_4, S d0.fOld.fText, .slice A_5 d0.fOld.fArgs.length cap_5, .int .i64 d0.fOld.fCalls, .int .i8 d0.fOld.fStatus, .slice A_6 d0.fNew.fScopes.length cap_6, .slice A_7 d0.fNew.fNodes.length cap_7, S d0.fText, .slice A_8 d0.fArgs.length cap_8, .slice A_18 y_2.length cap_18, .slice A_10 d0.fTasks.length cap_10, .int .i8 d0.fPhase, .int .i8 d0.fStatus] 34 (0, 0))) :: H) w_12 := by rw [hv_2] at p_20; exact p_20
  refine Y26 (vs := [.int .i8 d0.fKind, .int .i64 d0.fWidth, .slice A_1 d0.fOld.fOwned.length cap_1, .slice A_2 d0.fOld.fPending.length cap_2, .slice A_3 d0.fOld.fRetained.length cap_3, .slice A_4 d0.fOld.fOuts.length cap_4, S d0.fOld.fText, .slice A_5 d0.fOld.fArgs.length cap_5, .int .i64 d0.fOld.fCalls, .int .i8 d0.fOld.fStatus, .slice A_6 d0.fNew.fScopes.length cap_6, .slice A_7 d0.fNew.fNodes.length cap_7, S d0.fText, .slice A_8 d0.fArgs.length cap_8, .slice A_18 y_2.length cap_18, .slice A_10 d0.fTasks.length cap_10, .int .i8 d0.fPhase, .int .i8 d0.fStatus]) (j := 0) f p_21 rfl rfl (by simp [Value.oneCell', S]) (by simp) (by decide) (cs' := #[.int .i8 d0.fKind, .int .i64 d0.fWidth, .slice A_1 d0.fOld.fOwned.length cap_1, .slice A_2 d0.fOld.fPending.length cap_2, .slice A_3 d0.fOld.fRetained.length cap_3, .slice A_4 d0.fOld.fOuts.length cap_4, S d0.fOld.fText, .slice A_5 d0.fOld.fArgs.length cap_5, .int .i64 d0.fOld.fCalls, .int .i8 d0.fOld.fStatus, .slice A_6 d0.fNew.fScopes.length cap_6, .slice A_7 d0.fNew.fNodes.length cap_7, S d0.fText, .slice A_8 d0.fArgs.length cap_8, .slice A_18 y_2.length cap_18, .slice A_10 d0.fTasks.length cap_10, .int .i8 d0.fPhase, .int .i8 d0.fStatus]) fun w_13 p_22 _ f => eT (wp_ret (E_rv1 f rfl (Y9 (cs := [.int .i8 d0.fKind, .int .i64 d0.fWidth, .slice A_1 d0.fOld.fOwned.length cap_1, .slice A_2 d0.fOld.fPending.length cap_2, .slice A_3 d0.fOld.fRetained.length cap_3, .slice A_4 d0.fOld.fOuts.length cap_4, S d0.fOld.fText, .slice A_5 d0.fOld.fArgs.length cap_5, .int .i64 d0.fOld.fCalls, .int .i8 d0.fOld.fStatus, .slice A_6 d0.fNew.fScopes.length cap_6, .slice A_7 d0.fNew.fNodes.length cap_7, S d0.fText, .slice A_8 d0.fArgs.length cap_8, .slice A_18 y_2.length cap_18, .slice A_10 d0.fTasks.length cap_10, .int .i8 d0.fPhase, .int .i8 d0.fStatus]) (ad := ⟨b_2, 0, none⟩) f (own_cells (p_22.ownCell 0 rfl) 0 rfl)) ?_))
  obtain rfl := sI hF_1
  exact ⟨_, rfl, M_4, (hM_3.trans hM_4), (p_22.dropN 2), ⟨[.int .i8 d0.fKind, .int .i64 d0.fWidth, .slice A_1 d0.fOld.fOwned.length cap_1, .slice A_2 d0.fOld.fPending.length cap_2, .slice A_3 d0.fOld.fRetained.length cap_3, .slice A_4 d0.fOld.fOuts.length cap_4, S d0.fOld.fText, .slice A_5 d0.fOld.fArgs.length cap_5, .int .i64 d0.fOld.fCalls, .int .i8 d0.fOld.fStatus, .slice A_6 d0.fNew.fScopes.length cap_6, .slice A_7 d0.fNew.fNodes.length cap_7, S d0.fText, .slice A_8 d0.fArgs.length cap_8, .slice A_18 y_2.length cap_18, .slice A_10 d0.fTasks.length cap_10, .int .i8 d0.fPhase, .int .i8 d0.fStatus], rfl, (TK0.shut (h_1.mono (hM_3.trans hM_4)) (h_2.mono (hM_3.trans hM_4)) (h_3.mono (hM_3.trans hM_4)) (h_4.mono (hM_3.trans hM_4)) (h_5.mono (hM_3.trans hM_4)) (h_6.mono (hM_3.trans hM_4)) (h_7.mono (hM_3.trans hM_4)) (h_8.mono (hM_3.trans hM_4)) h_16 (h_10.mono (hM_3.trans hM_4)))⟩⟩
def ref23_owned_s1 (n : Nat) (d0 : TF0) (d1 : List UInt8) (s_1 : Int × List UInt8 × List UInt8 × List UInt8 × List TE0 × Bool × List (List UInt8)) : Option (Lp (Int × List UInt8 × List UInt8 × List UInt8 × List TE0 × Bool × List (List UInt8)) (Sum (List UInt8 × List UInt8 × List UInt8 × List TE0 × Bool × List (List UInt8)) (List UInt8 × List UInt8 × List UInt8 × List TE0 × Bool × List (List UInt8)))) :=
    bif (decide (s_1.1 < ((d0.fOwned.length : Nat) : Int))) then
      ((getI d0.fOwned s_1.1).bind fun x_1 =>
      bif (decide (x_1.fId = d1)) then
        ((getI d0.fOwned s_1.1).bind fun x_2 =>
        some (.br (.inl (x_2.fId, x_2.fType, x_2.fPhys, x_2.fProps, (x_2.fRetain), x_2.fLeans))))
      else
        need (inR .i64 (s_1.1 + 1)) <|
        some (.nx (s_1.1 + 1, s_1.2.1, s_1.2.2.1, s_1.2.2.2.1, s_1.2.2.2.2.1, (s_1.2.2.2.2.2.1), s_1.2.2.2.2.2.2)))
    else
      some (.br (.inr (s_1.2.1, s_1.2.2.1, s_1.2.2.2.1, s_1.2.2.2.2.1, (s_1.2.2.2.2.2.1), s_1.2.2.2.2.2.2)))
def ref23_owned (n : Nat) (d0 : TF0) (d1 : List UInt8) : Option (TS0 × Bool) :=
  (loopF (ref23_owned_s1 n d0 d1) n ((0 : Int), ([] : List UInt8), ([] : List UInt8), ([] : List UInt8), ([] : List TE0), (false), ([] : List (List UInt8)))).bind fun b_3 =>
  (match b_3 with 
  | .inl y_1 => some (((⟨y_1.1, y_1.2.1, y_1.2.2.1, y_1.2.2.2.1, (y_1.2.2.2.2.1), y_1.2.2.2.2.2⟩ : TS0), (true))) 
  | .inr y_2 => some ((z_TS0, (false))))
set_option maxRecDepth 20000 in
theorem ref23_owned_ok (n : Nat) (M : Mem) (c0 : List Value) (d0 : TF0) (h0 : Rep M (emb_TF0 d0) c0) (d1 : List UInt8) (r : TS0 × Bool) (hF : ref23_owned n d0 d1 = some r) : Ok Tryz.prog M 46 [.agg c0.toArray, S d1] (fun M' v => ∃ (c0 : List Value), v = .tuple #[.agg c0.toArray, .bool r.2] ∧ Rep M' (emb_TS0 r.1) c0) := by
 unfold ref23_owned at hF
 intro M1 hM0 w0 H w p0
 replace h0 := Rep.mono hM0 _ _ h0
 obtain ⟨A_1, cap_1, A_2, cap_2, A_3, cap_3, A_4, cap_4, A_5, cap_5, rfl, h_1, h_2, h_3, h_4, h_5⟩ := TF0.opn h0
 refine R_enter 28 Tryz.func46 rfl rfl (by simp) fun a0 f0 => RR (Y12 (cs := #[.slice A_1 d0.fOwned.length cap_1, .slice A_2 d0.fPending.length cap_2, .slice A_3 d0.fRetained.length cap_3, .slice A_4 d0.fOuts.length cap_4, S d0.fText, .slice A_5 d0.fArgs.length cap_5, .int .i64 d0.fCalls, .int .i8 d0.fStatus]) (T := 26) f0 p0 fun b_1 M_1 w_1 hM_1 hc_1 p_1 _ f => ?_)
 have hc_2 := fz_box hc_1
 refine Y11 f p_1 (.cells #[S [], S [], S [], .slice none 0 0, .bool false, .slice none 0 0] 68 (0, 0)) fun b_2 w_2 p_2 _ f => Y f 1 fun _ f => eT (R_seq (RR (Y f 1 fun _ f => eT (wp_block ?_))))
 obtain ⟨b_3, hL_1, hF_1⟩ := bS hF
 refine wp_mono (Q := fun e a w => (e = .ret ∧ (∃ y_1 : List UInt8 × List UInt8 × List UInt8 × List TE0 × Bool × List (List UInt8), b_3 = .inl y_1 ∧ ∃ M_3 : Mem, M_1.le M_3 ∧ ∃ (A_12 : Option Addr), ∃ (cap_12 : Nat), ∃ (A_13 : Option Addr), ∃ (cap_13 : Nat), Sli M_3 8 emb_TE0 A_12 cap_12 y_1.2.2.2.1 ∧ Sli M_3 1 Dat.str A_13 cap_13 y_1.2.2.2.2.2 ∧ Frm 28 [(4, .pointer (some (⟨b_2, 0, none⟩))), (5, .bool true)] a ∧ Hp w0 M_3 ((Ent.obj b_2 (.cells #[S y_1.1, S y_1.2.1, S y_1.2.2.1, .slice A_12 y_1.2.2.2.1.length cap_12, .bool y_1.2.2.2.2.1, .slice A_13 y_1.2.2.2.2.2.length cap_13] 68 (0, 0))) :: H) w)) ∨ (e = .exit 0 ∧ (∃ y_2 : List UInt8 × List UInt8 × List UInt8 × List TE0 × Bool × List (List UInt8), b_3 = .inr y_2 ∧ ∃ M_4 : Mem, M_1.le M_4 ∧ ∃ (A_14 : Option Addr), ∃ (cap_14 : Nat), ∃ (A_15 : Option Addr), ∃ (cap_15 : Nat), Sli M_4 8 emb_TE0 A_14 cap_14 y_2.2.2.2.1 ∧ Sli M_4 1 Dat.str A_15 cap_15 y_2.2.2.2.2.2 ∧ Frm 28 [(4, .pointer (some (⟨b_2, 0, none⟩)))] a ∧ Hp w0 M_4 ((Ent.obj b_2 (.cells #[S y_2.1, S y_2.2.1, S y_2.2.2.1, .slice A_14 y_2.2.2.2.1.length cap_14, .bool y_2.2.2.2.2.1, .slice A_15 y_2.2.2.2.2.2.length cap_15] 68 (0, 0))) :: H) w))) (R_loop (n := 28) (w0 := w0) (M := M_1) (fun (x : Nat × (Int × List UInt8 × List UInt8 × List UInt8 × List TE0 × Bool × List (List UInt8)) × (Option Addr) × Nat × (Option Addr) × Nat) => match x with | (m_1, s_1, A_6, cap_6, A_7, cap_7) => [(1, S d1), (2, .pointer (some (⟨b_1, 0, none⟩))), (4, .pointer (some (⟨b_2, 0, none⟩))), (6, .int .i64 s_1.1)]) (fun (x : Nat × (Int × List UInt8 × List UInt8 × List UInt8 × List TE0 × Bool × List (List UInt8)) × (Option Addr) × Nat × (Option Addr) × Nat) => match x with | (m_1, s_1, A_6, cap_6, A_7, cap_7) => ((Ent.obj b_2 (.cells #[S s_1.2.1, S s_1.2.2.1, S s_1.2.2.2.1, .slice A_6 s_1.2.2.2.2.1.length cap_6, .bool s_1.2.2.2.2.2.1, .slice A_7 s_1.2.2.2.2.2.2.length cap_7] 68 (0, 0))) :: H)) (fun (x : Nat × (Int × List UInt8 × List UInt8 × List UInt8 × List TE0 × Bool × List (List UInt8)) × (Option Addr) × Nat × (Option Addr) × Nat) (MM : Mem) => match x with | (m_1, s_1, A_6, cap_6, A_7, cap_7) => loopF (ref23_owned_s1 n d0 d1) m_1 s_1 = some b_3 ∧ Sli MM 8 emb_TE0 A_6 cap_6 s_1.2.2.2.2.1 ∧ Sli MM 1 Dat.str A_7 cap_7 s_1.2.2.2.2.2.2) (fun (x : Nat × (Int × List UInt8 × List UInt8 × List UInt8 × List TE0 × Bool × List (List UInt8)) × (Option Addr) × Nat × (Option Addr) × Nat) => match x with | (m_1, s_1, A_6, cap_6, A_7, cap_7) => m_1) (n, ((0 : Int), ([] : List UInt8), ([] : List UInt8), ([] : List UInt8), ([] : List TE0), (false), ([] : List (List UInt8))), none, 0, none, 0) (f.kp) p_2 ⟨hL_1, Sli.nil, Sli.nil⟩ ?_) ?_
 ·rintro ⟨m_1, s_1, A_6, cap_6, A_7, cap_7⟩ M_2 _ w_3 hM_2 I_1 f p_3
  obtain ⟨I_1L, h_6, h_7⟩ := I_1
  obtain ⟨m_2, r_1, rfl, hs_1, hn_1⟩ := loop_step I_1L
  unfold ref23_owned_s1 at hs_1
  refine R_seq (RR (Y f 2 fun _ f => Y14 f p_3 (fzu hM_2 hc_2) 0 rfl fun _ f => Y f 2 fun _ f => eT (RcF f hs_1 (fun h_8 hF_2 => ?_) fun h_8 hF_8 => ?_)))
  ·have k_1 := dI.1 h_8
   refine wp_skip (T_n (R_seq (wp_block (RR (Y f 1 fun _ f => Y14 f p_3 (fzu hM_2 hc_2) 0 rfl fun _ f => Y f 1 fun _ f => ?_)))))
   obtain ⟨x_1, hx_1, hF_3⟩ := bS hF_2
   obtain ⟨ad_1, c_1, e_1, -, hr_1, hc_3⟩ := Sli.at_ (h_1.mono (hM_1.trans hM_2)) hx_1
   obtain ⟨A_8, cap_8, A_9, cap_9, rfl, h_9, h_10⟩ := TS0.opn hr_1
   refine Z f (Y28 e_1 rfl (len := d0.fOwned.length) (cap := cap_1) (k := .i64) (i := s_1.1) (e := 68) (sz := 6) (getI_nn hx_1) (getI_lt hx_1)) fun _ f => Y f 1 fun _ f => Y14 f p_3 hc_3 0 rfl fun _ f => Y f 1 fun _ f => Z f (Y33 rfl (l := x_1.fId) (m := d1)) fun _ f => eT (RcF f hF_3 (fun h_11 hF_4 => ?_) fun h_11 hF_6 => ?_)
   ·have k_2 := dI.1 h_11
    refine RR (Y f 1 fun _ f => Y14 f p_3 (fzu hM_2 hc_2) 0 rfl fun _ f => Y f 1 fun _ f => ?_)
    obtain ⟨x_2, hx_2, hF_5⟩ := bS hF_4
    obtain ⟨ad_2, c_2, e_2, -, hr_2, hc_4⟩ := Sli.at_ (h_1.mono (hM_1.trans hM_2)) hx_2
    obtain ⟨A_10, cap_10, A_11, cap_11, rfl, h_12, h_13⟩ := TS0.opn hr_2
    refine Z f (Y28 e_2 rfl (len := d0.fOwned.length) (cap := cap_1) (k := .i64) (i := s_1.1) (e := 68) (sz := 6) (getI_nn hx_2) (getI_lt hx_2)) fun _ f => Z (v := .agg #[S x_2.fId, S x_2.fType, S x_2.fPhys, .slice A_10 x_2.fProps.length cap_10, .bool x_2.fRetain, .slice A_11 x_2.fLeans.length cap_11]) f (Y30 (cs := [S x_2.fId, S x_2.fType, S x_2.fPhys, .slice A_10 x_2.fProps.length cap_10, .bool x_2.fRetain, .slice A_11 x_2.fLeans.length cap_11]) rfl (ad := ad_2.add (s_1.1.toNat * 6)) (fun j v h => p_3.cell (hc_4 j v h))) fun _ f => Y26 (vs := [S x_2.fId, S x_2.fType, S x_2.fPhys, .slice A_10 x_2.fProps.length cap_10, .bool x_2.fRetain, .slice A_11 x_2.fLeans.length cap_11]) (j := 0) f p_3 rfl rfl (by simp [Value.oneCell', S]) (by simp) (by decide) (cs' := #[S x_2.fId, S x_2.fType, S x_2.fPhys, .slice A_10 x_2.fProps.length cap_10, .bool x_2.fRetain, .slice A_11 x_2.fLeans.length cap_11]) fun w_4 p_4 _ f => Y f 1 fun _ f => eT (wp_ret (B_r (T_r (T_r ?_))))
    obtain rfl := sI hF_5
    exact .inl ⟨rfl, (x_2.fId, x_2.fType, x_2.fPhys, x_2.fProps, (x_2.fRetain), x_2.fLeans), (sI hn_1).symm, M_2, hM_2, A_10, cap_10, A_11, cap_11, h_12, h_13, f.kp, p_4⟩
   ·have k_3 := iff_f dI h_11
    refine wp_skip (B_n (T_n (R_reg (Y f 1 fun _ f => ?_))))
    obtain ⟨g_1, hF_7⟩ := nS hF_6
    refine Y f 1 fun _ f => ?_
    have f := f.st 13 (congrArg (Value.int .i64) (inR_wrap g_1))
    refine Y f 1 fun _ f => eT ?_
    obtain rfl := sI hF_7
    exact ⟨⟨m_2, (s_1.1 + 1, s_1.2.1, s_1.2.2.1, s_1.2.2.2.1, s_1.2.2.2.2.1, (s_1.2.2.2.2.2.1), s_1.2.2.2.2.2.2), A_6, cap_6, A_7, cap_7⟩, Nat.lt_succ_self _, M_2, hM_2, ⟨hn_1, h_6, h_7⟩, f.kp, p_3⟩
  ·have k_4 := iff_f dI h_8
   refine wp_exit (T_x (T_x ?_))
   obtain rfl := sI hF_8
   exact .inr ⟨rfl, (s_1.2.1, s_1.2.2.1, s_1.2.2.2.1, s_1.2.2.2.2.1, (s_1.2.2.2.2.2.1), s_1.2.2.2.2.2.2), (sI hn_1).symm, M_2, hM_2, A_6, cap_6, A_7, cap_7, h_6, h_7, f.kp, p_3⟩
 ·rintro _ _ w_7 (⟨rfl, y_1, rfl, M_3, hM_3, A_12, cap_12, A_13, cap_13, h_14, h_15, f, p_5⟩ | ⟨rfl, y_2, rfl, M_4, hM_4, A_14, cap_14, A_15, cap_15, h_16, h_17, f, p_6⟩)
  ·refine B_r (T_r (E_rv2 f rfl (Y9 (cs := [S y_1.1, S y_1.2.1, S y_1.2.2.1, .slice A_12 y_1.2.2.2.1.length cap_12, .bool y_1.2.2.2.2.1, .slice A_13 y_1.2.2.2.2.2.length cap_13]) (ad := ⟨b_2, 0, none⟩) f (own_cells (p_5.ownCell 0 rfl) 0 rfl)) (Y10 (v := .bool true) f) ?_))
   obtain rfl := sI hF_1
   exact ⟨_, rfl, M_3, (hM_1.trans hM_3), (p_5.dropN 1), ⟨[S y_1.1, S y_1.2.1, S y_1.2.2.1, .slice A_12 y_1.2.2.2.1.length cap_12, .bool y_1.2.2.2.2.1, .slice A_13 y_1.2.2.2.2.2.length cap_13], rfl, (TS0.shut h_14 h_15)⟩⟩
  ·refine B_x (T_n (RR (Y f 1 fun _ f => Y26 (vs := [S [], S [], S [], .slice none 0 0, .bool false, .slice none 0 0]) (j := 0) f p_6 rfl rfl (by simp [Value.oneCell', S]) (by simp) (by decide) (cs' := #[S [], S [], S [], .slice none 0 0, .bool false, .slice none 0 0]) fun w_8 p_7 _ f => Y f 1 fun _ f => eT (wp_ret (E_rv2 f rfl (Y9 (cs := [S [], S [], S [], .slice none 0 0, .bool false, .slice none 0 0]) (ad := ⟨b_2, 0, none⟩) f (own_cells (p_7.ownCell 0 rfl) 0 rfl)) (Y10 (v := .bool false) f) ?_)))))
   obtain rfl := sI hF_1
   exact ⟨_, rfl, M_4, (hM_1.trans hM_4), (p_7.dropN 1), ⟨[S [], S [], S [], .slice none 0 0, .bool false, .slice none 0 0], rfl, (TS0.shut Sli.nil Sli.nil)⟩⟩
def ref23_Find_s1 (n : Nat) (d0 : List TC0) (d1 : List UInt8) (s_1 : Int) : Option (Lp Int (Sum Int Unit)) :=
    bif (decide (s_1 < ((d0.length : Nat) : Int))) then
      ((getI d0 s_1).bind fun x_1 =>
      bif (decide (x_1.fId = d1)) then
        (some (.br (.inl s_1)))
      else
        need (inR .i64 (s_1 + 1)) <|
        some (.nx (s_1 + 1)))
    else
      some (.br (.inr ()))
def ref23_Find (n : Nat) (d0 : List TC0) (d1 : List UInt8) : Option (Int × Bool) :=
  (loopF (ref23_Find_s1 n d0 d1) n (0 : Int)).bind fun b_1 =>
  (match b_1 with 
  | .inl y_1 => some ((y_1, (true))) 
  | .inr y_2 => some (((0 : Int), (false))))
theorem ref23_Find_ok (n : Nat) (M : Mem) (A0 : Option Addr) (cap0 : Nat) (d0 : List TC0) (h0 : Sli M 8 emb_TC0 A0 cap0 d0) (d1 : List UInt8) (r : Int × Bool) (hF : ref23_Find n d0 d1 = some r) : Ok Tryz.prog M 47 [.slice A0 d0.length cap0, S d1] (fun _ v => v = .tuple #[.int .i64 r.1, .bool r.2]) := by
 unfold ref23_Find at hF
 intro M1 hM0 w0 H w p0
 replace h0 := h0.mono hM0
 refine R_enter 21 Tryz.func47 rfl rfl (by simp) fun a0 f0 => RR (Y f0 2 fun _ f => eT (R_seq (RR (Y f 1 fun _ f => eT (wp_block ?_)))))
 obtain ⟨b_1, hL_1, hF_1⟩ := bS hF
 refine wp_mono (Q := fun e a w => (e = .ret ∧ (∃ y_1 : Int, b_1 = .inl y_1 ∧ ∃ M_2 : Mem, M1.le M_2 ∧ Frm 21 [(4, .int .i64 y_1), (5, .bool true)] a ∧ Hp w0 M_2 (H) w)) ∨ (e = .exit 0 ∧ (∃ y_2 : Unit, b_1 = .inr y_2 ∧ ∃ M_3 : Mem, M1.le M_3 ∧ Frm 21 [] a ∧ Hp w0 M_3 (H) w))) (R_loop (n := 21) (w0 := w0) (M := M1) (fun (x : Nat × Int) => match x with | (m_1, s_1) => [(0, .slice A0 d0.length cap0), (1, S d1), (6, .int .i64 s_1)]) (fun (x : Nat × Int) => match x with | (m_1, s_1) => (H)) (fun (x : Nat × Int) (MM : Mem) => match x with | (m_1, s_1) => loopF (ref23_Find_s1 n d0 d1) m_1 s_1 = some b_1) (fun (x : Nat × Int) => match x with | (m_1, s_1) => m_1) (n, (0 : Int)) (f.kp) p0 hL_1 ?_) ?_
 ·rintro ⟨m_1, s_1⟩ M_1 _ w_1 hM_1 I_1 f p_1
  have I_1L := I_1
  obtain ⟨m_2, r_1, rfl, hs_1, hn_1⟩ := loop_step I_1L
  unfold ref23_Find_s1 at hs_1
  refine R_seq (RR (Y f 4 fun _ f => eT (RcF f hs_1 (fun h_1 hF_2 => ?_) fun h_1 hF_7 => ?_)))
  ·have k_1 := dI.1 h_1
   refine wp_skip (T_n (R_seq (wp_block (RR (Y f 2 fun _ f => ?_)))))
   obtain ⟨x_1, hx_1, hF_3⟩ := bS hF_2
   obtain ⟨ad_1, c_1, e_1, -, hr_1, hc_1⟩ := Sli.at_ (h0.mono hM_1) hx_1
   obtain ⟨A_1, cap_1, A_2, cap_2, rfl, h_2, h_3⟩ := TC0.opn hr_1
   refine Z f (Y28 e_1 rfl (len := d0.length) (cap := cap0) (k := .i64) (i := s_1) (e := 72) (sz := 8) (getI_nn hx_1) (getI_lt hx_1)) fun _ f => Y f 1 fun _ f => Y14 f p_1 hc_1 0 rfl fun _ f => Y f 1 fun _ f => Z f (Y33 rfl (l := x_1.fId) (m := d1)) fun _ f => eT (RcF f hF_3 (fun h_4 hF_4 => ?_) fun h_4 hF_5 => ?_)
   ·have k_2 := dI.1 h_4
    refine RR (Y f 3 fun _ f => eT (wp_ret (B_r (T_r (T_r ?_)))))
    obtain rfl := sI hF_4
    exact .inl ⟨rfl, s_1, (sI hn_1).symm, M_1, hM_1, f.kp, p_1⟩
   ·have k_3 := iff_f dI h_4
    refine wp_skip (B_n (T_n (R_reg (Y f 1 fun _ f => ?_))))
    obtain ⟨g_1, hF_6⟩ := nS hF_5
    refine Y f 1 fun _ f => ?_
    have f := f.st 12 (congrArg (Value.int .i64) (inR_wrap g_1))
    refine Y f 1 fun _ f => eT ?_
    obtain rfl := sI hF_6
    exact ⟨⟨m_2, s_1 + 1⟩, Nat.lt_succ_self _, M_1, hM_1, hn_1, f.kp, p_1⟩
  ·have k_4 := iff_f dI h_1
   refine wp_exit (T_x (T_x ?_))
   obtain rfl := sI hF_7
   exact .inr ⟨rfl, (), (sI hn_1).symm, M_1, hM_1, f.kp, p_1⟩
 ·rintro _ _ w_4 (⟨rfl, y_1, rfl, M_2, hM_2, f, p_2⟩ | ⟨rfl, y_2, rfl, M_3, hM_3, f, p_3⟩)
  ·refine B_r (T_r (E_ret2 f rfl (by kernel_rfl : Vc.look _ 4 = some (.int .i64 y_1)) (by kernel_rfl : Vc.look _ 5 = some (.bool true)) ?_))
   obtain rfl := sI hF_1
   exact ⟨_, rfl, M_2, hM_2, p_2, rfl⟩
  ·refine B_x (T_n (RR (Y f 2 fun _ f => eT (wp_ret (E_ret2 f rfl (by kernel_rfl : Vc.look _ 4 = some (.int .i64 0)) (by kernel_rfl : Vc.look _ 5 = some (.bool false)) ?_)))))
   obtain rfl := sI hF_1
   exact ⟨_, rfl, M_3, hM_3, p_3, rfl⟩
def ref23_Leans_s2 (n : Nat) (d0 : TK0) (y_2 : List (List UInt8)) (s_2 : List Bool × Int) : Option (Lp (List Bool × Int) (List Bool)) :=
    bif (decide (s_2.2 < ((y_2.length : Nat) : Int))) then
      ((getI y_2 s_2.2).bind fun x_7 =>
      (ref23_Find n d0.fChanges x_7).bind fun x_8 =>
      bif x_8.2 then
        ((getI s_2.1 x_8.1).bind fun x_9 =>
        need (inR .i64 (s_2.2 + 1)) <|
        some (.nx (s_2.1.set x_8.1.toNat (true), s_2.2 + 1)))
      else
        need (inR .i64 (s_2.2 + 1)) <|
        some (.nx (s_2.1, s_2.2 + 1)))
    else
      some (.br s_2.1)
def ref23_Leans_s3 (n : Nat) (y_3 : List Bool) (s_3 : List Int × Int) : Option (Lp (List Int × Int) (List Int)) :=
    bif (decide (s_3.2 < ((y_3.length : Nat) : Int))) then
      ((getI y_3 s_3.2).bind fun x_10 =>
      bif x_10 then
        (need ((s_3.1.length + 1) * 8 ≤ 140737488355328) <|
        need (inR .i64 (s_3.2 + 1)) <|
        some (.nx (s_3.1 ++ [s_3.2], s_3.2 + 1)))
      else
        need (inR .i64 (s_3.2 + 1)) <|
        some (.nx (s_3.1, s_3.2 + 1)))
    else
      some (.br s_3.1)
def ref23_Leans_s1 (n : Nat) (d0 : TK0) (d1 : Bool) (s_1 : List (List Int) × Int) : Option (Lp (List (List Int) × Int) (List (List Int))) :=
    bif (decide (s_1.2 < ((d0.fChanges.length : Nat) : Int))) then
      ((getI d0.fChanges s_1.2).bind fun x_1 =>
      ((bif d1 then
          ((((getI d0.fChanges s_1.2).bind fun x_2 =>
            (ref23_owned n (⟨d0.fOld.fOwned, d0.fOld.fPending, d0.fOld.fRetained, d0.fOld.fOuts, d0.fOld.fText, d0.fOld.fArgs, d0.fOld.fCalls, d0.fOld.fStatus⟩ : TF0) x_2.fId).bind fun x_3 =>
            some (x_3.1) : Option TS0)).bind fun y_1 =>
          some (y_1.fLeans))
        else
          some (x_1.fLeans) : Option (List (List UInt8)))).bind fun y_2 =>
      need (0 ≤ ((d0.fChanges.length : Nat) : Int) ∧ ((d0.fChanges.length : Nat) : Int) * 1 ≤ 140737488355328 ∧ ((d0.fChanges.length : Nat) : Int) ≤ 140737488355328) <|
      (loopF (ref23_Leans_s2 n d0 y_2) n (List.replicate ((d0.fChanges.length : Nat) : Int).toNat (false : Bool), (0 : Int))).bind fun y_3 =>
      (loopF (ref23_Leans_s3 n y_3) n (([] : List Int), (0 : Int))).bind fun y_4 =>
      need ((s_1.1.length + 1) * 24 ≤ 140737488355328) <|
      need (inR .i64 (s_1.2 + 1)) <|
      some (.nx (s_1.1 ++ [y_4], s_1.2 + 1)))
    else
      some (.br s_1.1)
def ref23_Leans (n : Nat) (d0 : TK0) (d1 : Bool) : Option (List (List Int)) :=
  (loopF (ref23_Leans_s1 n d0 d1) n (([] : List (List Int)), (0 : Int))).bind fun y_5 =>
  some (y_5)
set_option maxRecDepth 20000 in
theorem ref23_Leans_ok (n : Nat) (M : Mem) (c0 : List Value) (d0 : TK0) (h0 : Rep M (emb_TK0 d0) c0) (d1 : Bool) (r : List (List Int)) (hF : ref23_Leans n d0 d1 = some r) : OkH Tryz.prog M [] 15 [.agg c0.toArray, .bool d1] (fun M' E' v => ∃ (A0 : Option Addr) (k0 : Nat) (s0 : List Value), v = .slice A0 r.length k0 ∧ E' = [.row 47 1 (.slice A0 r.length k0) r.length s0] ∧ RepSeq M' (r.map (eL 1 (Dat.int .i64))) s0) := by
 unfold ref23_Leans at hF
 intro M1 hM0 w0 H w p0
 replace h0 := Rep.mono hM0 _ _ h0
 obtain ⟨A_1, cap_1, A_2, cap_2, A_3, cap_3, A_4, cap_4, A_5, cap_5, A_6, cap_6, A_7, cap_7, A_8, cap_8, A_9, cap_9, A_10, cap_10, rfl, h_1, h_2, h_3, h_4, h_5, h_6, h_7, h_8, h_9, h_10⟩ := TK0.opn h0
 refine R_enter 87 Tryz.func15 rfl rfl (by simp) fun a0 f0 => RR (Y12 (cs := #[.int .i8 d0.fKind, .int .i64 d0.fWidth, .slice A_1 d0.fOld.fOwned.length cap_1, .slice A_2 d0.fOld.fPending.length cap_2, .slice A_3 d0.fOld.fRetained.length cap_3, .slice A_4 d0.fOld.fOuts.length cap_4, S d0.fOld.fText, .slice A_5 d0.fOld.fArgs.length cap_5, .int .i64 d0.fOld.fCalls, .int .i8 d0.fOld.fStatus, .slice A_6 d0.fNew.fScopes.length cap_6, .slice A_7 d0.fNew.fNodes.length cap_7, S d0.fText, .slice A_8 d0.fArgs.length cap_8, .slice A_9 d0.fChanges.length cap_9, .slice A_10 d0.fTasks.length cap_10, .int .i8 d0.fPhase, .int .i8 d0.fStatus]) (T := 34) f0 p0 fun b_1 M_1 w_1 hM_1 hc_1 p_1 _ f => ?_)
 have hc_2 := fz_box hc_1
 refine Y f 1 fun _ f => eT (RR (Y f 1 fun _ f => eT (R_seq (RR (Y f 1 fun _ f => eT (wp_block ?_))))))
 obtain ⟨A_11, cap_11, hv_1⟩ : ∃ A cap, Value.slice none 0 0 = .slice A ([] : List (List Int)).length cap := ⟨none, 0, rfl⟩
 have p_2 : Hp w0 M_1 ((Ent.row 47 1 (.slice A_11 ([] : List (List Int)).length cap_11) ([] : List (List Int)).length []) :: H) w_1 := by rw [← hv_1]; exact p_1.nilRow 47 1
 have f := f.st 5 (hv_1)
 have hr_1 : RepSeq M_1 (([] : List (List Int)).map (eL 1 (Dat.int .i64))) [] := rfl
 obtain ⟨b_2, hL_1, hF_1⟩ := bS hF
 refine wp_mono (Q := fun e a w => (e = .exit 0 ∧ (∃ y_5 : List (List Int), b_2 = y_5 ∧ ∃ M_15 : Mem, M_1.le M_15 ∧ ∃ (A_37 : Option Addr), ∃ (cap_39 : Nat), ∃ (cs_9 : List Value), RepSeq M_15 (y_5.map (eL 1 (Dat.int .i64))) cs_9 ∧ Frm 87 [(5, .slice A_37 y_5.length cap_39)] a ∧ Hp w0 M_15 ((Ent.row 47 1 (.slice A_37 y_5.length cap_39) y_5.length cs_9) :: H) w))) (R_loop (n := 87) (w0 := w0) (M := M_1) (fun (x : Nat × (List (List Int) × Int) × (Option Addr) × Nat × (List Value)) => match x with | (m_1, s_1, A_12, cap_12, cs_1) => [(1, .bool d1), (2, .pointer (some (⟨b_1, 0, none⟩))), (5, .slice A_12 s_1.1.length cap_12), (6, .int .i64 s_1.2)]) (fun (x : Nat × (List (List Int) × Int) × (Option Addr) × Nat × (List Value)) => match x with | (m_1, s_1, A_12, cap_12, cs_1) => ((Ent.row 47 1 (.slice A_12 s_1.1.length cap_12) s_1.1.length cs_1) :: H)) (fun (x : Nat × (List (List Int) × Int) × (Option Addr) × Nat × (List Value)) (MM : Mem) => match x with | (m_1, s_1, A_12, cap_12, cs_1) => loopF (ref23_Leans_s1 n d0 d1) m_1 s_1 = some b_2 ∧ RepSeq MM (s_1.1.map (eL 1 (Dat.int .i64))) cs_1) (fun (x : Nat × (List (List Int) × Int) × (Option Addr) × Nat × (List Value)) => match x with | (m_1, s_1, A_12, cap_12, cs_1) => m_1) (n, (([] : List (List Int)), (0 : Int)), A_11, cap_11, []) (f.kp) p_2 ⟨hL_1, hr_1⟩ ?_) ?_
 ·rintro ⟨m_1, s_1, A_12, cap_12, cs_1⟩ M_2 _ w_2 hM_2 I_1 f p_3
  obtain ⟨I_1L, hr_2⟩ := I_1
  obtain ⟨m_2, r_1, rfl, hs_1, hn_1⟩ := loop_step I_1L
  unfold ref23_Leans_s1 at hs_1
  refine R_seq (RR (Y f 2 fun _ f => Y14 f p_3 (fzu hM_2 hc_2) 14 rfl fun _ f => Y f 2 fun _ f => eT (RcF f hs_1 (fun h_11 hF_2 => ?_) fun h_11 hF_32 => ?_)))
  ·have k_1 := dI.1 h_11
   refine wp_skip (T_n (R_seq (wp_block (RR (Y f 1 fun _ f => Y14 f p_3 (fzu hM_2 hc_2) 14 rfl fun _ f => Y f 1 fun _ f => ?_)))))
   obtain ⟨x_1, hx_1, hF_3⟩ := bS hF_2
   obtain ⟨ad_1, c_1, e_1, -, hr_3, hc_3⟩ := Sli.at_ (h_9.mono (hM_1.trans hM_2)) hx_1
   obtain ⟨A_13, cap_13, A_14, cap_14, rfl, h_12, h_13⟩ := TC0.opn hr_3
   refine Z f (Y28 e_1 rfl (len := d0.fChanges.length) (cap := cap_9) (k := .i64) (i := s_1.2) (e := 72) (sz := 8) (getI_nn hx_1) (getI_lt hx_1)) fun _ f => Y f 1 fun _ f => Y14 f p_3 hc_3 7 rfl fun _ f => Y f 1 fun _ f => eT (R_seq (RR (Y f 1 fun _ f => eT ?_)))
   obtain ⟨j_1, hj_1, hF_4⟩ := bS hF_3
   refine R_mid (fun a_55 w_21 => ∃ y_2 : List (List UInt8), j_1 = y_2 ∧ ∃ M_9 : Mem, M_2.le M_9 ∧ ∃ (A_27 : Option Addr), ∃ (cap_27 : Nat), Sli M_9 1 Dat.str A_27 cap_27 y_2 ∧ Frm 87 [(1, .bool d1), (2, .pointer (some (⟨b_1, 0, none⟩))), (5, .slice A_12 s_1.1.length cap_12), (6, .int .i64 s_1.2), (7, .slice A_27 y_2.length cap_27)] a_55 ∧ Hp w0 M_9 ((Ent.row 47 1 (.slice A_12 s_1.1.length cap_12) s_1.1.length cs_1) :: H) w_21) ?_ ?_
   ·refine RcF f hj_1 (fun h_14 hF_5 => ?_) fun h_14 hF_9 => ?_
    ·refine R_seq ?_
     obtain ⟨j_2, hj_2, hF_6⟩ := bS hF_5
     refine R_mid (fun a_51 w_20 => ∃ y_1 : TS0, j_2 = y_1 ∧ ∃ M_6 : Mem, M_2.le M_6 ∧ ∃ (ad_4 : Addr), ∃ (c_7 : List Value), Rep M_6 (emb_TS0 y_1) c_7 ∧ (∀ j u, c_7[j]? = some u → M_6.cell? (ad_4.add j) = some u) ∧ Frm 87 [(1, .bool d1), (2, .pointer (some (⟨b_1, 0, none⟩))), (5, .slice A_12 s_1.1.length cap_12), (6, .int .i64 s_1.2), (8, .pointer (some ad_4))] a_51 ∧ Hp w0 M_6 ((Ent.row 47 1 (.slice A_12 s_1.1.length cap_12) s_1.1.length cs_1) :: H) w_20) ?_ ?_
     ·obtain ⟨x_2, hx_2, hF_7⟩ := bS hj_2
      obtain ⟨x_3, hx_3, hF_8⟩ := bS hF_7
      refine R_plan (ks := [14]) (E := []) (Hr := ((Ent.row 47 1 (.slice A_12 s_1.1.length cap_12) s_1.1.length cs_1) :: H)) (.quiet 0 (.quiet 1 (.quiet 2 (.quiet 3 (.quiet 4 (.quiet 5 (.quiet 6 (.quiet 7 (.alt 8 (.quiet 9 (.quiet 10 (.quiet 11 (.alt 12 (.alt 13 .done .none) .none)))) (.alt 12 (.alt 8 (.quiet 9 (.quiet 10 (.quiet 11 (.alt 13 .done .none)))) .none) .none)))))))))) p_3 (by kernel_rfl) (by kernel_rfl) (by kernel_rfl) (Y1 (v := .pointer (some ((⟨b_1, 0, none⟩ : Addr).add 2))) rfl f rfl rfl (fun _ _ => by kernel_rfl) fun _ f => Y1 (v := .agg #[.slice A_1 d0.fOld.fOwned.length cap_1, .slice A_2 d0.fOld.fPending.length cap_2, .slice A_3 d0.fOld.fRetained.length cap_3, .slice A_4 d0.fOld.fOuts.length cap_4, S d0.fOld.fText, .slice A_5 d0.fOld.fArgs.length cap_5, .int .i64 d0.fOld.fCalls, .int .i8 d0.fOld.fStatus]) rfl f rfl rfl (fun _ pq => Y30 (cs := [.slice A_1 d0.fOld.fOwned.length cap_1, .slice A_2 d0.fOld.fPending.length cap_2, .slice A_3 d0.fOld.fRetained.length cap_3, .slice A_4 d0.fOld.fOuts.length cap_4, S d0.fOld.fText, .slice A_5 d0.fOld.fArgs.length cap_5, .int .i64 d0.fOld.fCalls, .int .i8 d0.fOld.fStatus]) rfl (ad := (⟨b_1, 0, none⟩ : Addr).add 2) (fz_part (base := (⟨b_1, 0, none⟩ : Addr)) (fun j v h => pq.cell ((fzu hM_2 hc_2) j v h)) 2 rfl)) fun _ f => Y1 (v := .pointer (some ((⟨b_1, 0, none⟩ : Addr).add 14))) rfl f rfl rfl (fun _ _ => by kernel_rfl) fun _ f => Y1 (v := .slice A_9 d0.fChanges.length cap_9) rfl f rfl rfl (fun _ pq => Y29 (v := .slice A_9 d0.fChanges.length cap_9) rfl (ad := (⟨b_1, 0, none⟩ : Addr).add 14) (pq.cell ((fzu hM_2 hc_2) 14 _ rfl))) fun _ f => Y1 (v := .int .i64 s_1.2) rfl f rfl rfl (fun _ _ => by kernel_rfl) fun _ f => ?_)
      obtain ⟨ad_3, c_4, e_3, -, hr_6, hc_5⟩ := Sli.at_ (h_9.mono (hM_1.trans hM_2)) hx_2
      obtain ⟨A_19, cap_19, A_20, cap_20, rfl, h_19, h_20⟩ := TC0.opn hr_6
      refine Y1 (v := .pointer (some (ad_3.add (s_1.2.toNat * 8)))) rfl f rfl rfl (fun _ pq => Y28 e_3 rfl (len := d0.fChanges.length) (cap := cap_9) (k := .i64) (i := s_1.2) (e := 72) (sz := 8) (getI_nn hx_2) (getI_lt hx_2)) fun _ f => Y1 (v := .pointer (some ((ad_3.add (s_1.2.toNat * 8)).add 0))) rfl f rfl rfl (fun _ _ => by kernel_rfl) fun _ f => Y1 (v := S x_2.fId) rfl f rfl rfl (fun _ pq => Y29 (v := S x_2.fId) rfl (ad := (ad_3.add (s_1.2.toNat * 8)).add 0) (pq.cell (hc_5 0 _ rfl))) fun _ f => N_alt rfl (fun w_6 p_7 => ?_) ?_
      ·refine Y15 f p_7 (ref23_owned_ok n _ _ (⟨d0.fOld.fOwned, d0.fOld.fPending, d0.fOld.fRetained, d0.fOld.fOuts, d0.fOld.fText, d0.fOld.fArgs, d0.fOld.fCalls, d0.fOld.fStatus⟩ : TF0) (TF0.shut (h_1.mono (hM_1.trans hM_2)) (h_2.mono (hM_1.trans hM_2)) (h_3.mono (hM_1.trans hM_2)) (h_4.mono (hM_1.trans hM_2)) (h_5.mono (hM_1.trans hM_2))) x_2.fId x_3 hx_3) fun _ M_4 w_7 hM_4 p_8 q_2 _ f => ?_
       obtain ⟨c_5, rfl, hr_7⟩ := q_2
       obtain ⟨A_21, cap_21, A_22, cap_22, rfl, h_21, h_22⟩ := TS0.opn hr_7
       refine W_end rfl (N_goN 0 hM_4 p_8 rfl (Y1 (v := .tuple #[.agg #[S x_3.1.fId, S x_3.1.fType, S x_3.1.fPhys, .slice A_21 x_3.1.fProps.length cap_21, .bool x_3.1.fRetain, .slice A_22 x_3.1.fLeans.length cap_22], .bool x_3.2]) rfl f rfl rfl (fun _ _ => by kernel_rfl) fun _ f => Y1 (v := .agg #[S x_3.1.fId, S x_3.1.fType, S x_3.1.fPhys, .slice A_21 x_3.1.fProps.length cap_21, .bool x_3.1.fRetain, .slice A_22 x_3.1.fLeans.length cap_22]) rfl f rfl rfl (fun _ _ => by kernel_rfl) fun _ f => Y1 (v := .bool x_3.2) rfl f rfl rfl (fun _ _ => by kernel_rfl) fun _ f => N_alt rfl (fun w_8 p_9 => ?_) ?_))
       ·refine Y11 f p_9 (.cells #[S [], S [], S [], .slice none 0 0, .bool false, .slice none 0 0] 68 (0, 0)) fun b_4 w_9 p_10 _ f => W_end rfl (N_goN 1 hM_4 p_10 rfl (N_alt rfl (fun w_10 p_11 => ?_) ?_))
        ·refine Y26 (vs := [S x_3.1.fId, S x_3.1.fType, S x_3.1.fPhys, .slice A_21 x_3.1.fProps.length cap_21, .bool x_3.1.fRetain, .slice A_22 x_3.1.fLeans.length cap_22]) (j := 0) f p_11 rfl rfl (by simp [Value.oneCell', S]) (by simp) (by decide) (cs' := #[S x_3.1.fId, S x_3.1.fType, S x_3.1.fPhys, .slice A_21 x_3.1.fProps.length cap_21, .bool x_3.1.fRetain, .slice A_22 x_3.1.fLeans.length cap_22]) fun w_11 p_12 _ f => W_end rfl (N_goN 1 hM_4 p_12 rfl (N_tail fun w_12 p_13 => Y f 1 fun _ f => W_end rfl (N_te ?_)))
         obtain ⟨M_7, hM_7, p_22, hc_6⟩ := p_13.fzOwn
         refine T_n ?_
         exact ⟨x_3.1, (sI hF_8).symm, M_7, (hM_4.trans hM_7), ⟨b_4, 0, none⟩, [S x_3.1.fId, S x_3.1.fType, S x_3.1.fPhys, .slice A_21 x_3.1.fProps.length cap_21, .bool x_3.1.fRetain, .slice A_22 x_3.1.fLeans.length cap_22], (TS0.shutx (x := x_3.1) (h_21.mono hM_7) (h_22.mono hM_7)), (fz_at (hc_6) 0 rfl), f.kp, p_22⟩
        exact N_none
       exact N_none
      refine N_alt rfl (fun w_13 p_14 => ?_) ?_
      ·refine Y11 f p_14 (.cells #[S [], S [], S [], .slice none 0 0, .bool false, .slice none 0 0] 68 (0, 0)) fun b_5 w_14 p_15 _ f => W_end rfl (N_goN 1 (mR _) p_15 rfl (N_alt rfl (fun w_15 p_16 => ?_) ?_))
       ·refine Y15 f p_16 (ref23_owned_ok n _ _ (⟨d0.fOld.fOwned, d0.fOld.fPending, d0.fOld.fRetained, d0.fOld.fOuts, d0.fOld.fText, d0.fOld.fArgs, d0.fOld.fCalls, d0.fOld.fStatus⟩ : TF0) (TF0.shut (h_1.mono (hM_1.trans hM_2)) (h_2.mono (hM_1.trans hM_2)) (h_3.mono (hM_1.trans hM_2)) (h_4.mono (hM_1.trans hM_2)) (h_5.mono (hM_1.trans hM_2))) x_2.fId x_3 hx_3) fun _ M_5 w_16 hM_5 p_17 q_3 _ f => ?_
        obtain ⟨c_6, rfl, hr_8⟩ := q_3
        obtain ⟨A_23, cap_23, A_24, cap_24, rfl, h_23, h_24⟩ := TS0.opn hr_8
        refine W_end rfl (N_goN 1 hM_5 p_17 rfl (Y1 (v := .tuple #[.agg #[S x_3.1.fId, S x_3.1.fType, S x_3.1.fPhys, .slice A_23 x_3.1.fProps.length cap_23, .bool x_3.1.fRetain, .slice A_24 x_3.1.fLeans.length cap_24], .bool x_3.2]) rfl f rfl rfl (fun _ _ => by kernel_rfl) fun _ f => Y1 (v := .agg #[S x_3.1.fId, S x_3.1.fType, S x_3.1.fPhys, .slice A_23 x_3.1.fProps.length cap_23, .bool x_3.1.fRetain, .slice A_24 x_3.1.fLeans.length cap_24]) rfl f rfl rfl (fun _ _ => by kernel_rfl) fun _ f => Y1 (v := .bool x_3.2) rfl f rfl rfl (fun _ _ => by kernel_rfl) fun _ f => N_alt rfl (fun w_17 p_18 => ?_) ?_))
        ·refine Y26 (vs := [S x_3.1.fId, S x_3.1.fType, S x_3.1.fPhys, .slice A_23 x_3.1.fProps.length cap_23, .bool x_3.1.fRetain, .slice A_24 x_3.1.fLeans.length cap_24]) (j := 0) f p_18 rfl rfl (by simp [Value.oneCell', S]) (by simp) (by decide) (cs' := #[S x_3.1.fId, S x_3.1.fType, S x_3.1.fPhys, .slice A_23 x_3.1.fProps.length cap_23, .bool x_3.1.fRetain, .slice A_24 x_3.1.fLeans.length cap_24]) fun w_18 p_19 _ f => W_end rfl (N_goN 1 hM_5 p_19 rfl (N_tail fun w_19 p_20 => Y f 1 fun _ f => W_end rfl (N_te ?_)))
         obtain ⟨M_8, hM_8, p_23, hc_7⟩ := p_20.fzOwn
         refine T_n ?_
         exact ⟨x_3.1, (sI hF_8).symm, M_8, (hM_5.trans hM_8), ⟨b_5, 0, none⟩, [S x_3.1.fId, S x_3.1.fType, S x_3.1.fPhys, .slice A_23 x_3.1.fProps.length cap_23, .bool x_3.1.fRetain, .slice A_24 x_3.1.fLeans.length cap_24], (TS0.shutx (x := x_3.1) (h_23.mono hM_8) (h_24.mono hM_8)), (fz_at (hc_7) 0 rfl), f.kp, p_23⟩
        exact N_none
       exact N_none
      exact N_none
     ·rintro a_51 w_20 ⟨y_1, hq_2, M_6, hM_6, ad_4, c_7, hr_9, hq_1, f, p_21⟩
      subst j_2
      obtain ⟨A_25, cap_25, A_26, cap_26, rfl, h_25, h_26⟩ := TS0.opn hr_9
      refine T_n (R_reg (Y f 1 fun _ f => Y14 f p_21 hq_1 5 rfl fun _ f => Y f 1 fun _ f => eT ?_))
      exact ⟨y_1.fLeans, (sI hF_6).symm, M_6, hM_6, A_26, cap_26, h_26, f.kp, p_21⟩
    ·refine wp_skip (T_n ?_)
     exact ⟨x_1.fLeans, (sI hF_9).symm, M_2, (mR _), A_14, cap_14, h_13, f.kp, p_3⟩
   ·rintro a_55 w_21 ⟨y_2, hq_3, M_9, hM_9, A_27, cap_27, h_27, f, p_24⟩
    subst j_1
    refine T_n (RR (Y f 1 fun _ f => Y14 f p_24 (fzu (hM_2.trans hM_9) hc_2) 14 rfl fun _ f => Y f 1 fun _ f => ?_))
    obtain ⟨g_1, hF_10⟩ := nS hF_4
    refine Y22 (f := Dat.bool) (x := (false : Bool)) (z := .bool false) (m := ((d0.fChanges.length : Nat) : Int)) (bytes := 1) (e := 4) f p_24 (by exact rfl) rfl rfl rfl rfl g_1 fun A_28 cap_28 cs_2 w_22 p_25 hr_10 _ f => Y f 1 fun _ f => eT (R_seq (RR (Y f 1 fun _ f => eT (wp_block ?_))))
    obtain ⟨b_6, hL_2, hF_11⟩ := bS hF_10
    refine wp_mono (Q := fun e a w => (e = .exit 2 ∧ (∃ y_3 : List Bool, b_6 = y_3 ∧ ∃ M_11 : Mem, M_9.le M_11 ∧ ∃ (A_30 : Option Addr), ∃ (cap_31 : Nat), ∃ (cs_4 : List Value), RepSeq M_11 (y_3.map Dat.bool) cs_4 ∧ Frm 87 [(1, .bool d1), (2, .pointer (some (⟨b_1, 0, none⟩))), (5, .slice A_12 s_1.1.length cap_12), (6, .int .i64 s_1.2), (10, .slice A_30 y_3.length cap_31)] a ∧ Hp w0 M_11 ((Ent.row 4 1 (.slice A_30 y_3.length cap_31) y_3.length cs_4) :: (Ent.row 47 1 (.slice A_12 s_1.1.length cap_12) s_1.1.length cs_1) :: H) w))) (R_loop (n := 87) (w0 := w0) (M := M_9) (fun (x : Nat × (List Bool × Int) × (Option Addr) × Nat × (List Value)) => match x with | (m_3, s_2, A_29, cap_29, cs_3) => [(1, .bool d1), (2, .pointer (some (⟨b_1, 0, none⟩))), (5, .slice A_12 s_1.1.length cap_12), (6, .int .i64 s_1.2), (7, .slice A_27 y_2.length cap_27), (10, .slice A_29 s_2.1.length cap_29), (11, .int .i64 s_2.2)]) (fun (x : Nat × (List Bool × Int) × (Option Addr) × Nat × (List Value)) => match x with | (m_3, s_2, A_29, cap_29, cs_3) => ((Ent.row 4 1 (.slice A_29 s_2.1.length cap_29) s_2.1.length cs_3) :: (Ent.row 47 1 (.slice A_12 s_1.1.length cap_12) s_1.1.length cs_1) :: H)) (fun (x : Nat × (List Bool × Int) × (Option Addr) × Nat × (List Value)) (MM : Mem) => match x with | (m_3, s_2, A_29, cap_29, cs_3) => loopF (ref23_Leans_s2 n d0 y_2) m_3 s_2 = some b_6 ∧ RepSeq MM (s_2.1.map Dat.bool) cs_3) (fun (x : Nat × (List Bool × Int) × (Option Addr) × Nat × (List Value)) => match x with | (m_3, s_2, A_29, cap_29, cs_3) => m_3) (n, (List.replicate ((d0.fChanges.length : Nat) : Int).toNat (false : Bool), (0 : Int)), A_28, cap_28, cs_2) (f.kp) p_25 ⟨hL_2, hr_10⟩ ?_) ?_
    ·rintro ⟨m_3, s_2, A_29, cap_29, cs_3⟩ M_10 _ w_23 hM_10 I_2 f p_26
     obtain ⟨I_2L, hr_11⟩ := I_2
     obtain ⟨m_4, r_2, rfl, hs_2, hn_2⟩ := loop_step I_2L
     unfold ref23_Leans_s2 at hs_2
     refine R_seq (RR (Y f 4 fun _ f => eT (RcF f hs_2 (fun h_28 hF_12 => ?_) fun h_28 hF_20 => ?_)))
     ·have k_4 := dI.1 h_28
      refine wp_skip (T_n (R_seq (wp_block (R_seq (R_draw p_26 (by kernel_rfl) (by kernel_rfl) (Y5 default f 1 fun _ f => Y4 f (fzu ((hM_2.trans hM_9).trans hM_10) hc_2) 14 rfl fun _ f => Y5 default f 2 fun _ f => ?_))))))
      obtain ⟨x_7, hx_4, hF_13⟩ := bS hF_12
      obtain ⟨ad_5, c_8, e_4, -, hr_12, hc_8⟩ := Sli.at_ (h_27.mono hM_10) hx_4
      obtain rfl : c_8 = [S x_7] := hr_12
      refine Y2 (v := .pointer (some (ad_5.add (s_2.2.toNat * 1)))) f (fun _ pq => Y28 e_4 rfl (len := y_2.length) (cap := cap_27) (k := .i64) (i := s_2.2) (e := 9) (sz := 1) (getI_nn hx_4) (getI_lt hx_4)) fun _ f => Y4 f hc_8 0 rfl fun _ f => ?_
      obtain ⟨x_8, hx_5, hF_14⟩ := bS hF_13
      refine Y3 f (ref23_Find_ok n _ A_9 cap_9 d0.fChanges (h_9.mono (((hM_1.trans hM_2).trans hM_9).trans hM_10)) x_7 x_8 hx_5) fun _ f => Y5 default f 5 fun _ f => Q_end rfl ?_
      intro w_25 p_28
      refine T_n (RR (Y f 1 fun _ f => eT (RcF f hF_14 (fun h_29 hF_15 => ?_) fun h_29 hF_18 => ?_)))
      ·refine R_reg (Y f 2 fun _ f => ?_)
       obtain ⟨x_9, hx_6, hF_16⟩ := bS hF_15
       obtain ⟨b_7, cap_30, hv_2, hcap_1⟩ := p_28.rowAddr 0 rfl (getI_pos hx_6)
       have f := f.st 65 (hv_2)
       refine Z f (Y27 rfl (ad := ⟨b_7, 0, none⟩) (len := s_2.1.length) (cap := cap_30) (k := .i64) (i := x_8.1) (e := 4) (sz := 1) (getI_nn hx_6) (getI_lt hx_6)) fun _ f => ?_
       have f := f.st 65 (hv_2.symm)
       refine Y24 (it := x_8.1) (d := s_2.1) (f := Dat.bool) (xv := (true)) (v := .bool true) f p_28 hv_2 rfl rfl (by exact rfl) szd_bool hx_6 hr_11 fun w_26 p_29 hr_13 _ f => ?_
       have p_30 : Hp w0 M_10 ((Ent.row 4 1 (.slice A_29 (s_2.1.set x_8.1.toNat (true)).length cap_29) (s_2.1.set x_8.1.toNat (true)).length (cs_3.set x_8.1.toNat (.bool true))) :: (Ent.row 47 1 (.slice A_12 s_1.1.length cap_12) s_1.1.length cs_1) :: H) w_26 := p_29.rowVal (by simp only [List.length_set])
       have f := Frm.set f 10 (v := .slice A_29 s_2.1.length cap_29) (v' := .slice A_29 (s_2.1.set x_8.1.toNat (true)).length cap_29) (by kernel_rfl) (by simp only [List.length_set])
       have f := Frm.set f 65 (v := .slice A_29 s_2.1.length cap_29) (v' := .slice A_29 (s_2.1.set x_8.1.toNat (true)).length cap_29) (by kernel_rfl) (by simp only [List.length_set])
       refine W_end rfl (B_n (T_n (R_reg (Y f 1 fun _ f => ?_))))
       obtain ⟨g_2, hF_17⟩ := nS hF_16
       refine Y f 1 fun _ f => ?_
       have f := f.st 53 (congrArg (Value.int .i64) (inR_wrap g_2))
       refine Y f 1 fun _ f => eT ?_
       obtain rfl := sI hF_17
       exact ⟨⟨m_4, (s_2.1.set x_8.1.toNat (true), s_2.2 + 1), A_29, cap_29, cs_3.set x_8.1.toNat (.bool true)⟩, Nat.lt_succ_self _, M_10, hM_10, ⟨hn_2, hr_13⟩, f.kp, p_30⟩
      ·refine wp_skip (B_n (T_n (R_reg (Y f 1 fun _ f => ?_))))
       obtain ⟨g_3, hF_19⟩ := nS hF_18
       refine Y f 1 fun _ f => ?_
       have f := f.st 53 (congrArg (Value.int .i64) (inR_wrap g_3))
       refine Y f 1 fun _ f => eT ?_
       obtain rfl := sI hF_19
       exact ⟨⟨m_4, (s_2.1, s_2.2 + 1), A_29, cap_29, cs_3⟩, Nat.lt_succ_self _, M_10, hM_10, ⟨hn_2, hr_11⟩, f.kp, p_28⟩
     ·have k_7 := iff_f dI h_28
      refine wp_exit (T_x (T_x ?_))
      obtain rfl := sI hF_20
      exact ⟨rfl, s_2.1, (sI hn_2).symm, M_10, hM_10, A_29, cap_29, cs_3, hr_11, f.kp, p_26⟩
    ·rintro _ _ w_28 ⟨rfl, y_3, hq_, M_11, hM_11, A_30, cap_31, cs_4, hr_14, f, p_31⟩
     subst b_6
     refine B_x (T_n (RR (Y f 1 fun _ f => eT (R_seq (RR (Y f 1 fun _ f => eT (wp_block ?_)))))))
     obtain ⟨A_31, cap_32, hv_3⟩ : ∃ A cap, Value.slice none 0 0 = .slice A ([] : List Int).length cap := ⟨none, 0, rfl⟩
     have p_32 : Hp w0 M_11 ((Ent.row 3 1 (.slice A_31 ([] : List Int).length cap_32) ([] : List Int).length []) :: (Ent.row 4 1 (.slice A_30 y_3.length cap_31) y_3.length cs_4) :: (Ent.row 47 1 (.slice A_12 s_1.1.length cap_12) s_1.1.length cs_1) :: H) w_28 := by rw [← hv_3]; exact p_31.nilRow 3 1
     have f := f.st 14 (hv_3)
     have hr_15 : RepSeq M_11 (([] : List Int).map (Dat.int .i64)) [] := rfl
     obtain ⟨b_8, hL_3, hF_21⟩ := bS hF_11
     refine wp_mono (Q := fun e a w => (e = .exit 4 ∧ (∃ y_4 : List Int, b_8 = y_4 ∧ ∃ M_13 : Mem, M_11.le M_13 ∧ ∃ (A_34 : Option Addr), ∃ (cap_36 : Nat), ∃ (cs_7 : List Value), RepSeq M_13 (y_4.map (Dat.int .i64)) cs_7 ∧ Frm 87 [(1, .bool d1), (2, .pointer (some (⟨b_1, 0, none⟩))), (5, .slice A_12 s_1.1.length cap_12), (6, .int .i64 s_1.2), (14, .slice A_34 y_4.length cap_36)] a ∧ Hp w0 M_13 ((Ent.row 3 1 (.slice A_34 y_4.length cap_36) y_4.length cs_7) :: (Ent.row 4 1 (.slice A_30 y_3.length cap_31) y_3.length cs_4) :: (Ent.row 47 1 (.slice A_12 s_1.1.length cap_12) s_1.1.length cs_1) :: H) w))) (R_loop (n := 87) (w0 := w0) (M := M_11) (fun (x : Nat × (List Int × Int) × (Option Addr) × Nat × (List Value)) => match x with | (m_5, s_3, A_32, cap_33, cs_5) => [(1, .bool d1), (2, .pointer (some (⟨b_1, 0, none⟩))), (5, .slice A_12 s_1.1.length cap_12), (6, .int .i64 s_1.2), (10, .slice A_30 y_3.length cap_31), (14, .slice A_32 s_3.1.length cap_33), (15, .int .i64 s_3.2)]) (fun (x : Nat × (List Int × Int) × (Option Addr) × Nat × (List Value)) => match x with | (m_5, s_3, A_32, cap_33, cs_5) => ((Ent.row 3 1 (.slice A_32 s_3.1.length cap_33) s_3.1.length cs_5) :: (Ent.row 4 1 (.slice A_30 y_3.length cap_31) y_3.length cs_4) :: (Ent.row 47 1 (.slice A_12 s_1.1.length cap_12) s_1.1.length cs_1) :: H)) (fun (x : Nat × (List Int × Int) × (Option Addr) × Nat × (List Value)) (MM : Mem) => match x with | (m_5, s_3, A_32, cap_33, cs_5) => loopF (ref23_Leans_s3 n y_3) m_5 s_3 = some b_8 ∧ RepSeq MM (s_3.1.map (Dat.int .i64)) cs_5) (fun (x : Nat × (List Int × Int) × (Option Addr) × Nat × (List Value)) => match x with | (m_5, s_3, A_32, cap_33, cs_5) => m_5) (n, (([] : List Int), (0 : Int)), A_31, cap_32, []) (f.kp) p_32 ⟨hL_3, hr_15⟩ ?_) ?_
     ·rintro ⟨m_5, s_3, A_32, cap_33, cs_5⟩ M_12 _ w_29 hM_12 I_3 f p_33
      obtain ⟨I_3L, hr_16⟩ := I_3
      obtain ⟨m_6, r_3, rfl, hs_3, hn_3⟩ := loop_step I_3L
      unfold ref23_Leans_s3 at hs_3
      refine R_seq (RR (Y f 4 fun _ f => eT (RcF f hs_3 (fun h_30 hF_22 => ?_) fun h_30 hF_29 => ?_)))
      ·have k_8 := dI.1 h_30
       refine wp_skip (T_n (R_seq (wp_block (RR (Y f 2 fun _ f => ?_)))))
       obtain ⟨x_10, hx_7, hF_23⟩ := bS hF_22
       obtain ⟨b_9, cap_34, hv_4, hcap_2⟩ := p_33.rowAddr 1 rfl (getI_pos hx_7)
       have f := f.st 74 (hv_4)
       refine Z f (Y27 rfl (ad := ⟨b_9, 0, none⟩) (len := y_3.length) (cap := cap_34) (k := .i64) (i := s_3.2) (e := 4) (sz := 1) (getI_nn hx_7) (getI_lt hx_7)) fun _ f => ?_
       have f := f.st 74 (hv_4.symm)
       obtain ⟨c_9, -, hr_17, hc_9⟩ := RepSeq.get s_3.2.toNat (szd_all szd_bool) (RepSeq.mono hM_12 _ _ hr_14) (getI_map hx_7)
       obtain rfl : c_9 = [.bool x_10] := hr_17
       refine Z f (Y29 (v := .bool x_10) rfl (ad := (⟨b_9, 0, none⟩ : Addr).add (s_3.2.toNat * 1)) (by simpa [Addr.add] using (fun j v h => row_at (p_33.rowCell 1 rfl hv_4) hc_9 j v h) 0 _ rfl)) fun _ f => eT (RcF f hF_23 (fun h_31 hF_24 => ?_) fun h_31 hF_27 => ?_)
       ·refine R_reg (Y f 2 fun _ f => V_allocS (k := 1) (c := 1) f p_33 (.cells #[.int .i64 s_3.2] 3 (0, 0)) (by kernel_rfl) (fun _ => by kernel_rfl) fun b_10 w_30 p_34 _ f => ?_)
        have p_35 := p_34.pl [1]
        obtain ⟨g_4, hF_25⟩ := nS hF_24
        refine Y20 (z := .int .i64 0) (f := (Dat.int .i64)) (xs := s_3.1) (ys := [s_3.2]) (news := [.int .i64 s_3.2]) (ad := ⟨b_10, 0, none⟩) (m := 1) (c := 1) f p_35 hr_16 (by exact ⟨_, _, rfl, rfl, rfl⟩) rfl rfl rfl rfl (own_cells (p_35.ownCell 1 rfl) 0 rfl) (by exact g_4) (by have hg_ := g_4; first | omega | (simp only [List.length_cons, List.length_nil] at *; omega)) fun A_33 cap_35 cs_6 w_31 p_36 hr_18 _ f => ?_
        have p_37 := p_36.pl [1]
        have p_38 := p_37.drop
        refine Y f 1 fun _ f => W_end rfl (B_n (T_n (R_reg (Y f 1 fun _ f => ?_))))
        obtain ⟨g_5, hF_26⟩ := nS hF_25
        refine Y f 1 fun _ f => ?_
        have f := f.st 73 (congrArg (Value.int .i64) (inR_wrap g_5))
        refine Y f 1 fun _ f => eT ?_
        obtain rfl := sI hF_26
        exact ⟨⟨m_6, (s_3.1 ++ [s_3.2], s_3.2 + 1), A_33, cap_35, cs_6⟩, Nat.lt_succ_self _, M_12, hM_12, ⟨hn_3, hr_18⟩, f.kp, p_38⟩
       ·refine wp_skip (B_n (T_n (R_reg (Y f 1 fun _ f => ?_))))
        obtain ⟨g_6, hF_28⟩ := nS hF_27
        refine Y f 1 fun _ f => ?_
        have f := f.st 73 (congrArg (Value.int .i64) (inR_wrap g_6))
        refine Y f 1 fun _ f => eT ?_
        obtain rfl := sI hF_28
        exact ⟨⟨m_6, (s_3.1, s_3.2 + 1), A_32, cap_33, cs_5⟩, Nat.lt_succ_self _, M_12, hM_12, ⟨hn_3, hr_16⟩, f.kp, p_33⟩
      ·have k_11 := iff_f dI h_30
       refine wp_exit (T_x (T_x ?_))
       obtain rfl := sI hF_29
       exact ⟨rfl, s_3.1, (sI hn_3).symm, M_12, hM_12, A_32, cap_33, cs_5, hr_16, f.kp, p_33⟩
     ·rintro _ _ w_33 ⟨rfl, y_4, hq_, M_13, hM_13, A_34, cap_36, cs_7, hr_19, f, p_39⟩
      subst b_8
      refine B_x (T_n (R_reg (Y f 2 fun _ f => V_allocS (k := 1) (c := 1) f p_39 (.cells #[.slice A_34 y_4.length cap_36] 47 (0, 0)) (by kernel_rfl) (fun _ => by kernel_rfl) fun b_11 w_34 p_40 _ f => ?_)))
      have p_41 := p_40.pl [1]
      obtain ⟨A_35, cap_37, M_14, hv_5, hM_14, p_42, h_32⟩ := p_41.rowSli (f := (Dat.int .i64)) (xs := y_4) (szd_int .i64) hr_19
      have f := f.st 83 (hv_5)
      have p_43 : Hp w0 M_14 ((Ent.obj b_11 (.cells #[.slice A_35 y_4.length cap_37] 47 (0, 0))) :: (Ent.row 4 1 (.slice A_30 y_3.length cap_31) y_3.length cs_4) :: (Ent.row 47 1 (.slice A_12 s_1.1.length cap_12) s_1.1.length cs_1) :: H) w_34 := by rw [hv_5] at p_42; exact p_42
      have p_44 := p_43.pl [2]
      obtain ⟨g_7, hF_30⟩ := nS hF_21
      refine Y20 (z := .slice none 0 0) (f := (eL 1 (Dat.int .i64))) (xs := s_1.1) (ys := [y_4]) (news := [.slice A_35 y_4.length cap_37]) (ad := ⟨b_11, 0, none⟩) (m := 1) (c := 1) f p_44 (RepSeq.mono (((hM_9.trans hM_11).trans hM_13).trans hM_14) _ _ hr_2) (by exact ⟨_, _, rfl, Sli.rep h_32, rfl⟩) rfl rfl rfl rfl (own_cells (p_44.ownCell 1 rfl) 0 rfl) (by exact g_7) (by have hg_ := g_7; first | omega | (simp only [List.length_cons, List.length_nil] at *; omega)) fun A_36 cap_38 cs_8 w_35 p_45 hr_20 _ f => ?_
      have p_46 := p_45.pl [1]
      have p_47 := p_46.drop
      refine Y f 1 fun _ f => W_end rfl (B_n (T_n (R_reg (Y f 1 fun _ f => ?_))))
      obtain ⟨g_8, hF_31⟩ := nS hF_30
      refine Y f 1 fun _ f => ?_
      have f := f.st 22 (congrArg (Value.int .i64) (inR_wrap g_8))
      refine Y f 1 fun _ f => W_end rfl ?_
      have p_49 := p_47.pl [1]
      refine T_n ?_
      obtain rfl := sI hF_31
      exact ⟨⟨m_2, (s_1.1 ++ [y_4], s_1.2 + 1), A_36, cap_38, cs_8⟩, Nat.lt_succ_self _, M_14, ((((hM_2.trans hM_9).trans hM_11).trans hM_13).trans hM_14), ⟨hn_1, hr_20⟩, f.kp, (p_49.dropN 1)⟩
  ·have k_12 := iff_f dI h_11
   refine wp_exit (T_x (T_x ?_))
   obtain rfl := sI hF_32
   exact ⟨rfl, s_1.1, (sI hn_1).symm, M_2, hM_2, A_12, cap_12, cs_1, hr_2, f.kp, p_3⟩
 ·rintro _ _ w_37 ⟨rfl, y_5, hq_, M_15, hM_15, A_37, cap_39, cs_9, hr_21, f, p_48⟩
  subst b_2
  refine B_x (T_n (RR (Y f 2 fun _ f => eT (wp_ret (E_ret1 f rfl (by kernel_rfl : Vc.look _ 4 = some (.slice A_37 y_5.length cap_39)) ?_)))))
  obtain rfl := sI hF_1
  exact ⟨_, rfl, M_15, _, (hM_1.trans hM_15), p_48, ⟨A_37, cap_39, cs_9, rfl, rfl, hr_21⟩⟩
def ref25_Leans (n : Nat) (d0 : TK0) : Option (List (List Int)) :=
  (ref25_kept n d0).bind fun x_1 =>
  (ref23_Leans n x_1 (false)).bind fun x_2 =>
  some (x_2)
theorem ref25_Leans_ok (n : Nat) (M : Mem) (c0 : List Value) (d0 : TK0) (h0 : Rep M (emb_TK0 d0) c0) (r : List (List Int)) (hF : ref25_Leans n d0 = some r) : OkH Tryz.prog M [] 11 [.agg c0.toArray] (fun M' E' v => ∃ (A0 : Option Addr) (k0 : Nat) (s0 : List Value), v = .slice A0 r.length k0 ∧ E' = [.row 47 1 (.slice A0 r.length k0) r.length s0] ∧ RepSeq M' (r.map (eL 1 (Dat.int .i64))) s0) := by
 unfold ref25_Leans at hF
 intro M1 hM0 w0 H w p0
 replace h0 := Rep.mono hM0 _ _ h0
 obtain ⟨A_1, cap_1, A_2, cap_2, A_3, cap_3, A_4, cap_4, A_5, cap_5, A_6, cap_6, A_7, cap_7, A_8, cap_8, A_9, cap_9, A_10, cap_10, rfl, h_1, h_2, h_3, h_4, h_5, h_6, h_7, h_8, h_9, h_10⟩ := TK0.opn h0
 refine R_enter 6 Tryz.func11 rfl rfl (by simp) fun a0 f0 => RR (Y12 (cs := #[.int .i8 d0.fKind, .int .i64 d0.fWidth, .slice A_1 d0.fOld.fOwned.length cap_1, .slice A_2 d0.fOld.fPending.length cap_2, .slice A_3 d0.fOld.fRetained.length cap_3, .slice A_4 d0.fOld.fOuts.length cap_4, S d0.fOld.fText, .slice A_5 d0.fOld.fArgs.length cap_5, .int .i64 d0.fOld.fCalls, .int .i8 d0.fOld.fStatus, .slice A_6 d0.fNew.fScopes.length cap_6, .slice A_7 d0.fNew.fNodes.length cap_7, S d0.fText, .slice A_8 d0.fArgs.length cap_8, .slice A_9 d0.fChanges.length cap_9, .slice A_10 d0.fTasks.length cap_10, .int .i8 d0.fPhase, .int .i8 d0.fStatus]) (T := 34) f0 p0 fun b_1 M_1 w_1 hM_1 hc_1 p_1 _ f => ?_)
 have hc_2 := fz_box hc_1
 refine Y f 1 fun _ f => eT (RR (Z (v := .agg #[.int .i8 d0.fKind, .int .i64 d0.fWidth, .slice A_1 d0.fOld.fOwned.length cap_1, .slice A_2 d0.fOld.fPending.length cap_2, .slice A_3 d0.fOld.fRetained.length cap_3, .slice A_4 d0.fOld.fOuts.length cap_4, S d0.fOld.fText, .slice A_5 d0.fOld.fArgs.length cap_5, .int .i64 d0.fOld.fCalls, .int .i8 d0.fOld.fStatus, .slice A_6 d0.fNew.fScopes.length cap_6, .slice A_7 d0.fNew.fNodes.length cap_7, S d0.fText, .slice A_8 d0.fArgs.length cap_8, .slice A_9 d0.fChanges.length cap_9, .slice A_10 d0.fTasks.length cap_10, .int .i8 d0.fPhase, .int .i8 d0.fStatus]) f (Y30 (cs := [.int .i8 d0.fKind, .int .i64 d0.fWidth, .slice A_1 d0.fOld.fOwned.length cap_1, .slice A_2 d0.fOld.fPending.length cap_2, .slice A_3 d0.fOld.fRetained.length cap_3, .slice A_4 d0.fOld.fOuts.length cap_4, S d0.fOld.fText, .slice A_5 d0.fOld.fArgs.length cap_5, .int .i64 d0.fOld.fCalls, .int .i8 d0.fOld.fStatus, .slice A_6 d0.fNew.fScopes.length cap_6, .slice A_7 d0.fNew.fNodes.length cap_7, S d0.fText, .slice A_8 d0.fArgs.length cap_8, .slice A_9 d0.fChanges.length cap_9, .slice A_10 d0.fTasks.length cap_10, .int .i8 d0.fPhase, .int .i8 d0.fStatus]) rfl (ad := ⟨b_1, 0, none⟩) (fun j v h => p_1.cell (hc_2 j v h))) fun _ f => ?_))
 obtain ⟨x_1, hx_1, hF_1⟩ := bS hF
 refine Y15 f p_1 (ref25_kept_ok n _ _ d0 (TK0.shutx (x := d0) (h_1.mono hM_1) (h_2.mono hM_1) (h_3.mono hM_1) (h_4.mono hM_1) (h_5.mono hM_1) (h_6.mono hM_1) (h_7.mono hM_1) (h_8.mono hM_1) (h_9.mono hM_1) (h_10.mono hM_1)) x_1 hx_1) fun _ M_2 w_2 hM_2 p_2 q_1 _ f => ?_
 obtain ⟨c_1, rfl, hr_1⟩ := q_1
 obtain ⟨A_11, cap_11, A_12, cap_12, A_13, cap_13, A_14, cap_14, A_15, cap_15, A_16, cap_16, A_17, cap_17, A_18, cap_18, A_19, cap_19, A_20, cap_20, rfl, h_11, h_12, h_13, h_14, h_15, h_16, h_17, h_18, h_19, h_20⟩ := TK0.opn hr_1
 obtain ⟨x_2, hx_2, hF_2⟩ := bS hF_1
 refine Y16 (E := []) (H := (H)) f p_2 (ref23_Leans_ok n _ _ x_1 (TK0.shutx (x := x_1) h_11 h_12 h_13 h_14 h_15 h_16 h_17 h_18 h_19 h_20) (false) x_2 hx_2) fun _ M_3 E_1 w_3 hM_3 p_3 q_2 _ f => ?_
 obtain ⟨A_21, cap_21, cs_1, rfl, rfl, hr_2⟩ := q_2
 refine Y f 1 fun _ f => eT (wp_ret (E_ret1 f rfl (by kernel_rfl : Vc.look _ 2 = some (.slice A_21 x_2.length cap_21)) ?_))
 obtain rfl := sI hF_2
 exact ⟨_, rfl, M_3, _, ((hM_1.trans hM_2).trans hM_3), p_3, ⟨A_21, cap_21, cs_1, rfl, rfl, hr_2⟩⟩
def ref25_ahead_s2 (n : Nat) (d0 : List (List Int)) (s_1 : Int) (s_2 : Int) : Option (Lp Int (Sum Unit Unit)) :=
    (getI d0 s_1).bind fun x_1 =>
    bif (decide (s_2 < ((x_1.length : Nat) : Int))) then
      ((getI d0 s_1).bind fun x_2 =>
      (getI x_2 s_2).bind fun x_3 =>
      bif (decide (s_1 ≤ x_3)) then
        (some (.br (.inl ())))
      else
        need (inR .i64 (s_2 + 1)) <|
        some (.nx (s_2 + 1)))
    else
      some (.br (.inr ()))
def ref25_ahead_s1 (n : Nat) (d0 : List (List Int)) (s_1 : Int) : Option (Lp Int (Sum Unit Unit)) :=
    bif (decide (s_1 < ((d0.length : Nat) : Int))) then
      ((loopF (ref25_ahead_s2 n d0 s_1) n (0 : Int)).bind fun b_2 =>
      (match b_2 with 
      | .inl y_1 => some (.br (.inl ())) 
      | .inr y_2 => need (inR .i64 (s_1 + 1)) <|
        some (.nx (s_1 + 1))))
    else
      some (.br (.inr ()))
def ref25_ahead (n : Nat) (d0 : List (List Int)) : Option Bool :=
  (loopF (ref25_ahead_s1 n d0) n (0 : Int)).bind fun b_1 =>
  (match b_1 with 
  | .inl y_3 => some ((false)) 
  | .inr y_4 => some ((true)))
set_option maxRecDepth 20000 in
theorem ref25_ahead_ok (n : Nat) (M : Mem) (A0 : Option Addr) (cap0 : Nat) (d0 : List (List Int)) (h0 : Sli M 1 (eL 1 (Dat.int .i64)) A0 cap0 d0) (r : Bool) (hF : ref25_ahead n d0 = some r) : Ok Tryz.prog M 28 [.slice A0 d0.length cap0] (fun _ v => v = .bool r) := by
 unfold ref25_ahead at hF
 intro M1 hM0 w0 H w p0
 replace h0 := h0.mono hM0
 refine R_enter 29 Tryz.func28 rfl rfl (by simp) fun a0 f0 => RR (Y f0 1 fun _ f => eT (R_seq (RR (Y f 1 fun _ f => eT (wp_block ?_)))))
 obtain ⟨b_1, hL_1, hF_1⟩ := bS hF
 refine wp_mono (Q := fun e a w => (e = .ret ∧ (∃ y_3 : Unit, b_1 = .inl y_3 ∧ ∃ M_5 : Mem, M1.le M_5 ∧ Frm 29 [(2, .bool false)] a ∧ Hp w0 M_5 (H) w)) ∨ (e = .exit 0 ∧ (∃ y_4 : Unit, b_1 = .inr y_4 ∧ ∃ M_6 : Mem, M1.le M_6 ∧ Frm 29 [] a ∧ Hp w0 M_6 (H) w))) (R_loop (n := 29) (w0 := w0) (M := M1) (fun (x : Nat × Int) => match x with | (m_1, s_1) => [(0, .slice A0 d0.length cap0), (3, .int .i64 s_1)]) (fun (x : Nat × Int) => match x with | (m_1, s_1) => (H)) (fun (x : Nat × Int) (MM : Mem) => match x with | (m_1, s_1) => loopF (ref25_ahead_s1 n d0) m_1 s_1 = some b_1) (fun (x : Nat × Int) => match x with | (m_1, s_1) => m_1) (n, (0 : Int)) (f.kp) p0 hL_1 ?_) ?_
 ·rintro ⟨m_1, s_1⟩ M_1 _ w_1 hM_1 I_1 f p_1
  have I_1L := I_1
  obtain ⟨m_2, r_1, rfl, hs_1, hn_1⟩ := loop_step I_1L
  unfold ref25_ahead_s1 at hs_1
  refine R_seq (RR (Y f 4 fun _ f => eT (RcF f hs_1 (fun h_1 hF_2 => ?_) fun h_1 hF_13 => ?_)))
  ·have k_1 := dI.1 h_1
   refine wp_skip (T_n (R_seq (wp_block (RR (Y f 1 fun _ f => eT (wp_block ?_))))))
   obtain ⟨b_2, hL_2, hF_3⟩ := bS hF_2
   refine wp_mono (Q := fun e a w => (e = .ret ∧ (∃ y_1 : Unit, b_2 = .inl y_1 ∧ ∃ M_3 : Mem, M_1.le M_3 ∧ Frm 29 [(2, .bool false)] a ∧ Hp w0 M_3 (H) w)) ∨ (e = .exit 2 ∧ (∃ y_2 : Unit, b_2 = .inr y_2 ∧ ∃ M_4 : Mem, M_1.le M_4 ∧ Frm 29 [(0, .slice A0 d0.length cap0), (3, .int .i64 s_1)] a ∧ Hp w0 M_4 (H) w))) (R_loop (n := 29) (w0 := w0) (M := M_1) (fun (x : Nat × Int) => match x with | (m_3, s_2) => [(0, .slice A0 d0.length cap0), (3, .int .i64 s_1), (4, .int .i64 s_2)]) (fun (x : Nat × Int) => match x with | (m_3, s_2) => (H)) (fun (x : Nat × Int) (MM : Mem) => match x with | (m_3, s_2) => loopF (ref25_ahead_s2 n d0 s_1) m_3 s_2 = some b_2) (fun (x : Nat × Int) => match x with | (m_3, s_2) => m_3) (n, (0 : Int)) (f.kp) p_1 hL_2 ?_) ?_
   ·rintro ⟨m_3, s_2⟩ M_2 _ w_2 hM_2 I_2 f p_2
    have I_2L := I_2
    obtain ⟨m_4, r_2, rfl, hs_2, hn_2⟩ := loop_step I_2L
    unfold ref25_ahead_s2 at hs_2
    refine R_seq (RR (Y f 3 fun _ f => ?_))
    obtain ⟨x_1, hx_1, hF_4⟩ := bS hs_2
    obtain ⟨ad_1, c_1, e_1, -, hr_1, hc_1⟩ := Sli.at_ (h0.mono (hM_1.trans hM_2)) hx_1
    obtain ⟨A_1, cap_1, rfl, h_2⟩ := Rep.sli hr_1
    refine Z f (Y28 e_1 rfl (len := d0.length) (cap := cap0) (k := .i64) (i := s_1) (e := 47) (sz := 1) (getI_nn hx_1) (getI_lt hx_1)) fun _ f => Y14 f p_2 hc_1 0 rfl fun _ f => Y f 2 fun _ f => eT (RcF f hF_4 (fun h_3 hF_5 => ?_) fun h_3 hF_11 => ?_)
    ·have k_2 := dI.1 h_3
     refine wp_skip (T_n (R_seq (wp_block (RR (Y f 2 fun _ f => ?_)))))
     obtain ⟨x_2, hx_2, hF_6⟩ := bS hF_5
     obtain ⟨ad_2, c_2, e_2, -, hr_2, hc_2⟩ := Sli.at_ (h0.mono (hM_1.trans hM_2)) hx_2
     obtain ⟨A_2, cap_2, rfl, h_4⟩ := Rep.sli hr_2
     refine Z f (Y28 e_2 rfl (len := d0.length) (cap := cap0) (k := .i64) (i := s_1) (e := 47) (sz := 1) (getI_nn hx_2) (getI_lt hx_2)) fun _ f => Y14 f p_2 hc_2 0 rfl fun _ f => Y f 1 fun _ f => ?_
     obtain ⟨x_3, hx_3, hF_7⟩ := bS hF_6
     obtain ⟨ad_3, c_3, e_3, -, hr_3, hc_3⟩ := Sli.at_ h_4 hx_3
     obtain rfl : c_3 = [.int .i64 x_3] := hr_3
     refine Z f (Y28 e_3 rfl (len := x_2.length) (cap := cap_2) (k := .i64) (i := s_2) (e := 3) (sz := 1) (getI_nn hx_3) (getI_lt hx_3)) fun _ f => Y14 f p_2 hc_3 0 rfl fun _ f => Y f 2 fun _ f => eT (RcF f hF_7 (fun h_5 hF_8 => ?_) fun h_5 hF_9 => ?_)
     ·have k_3 := dI.1 h_5
      refine RR (Y f 1 fun _ f => eT (wp_ret (B_r (T_r (T_r ?_)))))
      obtain rfl := sI hF_8
      exact .inl ⟨rfl, (), (sI hn_2).symm, M_2, hM_2, f.kp, p_2⟩
     ·have k_4 := iff_f dI h_5
      refine wp_skip (B_n (T_n (R_reg (Y f 1 fun _ f => ?_))))
      obtain ⟨g_1, hF_10⟩ := nS hF_9
      refine Y f 1 fun _ f => ?_
      have f := f.st 19 (congrArg (Value.int .i64) (inR_wrap g_1))
      refine Y f 1 fun _ f => eT ?_
      obtain rfl := sI hF_10
      exact ⟨⟨m_4, s_2 + 1⟩, Nat.lt_succ_self _, M_2, hM_2, hn_2, f.kp, p_2⟩
    ·have k_5 := iff_f dI h_3
     refine wp_exit (T_x (T_x ?_))
     obtain rfl := sI hF_11
     exact .inr ⟨rfl, (), (sI hn_2).symm, M_2, hM_2, f.kp, p_2⟩
   ·rintro _ _ w_5 (⟨rfl, y_1, rfl, M_3, hM_3, f, p_3⟩ | ⟨rfl, y_2, rfl, M_4, hM_4, f, p_4⟩)
    ·refine B_r (B_r (T_r (T_r ?_)))
     obtain rfl := sI hF_3
     exact .inl ⟨rfl, (), (sI hn_1).symm, M_3, (hM_1.trans hM_3), f.kp, p_3⟩
    ·refine B_x (B_n (T_n (R_reg (Y f 1 fun _ f => ?_))))
     obtain ⟨g_2, hF_12⟩ := nS hF_3
     refine Y f 1 fun _ f => ?_
     have f := f.st 10 (congrArg (Value.int .i64) (inR_wrap g_2))
     refine Y f 1 fun _ f => eT ?_
     obtain rfl := sI hF_12
     exact ⟨⟨m_2, s_1 + 1⟩, Nat.lt_succ_self _, M_4, (hM_1.trans hM_4), hn_1, f.kp, p_4⟩
  ·have k_6 := iff_f dI h_1
   refine wp_exit (T_x (T_x ?_))
   obtain rfl := sI hF_13
   exact .inr ⟨rfl, (), (sI hn_1).symm, M_1, hM_1, f.kp, p_1⟩
 ·rintro _ _ w_8 (⟨rfl, y_3, rfl, M_5, hM_5, f, p_5⟩ | ⟨rfl, y_4, rfl, M_6, hM_6, f, p_6⟩)
  ·refine B_r (T_r (E_ret1 f rfl (by kernel_rfl : Vc.look _ 2 = some (.bool false)) ?_))
   obtain rfl := sI hF_1
   exact ⟨_, rfl, M_5, hM_5, p_5, rfl⟩
  ·refine B_x (T_n (RR (Y f 1 fun _ f => eT (wp_ret (E_ret1 f rfl (by kernel_rfl : Vc.look _ 2 = some (.bool true)) ?_)))))
   obtain rfl := sI hF_1
   exact ⟨_, rfl, M_6, hM_6, p_6, rfl⟩
def ref25_May_s2 (n : Nat) (d0 : TK0) (s_1 : Int) (x_2 : TR0) (s_2 : Int) : Option (Lp Int (Sum Unit Unit)) :=
    bif (decide (s_2 < s_1)) then
      ((getI d0.fTasks s_2).bind fun x_3 =>
      bif (decide (x_3.fChange = x_2.fChange)) then
        ((getI d0.fTasks s_2).bind fun x_4 =>
        bif (decide (x_4.fPhase = x_2.fPhase)) then
          (some (.br (.inl ())))
        else
          need (inR .i64 (s_2 + 1)) <|
          some (.nx (s_2 + 1)))
      else
        need (inR .i64 (s_2 + 1)) <|
        some (.nx (s_2 + 1)))
    else
      some (.br (.inr ()))
def ref25_May_s1 (n : Nat) (d0 : TK0) (s_1 : Int) : Option (Lp Int (Sum Unit Unit)) :=
    bif (decide (s_1 < ((d0.fTasks.length : Nat) : Int))) then
      ((getI d0.fTasks s_1).bind fun x_2 =>
      ((need (inR .i64 (s_1 + 1)) <|
        bif (!(decide (x_2.fCall.fToken = (s_1 + 1)))) then
          (some ((true)))
        else
          bif (decide (x_2.fChange < 0)) then
            (some ((true)))
          else
            bif (decide (((d0.fChanges.length : Nat) : Int) ≤ x_2.fChange)) then
              (some ((true)))
            else
              bif (decide (x_2.fState < 0)) then
                (some ((true)))
              else
                bif (decide ((2 : Int) < x_2.fState)) then
                  (some ((true)))
                else
                  bif (decide (x_2.fPhase < 0)) then
                    (some ((true)))
                  else
                    some ((decide ((2 : Int) < x_2.fPhase))) : Option Bool)).bind fun y_2 =>
      bif y_2 then
        (some (.br (.inl ())))
      else
        (loopF (ref25_May_s2 n d0 s_1 x_2) n (0 : Int)).bind fun b_4 =>
        (match b_4 with 
        | .inl y_3 => some (.br (.inl ())) 
        | .inr y_4 => need (inR .i64 (s_1 + 1)) <|
          some (.nx (s_1 + 1))))
    else
      some (.br (.inr ()))
def ref25_May (n : Nat) (d0 : TK0) : Option Bool :=
  ((bif (decide (d0.fWidth < 1)) then
      (some ((true)))
    else
      bif (decide ((4 : Int) < d0.fWidth)) then
        (some ((true)))
      else
        bif (decide (d0.fPhase < 0)) then
          (some ((true)))
        else
          bif (decide ((3 : Int) < d0.fPhase)) then
            (some ((true)))
          else
            (ref22_Check n (⟨d0.fOld.fOwned, d0.fOld.fPending, d0.fOld.fRetained, d0.fOld.fOuts, d0.fOld.fText, d0.fOld.fArgs, d0.fOld.fCalls, d0.fOld.fStatus⟩ : TF0)).bind fun x_1 =>
            some ((!(decide (x_1 = 0)))) : Option Bool)).bind fun y_1 =>
  bif y_1 then
    (some ((false)))
  else
    (loopF (ref25_May_s1 n d0) n (0 : Int)).bind fun b_2 =>
    (match b_2 with 
    | .inl y_5 => some ((false)) 
    | .inr y_6 => (ref25_kept n d0).bind fun x_5 =>
      (ref23_Leans n x_5 (false)).bind fun x_6 =>
      (ref25_ahead n x_6).bind fun x_7 =>
      some ((x_7)))
set_option maxRecDepth 20000 in
theorem ref25_May_ok (n : Nat) (M : Mem) (c0 : List Value) (d0 : TK0) (h0 : Rep M (emb_TK0 d0) c0) (r : Bool) (hF : ref25_May n d0 = some r) : Ok Tryz.prog M 8 [.agg c0.toArray] (fun _ v => v = .bool r) := by
 unfold ref25_May at hF
 intro M1 hM0 w0 H w p0
 replace h0 := Rep.mono hM0 _ _ h0
 obtain ⟨A_1, cap_1, A_2, cap_2, A_3, cap_3, A_4, cap_4, A_5, cap_5, A_6, cap_6, A_7, cap_7, A_8, cap_8, A_9, cap_9, A_10, cap_10, rfl, h_1, h_2, h_3, h_4, h_5, h_6, h_7, h_8, h_9, h_10⟩ := TK0.opn h0
 refine R_enter 110 Tryz.func8 rfl rfl (by simp) fun a0 f0 => RR (Y12 (cs := #[.int .i8 d0.fKind, .int .i64 d0.fWidth, .slice A_1 d0.fOld.fOwned.length cap_1, .slice A_2 d0.fOld.fPending.length cap_2, .slice A_3 d0.fOld.fRetained.length cap_3, .slice A_4 d0.fOld.fOuts.length cap_4, S d0.fOld.fText, .slice A_5 d0.fOld.fArgs.length cap_5, .int .i64 d0.fOld.fCalls, .int .i8 d0.fOld.fStatus, .slice A_6 d0.fNew.fScopes.length cap_6, .slice A_7 d0.fNew.fNodes.length cap_7, S d0.fText, .slice A_8 d0.fArgs.length cap_8, .slice A_9 d0.fChanges.length cap_9, .slice A_10 d0.fTasks.length cap_10, .int .i8 d0.fPhase, .int .i8 d0.fStatus]) (T := 34) f0 p0 fun b_1 M_1 w_1 hM_1 hc_1 p_1 _ f => ?_)
 have hc_2 := fz_box hc_1
 refine Y f 1 fun _ f => eT (R_seq (R_seq ?_))
 obtain ⟨j_1, hj_1, hF_1⟩ := bS hF
 refine R_mid (fun a_23 w_3 => ∃ y_1 : Bool, j_1 = y_1 ∧ ∃ M_2 : Mem, M_1.le M_2 ∧ Frm 110 [(1, .pointer (some (⟨b_1, 0, none⟩))), (29, .bool y_1)] a_23 ∧ Hp w0 M_2 (H) w_3) ?_ ?_
 ·refine R_reg (Y f 1 fun _ f => Y14 f p_1 hc_2 1 rfl fun _ f => Y f 2 fun _ f => ?_)
  rcases cE hj_1 with ⟨h_11, hF_2⟩ | ⟨h_11, hF_3⟩
  ·have k_1 := dI.1 h_11
   have f := f.st 9 (cB h_11)
   refine Y f 20 fun _ f => eT ?_
   exact ⟨(true), (sI hF_2).symm, M_1, (mR _), f.kp, p_1⟩
  ·have k_2 := iff_f dI h_11
   have f := f.st 9 (cB h_11)
   refine Y f 1 fun _ f => Y14 f p_1 hc_2 1 rfl fun _ f => Y f 3 fun _ f => ?_
   rcases cE hF_3 with ⟨h_12, hF_4⟩ | ⟨h_12, hF_5⟩
   ·have k_3 := dI.1 h_12
    have f := f.st 14 (cB h_12)
    refine Y f 15 fun _ f => eT ?_
    exact ⟨(true), (sI hF_4).symm, M_1, (mR _), f.kp, p_1⟩
   ·have k_4 := iff_f dI h_12
    have f := f.st 14 (cB h_12)
    refine Y f 1 fun _ f => Y14 f p_1 hc_2 16 rfl fun _ f => Y f 3 fun _ f => ?_
    rcases cE hF_5 with ⟨h_13, hF_6⟩ | ⟨h_13, hF_7⟩
    ·have k_5 := dI.1 h_13
     have f := f.st 19 (cB h_13)
     refine Y f 10 fun _ f => eT ?_
     exact ⟨(true), (sI hF_6).symm, M_1, (mR _), f.kp, p_1⟩
    ·have k_6 := iff_f dI h_13
     have f := f.st 19 (cB h_13)
     refine Y f 1 fun _ f => Y14 f p_1 hc_2 16 rfl fun _ f => Y f 3 fun _ f => ?_
     rcases cE hF_7 with ⟨h_14, hF_8⟩ | ⟨h_14, hF_9⟩
     ·have k_7 := dI.1 h_14
      have f := f.st 24 (cB h_14)
      refine Y f 5 fun _ f => eT ?_
      exact ⟨(true), (sI hF_8).symm, M_1, (mR _), f.kp, p_1⟩
     ·have k_8 := iff_f dI h_14
      have f := f.st 24 (cB h_14)
      refine Y f 1 fun _ f => Z (v := .agg #[.slice A_1 d0.fOld.fOwned.length cap_1, .slice A_2 d0.fOld.fPending.length cap_2, .slice A_3 d0.fOld.fRetained.length cap_3, .slice A_4 d0.fOld.fOuts.length cap_4, S d0.fOld.fText, .slice A_5 d0.fOld.fArgs.length cap_5, .int .i64 d0.fOld.fCalls, .int .i8 d0.fOld.fStatus]) f (Y30 (cs := [.slice A_1 d0.fOld.fOwned.length cap_1, .slice A_2 d0.fOld.fPending.length cap_2, .slice A_3 d0.fOld.fRetained.length cap_3, .slice A_4 d0.fOld.fOuts.length cap_4, S d0.fOld.fText, .slice A_5 d0.fOld.fArgs.length cap_5, .int .i64 d0.fOld.fCalls, .int .i8 d0.fOld.fStatus]) rfl (ad := (⟨b_1, 0, none⟩ : Addr).add 2) (fz_part (base := (⟨b_1, 0, none⟩ : Addr)) (fun j v h => p_1.cell (hc_2 j v h)) 2 rfl)) fun _ f => ?_
      obtain ⟨x_1, hx_1, hF_10⟩ := bS hF_9
      refine Y17 f p_1 (ref22_Check_ok n _ _ (⟨d0.fOld.fOwned, d0.fOld.fPending, d0.fOld.fRetained, d0.fOld.fOuts, d0.fOld.fText, d0.fOld.fArgs, d0.fOld.fCalls, d0.fOld.fStatus⟩ : TF0) (TF0.shut (h_1.mono hM_1) (h_2.mono hM_1) (h_3.mono hM_1) (h_4.mono hM_1) (h_5.mono hM_1)) x_1 hx_1) fun w_2 p_2 _ f => Y f 2 fun _ f => eT ?_
      exact ⟨(!(decide (x_1 = 0))), (sI hF_10).symm, M_1, (mR _), f.kp, p_2⟩
 ·rintro a_23 w_3 ⟨y_1, hq_1, M_2, hM_2, f, p_3⟩
  subst j_1
  refine T_n (RcF f hF_1 (fun h_15 hF_11 => ?_) fun h_15 hF_12 => ?_)
  ·refine RR (Y f 1 fun _ f => eT (wp_ret (T_r (E_ret1 f rfl (by kernel_rfl : Vc.look _ 2 = some (.bool false)) ?_))))
   obtain rfl := sI hF_11
   exact ⟨_, rfl, M_2, (hM_1.trans hM_2), p_3, rfl⟩
  ·refine wp_skip (T_n (R_seq (RR (Y f 1 fun _ f => eT (wp_block ?_)))))
   obtain ⟨b_2, hL_1, hF_13⟩ := bS hF_12
   refine wp_mono (Q := fun e a w => (e = .ret ∧ (∃ y_5 : Unit, b_2 = .inl y_5 ∧ ∃ M_8 : Mem, M_2.le M_8 ∧ Frm 110 [(2, .bool false)] a ∧ Hp w0 M_8 (H) w)) ∨ (e = .exit 0 ∧ (∃ y_6 : Unit, b_2 = .inr y_6 ∧ ∃ M_9 : Mem, M_2.le M_9 ∧ Frm 110 [(1, .pointer (some (⟨b_1, 0, none⟩)))] a ∧ Hp w0 M_9 (H) w))) (R_loop (n := 110) (w0 := w0) (M := M_2) (fun (x : Nat × Int) => match x with | (m_1, s_1) => [(1, .pointer (some (⟨b_1, 0, none⟩))), (3, .int .i64 s_1)]) (fun (x : Nat × Int) => match x with | (m_1, s_1) => (H)) (fun (x : Nat × Int) (MM : Mem) => match x with | (m_1, s_1) => loopF (ref25_May_s1 n d0) m_1 s_1 = some b_2) (fun (x : Nat × Int) => match x with | (m_1, s_1) => m_1) (n, (0 : Int)) (f.kp) p_3 hL_1 ?_) ?_
   ·rintro ⟨m_1, s_1⟩ M_3 _ w_4 hM_3 I_1 f p_4
    have I_1L := I_1
    obtain ⟨m_2, r_1, rfl, hs_1, hn_1⟩ := loop_step I_1L
    unfold ref25_May_s1 at hs_1
    refine R_seq (RR (Y f 2 fun _ f => Y14 f p_4 (fzu (hM_2.trans hM_3) hc_2) 15 rfl fun _ f => Y f 2 fun _ f => eT (RcF f hs_1 (fun h_16 hF_14 => ?_) fun h_16 hF_44 => ?_)))
    ·have k_11 := dI.1 h_16
     refine wp_skip (T_n (R_seq (wp_block (RR (Y f 1 fun _ f => Y14 f p_4 (fzu (hM_2.trans hM_3) hc_2) 15 rfl fun _ f => Y f 1 fun _ f => ?_)))))
     obtain ⟨x_2, hx_2, hF_15⟩ := bS hF_14
     obtain ⟨ad_1, c_1, e_1, -, hr_1, hc_3⟩ := Sli.at_ (h_10.mono ((hM_1.trans hM_2).trans hM_3)) hx_2
     obtain ⟨A_11, cap_11, rfl, h_17⟩ := TR0.opn hr_1
     refine Z f (Y28 e_1 rfl (len := d0.fTasks.length) (cap := cap_10) (k := .i64) (i := s_1) (e := 44) (sz := 9) (getI_nn hx_2) (getI_lt hx_2)) fun _ f => Z (v := .agg #[.int .i64 x_2.fChange, .int .i8 x_2.fPhase, .int .i64 x_2.fCall.fToken, .int .i8 x_2.fCall.fKind, S x_2.fCall.fPhys, S x_2.fCall.fType, .slice A_11 x_2.fCall.fProps.length cap_11, .int .i8 x_2.fState, S x_2.fPhys]) f (Y30 (cs := [.int .i64 x_2.fChange, .int .i8 x_2.fPhase, .int .i64 x_2.fCall.fToken, .int .i8 x_2.fCall.fKind, S x_2.fCall.fPhys, S x_2.fCall.fType, .slice A_11 x_2.fCall.fProps.length cap_11, .int .i8 x_2.fState, S x_2.fPhys]) rfl (ad := ad_1.add (s_1.toNat * 9)) (fun j v h => p_4.cell (hc_3 j v h))) fun _ f => Y11 f p_4 (.cells #[.int .i64 0, .int .i8 0, .int .i64 0, .int .i8 0, S [], S [], .slice none 0 0, .int .i8 0, S []] 44 (0, 0)) fun b_3 w_5 p_5 _ f => Y26 (vs := [.int .i64 x_2.fChange, .int .i8 x_2.fPhase, .int .i64 x_2.fCall.fToken, .int .i8 x_2.fCall.fKind, S x_2.fCall.fPhys, S x_2.fCall.fType, .slice A_11 x_2.fCall.fProps.length cap_11, .int .i8 x_2.fState, S x_2.fPhys]) (j := 0) f p_5 rfl rfl (by simp [Value.oneCell', S]) (by simp) (by decide) (cs' := #[.int .i64 x_2.fChange, .int .i8 x_2.fPhase, .int .i64 x_2.fCall.fToken, .int .i8 x_2.fCall.fKind, S x_2.fCall.fPhys, S x_2.fCall.fType, .slice A_11 x_2.fCall.fProps.length cap_11, .int .i8 x_2.fState, S x_2.fPhys]) fun w_6 p_6 _ f => eT (R_seq (R_seq ?_))
     obtain ⟨j_2, hj_2, hF_16⟩ := bS hF_15
     refine R_mid (fun a_68 w_7 => ∃ y_2 : Bool, j_2 = y_2 ∧ ∃ M_4 : Mem, M_3.le M_4 ∧ Frm 110 [(1, .pointer (some (⟨b_1, 0, none⟩))), (3, .int .i64 s_1), (4, .pointer (some (⟨b_3, 0, none⟩))), (80, .bool y_2)] a_68 ∧ Hp w0 M_4 ((Ent.obj b_3 (.cells #[.int .i64 x_2.fChange, .int .i8 x_2.fPhase, .int .i64 x_2.fCall.fToken, .int .i8 x_2.fCall.fKind, S x_2.fCall.fPhys, S x_2.fCall.fType, .slice A_11 x_2.fCall.fProps.length cap_11, .int .i8 x_2.fState, S x_2.fPhys] 44 (0, 0))) :: H) w_7) ?_ ?_
     ·refine R_reg (Y f 2 fun _ f => Z f (Y29 (v := .int .i64 x_2.fCall.fToken) rfl (ad := ⟨b_3, 2, none⟩) (p_6.ownCell 0 rfl 2)) fun _ f => Y f 1 fun _ f => ?_)
      obtain ⟨g_1, hF_17⟩ := nS hj_2
      refine Y f 1 fun _ f => ?_
      have f := f.st 46 (congrArg (Value.int .i64) (inR_wrap g_1))
      refine Y f 2 fun _ f => ?_
      rcases cE hF_17 with ⟨h_18, hF_18⟩ | ⟨h_18, hF_19⟩
      ·have k_12 : ¬ (x_2.fCall.fToken = (s_1 + 1)) := (not_iff dI).1 h_18
       have f := f.st 48 (cB h_18)
       refine Y f 32 fun _ f => eT ?_
       exact ⟨(true), (sI hF_18).symm, M_3, (mR _), f.kp, p_6⟩
      ·have k_13 : ¬ (¬ (x_2.fCall.fToken = (s_1 + 1))) := iff_f (not_iff dI) h_18
       have f := f.st 48 (cB h_18)
       refine Y f 1 fun _ f => Z f (Y29 (v := .int .i64 x_2.fChange) rfl (ad := ⟨b_3, 0, none⟩) (p_6.ownCell 0 rfl 0)) fun _ f => Y f 3 fun _ f => ?_
       rcases cE hF_19 with ⟨h_19, hF_20⟩ | ⟨h_19, hF_21⟩
       ·have k_14 := dI.1 h_19
        have f := f.st 53 (cB h_19)
        refine Y f 27 fun _ f => eT ?_
        exact ⟨(true), (sI hF_20).symm, M_3, (mR _), f.kp, p_6⟩
       ·have k_15 := iff_f dI h_19
        have f := f.st 53 (cB h_19)
        refine Y f 1 fun _ f => Z f (Y29 (v := .int .i64 x_2.fChange) rfl (ad := ⟨b_3, 0, none⟩) (p_6.ownCell 0 rfl 0)) fun _ f => Y f 1 fun _ f => Y14 f p_6 (fzu (hM_2.trans hM_3) hc_2) 14 rfl fun _ f => Y f 4 fun _ f => ?_
        rcases cE hF_21 with ⟨h_20, hF_22⟩ | ⟨h_20, hF_23⟩
        ·have k_16 := dI.1 h_20
         have f := f.st 61 (cB h_20)
         refine Y f 19 fun _ f => eT ?_
         exact ⟨(true), (sI hF_22).symm, M_3, (mR _), f.kp, p_6⟩
        ·have k_17 := iff_f dI h_20
         have f := f.st 61 (cB h_20)
         refine Y f 1 fun _ f => Z f (Y29 (v := .int .i8 x_2.fState) rfl (ad := ⟨b_3, 7, none⟩) (p_6.ownCell 0 rfl 7)) fun _ f => Y f 3 fun _ f => ?_
         rcases cE hF_23 with ⟨h_21, hF_24⟩ | ⟨h_21, hF_25⟩
         ·have k_18 := dI.1 h_21
          have f := f.st 66 (cB h_21)
          refine Y f 14 fun _ f => eT ?_
          exact ⟨(true), (sI hF_24).symm, M_3, (mR _), f.kp, p_6⟩
         ·have k_19 := iff_f dI h_21
          have f := f.st 66 (cB h_21)
          refine Y f 1 fun _ f => Z f (Y29 (v := .int .i8 x_2.fState) rfl (ad := ⟨b_3, 7, none⟩) (p_6.ownCell 0 rfl 7)) fun _ f => Y f 3 fun _ f => ?_
          rcases cE hF_25 with ⟨h_22, hF_26⟩ | ⟨h_22, hF_27⟩
          ·have k_20 := dI.1 h_22
           have f := f.st 71 (cB h_22)
           refine Y f 9 fun _ f => eT ?_
           exact ⟨(true), (sI hF_26).symm, M_3, (mR _), f.kp, p_6⟩
          ·have k_21 := iff_f dI h_22
           have f := f.st 71 (cB h_22)
           refine Y f 1 fun _ f => Z f (Y29 (v := .int .i8 x_2.fPhase) rfl (ad := ⟨b_3, 1, none⟩) (p_6.ownCell 0 rfl 1)) fun _ f => Y f 3 fun _ f => ?_
           rcases cE hF_27 with ⟨h_23, hF_28⟩ | ⟨h_23, hF_29⟩
           ·have k_22 := dI.1 h_23
            have f := f.st 76 (cB h_23)
            refine Y f 4 fun _ f => eT ?_
            exact ⟨(true), (sI hF_28).symm, M_3, (mR _), f.kp, p_6⟩
           ·have k_23 := iff_f dI h_23
            have f := f.st 76 (cB h_23)
            refine Y f 1 fun _ f => Z f (Y29 (v := .int .i8 x_2.fPhase) rfl (ad := ⟨b_3, 1, none⟩) (p_6.ownCell 0 rfl 1)) fun _ f => Y f 2 fun _ f => eT ?_
            exact ⟨(decide ((2 : Int) < x_2.fPhase)), (sI hF_29).symm, M_3, (mR _), f.kp, p_6⟩
     ·rintro a_68 w_7 ⟨y_2, hq_2, M_4, hM_4, f, p_7⟩
      subst j_2
      refine T_n (RcF f hF_16 (fun h_24 hF_30 => ?_) fun h_24 hF_31 => ?_)
      ·refine RR (Y f 1 fun _ f => eT (wp_ret (T_r (B_r (T_r (T_r ?_))))))
       obtain rfl := sI hF_30
       exact .inl ⟨rfl, (), (sI hn_1).symm, M_4, (hM_3.trans hM_4), f.kp, (p_7.dropN 1)⟩
      ·refine wp_skip (T_n (RR (Y f 1 fun _ f => eT (wp_block ?_))))
       obtain ⟨b_4, hL_2, hF_32⟩ := bS hF_31
       refine wp_mono (Q := fun e a w => (e = .ret ∧ (∃ y_3 : Unit, b_4 = .inl y_3 ∧ ∃ M_6 : Mem, M_4.le M_6 ∧ Frm 110 [(2, .bool false)] a ∧ Hp w0 M_6 ((Ent.obj b_3 (.cells #[.int .i64 x_2.fChange, .int .i8 x_2.fPhase, .int .i64 x_2.fCall.fToken, .int .i8 x_2.fCall.fKind, S x_2.fCall.fPhys, S x_2.fCall.fType, .slice A_11 x_2.fCall.fProps.length cap_11, .int .i8 x_2.fState, S x_2.fPhys] 44 (0, 0))) :: H) w)) ∨ (e = .exit 2 ∧ (∃ y_4 : Unit, b_4 = .inr y_4 ∧ ∃ M_7 : Mem, M_4.le M_7 ∧ Frm 110 [(1, .pointer (some (⟨b_1, 0, none⟩))), (3, .int .i64 s_1)] a ∧ Hp w0 M_7 ((Ent.obj b_3 (.cells #[.int .i64 x_2.fChange, .int .i8 x_2.fPhase, .int .i64 x_2.fCall.fToken, .int .i8 x_2.fCall.fKind, S x_2.fCall.fPhys, S x_2.fCall.fType, .slice A_11 x_2.fCall.fProps.length cap_11, .int .i8 x_2.fState, S x_2.fPhys] 44 (0, 0))) :: H) w))) (R_loop (n := 110) (w0 := w0) (M := M_4) (fun (x : Nat × Int) => match x with | (m_3, s_2) => [(1, .pointer (some (⟨b_1, 0, none⟩))), (3, .int .i64 s_1), (4, .pointer (some (⟨b_3, 0, none⟩))), (5, .int .i64 s_2)]) (fun (x : Nat × Int) => match x with | (m_3, s_2) => ((Ent.obj b_3 (.cells #[.int .i64 x_2.fChange, .int .i8 x_2.fPhase, .int .i64 x_2.fCall.fToken, .int .i8 x_2.fCall.fKind, S x_2.fCall.fPhys, S x_2.fCall.fType, .slice A_11 x_2.fCall.fProps.length cap_11, .int .i8 x_2.fState, S x_2.fPhys] 44 (0, 0))) :: H)) (fun (x : Nat × Int) (MM : Mem) => match x with | (m_3, s_2) => loopF (ref25_May_s2 n d0 s_1 x_2) m_3 s_2 = some b_4) (fun (x : Nat × Int) => match x with | (m_3, s_2) => m_3) (n, (0 : Int)) (f.kp) p_7 hL_2 ?_) ?_
       ·rintro ⟨m_3, s_2⟩ M_5 _ w_8 hM_5 I_2 f p_8
        have I_2L := I_2
        obtain ⟨m_4, r_2, rfl, hs_2, hn_2⟩ := loop_step I_2L
        unfold ref25_May_s2 at hs_2
        refine R_seq (RR (Y f 3 fun _ f => eT (RcF f hs_2 (fun h_25 hF_33 => ?_) fun h_25 hF_42 => ?_)))
        ·have k_26 := dI.1 h_25
         refine wp_skip (T_n (R_seq (wp_block (R_seq (R_draw p_8 (by kernel_rfl) (by kernel_rfl) (Y5 default f 1 fun _ f => Y4 f (fzu (((hM_2.trans hM_3).trans hM_4).trans hM_5) hc_2) 15 rfl fun _ f => Y5 default f 1 fun _ f => ?_))))))
         obtain ⟨x_3, hx_3, hF_34⟩ := bS hF_33
         obtain ⟨ad_2, c_2, e_2, -, hr_2, hc_4⟩ := Sli.at_ (h_10.mono ((((hM_1.trans hM_2).trans hM_3).trans hM_4).trans hM_5)) hx_3
         obtain ⟨A_12, cap_12, rfl, h_26⟩ := TR0.opn hr_2
         refine Y2 (v := .pointer (some (ad_2.add (s_2.toNat * 9)))) f (fun _ pq => Y28 e_2 rfl (len := d0.fTasks.length) (cap := cap_10) (k := .i64) (i := s_2) (e := 44) (sz := 9) (getI_nn hx_3) (getI_lt hx_3)) fun _ f => Y5 default f 1 fun _ f => Y4 f hc_4 0 rfl fun _ f => Y5 default f 1 fun _ f => Y2 (v := .int .i64 x_2.fChange) f (fun _ pq => Y29 (v := .int .i64 x_2.fChange) rfl (ad := ⟨b_3, 0, none⟩) (pq.ownCell 0 rfl 0)) fun _ f => Y5 default f 2 fun _ f => ?_
         rcases cE hF_34 with ⟨h_27, hF_35⟩ | ⟨h_27, hF_40⟩
         ·have k_27 := dI.1 h_27
          have f := f.st 95 (cB h_27)
          refine Y5 default f 1 fun _ f => Y4 f (fzu (((hM_2.trans hM_3).trans hM_4).trans hM_5) hc_2) 15 rfl fun _ f => Y5 default f 1 fun _ f => ?_
          obtain ⟨x_4, hx_4, hF_36⟩ := bS hF_35
          obtain ⟨ad_3, c_3, e_3, -, hr_3, hc_5⟩ := Sli.at_ (h_10.mono ((((hM_1.trans hM_2).trans hM_3).trans hM_4).trans hM_5)) hx_4
          obtain ⟨A_13, cap_13, rfl, h_28⟩ := TR0.opn hr_3
          refine Y2 (v := .pointer (some (ad_3.add (s_2.toNat * 9)))) f (fun _ pq => Y28 e_3 rfl (len := d0.fTasks.length) (cap := cap_10) (k := .i64) (i := s_2) (e := 44) (sz := 9) (getI_nn hx_4) (getI_lt hx_4)) fun _ f => Y5 default f 1 fun _ f => Y4 f hc_5 1 rfl fun _ f => Y5 default f 1 fun _ f => Y2 (v := .int .i8 x_2.fPhase) f (fun _ pq => Y29 (v := .int .i8 x_2.fPhase) rfl (ad := ⟨b_3, 1, none⟩) (pq.ownCell 0 rfl 1)) fun _ f => Y5 default f 2 fun _ f => Q_end rfl ?_
          intro w_9 p_9
          refine T_n (RcF f hF_36 (fun h_29 hF_37 => ?_) fun h_29 hF_38 => ?_)
          ·have k_28 := dI.1 h_29
           refine RR (Y f 1 fun _ f => eT (wp_ret (B_r (T_r (T_r ?_)))))
           obtain rfl := sI hF_37
           exact .inl ⟨rfl, (), (sI hn_2).symm, M_5, hM_5, f.kp, p_9⟩
          ·have k_29 := iff_f dI h_29
           refine wp_skip (B_n (T_n (R_reg (Y f 1 fun _ f => ?_))))
           obtain ⟨g_2, hF_39⟩ := nS hF_38
           refine Y f 1 fun _ f => ?_
           have f := f.st 85 (congrArg (Value.int .i64) (inR_wrap g_2))
           refine Y f 1 fun _ f => eT ?_
           obtain rfl := sI hF_39
           exact ⟨⟨m_4, s_2 + 1⟩, Nat.lt_succ_self _, M_5, hM_5, hn_2, f.kp, p_9⟩
         ·have k_30 := iff_f dI h_27
          have f := f.st 95 (cB h_27)
          refine Y5 default f 10 fun _ f => Q_end rfl ?_
          intro w_10 p_10
          refine T_n (Y7 f (wp_skip (B_n (T_n (R_reg (Y f 1 fun _ f => ?_))))))
          obtain ⟨g_3, hF_41⟩ := nS hF_40
          refine Y f 1 fun _ f => ?_
          have f := f.st 85 (congrArg (Value.int .i64) (inR_wrap g_3))
          refine Y f 1 fun _ f => eT ?_
          obtain rfl := sI hF_41
          exact ⟨⟨m_4, s_2 + 1⟩, Nat.lt_succ_self _, M_5, hM_5, hn_2, f.kp, p_10⟩
        ·have k_31 := iff_f dI h_25
         refine wp_exit (T_x (T_x ?_))
         obtain rfl := sI hF_42
         exact .inr ⟨rfl, (), (sI hn_2).symm, M_5, hM_5, f.kp, p_8⟩
       ·rintro _ _ w_13 (⟨rfl, y_3, rfl, M_6, hM_6, f, p_11⟩ | ⟨rfl, y_4, rfl, M_7, hM_7, f, p_12⟩)
        ·refine B_r (B_r (T_r (T_r ?_)))
         obtain rfl := sI hF_32
         exact .inl ⟨rfl, (), (sI hn_1).symm, M_6, ((hM_3.trans hM_4).trans hM_6), f.kp, (p_11.dropN 1)⟩
        ·refine B_x (B_n (T_n (R_reg (Y f 1 fun _ f => ?_))))
         obtain ⟨g_4, hF_43⟩ := nS hF_32
         refine Y f 1 fun _ f => ?_
         have f := f.st 36 (congrArg (Value.int .i64) (inR_wrap g_4))
         refine Y f 1 fun _ f => eT ?_
         obtain rfl := sI hF_43
         exact ⟨⟨m_2, s_1 + 1⟩, Nat.lt_succ_self _, M_7, ((hM_3.trans hM_4).trans hM_7), hn_1, f.kp, (p_12.dropN 1)⟩
    ·have k_32 := iff_f dI h_16
     refine wp_exit (T_x (T_x ?_))
     obtain rfl := sI hF_44
     exact .inr ⟨rfl, (), (sI hn_1).symm, M_3, hM_3, f.kp, p_4⟩
   ·rintro _ _ w_16 (⟨rfl, y_5, rfl, M_8, hM_8, f, p_13⟩ | ⟨rfl, y_6, rfl, M_9, hM_9, f, p_14⟩)
    ·refine B_r (T_r (E_ret1 f rfl (by kernel_rfl : Vc.look _ 2 = some (.bool false)) ?_))
     obtain rfl := sI hF_13
     exact ⟨_, rfl, M_8, ((hM_1.trans hM_2).trans hM_8), p_13, rfl⟩
    ·refine B_x (T_n (RR (Z (v := .agg #[.int .i8 d0.fKind, .int .i64 d0.fWidth, .slice A_1 d0.fOld.fOwned.length cap_1, .slice A_2 d0.fOld.fPending.length cap_2, .slice A_3 d0.fOld.fRetained.length cap_3, .slice A_4 d0.fOld.fOuts.length cap_4, S d0.fOld.fText, .slice A_5 d0.fOld.fArgs.length cap_5, .int .i64 d0.fOld.fCalls, .int .i8 d0.fOld.fStatus, .slice A_6 d0.fNew.fScopes.length cap_6, .slice A_7 d0.fNew.fNodes.length cap_7, S d0.fText, .slice A_8 d0.fArgs.length cap_8, .slice A_9 d0.fChanges.length cap_9, .slice A_10 d0.fTasks.length cap_10, .int .i8 d0.fPhase, .int .i8 d0.fStatus]) f (Y30 (cs := [.int .i8 d0.fKind, .int .i64 d0.fWidth, .slice A_1 d0.fOld.fOwned.length cap_1, .slice A_2 d0.fOld.fPending.length cap_2, .slice A_3 d0.fOld.fRetained.length cap_3, .slice A_4 d0.fOld.fOuts.length cap_4, S d0.fOld.fText, .slice A_5 d0.fOld.fArgs.length cap_5, .int .i64 d0.fOld.fCalls, .int .i8 d0.fOld.fStatus, .slice A_6 d0.fNew.fScopes.length cap_6, .slice A_7 d0.fNew.fNodes.length cap_7, S d0.fText, .slice A_8 d0.fArgs.length cap_8, .slice A_9 d0.fChanges.length cap_9, .slice A_10 d0.fTasks.length cap_10, .int .i8 d0.fPhase, .int .i8 d0.fStatus]) rfl (ad := ⟨b_1, 0, none⟩) (fun j v h => p_14.cell ((fzu (hM_2.trans hM_9) hc_2) j v h))) fun _ f => ?_)))
     obtain ⟨x_5, hx_5, hF_45⟩ := bS hF_13
     refine Y15 f p_14 (ref25_kept_ok n _ _ d0 (TK0.shutx (x := d0) (h_1.mono ((hM_1.trans hM_2).trans hM_9)) (h_2.mono ((hM_1.trans hM_2).trans hM_9)) (h_3.mono ((hM_1.trans hM_2).trans hM_9)) (h_4.mono ((hM_1.trans hM_2).trans hM_9)) (h_5.mono ((hM_1.trans hM_2).trans hM_9)) (h_6.mono ((hM_1.trans hM_2).trans hM_9)) (h_7.mono ((hM_1.trans hM_2).trans hM_9)) (h_8.mono ((hM_1.trans hM_2).trans hM_9)) (h_9.mono ((hM_1.trans hM_2).trans hM_9)) (h_10.mono ((hM_1.trans hM_2).trans hM_9))) x_5 hx_5) fun _ M_10 w_17 hM_10 p_15 q_1 _ f => ?_
     obtain ⟨c_4, rfl, hr_4⟩ := q_1
     obtain ⟨A_14, cap_14, A_15, cap_15, A_16, cap_16, A_17, cap_17, A_18, cap_18, A_19, cap_19, A_20, cap_20, A_21, cap_21, A_22, cap_22, A_23, cap_23, rfl, h_30, h_31, h_32, h_33, h_34, h_35, h_36, h_37, h_38, h_39⟩ := TK0.opn hr_4
     obtain ⟨x_6, hx_6, hF_46⟩ := bS hF_45
     refine Y16 (E := []) (H := (H)) f p_15 (ref23_Leans_ok n _ _ x_5 (TK0.shutx (x := x_5) h_30 h_31 h_32 h_33 h_34 h_35 h_36 h_37 h_38 h_39) (false) x_6 hx_6) fun _ M_11 E_1 w_18 hM_11 p_16 q_2 _ f => ?_
     obtain ⟨A_24, cap_24, cs_1, rfl, rfl, hr_5⟩ := q_2
     obtain ⟨M_12, A_25, cap_25, hM_12, hv_1, p_17, h_40, hb_1⟩ := p_16.lend (f := (eL 1 (Dat.int .i64))) (xs := x_6) (fun _ => szd_list _ _) hr_5
     have f := f.st 108 (hv_1)
     obtain ⟨x_7, hx_7, hF_47⟩ := bS hF_46
     refine Y17 f p_17 (ref25_ahead_ok n _ A_25 cap_25 x_6 h_40 x_7 hx_7) fun w_19 p_18 _ f => ?_
     obtain ⟨M_13, hM_13, p_19⟩ := hb_1 _ _ _ (mR _) p_18
     have f := f.st 108 (hv_1.symm)
     refine Y f 1 fun _ f => eT (wp_ret (E_ret1 f rfl (by kernel_rfl : Vc.look _ 2 = some (.bool x_7)) ?_))
     obtain rfl := sI hF_47
     exact ⟨_, rfl, M_13, (((((hM_1.trans hM_2).trans hM_9).trans hM_10).trans hM_11).trans hM_13), (p_19.dropN 1), rfl⟩
def atV (l : List TC0) (id : List UInt8) : Option Nat := l.findIdx? fun c => decide (c.fId = id)
def hitsV (l : List TC0) (ids : List (List UInt8)) : List Int := ids.filterMap fun id => (atV l id).map Int.ofNat
theorem atV_lt {l : List TC0} {id : List UInt8} {k : Nat} (h : atV l id = some k) : k < l.length := by
 unfold atV at h
 rw [List.findIdx?_eq_some_iff_getElem] at h
 exact h.1
theorem hits_in {l : List TC0} {ids : List (List UInt8)} {x : Int} (h : x ∈ hitsV l ids) : 0 ≤ x ∧ x < l.length := by
 obtain ⟨id, _, h2⟩ := List.mem_filterMap.1 h
 obtain ⟨k, h3, rfl⟩ := Option.map_eq_some_iff.1 h2
 have := atV_lt h3
 exact ⟨Int.natCast_nonneg _, by show ((k : Nat) : Int) < _; omega⟩
theorem hits_len (l : List TC0) (ids : List (List UInt8)) : (hitsV l ids).length ≤ ids.length := List.length_filterMap_le _ _
theorem hits_take {l : List TC0} {ids : List (List UInt8)} {q : Nat} (h : q < ids.length) : hitsV l (ids.take (q + 1)) = hitsV l (ids.take q) ++ ((atV l ids[q]).map Int.ofNat).toList := by
 unfold hitsV
 rw [List.take_succ_eq_append_getElem h, List.filterMap_append]
 congr 1
theorem at_take {l : List TC0} {k : Nat} (h : k < l.length) (id : List UInt8) : atV (l.take (k + 1)) id = (atV (l.take k) id).or (if l[k].fId = id then some k else none) := by
 unfold atV
 rw [List.take_succ_eq_append_getElem h, List.findIdx?_append]
 congr 1
 by_cases e : l[k].fId = id
 ·simp [e, Nat.min_eq_left (Nat.le_of_lt h)]
 ·simp [e]
theorem leans_map {n : Nat} (l : List TC0) : ∀ (k : Nat), k ≤ l.length → ∀ m, ∃ m', foldY (change_Leans_s1 n) (backI (l.take k)) m = some (.nx m') ∧ ∀ id, mget m' id = ((atV (l.take k) id).map Int.ofNat).or (mget m id)
 | 0, _, m => ⟨m, rfl, fun id => by simp [atV]⟩
 | k + 1, h, m => by
  have hk : k < l.length := by omega
  obtain ⟨m', e, h2⟩ := leans_map (n := n) l k (by omega) (mput m l[k].fId (k : Int))
  refine ⟨m', ?_, fun id => ?_⟩
  ·rw [back_take hk]
   exact e
  ·rw [h2, mget_mput, at_take hk]
   cases atV (l.take k) id with
   | some j => rfl
   | none =>
    by_cases e2 : l[k].fId = id
    ·rw [if_pos e2, if_pos e2]; rfl
    ·rw [if_neg e2, if_neg e2]; rfl
theorem comp_mem {x : Int} {xs : List Int} : x ∈ Lib.compact xs ↔ x ∈ xs := by
 unfold Lib.compact Lib.compactUpTo
 rw [List.mem_map]
 constructor
 ·rintro ⟨j, hj, rfl⟩
  have hj1 : j < xs.length := by simpa using (List.mem_filter.1 hj).1
  have : xs.toArray[j]! = xs[j] := by simp [hj1]
  rw [this]
  exact List.getElem_mem hj1
 ·intro hx
  obtain ⟨j, hj, rfl⟩ := List.getElem_of_mem hx
  have key : ∀ (j : Nat) (hj : j < xs.length), ∃ i, i ∈ (List.range xs.length).filter (Lib.keeps xs.toArray) ∧ xs.toArray[i]! = xs[j] := by
   intro j
   induction j with
   | zero => intro hj; exact ⟨0, List.mem_filter.2 ⟨by simpa using hj, by simp [Lib.keeps]⟩, by simp [hj]⟩
   | succ j ih =>
    intro hj
    by_cases e : xs.toArray[j + 1]! = xs.toArray[j]!
    ·obtain ⟨i, h1, h2⟩ := ih (by omega)
     refine ⟨i, h1, h2.trans ?_⟩
     have e1 : xs.toArray[j + 1]! = xs[j + 1] := by simp [hj]
     have e2 : xs.toArray[j]! = xs[j] := by simp [show j < xs.length by omega]
     rw [← e1, ← e2, e]
    ·exact ⟨j + 1, List.mem_filter.2 ⟨by simpa using hj, by simp only [Lib.keeps, Nat.add_sub_cancel]; exact decide_eq_true (.inr e)⟩, by simp [hj]⟩
  exact key j hj
structure LeansOf (l : List TC0) (R : List (List Int)) : Prop where
  len : R.length = l.length
  row : ∀ i (h : i < l.length), ∀ x, x ∈ R.getD i [] ↔ x ∈ hitsV l l[i].fLeans
  sz : ∀ i, i < l.length → (R.getD i []).length ≤ 60
theorem getD_setR {R : List (List Int)} {i j : Nat} {v : List Int} (hi : i < R.length) : (R.set i v).getD j [] = if i = j then v else R.getD j [] := by
 simp only [List.getD_eq_getElem?_getD, List.getElem?_set]
 by_cases h : i = j
 ·subst h; simp [hi]
 ·simp [h]
theorem getI_D {R : List (List Int)} {k : Nat} (h : k < R.length) : getI R (k : Int) = some (R.getD k []) := getI_at [] h
set_option maxHeartbeats 1000000 in
theorem leans_own {n : Nat} (hn : 3000 < n) (w : TK0) (hc : w.fChanges.length ≤ 60) (hl : ∀ c ∈ w.fChanges, c.fLeans.length ≤ 60) : ∃ R, change_Leans n w false = some R ∧ LeansOf w.fChanges R := by
 obtain ⟨l, hl0⟩ : ∃ l, l = w.fChanges := ⟨_, rfl⟩
 rw [← hl0] at hc hl
 obtain ⟨m, hm1, hm2⟩ := leans_map (n := n) l l.length (Nat.le_refl _) []
 rw [List.take_length] at hm1 hm2
 have hm3 : ∀ id, mget m id = (atV l id).map Int.ofNat := fun id => by
  rw [hm2]
  cases (atV l id).map Int.ofNat <;> rfl
 unfold change_Leans
 rw [← hl0, need_t (by omega), hm1, bnd]
 dsimp only
 rw [need_t ⟨by omega, by omega, by omega⟩]
 obtain ⟨R, hR, pR⟩ := loop_inv (step := change_Leans_s2 n w false m) (n := n) (s0 := ((0 : Int), List.replicate ((l.length : Nat) : Int).toNat ([] : List Int)))
  (fun k s => s.1 = (k : Int) ∧ s.2.length = l.length ∧ (∀ i (h : i < l.length), i < k → (∀ x, x ∈ s.2.getD i [] ↔ x ∈ hitsV l l[i].fLeans) ∧ (s.2.getD i []).length ≤ 60) ∧ ∀ i, i < l.length → k ≤ i → s.2.getD i [] = [])
  (fun R => LeansOf l R) l.length
  ⟨rfl, by simp, fun i _ h => absurd h (by omega), fun i hi _ => by simp [List.getD_eq_getElem?_getD, hi]⟩
  (fun k s hk hI => by
   obtain ⟨i0, out⟩ := s
   obtain ⟨h1, h2, h3, h4⟩ := hI
   dsimp only at h1 h2 h3 h4
   subst h1
   left
   have hck := hl l[k] (List.getElem_mem hk)
   unfold change_Leans_s2
   rw [← hl0]
   dsimp only
   rw [decide_eq_true (by omega), cT, getI_here hk, bnd, cF, bnd]
   obtain ⟨o2, e2, p2⟩ := loop_inv (step := change_Leans_s3 n m ((k : Int), out) l[k].fLeans) (n := n) (s0 := ((0 : Int), out))
    (fun q s => s.1 = (q : Int) ∧ s.2 = out.set k (hitsV l (l[k].fLeans.take q)))
    (fun o => o = out.set k (hitsV l l[k].fLeans)) l[k].fLeans.length
    ⟨rfl, by
     have h5 := h4 k hk (Nat.le_refl _)
     have h6 : k < out.length := by omega
     have h7 : out[k] = [] := by simpa [List.getD_eq_getElem?_getD, h6] using h5
     show out = out.set k (hitsV l (l[k].fLeans.take 0))
     have h8 : hitsV l (l[k].fLeans.take 0) = out[k] := by rw [h7]; rfl
     rw [h8, List.set_getElem_self]⟩
    (fun q s hq hI => by
     obtain ⟨q0, o⟩ := s
     obtain ⟨rfl, e⟩ := hI
     dsimp only at e
     subst e
     left
     unfold change_Leans_s3
     dsimp only
     have h6 : k < (out.set k (hitsV l (l[k].fLeans.take q))).length := by rw [List.length_set]; omega
     have hlen := hits_len l (l[k].fLeans.take q)
     have hlen2 : (l[k].fLeans.take q).length ≤ 60 := by rw [List.length_take]; omega
     rw [decide_eq_true (by omega), cT, getI_here hq, bnd, hm3]
     cases e : atV l l[k].fLeans[q] with
     | none =>
      rw [show ((none : Option Nat).map Int.ofNat).isSome = false from rfl, cF, need_i (by omega) (by omega)]
      exact ⟨_, rfl, by simp, by dsimp only; rw [hits_take hq, e]; simp⟩
     | some j =>
      rw [show ((some j : Option Nat).map Int.ofNat).isSome = true from rfl, cT, getI_D h6, bnd, getD_setR (by omega), if_pos rfl, need_t (by omega), need_i (by omega) (by omega)]
      refine ⟨_, rfl, by simp, ?_⟩
      dsimp only
      rw [Int.toNat_natCast, List.set_set, hits_take hq, e]
      rfl)
    (fun s hI => by
     obtain ⟨q0, o⟩ := s
     obtain ⟨rfl, e⟩ := hI
     dsimp only at e
     subst e
     unfold change_Leans_s3
     dsimp only
     rw [decide_eq_false (by omega), cF]
     exact ⟨_, rfl, by rw [List.take_length]⟩) (by omega)
   rw [e2, bnd]
   subst p2
   have h6 : k < (out.set k (hitsV l l[k].fLeans)).length := by rw [List.length_set]; omega
   have hlen := hits_len l l[k].fLeans
   rw [getI_D h6, bnd, getD_setR (by omega), if_pos rfl]
   unfold h_SortI
   rw [need_t (by omega), bnd, Int.toNat_natCast, List.set_set, getI_D (by rw [List.length_set]; omega), bnd, getD_setR (by omega), if_pos rfl]
   unfold h_CompactI
   have hsl := sortG_len leI (hitsV l l[k].fLeans)
   rw [need_t (by omega), bnd, need_t ⟨by omega, by omega⟩, need_i (by omega) (by omega), Int.toNat_natCast, List.take_length, List.set_set]
   have hcl := comp_le (sortG leI (hitsV l l[k].fLeans))
   refine ⟨_, rfl, by simp, by dsimp only; rw [List.length_set]; exact h2, fun i hi hik => ?_, fun i hi hik => ?_⟩
   ·dsimp only
    rw [getD_setR (by omega)]
    by_cases e : k = i
    ·subst e
     rw [if_pos rfl]
     exact ⟨fun x => by rw [comp_mem, (sortG_perm _ _).mem_iff], by omega⟩
    ·rw [if_neg e]
     exact h3 i hi (by omega)
   ·dsimp only
    rw [getD_setR (by omega), if_neg (by omega)]
    exact h4 i hi (by omega))
  (fun s hI => by
   obtain ⟨i0, out⟩ := s
   obtain ⟨h1, h2, h3, h4⟩ := hI
   dsimp only at h1 h2 h3 h4
   subst h1
   unfold change_Leans_s2
   rw [← hl0]
   dsimp only
   rw [decide_eq_false (by omega), cF]
   exact ⟨_, rfl, h2, fun i hi => (h3 i hi hi).1, fun i hi => (h3 i hi hi).2⟩) (by omega)
 rw [hR, bnd]
 exact ⟨R, rfl, pR⟩
theorem find_ref {n : Nat} (l : List TC0) (hl : l.length ≤ 60) (hn : 3000 < n) (id : List UInt8) : ref23_Find n l id = some (match atV l id with | some k => ((k : Int), true) | none => (0, false)) := by
 unfold ref23_Find
 obtain ⟨b, hb, p⟩ := loop_inv (step := ref23_Find_s1 n l id) (n := n) (s0 := (0 : Int)) (fun k s => s = (k : Int) ∧ atV (l.take k) id = none)
  (fun b => (∃ k, b = .inl ((k : Nat) : Int) ∧ atV l id = some k) ∨ (b = .inr () ∧ atV l id = none)) l.length ⟨rfl, rfl⟩
  (fun k s hk hI => by
   obtain ⟨rfl, hI⟩ := hI
   unfold ref23_Find_s1
   rw [decide_eq_true (by omega), cT, getI_here hk, bnd]
   by_cases e : l[k].fId = id
   ·rw [decide_eq_true e, cT]
    refine .inr ⟨_, rfl, .inl ⟨k, rfl, ?_⟩⟩
    unfold atV at hI ⊢
    rw [List.findIdx?_eq_some_iff_getElem]
    refine ⟨hk, decide_eq_true e, fun j hj => ?_⟩
    rw [List.findIdx?_eq_none_iff] at hI
    have := hI l[j] (List.mem_iff_getElem.2 ⟨j, by rw [List.length_take]; omega, by simp⟩)
    simpa using this
   ·rw [decide_eq_false e, cF, need_i (by omega) (by omega)]
    refine .inl ⟨_, rfl, by simp, ?_⟩
    rw [at_take hk, hI, if_neg e]; rfl)
  (fun s hI => by
   obtain ⟨rfl, hI⟩ := hI
   rw [List.take_length] at hI
   unfold ref23_Find_s1
   rw [decide_eq_false (by omega), cF]
   exact ⟨_, rfl, .inr ⟨rfl, hI⟩⟩) (by omega)
 rw [hb, bnd]
 rcases p with ⟨k, rfl, e⟩ | ⟨rfl, e⟩
 ·rw [e]
 ·rw [e]
theorem getD_setB {R : List Bool} {i j : Nat} {v : Bool} (hi : i < R.length) : (R.set i v).getD j false = if i = j then v else R.getD j false := by
 simp only [List.getD_eq_getElem?_getD, List.getElem?_set]
 by_cases h : i = j
 ·subst h; simp [hi]
 ·simp [h]
set_option maxHeartbeats 1000000 in
theorem leans_ref {n : Nat} (hn : 3000 < n) (w : TK0) (hc : w.fChanges.length ≤ 60) (hl : ∀ c ∈ w.fChanges, c.fLeans.length ≤ 60) : ∃ R, ref23_Leans n w false = some R ∧ LeansOf w.fChanges R := by
 obtain ⟨l, hl0⟩ : ∃ l, l = w.fChanges := ⟨_, rfl⟩
 rw [← hl0] at hc hl
 unfold ref23_Leans
 obtain ⟨R, hR, pR⟩ := loop_inv (step := ref23_Leans_s1 n w false) (n := n) (s0 := (([] : List (List Int)), (0 : Int)))
  (fun k s => s.2 = (k : Int) ∧ s.1.length = k ∧ ∀ i (h : i < l.length), i < k → (∀ x, x ∈ s.1.getD i [] ↔ x ∈ hitsV l l[i].fLeans) ∧ (s.1.getD i []).length ≤ 60)
  (fun R => LeansOf l R) l.length ⟨rfl, rfl, fun i _ h => absurd h (by omega)⟩
  (fun k s hk hI => by
   obtain ⟨out, i0⟩ := s
   obtain ⟨h1, h2, h3⟩ := hI
   dsimp only at h1 h2 h3
   subst h1
   left
   have hck := hl l[k] (List.getElem_mem hk)
   unfold ref23_Leans_s1
   rw [← hl0]
   dsimp only
   rw [decide_eq_true (by omega), cT, getI_here hk, bnd, cF, bnd, need_t ⟨by omega, by omega, by omega⟩]
   obtain ⟨got, e2, p2, p3⟩ := loop_inv (step := ref23_Leans_s2 n w l[k].fLeans) (n := n) (s0 := (List.replicate ((l.length : Nat) : Int).toNat (false : Bool), (0 : Int)))
    (fun q s => s.2 = (q : Int) ∧ s.1.length = l.length ∧ ∀ j, j < l.length → (s.1.getD j false = true ↔ (j : Int) ∈ hitsV l (l[k].fLeans.take q)))
    (fun g => g.length = l.length ∧ ∀ j, j < l.length → (g.getD j false = true ↔ (j : Int) ∈ hitsV l l[k].fLeans)) l[k].fLeans.length
    ⟨rfl, by simp, fun j hj => by simp [List.getD_eq_getElem?_getD, hj, hitsV]⟩
    (fun q s hq hI => by
     obtain ⟨g, q0⟩ := s
     obtain ⟨rfl, g1, g2⟩ := hI
     dsimp only at g1 g2
     left
     unfold ref23_Leans_s2
     rw [← hl0]
     dsimp only
     rw [decide_eq_true (by omega), cT, getI_here hq, bnd, find_ref l hc hn, bnd]
     cases e : atV l l[k].fLeans[q] with
     | none =>
      dsimp only
      rw [cF, need_i (by omega) (by omega)]
      exact ⟨_, rfl, by simp, g1, fun j hj => by dsimp only; rw [g2 j hj, hits_take hq, e]; simp⟩
     | some i =>
      have hi := atV_lt e
      dsimp only
      have hg : getI g (i : Int) = some g[i] := getI_here (by omega)
      rw [cT, hg, bnd, need_i (by omega) (by omega)]
      refine ⟨_, rfl, by simp, by dsimp only; rw [List.length_set]; exact g1, fun j hj => ?_⟩
      dsimp only
      rw [Int.toNat_natCast, getD_setB (by omega), hits_take hq, e]
      by_cases ej : i = j
      ·subst ej
       simp
      ·rw [if_neg ej, g2 j hj]
       simp
       intro h
       omega)
    (fun s hI => by
     obtain ⟨g, q0⟩ := s
     obtain ⟨rfl, g1, g2⟩ := hI
     dsimp only at g1 g2
     unfold ref23_Leans_s2
     dsimp only
     rw [decide_eq_false (by omega), cF]
     refine ⟨_, rfl, g1, fun j hj => ?_⟩
     rw [g2 j hj, List.take_length]) (by omega)
   rw [e2, bnd]
   obtain ⟨row, e3, p4, p5⟩ := loop_inv (step := ref23_Leans_s3 n got) (n := n) (s0 := (([] : List Int), (0 : Int)))
    (fun q s => s.2 = (q : Int) ∧ s.1.length ≤ q ∧ ∀ x, x ∈ s.1 ↔ ∃ j, j < q ∧ got.getD j false = true ∧ x = (j : Int))
    (fun r => r.length ≤ l.length ∧ ∀ x, x ∈ r ↔ ∃ j, j < l.length ∧ got.getD j false = true ∧ x = (j : Int)) got.length
    ⟨rfl, Nat.le_refl _, fun x => by simp⟩
    (fun q s hq hI => by
     obtain ⟨r, q0⟩ := s
     obtain ⟨rfl, r1, r2⟩ := hI
     dsimp only at r1 r2
     left
     unfold ref23_Leans_s3
     dsimp only
     have hgd : got.getD q false = got[q] := by simp [List.getD_eq_getElem?_getD, hq]
     rw [decide_eq_true (by omega), cT, getI_here hq, bnd]
     cases e : got[q] with
     | true =>
      rw [cT, need_t (by omega), need_i (by omega) (by omega)]
      refine ⟨_, rfl, by simp, by dsimp only; rw [List.length_append]; simp; omega, fun x => ?_⟩
      dsimp only
      rw [List.mem_append, r2]
      constructor
      ·rintro (⟨j, a, b, c⟩ | h)
       ·exact ⟨j, by omega, b, c⟩
       ·exact ⟨q, by omega, by rw [hgd, e], by simpa using h⟩
      ·rintro ⟨j, a, b, c⟩
       by_cases ej : j = q
       ·subst ej; exact .inr (by simpa using c)
       ·exact .inl ⟨j, by omega, b, c⟩
     | false =>
      rw [cF, need_i (by omega) (by omega)]
      refine ⟨_, rfl, by simp, by dsimp only; omega, fun x => ?_⟩
      dsimp only
      rw [r2]
      constructor
      ·rintro ⟨j, a, b, c⟩
       exact ⟨j, by omega, b, c⟩
      ·rintro ⟨j, a, b, c⟩
       by_cases ej : j = q
       ·subst ej; rw [hgd, e] at b; cases b
       ·exact ⟨j, by omega, b, c⟩)
    (fun s hI => by
     obtain ⟨r, q0⟩ := s
     obtain ⟨rfl, r1, r2⟩ := hI
     dsimp only at r1 r2
     unfold ref23_Leans_s3
     dsimp only
     rw [decide_eq_false (by omega), cF]
     exact ⟨_, rfl, by omega, fun x => by rw [r2, p2]⟩) (by omega)
   rw [e3, bnd, need_t (by omega), need_i (by omega) (by omega)]
   refine ⟨_, rfl, by simp, by dsimp only; rw [List.length_append]; simp; omega, fun i hi hik => ?_⟩
   dsimp only
   by_cases ei : i = k
   ·subst ei
    have : (out ++ [row]).getD i [] = row := by simp [List.getD_eq_getElem?_getD, ← h2]
    rw [this]
    refine ⟨fun x => ?_, by omega⟩
    rw [p5]
    constructor
    ·rintro ⟨j, a, b, rfl⟩
     exact (p3 j a).1 b
    ·intro hx
     obtain ⟨x0, x1⟩ := hits_in hx
     obtain ⟨j, rfl⟩ := Int.eq_ofNat_of_zero_le x0
     exact ⟨j, by omega, (p3 j (by omega)).2 hx, rfl⟩
   ·have : (out ++ [row]).getD i [] = out.getD i [] := by
     rw [List.getD_eq_getElem?_getD, List.getD_eq_getElem?_getD, List.getElem?_append_left (by omega)]
    rw [this]
    exact h3 i hi (by omega))
  (fun s hI => by
   obtain ⟨out, i0⟩ := s
   obtain ⟨h1, h2, h3⟩ := hI
   dsimp only at h1 h2 h3
   subst h1
   unfold ref23_Leans_s1
   rw [← hl0]
   dsimp only
   rw [decide_eq_false (by omega), cF]
   exact ⟨_, rfl, h2, fun i hi => (h3 i hi hi).1, fun i hi => (h3 i hi hi).2⟩) (by omega)
 rw [hR, bnd]
 exact ⟨R, rfl, hl0 ▸ pR⟩
def keptC (c : TC0) : TC0 := ⟨c.fId, c.fKind, c.fType, c.fProps, c.fRetain, c.fNode, c.fOld, bif decide (c.fKind = 4) then [] else c.fLeans⟩
def keptL (l : List TC0) : List TC0 := l.map keptC
def keptW (w : TK0) : TK0 := ⟨w.fKind, w.fWidth, w.fOld, w.fNew, w.fText, w.fArgs, keptL w.fChanges, w.fTasks, w.fPhase, w.fStatus⟩
theorem keptL_len (l : List TC0) : (keptL l).length = l.length := by simp [keptL]
theorem keptL_leans {l : List TC0} (hl : ∀ c ∈ l, c.fLeans.length ≤ 60) : ∀ c ∈ keptL l, c.fLeans.length ≤ 60 := fun c hc => by
 obtain ⟨d, hd, rfl⟩ := List.mem_map.1 hc
 have := hl d hd
 show (bif decide (d.fKind = 4) then [] else d.fLeans).length ≤ 60
 cases decide (d.fKind = 4)
 ·exact this
 ·exact Nat.zero_le _
theorem kept_take {l : List TC0} {k : Nat} (h : k < l.length) : (l.take (k + 1)).map keptC = (l.take k).map keptC ++ [keptC l[k]] := by
 rw [List.take_succ_eq_append_getElem h, List.map_append]; rfl
theorem kept_ref {n : Nat} (hn : 3000 < n) (w : TK0) (hc : w.fChanges.length ≤ 60) : ref25_kept n w = some (keptW w) := by
 unfold ref25_kept
 obtain ⟨b, hb, rfl⟩ := loop_inv (step := ref25_kept_s1 n w) (n := n) (s0 := (([] : List TC0), (0 : Int))) (fun k s => s.2 = (k : Int) ∧ s.1 = (w.fChanges.take k).map keptC) (fun b => b = keptL w.fChanges) w.fChanges.length ⟨rfl, rfl⟩
  (fun k s hk hI => by
   obtain ⟨o, i⟩ := s
   obtain ⟨rfl, e⟩ := hI
   dsimp only at e
   subst e
   left
   unfold ref25_kept_s1
   dsimp only
   have hlen : ((w.fChanges.take k).map keptC).length = k := by simp; omega
   rw [decide_eq_true (by omega), cT, getI_here hk, bnd]
   by_cases e : w.fChanges[k].fKind = 4
   ·rw [decide_eq_true e, cT, bnd, need_t (by omega), need_i (by omega) (by omega)]
    refine ⟨_, rfl, by simp, ?_⟩
    dsimp only
    rw [kept_take hk]
    unfold keptC
    rw [decide_eq_true e, cT]
   ·rw [decide_eq_false e, cF, bnd, need_t (by omega), need_i (by omega) (by omega)]
    refine ⟨_, rfl, by simp, ?_⟩
    dsimp only
    rw [kept_take hk]
    unfold keptC
    rw [decide_eq_false e, cF])
  (fun s hI => by
   obtain ⟨o, i⟩ := s
   obtain ⟨rfl, e⟩ := hI
   dsimp only at e
   subst e
   unfold ref25_kept_s1
   dsimp only
   rw [decide_eq_false (by omega), cF]
   exact ⟨_, rfl, by rw [List.take_length]; rfl⟩) (by omega)
 rw [hb, bnd]
 rfl
theorem leans25 {n : Nat} (hn : 3000 < n) (w : TK0) (hs : Sml w) : ∃ R, ref25_Leans n w = some R ∧ LeansOf (keptL w.fChanges) R := by
 obtain ⟨R, e, p⟩ := leans_ref hn (keptW w) (by show (keptL w.fChanges).length ≤ 60; rw [keptL_len]; exact hs.ch) (keptL_leans hs.ln)
 refine ⟨R, ?_, p⟩
 unfold ref25_Leans
 rw [kept_ref hn w hs.ch, bnd, e, bnd]
theorem leans_back {n : Nat} (hn : 3000 < n) (w : TK0) (hs : Sml w) : ∃ R, back_leans n w = some R ∧ LeansOf (keptL w.fChanges) R := by
 obtain ⟨R, e, p⟩ := leans_own hn (keptW w) (by show (keptL w.fChanges).length ≤ 60; rw [keptL_len]; exact hs.ch) (keptL_leans hs.ln)
 refine ⟨R, ?_, p⟩
 have hc := hs.ch
 unfold back_leans
 obtain ⟨b, hb, rfl⟩ := loop_inv (step := back_leans_s1 n w) (n := n) (s0 := ((0 : Int), ([] : List TC0))) (fun k s => s.1 = (k : Int) ∧ s.2 = (w.fChanges.take k).map keptC) (fun b => b = keptL w.fChanges) w.fChanges.length ⟨rfl, rfl⟩
  (fun k s hk hI => by
   obtain ⟨i, o⟩ := s
   obtain ⟨rfl, e⟩ := hI
   dsimp only at e
   subst e
   left
   unfold back_leans_s1
   dsimp only
   have hlen : ((w.fChanges.take k).map keptC).length = k := by simp; omega
   rw [Int.toNat_natCast, List.take_length, decide_eq_true (by omega), cT, getI_here hk, bnd]
   by_cases e : w.fChanges[k].fKind = 4
   ·rw [decide_eq_true e, cT, bnd, need_t (by omega), need_i (by omega) (by omega)]
    refine ⟨_, rfl, by simp, ?_⟩
    dsimp only
    rw [kept_take hk]
    unfold keptC
    rw [decide_eq_true e, cT]
   ·rw [decide_eq_false e, cF, bnd, need_t (by omega), need_i (by omega) (by omega)]
    refine ⟨_, rfl, by simp, ?_⟩
    dsimp only
    rw [kept_take hk]
    unfold keptC
    rw [decide_eq_false e, cF])
  (fun s hI => by
   obtain ⟨i, o⟩ := s
   obtain ⟨rfl, e⟩ := hI
   dsimp only at e
   subst e
   unfold back_leans_s1
   dsimp only
   rw [Int.toNat_natCast, List.take_length, decide_eq_false (by omega), cF]
   exact ⟨_, rfl, rfl⟩) (by omega)
 rw [need_t ⟨by omega, by omega⟩, hb, bnd]
 exact congrArg (fun o => Option.bind o fun x => some x) e
theorem keep_same {c : TC0} (h : ¬ c.fKind = 4) : keptC c = c := by
 unfold keptC
 rw [decide_eq_false h, cF]
theorem leans_fwd {n : Nat} (hn : 3000 < n) (w : TK0) (hs : Sml w) : ∃ R, forward_leans n w = some R ∧ LeansOf (keptL w.fChanges) R := by
 obtain ⟨R, e, p⟩ := leans_own hn (keptW w) (by show (keptL w.fChanges).length ≤ 60; rw [keptL_len]; exact hs.ch) (keptL_leans hs.ln)
 refine ⟨R, ?_, p⟩
 have hc := hs.ch
 unfold forward_leans slices_Cloneapi_Change_api_Change
 rw [need_t (by omega), bnd]
 obtain ⟨b, hb, rfl⟩ := loop_inv (step := forward_leans_s1 n w.fChanges) (n := n) (s0 := ((0 : Int), w.fChanges)) (fun k s => s.1 = (k : Int) ∧ s.2.length = w.fChanges.length ∧ ∀ j (h : j < w.fChanges.length), s.2[j]? = some (if j < k then keptC w.fChanges[j] else w.fChanges[j])) (fun b => b = keptL w.fChanges) w.fChanges.length
  ⟨rfl, rfl, fun j h => by rw [if_neg (by omega)]; exact List.getElem?_eq_getElem h⟩
  (fun k s hk hI => by
   obtain ⟨i, o⟩ := s
   obtain ⟨rfl, ho, e⟩ := hI
   dsimp only at ho e
   left
   unfold forward_leans_s1
   dsimp only
   have hg : getI o (k : Int) = some w.fChanges[k] := by
    have := e k hk
    rw [if_neg (by omega)] at this
    simpa [getI] using this
   rw [decide_eq_true (by omega), cT, hg, bnd]
   by_cases e4 : w.fChanges[k].fKind = 4
   ·rw [decide_eq_true e4, cT, bnd, bnd, bnd, need_i (by omega) (by omega)]
    refine ⟨_, rfl, by simp, by dsimp only; rw [List.length_set]; exact ho, fun j hj => ?_⟩
    dsimp only
    rw [Int.toNat_natCast, List.getElem?_set]
    by_cases ej : k = j
    ·subst ej
     rw [if_pos rfl, if_pos (by omega), if_pos (by omega)]
     unfold keptC
     rw [decide_eq_true e4, cT]
    ·rw [if_neg ej, e j hj]
     by_cases ek : j < k
     ·rw [if_pos ek, if_pos (by omega)]
     ·rw [if_neg ek, if_neg (by omega)]
   ·rw [decide_eq_false e4, cF, need_i (by omega) (by omega)]
    refine ⟨_, rfl, by simp, ho, fun j hj => ?_⟩
    dsimp only
    rw [e j hj]
    by_cases ej : j = k
    ·subst ej; rw [if_neg (by omega), if_pos (by omega), keep_same e4]
    ·by_cases ek : j < k
     ·rw [if_pos ek, if_pos (by omega)]
     ·rw [if_neg ek, if_neg (by omega)])
  (fun s hI => by
   obtain ⟨i, o⟩ := s
   obtain ⟨rfl, ho, e⟩ := hI
   dsimp only at ho e
   unfold forward_leans_s1
   dsimp only
   rw [decide_eq_false (by omega), cF]
   refine ⟨_, rfl, List.ext_getElem? fun j => ?_⟩
   by_cases hj : j < w.fChanges.length
   ·rw [e j hj, if_pos hj]
    simp [keptL, hj]
   ·rw [List.getElem?_eq_none (by omega), List.getElem?_eq_none (by rw [keptL_len]; omega)]) (by omega)
 rw [hb, bnd]
 exact congrArg (fun o => Option.bind o fun x => some x) e
def isT (i p : Int) (t : TR0) : Bool := decide (t.fChange = i) && decide (t.fPhase = p)
theorem any_takeT {α : Type} {l : List α} {k : Nat} (h : k < l.length) (q : α → Bool) : (l.take (k + 1)).any q = ((l.take k).any q || q l[k]) := by
 rw [List.take_succ_eq_append_getElem h, List.any_append]; simp
theorem any_here {α : Type} {l : List α} {k : Nat} (h : k < l.length) {q : α → Bool} (hq : q l[k] = true) : l.any q = true := List.any_eq_true.2 ⟨_, List.getElem_mem h, hq⟩
theorem task_own {n : Nat} (hn : 3000 < n) (w : TK0) (ht : w.fTasks.length ≤ 200) (i p : Int) : ∃ r, forward_Task n w i p = some r ∧ r.2 = w.fTasks.any (isT i p) ∧ (r.2 = true → r.1 ∈ w.fTasks) := by
 unfold forward_Task forward_first
 obtain ⟨b, hb, pb⟩ := loop_inv (step := forward_first_s1 n w.fTasks i p) (n := n) (s0 := ((0 : Int), (0 : Int), (0 : Int), (0 : Int), (0 : Int), ([] : List UInt8), ([] : List UInt8), ([] : List TE0), (0 : Int), ([] : List UInt8)))
  (fun k s => s.1 = (k : Int) ∧ (w.fTasks.take k).any (isT i p) = false)
  (fun b => (∃ k, ∃ h : k < w.fTasks.length, isT i p w.fTasks[k] = true ∧ b = .inl (w.fTasks[k].fChange, w.fTasks[k].fPhase, w.fTasks[k].fCall.fToken, w.fTasks[k].fCall.fKind, w.fTasks[k].fCall.fPhys, w.fTasks[k].fCall.fType, w.fTasks[k].fCall.fProps, w.fTasks[k].fState, w.fTasks[k].fPhys)) ∨ (∃ y, b = .inr y) ∧ w.fTasks.any (isT i p) = false) w.fTasks.length ⟨rfl, rfl⟩
  (fun k s hk hI => by
   obtain ⟨i0, o⟩ := s
   obtain ⟨rfl, e⟩ := hI
   unfold forward_first_s1 forward_Task_1
   dsimp only
   rw [decide_eq_true (by omega), cT, getI_here hk, bnd]
   have hno : isT i p w.fTasks[k] = false → ∃ s', (some (Lp.nx ((k : Int) + 1, o)) : Option (Lp _ (Sum (Int × Int × Int × Int × List UInt8 × List UInt8 × List TE0 × Int × List UInt8) (Int × Int × Int × Int × List UInt8 × List UInt8 × List TE0 × Int × List UInt8)))) = some (.nx s') ∧ s'.1 = ((k + 1 : Nat) : Int) ∧ (w.fTasks.take (k + 1)).any (isT i p) = false := fun h => ⟨_, rfl, by simp, by rw [any_takeT hk, e, h]; rfl⟩
   by_cases e1 : w.fTasks[k].fChange = i
   ·rw [decide_eq_true e1, cT, bnd]
    by_cases e2 : w.fTasks[k].fPhase = p
    ·rw [decide_eq_true e2, cT, bnd]
     exact .inr ⟨_, rfl, .inl ⟨k, hk, by unfold isT; rw [decide_eq_true e1, decide_eq_true e2]; rfl, rfl⟩⟩
    ·rw [decide_eq_false e2, cF, need_i (by omega) (by omega)]
     exact .inl (hno (by unfold isT; rw [decide_eq_false e2, Bool.and_false]))
   ·rw [decide_eq_false e1, cF, bnd, cF, need_i (by omega) (by omega)]
    exact .inl (hno (by unfold isT; rw [decide_eq_false e1, Bool.false_and])))
  (fun s hI => by
   obtain ⟨i0, o⟩ := s
   obtain ⟨rfl, e⟩ := hI
   rw [List.take_length] at e
   unfold forward_first_s1
   dsimp only
   rw [decide_eq_false (by omega), cF]
   exact ⟨_, rfl, .inr ⟨⟨_, rfl⟩, e⟩⟩) (by omega)
 rw [hb, bnd]
 rcases pb with ⟨k, hk, h1, rfl⟩ | ⟨⟨y, rfl⟩, h1⟩
 ·exact ⟨_, rfl, (any_here hk h1).symm, fun _ => List.getElem_mem hk⟩
 ·exact ⟨_, rfl, h1.symm, fun h => by cases h⟩
theorem task_ref {n : Nat} (hn : 3000 < n) (w : TK0) (ht : w.fTasks.length ≤ 200) (i p : Int) : ∃ r, ref25_Task n w i p = some r ∧ r.2 = w.fTasks.any (isT i p) := by
 unfold ref25_Task
 obtain ⟨b, hb, pb⟩ := loop_inv (step := ref25_Task_s1 n w i p) (n := n) (s0 := ((0 : Int), (0 : Int), (0 : Int), (0 : Int), (0 : Int), ([] : List UInt8), ([] : List UInt8), ([] : List TE0), (0 : Int), ([] : List UInt8)))
  (fun k s => s.1 = (k : Int) ∧ (w.fTasks.take k).any (isT i p) = false)
  (fun b => (∃ y, b = .inl y) ∧ w.fTasks.any (isT i p) = true ∨ (∃ y, b = .inr y) ∧ w.fTasks.any (isT i p) = false) w.fTasks.length ⟨rfl, rfl⟩
  (fun k s hk hI => by
   obtain ⟨i0, o⟩ := s
   obtain ⟨rfl, e⟩ := hI
   unfold ref25_Task_s1
   dsimp only
   rw [decide_eq_true (by omega), cT, getI_here hk, bnd]
   have hno : isT i p w.fTasks[k] = false → ∃ s', (some (Lp.nx ((k : Int) + 1, o)) : Option (Lp _ (Sum (Int × Int × Int × Int × List UInt8 × List UInt8 × List TE0 × Int × List UInt8) (Int × Int × Int × Int × List UInt8 × List UInt8 × List TE0 × Int × List UInt8)))) = some (.nx s') ∧ s'.1 = ((k + 1 : Nat) : Int) ∧ (w.fTasks.take (k + 1)).any (isT i p) = false := fun h => ⟨_, rfl, by simp, by rw [any_takeT hk, e, h]; rfl⟩
   by_cases e1 : w.fTasks[k].fChange = i
   ·rw [decide_eq_true e1, cT, bnd, bnd]
    by_cases e2 : w.fTasks[k].fPhase = p
    ·rw [decide_eq_true e2, cT, bnd]
     exact .inr ⟨_, rfl, .inl ⟨⟨_, rfl⟩, any_here hk (by unfold isT; rw [decide_eq_true e1, decide_eq_true e2]; rfl)⟩⟩
    ·rw [decide_eq_false e2, cF, need_i (by omega) (by omega)]
     exact .inl (hno (by unfold isT; rw [decide_eq_false e2, Bool.and_false]))
   ·rw [decide_eq_false e1, cF, bnd, cF, need_i (by omega) (by omega)]
    exact .inl (hno (by unfold isT; rw [decide_eq_false e1, Bool.false_and])))
  (fun s hI => by
   obtain ⟨i0, o⟩ := s
   obtain ⟨rfl, e⟩ := hI
   rw [List.take_length] at e
   unfold ref25_Task_s1
   dsimp only
   rw [decide_eq_false (by omega), cF]
   exact ⟨_, rfl, .inr ⟨⟨_, rfl⟩, e⟩⟩) (by omega)
 rw [hb, bnd]
 rcases pb with ⟨⟨y, rfl⟩, h1⟩ | ⟨⟨y, rfl⟩, h1⟩
 ·exact ⟨_, rfl, h1.symm⟩
 ·exact ⟨_, rfl, h1.symm⟩
theorem app_loop {α β : Type} {step : List β × Int → Option (Lp (List β × Int) (List β))} {n : Nat} (l : List α) (f : α → β) (acc : List β)
  (hs : ∀ k (h : k < l.length) o, o.length = acc.length + k → step (o, (k : Int)) = some (.nx (o ++ [f l[k]], (k : Int) + 1))) (he : ∀ o, step (o, (l.length : Int)) = some (.br o)) (hn : l.length < n) : loopF step n (acc, (0 : Int)) = some (acc ++ l.map f) := by
 have := loop_all (step := step) (n := n) (fun k => (acc ++ (l.take k).map f, (k : Int))) l.length (acc ++ l.map f) (fun k hk => by
  rw [hs k hk _ (by rw [List.length_append, List.length_map, List.length_take]; omega)]
  rw [List.take_succ_eq_append_getElem hk, List.map_append, List.append_assoc]
  simp) (by rw [he]; simp) hn
 simpa using this
def liveV (s : TF0) : List (List UInt8) := s.fOwned.map (·.fPhys) ++ s.fPending.map (·.fPhys) ++ s.fRetained.map (·.fPhys)
structure SmS (s : TF0) : Prop where
  ow : s.fOwned.length ≤ 100
  pe : s.fPending.length ≤ 100
  re : s.fRetained.length ≤ 100
theorem live_len {s : TF0} (h : SmS s) : (liveV s).length ≤ 300 := by
 have := h.ow; have := h.pe; have := h.re
 simp only [liveV, List.length_append, List.length_map]
 omega
theorem live_in {n : Nat} (hn : 3000 < n) (l : List TS0) (i : Int) (acc : List (List UInt8)) (hl : l.length ≤ 100) (ha : acc.length ≤ 300) : loopF (state_Live_s2 n (l, i)) n (acc, (0 : Int)) = some (acc ++ l.map (·.fPhys)) :=
 app_loop l (·.fPhys) acc (fun k hk o ho => by
  unfold state_Live_s2
  dsimp only
  rw [decide_eq_true (by omega), cT, getI_here hk, bnd, need_t (by omega), need_i (by omega) (by omega)])
  (fun o => by
   unfold state_Live_s2
   dsimp only
   rw [decide_eq_false (by omega), cF]) (by omega)
theorem live_own {n : Nat} (hn : 3000 < n) (s : TF0) (h : SmS s) : state_Live n s = some (liveV s) := by
 have h1 := h.ow; have h2 := h.pe; have h3 := h.re
 unfold state_Live
 have e0 : state_Live_s1 n s (([] : List (List UInt8)), (0 : Int)) = some (.nx (s.fOwned.map (·.fPhys), (0 : Int) + 1)) := by
  unfold state_Live_s1
  dsimp only
  rw [decide_eq_true (by omega), cT, need_t (by omega), decide_eq_true rfl, cT, bnd, live_in hn _ _ _ h1 (by simp), bnd]
  rw [need_i (by omega) (by omega)]
  rfl
 have e1 : state_Live_s1 n s (s.fOwned.map (·.fPhys), (0 : Int) + 1) = some (.nx (s.fOwned.map (·.fPhys) ++ s.fPending.map (·.fPhys), (1 : Int) + 1)) := by
  unfold state_Live_s1
  dsimp only
  rw [decide_eq_true (by omega), cT, need_t (by omega), decide_eq_false (by omega), cF, decide_eq_true (by omega), cT, bnd, live_in hn _ _ _ h2 (by rw [List.length_map]; omega), bnd]
  rw [need_i (by omega) (by omega)]
 have e2 : state_Live_s1 n s (s.fOwned.map (·.fPhys) ++ s.fPending.map (·.fPhys), (1 : Int) + 1) = some (.nx (liveV s, (2 : Int) + 1)) := by
  unfold state_Live_s1
  dsimp only
  rw [decide_eq_true (by omega), cT, need_t (by omega), decide_eq_false (by omega), cF, decide_eq_false (by omega), cF, bnd, live_in hn _ _ _ h3 (by rw [List.length_append, List.length_map, List.length_map]; omega), bnd]
  rw [need_i (by omega) (by omega)]
  rfl
 have e3 : state_Live_s1 n s (liveV s, (2 : Int) + 1) = some (.br (liveV s)) := by
  unfold state_Live_s1
  dsimp only
  rw [decide_eq_false (by omega), cF]
 obtain ⟨m, rfl⟩ : ∃ m, n = m + 4 := ⟨n - 4, by omega⟩
 have e : loopF (state_Live_s1 (m + 4) s) (m + 4) (([] : List (List UInt8)), (0 : Int)) = some (liveV s) := by
  simp only [loopF, e0, e1, e2, e3, bnd]
 rw [e, bnd]
theorem live_ref {n : Nat} (hn : 3000 < n) (s : TF0) (h : SmS s) : ref22_Live n s = some (liveV s) := by
 have h1 := h.ow; have h2 := h.pe; have h3 := h.re
 unfold ref22_Live
 have a1 : loopF (ref22_Live_s1 n s) n (([] : List (List UInt8)), (0 : Int)) = some ([] ++ s.fOwned.map (·.fPhys)) := app_loop s.fOwned (·.fPhys) [] (fun k hk o ho => by
  have ho' : o.length = k := by simpa using ho
  unfold ref22_Live_s1
  dsimp only
  rw [decide_eq_true (by omega), cT, getI_here hk, bnd, need_t (by omega), need_i (by omega) (by omega)]) (fun o => by
  unfold ref22_Live_s1
  dsimp only
  rw [decide_eq_false (by omega), cF]) (by omega)
 have a2 : loopF (ref22_Live_s2 n s) n ([] ++ s.fOwned.map (·.fPhys), (0 : Int)) = some ([] ++ s.fOwned.map (·.fPhys) ++ s.fPending.map (·.fPhys)) := app_loop s.fPending (·.fPhys) _ (fun k hk o ho => by
  rw [List.nil_append, List.length_map] at ho
  unfold ref22_Live_s2
  dsimp only
  rw [decide_eq_true (by omega), cT, getI_here hk, bnd, need_t (by omega), need_i (by omega) (by omega)]) (fun o => by
  unfold ref22_Live_s2
  dsimp only
  rw [decide_eq_false (by omega), cF]) (by omega)
 have a3 : loopF (ref22_Live_s3 n s) n ([] ++ s.fOwned.map (·.fPhys) ++ s.fPending.map (·.fPhys), (0 : Int)) = some ([] ++ s.fOwned.map (·.fPhys) ++ s.fPending.map (·.fPhys) ++ s.fRetained.map (·.fPhys)) := app_loop s.fRetained (·.fPhys) _ (fun k hk o ho => by
  rw [List.nil_append, List.length_append, List.length_map, List.length_map] at ho
  unfold ref22_Live_s3
  dsimp only
  rw [decide_eq_true (by omega), cT, getI_here hk, bnd, need_t (by omega), need_i (by omega) (by omega)]) (fun o => by
  unfold ref22_Live_s3
  dsimp only
  rw [decide_eq_false (by omega), cF]) (by omega)
 rw [a1, bnd, a2, bnd, a3, bnd]
 rfl
structure Chk (s : TF0) : Prop where
  up : ∀ j (h : j + 1 < s.fOwned.length), Op.bytesLess s.fOwned[j].fId s.fOwned[j + 1].fId = true
  nd : (liveV s).Nodup
  ca : 0 ≤ s.fCalls ∧ s.fCalls ≤ 1099511627776
  st : 0 ≤ s.fStatus ∧ s.fStatus ≤ 6
theorem check_ref {n : Nat} (hn : 3000 < n) (s : TF0) (h : SmS s) : ∃ c, ref22_Check n s = some c ∧ (c = 0 → Chk s) := by
 have h1 := h.ow
 have hlv := live_len h
 unfold ref22_Check
 obtain ⟨b, hb, pb⟩ := loop_inv (step := ref22_Check_s1 n s) (n := n) (s0 := (1 : Int)) (fun k t => t = ((k + 1 : Nat) : Int) ∧ ∀ j (h : j + 1 < s.fOwned.length), j < k → Op.bytesLess s.fOwned[j].fId s.fOwned[j + 1].fId = true)
  (fun b => ∀ u, b = .inr u → ∀ j (h : j + 1 < s.fOwned.length), Op.bytesLess s.fOwned[j].fId s.fOwned[j + 1].fId = true) (s.fOwned.length - 1) ⟨rfl, fun j _ h => absurd h (by omega)⟩
  (fun k t hk hI => by
   obtain ⟨rfl, hI⟩ := hI
   unfold ref22_Check_s1
   have e1 : ((k + 1 : Nat) : Int) - 1 = (k : Int) := by omega
   rw [decide_eq_true (by omega), cT, e1, need_i (by omega) (by omega), getI_here (show k < s.fOwned.length by omega), bnd, getI_here (show k + 1 < s.fOwned.length by omega), bnd]
   cases e : Op.bytesLess s.fOwned[k].fId s.fOwned[k + 1].fId with
   | false => rw [Bool.not_false, cT]; exact .inr ⟨_, rfl, fun u h => by cases h⟩
   | true =>
    rw [Bool.not_true, cF, need_i (by omega) (by omega)]
    refine .inl ⟨_, rfl, by simp, fun j hj hjk => ?_⟩
    by_cases ej : j = k
    ·subst ej; exact e
    ·exact hI j hj (by omega))
  (fun t hI => by
   obtain ⟨rfl, hI⟩ := hI
   unfold ref22_Check_s1
   rw [decide_eq_false (by omega), cF]
   exact ⟨_, rfl, fun _ _ j hj => hI j hj (by omega)⟩) (by omega)
 rw [hb, bnd]
 cases b with
 | inl u => exact ⟨_, rfl, fun h => by cases h⟩
 | inr u =>
  have hup := pb u rfl
  dsimp only
  rw [live_ref hn s h, bnd]
  obtain ⟨lv, hlv0⟩ : ∃ lv, lv = liveV s := ⟨_, rfl⟩
  rw [← hlv0] at hlv ⊢
  obtain ⟨b, hb, pb⟩ := loop_inv (step := ref22_Check_s2 n) (n := n) (s0 := (lv, (0 : Int))) (fun k t => t.1 = lv ∧ t.2 = (k : Int) ∧ ∀ i j (hi : i < lv.length) (hj : j < lv.length), i < j → j < k → lv[i] ≠ lv[j])
   (fun b => ∀ u, b = .inr u → lv.Nodup) lv.length ⟨rfl, rfl, fun i j _ _ _ h => absurd h (by omega)⟩
   (fun k t hk hI => by
    obtain ⟨l0, i0⟩ := t
    obtain ⟨e1, e2, hI⟩ := hI
    dsimp only at e1 e2
    subst e1; subst e2
    unfold ref22_Check_s2
    dsimp only
    rw [decide_eq_true (by omega), cT]
    obtain ⟨b, hb, pb⟩ := loop_inv (step := ref22_Check_s3 n (l0, (k : Int))) (n := n) (s0 := (0 : Int)) (fun q t => t = (q : Int) ∧ ∀ i (hi : i < l0.length), i < q → l0[i] ≠ l0[k])
     (fun b => ∀ u, b = .inr u → ∀ i (hi : i < l0.length), i < k → l0[i] ≠ l0[k]) k ⟨rfl, fun i _ h => absurd h (by omega)⟩
     (fun q t hq hI => by
      obtain ⟨rfl, hI⟩ := hI
      unfold ref22_Check_s3
      dsimp only
      rw [decide_eq_true (by omega), cT, getI_here (show q < l0.length by omega), bnd, getI_here hk, bnd]
      by_cases e : l0[q] = l0[k]
      ·rw [decide_eq_true e, cT]; exact .inr ⟨_, rfl, fun u h => by cases h⟩
      ·rw [decide_eq_false e, cF, need_i (by omega) (by omega)]
       refine .inl ⟨_, rfl, by simp, fun i hi hiq => ?_⟩
       by_cases ei : i = q
       ·subst ei; exact e
       ·exact hI i hi (by omega))
     (fun t hI => by
      obtain ⟨rfl, hI⟩ := hI
      unfold ref22_Check_s3
      dsimp only
      rw [decide_eq_false (by omega), cF]
      exact ⟨_, rfl, fun _ _ i hi hik => hI i hi hik⟩) (by omega)
    rw [hb, bnd]
    cases b with
    | inl u => exact .inr ⟨_, rfl, fun u h => by cases h⟩
    | inr u =>
     have hne := pb u rfl
     dsimp only
     rw [need_i (by omega) (by omega)]
     refine .inl ⟨_, rfl, rfl, by simp, fun i j hi hj hij hjk => ?_⟩
     by_cases ej : j = k
     ·subst ej; exact hne i hi hij
     ·exact hI i j hi hj hij (by omega))
   (fun t hI => by
    obtain ⟨l0, i0⟩ := t
    obtain ⟨e1, e2, hI⟩ := hI
    dsimp only at e1 e2
    subst e1; subst e2
    unfold ref22_Check_s2
    dsimp only
    rw [decide_eq_false (by omega), cF]
    exact ⟨_, rfl, fun _ _ => List.pairwise_iff_getElem.2 fun i j hi hj hij => hI i j hi hj hij hj⟩) (by omega)
  rw [hb, bnd]
  cases b with
  | inl u => exact ⟨_, rfl, fun h => by cases h⟩
  | inr u =>
   have hnd := pb u rfl
   dsimp only
   by_cases a1 : s.fCalls < 0
   ·rw [decide_eq_true a1, cT]; exact ⟨_, rfl, fun h => by cases h⟩
   ·rw [decide_eq_false a1, cF]
    by_cases a2 : (1099511627776 : Int) < s.fCalls
    ·rw [decide_eq_true a2, cT]; exact ⟨_, rfl, fun h => by cases h⟩
    ·rw [decide_eq_false a2, cF]
     by_cases a3 : s.fStatus < 0
     ·rw [decide_eq_true a3, cT]; exact ⟨_, rfl, fun h => by cases h⟩
     ·rw [decide_eq_false a3, cF]
      by_cases a4 : (6 : Int) < s.fStatus
      ·rw [decide_eq_true a4, cT]; exact ⟨_, rfl, fun h => by cases h⟩
      ·rw [decide_eq_false a4, cF]
       exact ⟨_, rfl, fun _ => ⟨hup, hlv0 ▸ hnd, by omega, by omega⟩⟩
theorem comp_nodup {α : Type} [Inhabited α] [DecidableEq α] {xs : List α} (h : xs.Nodup) : (Lib.compact xs).length = xs.length := by
 unfold Lib.compact Lib.compactUpTo
 rw [List.length_map, List.filter_eq_self.2 fun j hj => ?_, List.length_range]
 have hj1 : j < xs.length := by simpa using hj
 unfold Lib.keeps
 refine decide_eq_true ?_
 cases j with
 | zero => exact .inl rfl
 | succ j =>
  refine .inr fun e => ?_
  have e1 : xs.toArray[j + 1]! = xs[j + 1] := by simp [hj1]
  have e2 : xs.toArray[j + 1 - 1]! = xs[j] := by simp [show j < xs.length by omega]
  rw [e1, e2] at e
  have := (List.getElem_inj h).1 e
  omega
theorem check_own {n : Nat} (hn : 3000 < n) (s : TF0) (h : SmS s) (hc : Chk s) : state_Check n s = some 0 := by
 have h1 := h.ow
 have hlv := live_len h
 have hsl := sortG_len leS (liveV s)
 have hnd : (sortG leS (liveV s)).Nodup := (sortG_perm leS (liveV s)).nodup_iff.2 hc.nd
 have hcn := comp_nodup hnd
 obtain ⟨c1, c2⟩ := hc.ca
 obtain ⟨s1, s2⟩ := hc.st
 unfold state_Check
 rw [live_own hn s h, bnd]
 unfold h_SortS
 rw [need_t (by omega), bnd]
 unfold slices_Clonestring_string
 rw [need_t (by omega), bnd]
 unfold h_CompactS
 rw [need_t (by omega), bnd, hcn, decide_eq_true rfl, Bool.not_true, cF, decide_eq_false (by omega), cF, decide_eq_false (by omega), cF, decide_eq_false (by omega), cF, decide_eq_false (by omega), bnd, cF]
 obtain ⟨b, hb, ⟨u, rfl⟩⟩ := loop_inv (step := state_Check_s1 n s) (n := n) (s0 := (1 : Int)) (fun k t => t = ((k + 1 : Nat) : Int))
  (fun b => ∃ u, b = .inr u) (s.fOwned.length - 1) rfl
  (fun k t hk hI => by
   subst hI
   unfold state_Check_s1 state_Check_1
   have e1 : ((k + 1 : Nat) : Int) - 1 = (k : Int) := by omega
   rw [decide_eq_true (by omega), cT, e1, need_i (by omega) (by omega), getI_here (show k < s.fOwned.length by omega), bnd, getI_here (show k + 1 < s.fOwned.length by omega), bnd, hc.up k (by omega), cT, bnd, decide_eq_false (by omega), cF, need_i (by omega) (by omega)]
   exact .inl ⟨_, rfl, by simp⟩)
  (fun t hI => by
   subst hI
   unfold state_Check_s1
   rw [decide_eq_false (by omega), cF]
   exact ⟨_, rfl, _, rfl⟩) (by omega)
 rw [hb, bnd]
structure Okt (w : TK0) : Prop where
  wd : 1 ≤ w.fWidth ∧ w.fWidth ≤ 4
  ph : 0 ≤ w.fPhase ∧ w.fPhase ≤ 3
  ck : Chk w.fOld
  tk : ∀ k (h : k < w.fTasks.length), w.fTasks[k].fCall.fToken = (k : Int) + 1 ∧ 0 ≤ w.fTasks[k].fChange ∧ w.fTasks[k].fChange < w.fChanges.length ∧ 0 ≤ w.fTasks[k].fState ∧ w.fTasks[k].fState ≤ 2 ∧ 0 ≤ w.fTasks[k].fPhase ∧ w.fTasks[k].fPhase ≤ 2
  un : ∀ j k (hj : j < w.fTasks.length) (hk : k < w.fTasks.length), j < k → ¬ (w.fTasks[j].fChange = w.fTasks[k].fChange ∧ w.fTasks[j].fPhase = w.fTasks[k].fPhase)
  ah : ∀ i (h : i < (keptL w.fChanges).length), ∀ x ∈ hitsV (keptL w.fChanges) (keptL w.fChanges)[i].fLeans, x < (i : Int)
theorem eta_S (s : TF0) : (⟨s.fOwned, s.fPending, s.fRetained, s.fOuts, s.fText, s.fArgs, s.fCalls, s.fStatus⟩ : TF0) = s := by cases s; rfl
theorem ahead_ref {n : Nat} (hn : 3000 < n) (R : List (List Int)) (hR : R.length ≤ 60) (hr : ∀ i, i < R.length → (R.getD i []).length ≤ 60) : ∃ m, ref25_ahead n R = some m ∧ (m = true → ∀ i, i < R.length → ∀ x ∈ R.getD i [], x < (i : Int)) := by
 unfold ref25_ahead
 obtain ⟨b, hb, pb⟩ := loop_inv (step := ref25_ahead_s1 n R) (n := n) (s0 := (0 : Int)) (fun k t => t = (k : Int) ∧ ∀ i, i < k → ∀ x ∈ R.getD i [], x < (i : Int)) (fun b => ∀ u, b = .inr u → ∀ i, i < R.length → ∀ x ∈ R.getD i [], x < (i : Int)) R.length ⟨rfl, fun i h => absurd h (by omega)⟩
  (fun k t hk hI => by
   obtain ⟨rfl, hI⟩ := hI
   have hrk := hr k hk
   unfold ref25_ahead_s1
   rw [decide_eq_true (by omega), cT]
   obtain ⟨b, hb, pb⟩ := loop_inv (step := ref25_ahead_s2 n R (k : Int)) (n := n) (s0 := (0 : Int)) (fun q t => t = (q : Int) ∧ ∀ j (h : j < (R.getD k []).length), j < q → (R.getD k [])[j] < (k : Int)) (fun b => ∀ u, b = .inr u → ∀ x ∈ R.getD k [], x < (k : Int)) (R.getD k []).length ⟨rfl, fun j _ h => absurd h (by omega)⟩
    (fun q t hq hI => by
     obtain ⟨rfl, hI⟩ := hI
     unfold ref25_ahead_s2
     rw [getI_D hk, bnd, decide_eq_true (by omega), cT, bnd, getI_here hq, bnd]
     by_cases e : (k : Int) ≤ (R.getD k [])[q]
     ·rw [decide_eq_true e, cT]; exact .inr ⟨_, rfl, fun u h => by cases h⟩
     ·rw [decide_eq_false e, cF, need_i (by omega) (by omega)]
      refine .inl ⟨_, rfl, by simp, fun j hj hjq => ?_⟩
      by_cases ej : j = q
      ·subst ej; omega
      ·exact hI j hj (by omega))
    (fun t hI => by
     obtain ⟨rfl, hI⟩ := hI
     unfold ref25_ahead_s2
     rw [getI_D hk, bnd, decide_eq_false (by omega), cF]
     exact ⟨_, rfl, fun _ _ x hx => by obtain ⟨j, hj, rfl⟩ := List.getElem_of_mem hx; exact hI j hj hj⟩) (by omega)
   rw [hb, bnd]
   cases b with
   | inl u => exact .inr ⟨_, rfl, fun u h => by cases h⟩
   | inr u =>
    have h2 := pb u rfl
    dsimp only
    rw [need_i (by omega) (by omega)]
    refine .inl ⟨_, rfl, by simp, fun i hi => ?_⟩
    by_cases ei : i = k
    ·subst ei; exact h2
    ·exact hI i (by omega))
  (fun t hI => by
   obtain ⟨rfl, hI⟩ := hI
   unfold ref25_ahead_s1
   rw [decide_eq_false (by omega), cF]
   exact ⟨_, rfl, fun _ _ => hI⟩) (by omega)
 rw [hb, bnd]
 cases b with
 | inl u => exact ⟨_, rfl, fun h => by cases h⟩
 | inr u => exact ⟨_, rfl, fun _ => pb u rfl⟩
set_option maxHeartbeats 1000000 in
theorem may_ref {n : Nat} (hn : 3000 < n) (w : TK0) (hs : Sml w) : ∃ m, ref25_May n w = some m ∧ (m = true → Okt w) := by
 have ht := hs.tk
 have hc := hs.ch
 obtain ⟨c, hck, pck⟩ := check_ref hn w.fOld ⟨hs.ow, hs.pe, hs.re⟩
 obtain ⟨R, hR, pR⟩ := leans_ref hn (keptW w) (by show (keptL w.fChanges).length ≤ 60; rw [keptL_len]; exact hs.ch) (keptL_leans hs.ln)
 replace pR : LeansOf (keptL w.fChanges) R := pR
 have hRl : R.length = w.fChanges.length := by rw [pR.len, keptL_len]
 obtain ⟨m, hm, pm⟩ := ahead_ref hn R (by omega) (fun i hi => pR.sz i (by rw [keptL_len]; omega))
 obtain ⟨b, hb, pb⟩ := loop_inv (step := ref25_May_s1 n w) (n := n) (s0 := (0 : Int))
  (fun k t => t = (k : Int) ∧ (∀ j (h : j < w.fTasks.length), j < k → w.fTasks[j].fCall.fToken = (j : Int) + 1 ∧ 0 ≤ w.fTasks[j].fChange ∧ w.fTasks[j].fChange < w.fChanges.length ∧ 0 ≤ w.fTasks[j].fState ∧ w.fTasks[j].fState ≤ 2 ∧ 0 ≤ w.fTasks[j].fPhase ∧ w.fTasks[j].fPhase ≤ 2) ∧ ∀ i j (hi : i < w.fTasks.length) (hj : j < w.fTasks.length), i < j → j < k → ¬ (w.fTasks[i].fChange = w.fTasks[j].fChange ∧ w.fTasks[i].fPhase = w.fTasks[j].fPhase))
  (fun b => ∀ u, b = .inr u → (∀ j (h : j < w.fTasks.length), w.fTasks[j].fCall.fToken = (j : Int) + 1 ∧ 0 ≤ w.fTasks[j].fChange ∧ w.fTasks[j].fChange < w.fChanges.length ∧ 0 ≤ w.fTasks[j].fState ∧ w.fTasks[j].fState ≤ 2 ∧ 0 ≤ w.fTasks[j].fPhase ∧ w.fTasks[j].fPhase ≤ 2) ∧ ∀ i j (hi : i < w.fTasks.length) (hj : j < w.fTasks.length), i < j → ¬ (w.fTasks[i].fChange = w.fTasks[j].fChange ∧ w.fTasks[i].fPhase = w.fTasks[j].fPhase))
  w.fTasks.length ⟨rfl, fun j _ h => absurd h (by omega), fun i j _ _ _ h => absurd h (by omega)⟩
  (fun k t hk hI => by
   obtain ⟨rfl, hI, hU⟩ := hI
   unfold ref25_May_s1
   rw [decide_eq_true (by omega), cT, getI_here hk, bnd, need_i (by omega) (by omega)]
   by_cases a1 : w.fTasks[k].fCall.fToken = (k : Int) + 1
   case neg => rw [decide_eq_false a1, Bool.not_false, cT, bnd, cT]; exact .inr ⟨_, rfl, fun u h => by cases h⟩
   rw [decide_eq_true a1, Bool.not_true, cF]
   by_cases a2 : w.fTasks[k].fChange < 0
   ·rw [decide_eq_true a2, cT, bnd, cT]; exact .inr ⟨_, rfl, fun u h => by cases h⟩
   rw [decide_eq_false a2, cF]
   by_cases a3 : ((w.fChanges.length : Nat) : Int) ≤ w.fTasks[k].fChange
   ·rw [decide_eq_true a3, cT, bnd, cT]; exact .inr ⟨_, rfl, fun u h => by cases h⟩
   rw [decide_eq_false a3, cF]
   by_cases a4 : w.fTasks[k].fState < 0
   ·rw [decide_eq_true a4, cT, bnd, cT]; exact .inr ⟨_, rfl, fun u h => by cases h⟩
   rw [decide_eq_false a4, cF]
   by_cases a5 : (2 : Int) < w.fTasks[k].fState
   ·rw [decide_eq_true a5, cT, bnd, cT]; exact .inr ⟨_, rfl, fun u h => by cases h⟩
   rw [decide_eq_false a5, cF]
   by_cases a6 : w.fTasks[k].fPhase < 0
   ·rw [decide_eq_true a6, cT, bnd, cT]; exact .inr ⟨_, rfl, fun u h => by cases h⟩
   rw [decide_eq_false a6, cF, bnd]
   by_cases a7 : (2 : Int) < w.fTasks[k].fPhase
   ·rw [decide_eq_true a7, cT]; exact .inr ⟨_, rfl, fun u h => by cases h⟩
   rw [decide_eq_false a7, cF]
   obtain ⟨b, hb, pb⟩ := loop_inv (step := ref25_May_s2 n w (k : Int) w.fTasks[k]) (n := n) (s0 := (0 : Int)) (fun q t => t = (q : Int) ∧ ∀ i (hi : i < w.fTasks.length), i < q → ¬ (w.fTasks[i].fChange = w.fTasks[k].fChange ∧ w.fTasks[i].fPhase = w.fTasks[k].fPhase))
    (fun b => ∀ u, b = .inr u → ∀ i (hi : i < w.fTasks.length), i < k → ¬ (w.fTasks[i].fChange = w.fTasks[k].fChange ∧ w.fTasks[i].fPhase = w.fTasks[k].fPhase)) k ⟨rfl, fun i _ h => absurd h (by omega)⟩
    (fun q t hq hI => by
     obtain ⟨rfl, hI⟩ := hI
     have hq' : q < w.fTasks.length := by omega
     unfold ref25_May_s2
     rw [decide_eq_true (by omega), cT, getI_here hq', bnd]
     have go : ¬ (w.fTasks[q].fChange = w.fTasks[k].fChange ∧ w.fTasks[q].fPhase = w.fTasks[k].fPhase) → ∀ i (hi : i < w.fTasks.length), i < q + 1 → ¬ (w.fTasks[i].fChange = w.fTasks[k].fChange ∧ w.fTasks[i].fPhase = w.fTasks[k].fPhase) := fun h i hi hiq => by
      by_cases ei : i = q
      ·subst ei; exact h
      ·exact hI i hi (by omega)
     by_cases e1 : w.fTasks[q].fChange = w.fTasks[k].fChange
     ·rw [decide_eq_true e1, cT, bnd]
      by_cases e2 : w.fTasks[q].fPhase = w.fTasks[k].fPhase
      ·rw [decide_eq_true e2, cT]; exact .inr ⟨_, rfl, fun u h => by cases h⟩
      ·rw [decide_eq_false e2, cF, need_i (by omega) (by omega)]
       exact .inl ⟨_, rfl, by simp, go fun h => e2 h.2⟩
     ·rw [decide_eq_false e1, cF, need_i (by omega) (by omega)]
      exact .inl ⟨_, rfl, by simp, go fun h => e1 h.1⟩)
    (fun t hI => by
     obtain ⟨rfl, hI⟩ := hI
     unfold ref25_May_s2
     rw [decide_eq_false (by omega), cF]
     exact ⟨_, rfl, fun _ _ => hI⟩) (by omega)
   rw [hb, bnd]
   cases b with
   | inl u => exact .inr ⟨_, rfl, fun u h => by cases h⟩
   | inr u =>
    have hne := pb u rfl
    dsimp only
    rw [need_i (by omega) (by omega)]
    refine .inl ⟨_, rfl, by simp, fun j hj hjk => ?_, fun i j hi hj hij hjk => ?_⟩
    ·by_cases ej : j = k
     ·subst ej; exact ⟨a1, by omega, by omega, by omega, by omega, by omega, by omega⟩
     ·exact hI j hj (by omega)
    ·by_cases ej : j = k
     ·subst ej; exact hne i hi hij
     ·exact hU i j hi hj hij (by omega))
  (fun t hI => by
   obtain ⟨rfl, hI, hU⟩ := hI
   unfold ref25_May_s1
   rw [decide_eq_false (by omega), cF]
   exact ⟨_, rfl, fun _ _ => ⟨fun j hj => hI j hj hj, fun i j hi hj hij => hU i j hi hj hij hj⟩⟩) (by omega)
 unfold ref25_May
 by_cases a1 : w.fWidth < 1
 ·rw [decide_eq_true a1, cT, bnd, cT]; exact ⟨_, rfl, fun h => by cases h⟩
 rw [decide_eq_false a1, cF]
 by_cases a2 : (4 : Int) < w.fWidth
 ·rw [decide_eq_true a2, cT, bnd, cT]; exact ⟨_, rfl, fun h => by cases h⟩
 rw [decide_eq_false a2, cF]
 by_cases a3 : w.fPhase < 0
 ·rw [decide_eq_true a3, cT, bnd, cT]; exact ⟨_, rfl, fun h => by cases h⟩
 rw [decide_eq_false a3, cF]
 by_cases a4 : (3 : Int) < w.fPhase
 ·rw [decide_eq_true a4, cT, bnd, cT]; exact ⟨_, rfl, fun h => by cases h⟩
 rw [decide_eq_false a4, cF, eta_S, hck, bnd, bnd]
 by_cases a5 : c = 0
 case neg => rw [decide_eq_false a5, Bool.not_false, cT]; exact ⟨_, rfl, fun h => by cases h⟩
 rw [decide_eq_true a5, Bool.not_true, cF, hb, bnd]
 cases b with
 | inl u => exact ⟨_, rfl, fun h => by cases h⟩
 | inr u =>
  obtain ⟨p1, p2⟩ := pb u rfl
  dsimp only
  rw [kept_ref hn w hs.ch, bnd, hR, bnd, hm, bnd]
  refine ⟨m, rfl, fun e => ⟨by omega, by omega, pck a5, p1, p2, fun i hi x hx => ?_⟩⟩
  exact pm e i (by rw [pR.len]; exact hi) x ((pR.row i hi x).2 hx)
theorem within1 {n : Nat} {x a b : Int} (h1 : a ≤ x) (h2 : x ≤ b) : forward_within n x a b = some true := by
 unfold forward_within
 rw [decide_eq_true h1, cT, decide_eq_true h2]
theorem within2 {n : Nat} {x a b : Int} (h1 : a ≤ x) (h2 : x ≤ b) : forward_within_2 n x a b = some true := by
 unfold forward_within_2
 rw [decide_eq_true h1, cT, decide_eq_true h2]
theorem key_eq {c p : Int} {key : T_forward_key} : ((⟨c, p⟩ : T_forward_key) = key) ↔ (c = key.change ∧ p = key.phase) := by cases key; simp
theorem may_own {n : Nat} (hn : 3000 < n) (w : TK0) (hs : Sml w) (h : Okt w) : forward_May n w = some true := by
 have ht := hs.tk
 have hc := hs.ch
 obtain ⟨w1, w2⟩ := h.wd
 obtain ⟨p1, p2⟩ := h.ph
 obtain ⟨R, hR, pR⟩ := leans_fwd hn w hs
 have hRl : R.length = w.fChanges.length := by rw [pR.len, keptL_len]
 unfold forward_May
 rw [within1 w1 w2, bnd, Bool.not_true, cF, within2 p1 p2, bnd, Bool.not_true, cF, eta_S, check_own hn w.fOld ⟨hs.ow, hs.pe, hs.re⟩ h.ck, bnd, bnd, decide_eq_true rfl, Bool.not_true, cF]
 obtain ⟨b, hb, ⟨u, rfl⟩⟩ := loop_inv (step := forward_May_s1 n w) (n := n) (s0 := ((0 : Int), ([] : List (T_forward_key × Bool))))
  (fun k t => t.1 = (k : Int) ∧ ∀ key : T_forward_key, (mget t.2 key).getD false = (w.fTasks.take k).any (isT key.change key.phase))
  (fun b => ∃ u, b = .inr u) w.fTasks.length ⟨rfl, fun key => rfl⟩
  (fun k t hk hI => by
   obtain ⟨i0, m⟩ := t
   obtain ⟨rfl, hI⟩ := hI
   dsimp only at hI
   obtain ⟨t1, t2, t3, t4, t5, t6, t7⟩ := h.tk k hk
   have hnone : (w.fTasks.take k).any (isT w.fTasks[k].fChange w.fTasks[k].fPhase) = false := by
    rw [List.any_eq_false]
    intro t htk he
    obtain ⟨j, hj, rfl⟩ := List.getElem_of_mem htk
    rw [List.length_take] at hj
    have hjl : j < w.fTasks.length := by omega
    have := h.un j k hjl hk (by omega)
    rw [List.getElem_take] at he
    unfold isT at he
    rw [Bool.and_eq_true, decide_eq_true_eq, decide_eq_true_eq] at he
    exact this he
   unfold forward_May_s1
   dsimp only
   rw [decide_eq_true (by omega), cT, getI_here hk, bnd, need_i (by omega) (by omega), decide_eq_true t1, Bool.not_true, cF, need_i (by omega) (by omega), within1 t2 (by omega), bnd, Bool.not_true, cF, within2 t4 t5, bnd, Bool.not_true, cF, within2 t6 t7, bnd, Bool.not_true, cF, hI, bnd]
   dsimp only
   rw [hnone, cF, need_i (by omega) (by omega)]
   refine .inl ⟨_, rfl, by simp, fun key => ?_⟩
   dsimp only
   rw [mget_mput, any_takeT hk, ← hI key]
   by_cases ek : (⟨w.fTasks[k].fChange, w.fTasks[k].fPhase⟩ : T_forward_key) = key
   ·rw [if_pos ek]
    obtain ⟨e1, e2⟩ := key_eq.1 ek
    have : isT key.change key.phase w.fTasks[k] = true := by unfold isT; rw [decide_eq_true e1, decide_eq_true e2]; rfl
    rw [this, Bool.or_true]; rfl
   ·rw [if_neg ek]
    have : isT key.change key.phase w.fTasks[k] = false := by
     cases e : isT key.change key.phase w.fTasks[k] with
     | false => rfl
     | true =>
      unfold isT at e
      rw [Bool.and_eq_true, decide_eq_true_eq, decide_eq_true_eq] at e
      exact absurd (key_eq.2 e) ek
    rw [this, Bool.or_false])
  (fun t hI => by
   obtain ⟨i0, m⟩ := t
   obtain ⟨rfl, hI⟩ := hI
   unfold forward_May_s1
   dsimp only
   rw [decide_eq_false (by omega), cF]
   exact ⟨_, rfl, _, rfl⟩) (by omega)
 rw [hb, bnd]
 dsimp only
 rw [hR, bnd]
 obtain ⟨b, hb, ⟨u, rfl⟩⟩ := loop_inv (step := forward_May_s2 n R) (n := n) (s0 := (0 : Int)) (fun k t => t = (k : Int)) (fun b => ∃ u, b = .inr u) R.length rfl
  (fun k t hk hI => by
   subst hI
   have hk2 : k < (keptL w.fChanges).length := by rw [keptL_len]; omega
   have hsz := pR.sz k hk2
   have hah := h.ah k hk2
   unfold forward_May_s2
   rw [decide_eq_true (by omega), cT, getI_D hk, bnd]
   by_cases e : (0 : Int) < (((R.getD k []).length : Nat) : Int)
   ·obtain ⟨m, hm⟩ : ∃ m, (R.getD k []).length = m + 1 := ⟨(R.getD k []).length - 1, by omega⟩
    have e1 : (((R.getD k []).length : Nat) : Int) - 1 = (m : Int) := by omega
    have hlast := hah _ ((pR.row k hk2 _).1 (List.getElem_mem (l := R.getD k []) (n := m) (by omega)))
    rw [decide_eq_true e, cT, e1, need_i (by omega) (by omega), getI_here (xs := R.getD k []) (k := m) (by omega), bnd, decide_eq_false (by omega), cF, need_i (by omega) (by omega)]
    exact .inl ⟨_, rfl, by simp⟩
   ·rw [decide_eq_false e, cF, need_i (by omega) (by omega)]
    exact .inl ⟨_, rfl, by simp⟩)
  (fun t hI => by
   subst hI
   unfold forward_May_s2
   rw [decide_eq_false (by omega), cF]
   exact ⟨_, rfl, _, rfl⟩) (by omega)
 rw [hb, bnd]
end Go.Proofs.YtfdmlionhbeebaaGreat
end

section
namespace Go.Vc
abbrev LL := List (List Int)
theorem getD_mem {xs : List Int} {k : Nat} (h : k < xs.length) : xs.getD k 0 ∈ xs := by
 simp [List.getD, h]
theorem row_mem {l : LL} {k : Nat} (h : k < l.length) : l.getD k [] ∈ l := by
 simp [List.getD, h]
theorem lt_zero {p : Nat → Prop} : ∀ j, j < 0 → p j := fun j hj => absurd hj (Nat.not_lt_zero j)
def rowOk (l : LL) (st : List Int) (i : Nat) : Bool := decide (0 ≤ st.getD i 0) && decide (st.getD i 0 ≤ 5) && !((l.getD i []).any fun n => decide (n < 0) || decide ((l.length : Int) ≤ n))
def mayB (l : LL) (st : List Int) : Bool := decide (l.length = st.length) && (List.range l.length).all (rowOk l st)
theorem mayB_len {l : LL} {st : List Int} (h : l.length ≠ st.length) : mayB l st = false := by simp [mayB, h]
theorem mayB_no {l : LL} {st : List Int} {k : Nat} (hk : k < l.length) (h : rowOk l st k = false) : mayB l st = false := by
 cases hm : mayB l st with
 | false => rfl
 | true =>
  simp only [mayB, Bool.and_eq_true, List.all_eq_true, List.mem_range] at hm
  rw [hm.2 k hk] at h; cases h
theorem mayB_yes {l : LL} {st : List Int} (h : l.length = st.length) (hb : ∀ j, j < l.length → rowOk l st j = true) : mayB l st = true := by
 simp only [mayB, Bool.and_eq_true, List.all_eq_true, List.mem_range, decide_eq_true_eq]
 exact ⟨h, hb⟩
theorem mayB_in {l : LL} {st : List Int} (h : mayB l st = true) : l.length = st.length ∧ (∀ i, i < st.length → 0 ≤ st.getD i 0 ∧ st.getD i 0 ≤ 5) ∧ ∀ r ∈ l, ∀ n ∈ r, 0 ≤ n ∧ n < l.length := by
 simp only [mayB, Bool.and_eq_true, List.all_eq_true, List.mem_range, decide_eq_true_eq] at h
 refine ⟨h.1, fun i hi => ?_, fun r hr n hn => ?_⟩
 ·have := h.2 i (by omega)
  simp only [rowOk, Bool.and_eq_true, decide_eq_true_eq] at this
  exact this.1
 ·obtain ⟨i, hi, rfl⟩ := List.mem_iff_getElem.1 hr
  have := h.2 i hi
  simp only [rowOk, Bool.and_eq_true, decide_eq_true_eq, Bool.not_eq_true', List.any_eq_false] at this
  have := this.2 n (by simpa [List.getD, hi] using hn)
  simp at this
  omega
theorem rowOk_eq (l : LL) (st : List Int) (i : Nat) : rowOk l st i = !((decide ((st.getD i 0) < 0)) || ((decide ((5 : Int) < (st.getD i 0))) || ((l.getD i []).any fun n => decide (n < 0) || decide ((l.length : Int) ≤ n)))) := by
 unfold rowOk
 rw [Bool.eq_iff_iff]
 simp only [Bool.and_eq_true, Bool.not_eq_true', Bool.or_eq_false_iff, decide_eq_true_eq, decide_eq_false_iff_not, Int.not_lt]
 exact ⟨fun h => ⟨h.1.1, h.1.2, h.2⟩, fun h => ⟨⟨h.1, h.2.1⟩, h.2.2⟩⟩
def letsB (s : Int) : Bool := decide (s = 0) || decide (s = 3)
def blocksB (s : Int) : Bool := decide (s = 4) || decide (s = 5)
def cntI (w : Int) (xs : List Int) : Nat := xs.countP (· == w)
def sel (f : Nat → Bool) (n : Nat) : List Int := ((List.range n).filter f).map Int.ofNat
theorem sel_zero (f : Nat → Bool) : sel f 0 = [] := rfl
theorem sel_no {f : Nat → Bool} {n : Nat} (h : f n = false) : sel f (n + 1) = sel f n := by simp [sel, List.range_succ, List.filter_append, h]
theorem sel_yes {f : Nat → Bool} {n : Nat} (h : f n = true) : sel f (n + 1) = sel f n ++ [(n : Int)] := by simp [sel, List.range_succ, List.filter_append, h]
theorem sel_len (f : Nat → Bool) (n : Nat) : (sel f n).length ≤ n := by
 unfold sel
 rw [List.length_map]
 exact Nat.le_trans (List.length_filter_le _ _) (by simp)
theorem sel_mem {f : Nat → Bool} {n : Nat} {x : Int} : x ∈ sel f n ↔ ∃ i : Nat, x = i ∧ i < n ∧ f i = true := by
 simp only [sel, List.mem_map, List.mem_filter, List.mem_range]
 exact ⟨fun ⟨i, h, e⟩ => ⟨i, e.symm, h⟩, fun ⟨i, e, h⟩ => ⟨i, h, e.symm⟩⟩
def pickF (Q : List Int → (Int → Bool) → Bool) (is : Int → Bool) (l : LL) (st : List Int) (i : Nat) : Bool := (decide ((st.getD i 0) = 1)) && (Q (l.getD i []) fun x => is (st.getD x.toNat 0))
theorem cntI_all (w : Int) (xs : List Int) : cntI w xs ≤ xs.length := List.countP_le_length
theorem rowOk_yes {l : LL} {st : List Int} {k : Nat} (h : ¬ (st.getD k 0 < 0 ∨ 5 < st.getD k 0)) (h2 : ((l.getD k []).any fun x => (decide (x < 0)) || (decide ((l.length : Int) ≤ x))) = false) : rowOk l st k = true := by
 rw [rowOk_eq, h2, decide_eq_false (fun x => h (.inl x)), decide_eq_false (fun x => h (.inr x))]; rfl
theorem any_all (p : Int → Bool) : ∀ xs : List Int, (!(xs.any fun x => !p x)) = xs.all p
 | [] => rfl
 | x :: r => by
  have := any_all p r
  simp only [List.any_cons, List.all_cons, Bool.not_or, Bool.not_not, this]
end Go.Vc
end

section
namespace Go.Proofs.YtfdmlionhbeebaaGreat
open Go Go.Vc Go.RowKit
theorem insNil_ok (M : Mem)  : Ok Tryz.prog M 207 [.slice none 0 0, .int .i64 0, .int .i64 0] (fun _ v => v = .tuple #[]) := by
 intro M hM0 w0 H w p0
 refine R_enter 49 Tryz.func207 rfl rfl (by simp) (fun a0 f0 => ?_)
 replace f0 : Frm 49 [(0, .slice none 0 0), (1, .int .i64 0), (2, .int .i64 0)] a0 := f0
 refine R_seq ?_
 refine R_reg ?_
 refine W_run (L' := [(0, .slice none 0 0), (1, .int .i64 0), (2, .int .i64 0), (6, .int .i64 1)]) (w' := w) f0 3 [0, 1, 2, 6] (by kernel_rfl) (fun a_1 f_1 => ?_)
 refine W_end rfl ?_
 refine T_n ?_
 refine wp_block ?_
 refine R_loop (n := 49) (w0 := w0) (M := M) (fun (_ : Unit) => [(0, .slice none 0 0), (1, .int .i64 0), (2, .int .i64 0), (6, .int .i64 1)]) (fun (_ : Unit) => (H)) (fun (_ : Unit) (_ : Mem) => True) (fun (_ : Unit) => 0) () (f_1.keep (ks := [0, 1, 2, 6]) (by kernel_rfl)) p0 ?_ ?_
 ·trivial
 ·rintro ⟨⟩ M_1 a_2 w_1 hM_1 I_1 f_2 p_1
  replace f_2 : Frm 49 [(0, .slice none 0 0), (1, .int .i64 0), (2, .int .i64 0), (6, .int .i64 1)] a_2 := f_2
  replace p_1 : Hp w0 M_1 (H) w_1 := p_1
  refine R_seq ?_
  refine R_seq ?_
  refine R_reg ?_
  refine W_run (L' := [(0, .slice none 0 0), (1, .int .i64 0), (2, .int .i64 0), (6, .int .i64 1), (12, .bool false)]) (w' := w_1) f_2 3 [0, 1, 2, 6, 12] (by kernel_rfl) (fun a_3 f_3 => ?_)
  refine W_end rfl ?_
  refine T_n ?_
  refine R_cond_f f_3 (by kernel_rfl) (by kernel_rfl) ?_
  refine wp_exit ?_
  refine T_x ?_
  refine T_x ?_
  refine B_x ?_
  refine E_end0 f_3 rfl  ?_
  refine ⟨_, rfl, M_1, hM_1, p_1, ?_⟩
  rfl
theorem pdqNil_ok (M : Mem)  : Ok Tryz.prog M 164 [.slice none 0 0, .int .i64 0, .int .i64 0, .int .i64 0] (fun _ v => v = .tuple #[]) := by
 intro M hM0 w0 H w p0
 refine R_enter 134 Tryz.func164 rfl rfl (by simp) (fun a0 f0 => ?_)
 replace f0 : Frm 134 [(0, .slice none 0 0), (1, .int .i64 0), (2, .int .i64 0), (3, .int .i64 0)] a0 := f0
 refine R_seq ?_
 refine R_reg ?_
 refine W_run (L' := [(0, .slice none 0 0), (1, .int .i64 0), (2, .int .i64 0), (3, .int .i64 0), (8, .bool true)]) (w' := w) f0 1 [0, 1, 2, 3, 8] (by kernel_rfl) (fun a_1 f_1 => ?_)
 refine W_end rfl ?_
 refine T_n ?_
 refine R_seq ?_
 refine R_reg ?_
 refine W_run (L' := [(0, .slice none 0 0), (1, .int .i64 0), (2, .int .i64 0), (3, .int .i64 0), (8, .bool true), (9, .bool true)]) (w' := w) f_1 1 [0, 1, 2, 3, 8, 9] (by kernel_rfl) (fun a_2 f_2 => ?_)
 refine W_end rfl ?_
 refine T_n ?_
 refine wp_block ?_
 refine R_loop (n := 134) (w0 := w0) (M := M) (fun (_ : Unit) => [(0, .slice none 0 0), (1, .int .i64 0), (2, .int .i64 0), (3, .int .i64 0), (8, .bool true), (9, .bool true)]) (fun (_ : Unit) => (H)) (fun (_ : Unit) (_ : Mem) => True) (fun (_ : Unit) => 0) () (f_2.keep (ks := [0, 1, 2, 3, 8, 9]) (by kernel_rfl)) p0 ?_ ?_
 ·trivial
 ·rintro ⟨⟩ M_1 a_3 w_1 hM_1 I_1 f_3 p_1
  replace f_3 : Frm 134 [(0, .slice none 0 0), (1, .int .i64 0), (2, .int .i64 0), (3, .int .i64 0), (8, .bool true), (9, .bool true)] a_3 := f_3
  replace p_1 : Hp w0 M_1 (H) w_1 := p_1
  refine wp_block ?_
  refine R_seq ?_
  refine R_reg ?_
  refine W_run (L' := [(0, .slice none 0 0), (1, .int .i64 0), (2, .int .i64 0), (3, .int .i64 0), (8, .bool true), (9, .bool true), (10, .int .i64 0)]) (w' := w_1) f_3 4 [0, 1, 2, 3, 8, 9, 10] (by kernel_rfl) (fun a_4 f_4 => ?_)
  refine W_end rfl ?_
  refine T_n ?_
  refine R_seq ?_
  refine R_seq ?_
  refine R_reg ?_
  refine W_run (L' := [(0, .slice none 0 0), (1, .int .i64 0), (2, .int .i64 0), (3, .int .i64 0), (8, .bool true), (9, .bool true), (10, .int .i64 0), (23, .bool true)]) (w' := w_1) f_4 2 [0, 1, 2, 3, 8, 9, 10, 23] (by kernel_rfl) (fun a_5 f_5 => ?_)
  refine W_end rfl ?_
  refine T_n ?_
  refine R_cond_t f_5 (by kernel_rfl) (by kernel_rfl) ?_
  refine R_seq ?_
  refine R_reg ?_
  refine W_run (L' := [(24, .slice none 0 0), (25, .int .i64 0), (26, .int .i64 0)]) (w' := w_1) f_5 3 [24, 25, 26] (by kernel_rfl) (fun a_6 f_6 => ?_)
  refine W_okv (v := .tuple #[]) f_6 p_1 (by kernel_rfl) (by kernel_rfl) rfl rfl (fun _ => by kernel_rfl) (insNil_ok _) (fun w_2 p_2 a_7 f_7 => ?_)
  refine W_end rfl ?_
  refine T_n ?_
  refine wp_ret ?_
  refine T_r ?_
  refine B_r ?_
  refine T_r ?_
  refine B_r ?_
  refine E_ret0 f_7 rfl  ?_
  refine ⟨_, rfl, M_1, hM_1, p_2, ?_⟩
  rfl
theorem sortNil_ok (M : Mem)  : Ok Tryz.prog M 105 [.slice none 0 0] (fun _ v => v = .tuple #[]) := by
 intro M hM0 w0 H w p0
 refine R_enter 11 Tryz.func105 rfl rfl (by simp) (fun a0 f0 => ?_)
 replace f0 : Frm 11 [(0, .slice none 0 0)] a0 := f0
 refine R_seq ?_
 refine R_reg ?_
 refine W_run (L' := [(0, .slice none 0 0), (2, .int .i64 0)]) (w' := w) f0 3 [0, 2] (by kernel_rfl) (fun a_1 f_1 => ?_)
 refine W_end rfl ?_
 refine T_n ?_
 refine R_reg ?_
 refine W_run (L' := [(5, .slice none 0 0), (6, .int .i64 0), (7, .int .i64 0)]) (w' := w) f_1 3 [5, 6, 7] (by kernel_rfl) (fun a_2 f_2 => ?_)
 refine W_run (L' := [(5, .slice none 0 0), (6, .int .i64 0), (7, .int .i64 0), (8, .int .u64 (IntKind.wrap .u64 (0)))]) (w' := w) f_2 1 [5, 6, 7, 8] (by kernel_rfl) (fun a_3 f_3 => ?_)
 have f_4 := Frm.set f_3 8 (v := .int .u64 (IntKind.wrap .u64 (0))) (v' := .int .u64 0) (by kernel_rfl) (congrArg (Value.int .u64) (IntWalk.u64_in _ (by omega)))
 have f_5 : Frm 11 [(5, .slice none 0 0), (6, .int .i64 0), (7, .int .i64 0), (8, .int .u64 0)] a_3 := f_4.keep (ks := [5, 6, 7, 8]) (by kernel_rfl)
 refine W_okv (v := .int .i64 0) f_5 p0 (by kernel_rfl) (by kernel_rfl) rfl rfl (fun _ => by kernel_rfl) ((Ok.ofPure fun w => Tryz.bits_Len 0 w (by decide) (by decide)).mono (fun _ _ _ h => h.trans (by kernel_rfl))) (fun w_1 p_1 a_4 f_6 => ?_)
 refine W_okv (v := .tuple #[]) f_6 p_1 (by kernel_rfl) (by kernel_rfl) rfl rfl (fun _ => by kernel_rfl) (pdqNil_ok _) (fun w_2 p_2 a_5 f_7 => ?_)
 refine W_end rfl ?_
 refine E_end0 f_7 rfl  ?_
 refine ⟨_, rfl, M, (Mem.le_refl _), p_2, ?_⟩
 rfl
theorem sort_ok (M : Mem) (v : Value) (xs : List Int) (h : xs.length ≤ 1099511627776) : OkH Tryz.prog M [.row 3 1 v xs.length (xs.map (Value.int .i64))] 105 [v] fun _ E' u => u = .tuple #[] ∧ E' = [.row 3 1 v xs.length ((rise xs).map (Value.int .i64))] :=
 sortRow (rise_len xs) (fun blk off cap w hH hb => Tryz.slices_Sort_int blk off cap xs w hH hb (by omega)) (fun _ M => sortNil_ok M) M v
theorem rising_ok (M : Mem) (b : Nat) (ms : List (Int × Value)) (hb : M b = some (mObj (Value.int .i64) ms)) (msL : ms.length ≤ 1099511627776) : Ok Tryz.prog M 168 [.map (some b)] (fun M' v => RetInts M .i64 (rise (ms.map (·.1))) M' v) := by
 intro M1 hM0 w0 H w p0
 replace hb := hM0 _ _ hb
 refine R_enter 17 Tryz.func168 rfl rfl (by simp) (fun a0 f0 => ?_)
 replace f0 : Frm 17 [(0, .map (some b))] a0 := f0
 refine R_seq ?_
 refine R_reg ?_
 refine W_run (L' := [(0, .map (some b)), (2, .slice none 0 0)]) (w' := w) f0 1 [0, 2] (by kernel_rfl) (fun a_1 f_1 => ?_)
 refine W_end rfl ?_
 refine T_n ?_
 refine R_seq ?_
 refine R_seq ?_
 have p_1 : Hp w0 M1 ((Ent.row 3 1 (.slice none 0 0) 0 []) :: H) w := p0.nilRow 3 1
 refine R_reg ?_
 refine W_run (L' := [(2, .slice none 0 0), (4, .map (some b))]) (w' := w) f_1 1 [2, 4] (by kernel_rfl) (fun a_2 f_2 => ?_)
 refine W_range (enc := (Value.int .i64)) (m := ms) (b := b) (kt := 3) (et := 4) f_2 p_1 (by kernel_rfl) (by kernel_rfl) rfl rfl rfl (by kernel_rfl) (by kernel_rfl) (p_1.mem _ _ hb) (fun r_1 w_1 p_2 a_3 f_3 => ?_)
 refine W_end rfl ?_
 refine T_n ?_
 refine wp_block ?_
 have f_4 := Frm.set f_3 2 (v := .slice none 0 0) (v' := (.slice none 0 0)) (by kernel_rfl) (by first | rfl | (congr 1; omega) | simp)
 refine R_loop (n := 17) (w0 := w0) (M := M1) (fun (x : Array Nat × Value × List Int) => match x with | (seen, v, xs) => [(2, v), (5, .pointer (some (⟨r_1, 0, none⟩)))]) (fun (x : Array Nat × Value × List Int) => match x with | (seen, v, xs) => ((Ent.obj r_1 (.mapIter (some b) ms.length seen ms.length)) :: (Ent.row 3 1 v xs.length (xs.map (Value.int .i64))) :: H)) (fun (x : Array Nat × Value × List Int) (_ : Mem) => match x with | (seen, v, xs) => (CollI ms seen xs)) (fun (x : Array Nat × Value × List Int) => match x with | (seen, v, xs) => (todo ms seen).length) (#[], .slice none 0 0, []) (f_4.keep (ks := [2, 5]) (by kernel_rfl)) p_2 ?_ ?_
 ·exact CollI.start ms
 ·rintro ⟨seen, v, xs⟩ M_1 a_4 w_2 hM_1 I_1 f_5 p_3
  replace f_5 : Frm 17 [(2, v), (5, .pointer (some (⟨r_1, 0, none⟩)))] a_4 := f_5
  replace p_3 : Hp w0 M_1 ((Ent.obj r_1 (.mapIter (some b) ms.length seen ms.length)) :: (Ent.row 3 1 v xs.length (xs.map (Value.int .i64))) :: H) w_2 := p_3
  replace I_1 : (CollI ms seen xs) := I_1
  have hC := I_1
  have hCl := hC.len
  refine R_seq ?_
  refine R_reg ?_
  refine W_next (enc := (Value.int .i64)) (m := ms) (seen := seen) (b := b) (r := r_1) f_5 p_3 (by kernel_rfl) (by kernel_rfl) rfl rfl rfl (by kernel_rfl) (p_3.mem _ _ (hM_1 _ _ hb)) (fun ht_1 w_3 p_4 a_5 f_6 => ?_) (fun q_1 hq_1 w_4 p_5 a_6 f_7 => ?_)
  ·refine W_run (L' := [(2, v), (5, .pointer (some (⟨r_1, 0, none⟩))), (7, .bool false)]) (w' := w_3) f_6 1 [2, 5, 7] (by kernel_rfl) (fun a_7 f_8 => ?_)
   refine W_end rfl ?_
   refine T_n ?_
   refine R_seq ?_
   refine R_cond_f f_8 (by kernel_rfl) (by kernel_rfl) ?_
   refine wp_exit ?_
   refine T_x ?_
   refine T_x ?_
   refine B_x ?_
   refine T_n ?_
   refine R_seq ?_
   refine R_reg ?_
   refine W_run (L' := [(2, v), (14, v)]) (w' := w_3) f_8 1 [2, 14] (by kernel_rfl) (fun a_8 f_9 => ?_)
   have p_6 : Hp w0 M_1 ((Ent.row 3 1 v xs.length (xs.map (Value.int .i64))) :: (Ent.obj r_1 (.mapIter (some b) ms.length seen ms.length)) :: H) w_3 := p_4.pull 1 rfl rfl
   refine W_okH (E := [Ent.row 3 1 v xs.length (xs.map (Value.int .i64))]) (H := ((Ent.obj r_1 (.mapIter (some b) ms.length seen ms.length)) :: H)) f_9 p_6 (by kernel_rfl) (by kernel_rfl) rfl rfl (fun _ => by kernel_rfl) (sort_ok _ v xs (by omega)) (fun v_1 M_2 E_1 w_5 hM_2 p_7 q_2 a_9 f_10 => ?_)
   obtain ⟨rfl, rfl⟩ := q_2
   have p_8 : Hp w0 M_1 ((Ent.row 3 1 v xs.length ((rise xs).map (Value.int .i64))) :: (Ent.obj r_1 (.mapIter (some b) ms.length seen ms.length)) :: H) w_5 := p_7.less hM_2
   refine W_end rfl ?_
   refine T_n ?_
   refine R_seq ?_
   refine R_reg ?_
   refine W_run (L' := [(2, v)]) (w' := w_5) f_10 2 [2] (by kernel_rfl) (fun a_10 f_11 => ?_)
   refine W_end rfl ?_
   refine T_n ?_
   refine wp_ret ?_
   refine E_ret1 f_11 rfl (by kernel_rfl : Vc.look _ 2 = some (v)) ?_
   have p_9 : Hp w0 M_1 ((Ent.row 3 1 v (rise (ms.map (·.1))).length ((rise (ms.map (·.1))).map (Value.int .i64))) :: (Ent.obj r_1 (.mapIter (some b) ms.length seen ms.length)) :: H) w_5 := p_8.rowEq (by rw [rise_perm (hC.all ht_1).symm, rise_len]) (by rw [rise_perm (hC.all ht_1).symm])
   obtain ⟨M9, hM9, p9, r9⟩ := p_9.rowInts
   exact ⟨_, rfl, M9, hM_1.trans hM9, p9.dropN 1, r9.more (hM0.trans hM_1) (Mem.le_refl _)⟩
  ·refine W_run (L' := [(2, v), (5, .pointer (some (⟨r_1, 0, none⟩))), (7, .bool true)]) (w' := w_4) f_7 1 [2, 5, 7] (by kernel_rfl) (fun a_11 f_12 => ?_)
   refine W_end rfl ?_
   refine T_n ?_
   refine R_seq ?_
   refine R_cond_t f_12 (by kernel_rfl) (by kernel_rfl) ?_
   refine wp_skip ?_
   refine T_n ?_
   refine wp_block ?_
   refine R_seq ?_
   refine R_reg ?_
   refine W_eq (v := .tuple #[.int .i64 q_1.1.1, q_1.1.2]) f_12 (by kernel_rfl) (by kernel_rfl) rfl rfl (X_entry (enc := (Value.int .i64)) (m := ms) (seen := seen) (p := q_1.1) (j := q_1.2) (b := b) (r := r_1) rfl (by kernel_rfl) (p_5.ownObj 0 rfl) (p_5.mem _ _ (hM_1 _ _ hb)) (todo_mem hq_1).1) (fun a_12 f_13 => ?_)
   refine W_run (L' := [(2, v), (3, .int .i64 q_1.1.1), (5, .pointer (some (⟨r_1, 0, none⟩)))]) (w' := w_4) f_13 2 [2, 3, 5] (by kernel_rfl) (fun a_13 f_14 => ?_)
   refine W_end rfl ?_
   refine T_n ?_
   refine R_reg ?_
   refine W_run (L' := [(5, .pointer (some (⟨r_1, 0, none⟩))), (10, v), (11, .int .i64 q_1.1.1)]) (w' := w_4) f_14 2 [5, 10, 11] (by kernel_rfl) (fun a_14 f_15 => ?_)
   refine W_alloc f_15 p_5 1 [5, 10, 11, 12] (.cells #[.int .i64 q_1.1.1] 3 (0, 0)) (fun b_1 => [(5, .pointer (some (⟨r_1, 0, none⟩))), (10, v), (11, .int .i64 q_1.1.1), (12, .slice (some ⟨b_1, 0, none⟩) 1 1)]) (fun _ => by kernel_rfl) (fun b_1 w_6 p_10 a_15 f_16 => ?_)
   replace f_16 : Frm 17 [(5, .pointer (some (⟨r_1, 0, none⟩))), (10, v), (11, .int .i64 q_1.1.1), (12, .slice (some ⟨b_1, 0, none⟩) 1 1)] a_15 := f_16
   have p_11 : Hp w0 M_1 ((Ent.row 3 1 v xs.length (xs.map (Value.int .i64))) :: (Ent.obj b_1 (.cells #[.int .i64 q_1.1.1] 3 (0, 0))) :: (Ent.obj r_1 (.mapIter (some b) ms.length (seen.push q_1.2) ms.length)) :: H) w_6 := p_10.pull 2 rfl rfl
   refine W_append (d := 13) (t := 47) (e := 3) (z := .int .i64 0) (v := v) (size := 1) (bytes := 8) (k := xs.length) (m := 1) (c := 1) (xs := xs.map (Value.int .i64)) (news := [.int .i64 q_1.1.1]) (ad := ⟨b_1, 0, none⟩) f_16 p_11 (by kernel_rfl) (by kernel_rfl) rfl rfl rfl (by kernel_rfl) (by kernel_rfl) (by kernel_rfl) (by kernel_rfl) (rfl) (own_cells (p_11.ownCell 1 rfl) 0 rfl) (all_one (by kernel_rfl)) (by omega) (by omega) (fun v_2 w_7 p_12 a_16 f_17 => ?_)
   have p_13 : Hp w0 M_1 ((Ent.obj b_1 (.cells #[.int .i64 q_1.1.1] 3 (0, 0))) :: (Ent.row 3 1 v_2 (xs.length + 1) ((xs.map (Value.int .i64)) ++ [.int .i64 q_1.1.1])) :: (Ent.obj r_1 (.mapIter (some b) ms.length (seen.push q_1.2) ms.length)) :: H) w_7 := p_12.pull 1 rfl rfl
   have p_14 := p_13.drop
   refine W_run (L' := [(2, v_2), (5, .pointer (some (⟨r_1, 0, none⟩)))]) (w' := w_7) f_17 1 [2, 5] (by kernel_rfl) (fun a_17 f_18 => ?_)
   refine W_end rfl ?_
   refine B_n ?_
   refine T_n ?_
   have p_15 : Hp w0 M_1 ((Ent.row 3 1 v_2 (xs ++ [q_1.1.1]).length ((xs ++ [q_1.1.1]).map (Value.int .i64))) :: (Ent.obj r_1 (.mapIter (some b) ms.length (seen.push q_1.2) ms.length)) :: H) w_7 := p_14.rowEq (by simp) (by simp)
   have p_16 : Hp w0 M_1 ((Ent.obj r_1 (.mapIter (some b) ms.length (seen.push q_1.2) ms.length)) :: (Ent.row 3 1 v_2 (xs ++ [q_1.1.1]).length ((xs ++ [q_1.1.1]).map (Value.int .i64))) :: H) w_7 := p_15.pull 1 rfl rfl
   refine ⟨((seen.push q_1.2, v_2, xs ++ [q_1.1.1]) : Array Nat × Value × List Int), ?_, M_1, hM_1, ?_, f_18.keep (ks := [2, 5]) (by kernel_rfl), p_16⟩
   ·exact todo_less hq_1
   ·exact hC.step hq_1
theorem risingNil_ok (M : Mem)  : Ok Tryz.prog M 168 [.map none] (fun M' v => RetInts M .i64 [] M' v) := by
 intro M hM0 w0 H w p0
 refine R_enter 17 Tryz.func168 rfl rfl (by simp) (fun a0 f0 => ?_)
 replace f0 : Frm 17 [(0, .map none)] a0 := f0
 refine R_seq ?_
 refine R_reg ?_
 refine W_run (L' := [(0, .map none), (2, .slice none 0 0)]) (w' := w) f0 1 [0, 2] (by kernel_rfl) (fun a_1 f_1 => ?_)
 refine W_end rfl ?_
 refine T_n ?_
 refine R_seq ?_
 refine R_seq ?_
 have p_1 : Hp w0 M ((Ent.row 3 1 (.slice none 0 0) 0 []) :: H) w := p0.nilRow 3 1
 refine R_reg ?_
 refine W_run (L' := [(2, .slice none 0 0), (4, .map none)]) (w' := w) f_1 1 [2, 4] (by kernel_rfl) (fun a_2 f_2 => ?_)
 refine W_range_nil (kt := 3) (et := 4) f_2 p_1 (by kernel_rfl) (by kernel_rfl) rfl rfl rfl (by kernel_rfl) (by kernel_rfl) (fun r_1 w_1 p_2 a_3 f_3 => ?_)
 refine W_end rfl ?_
 refine T_n ?_
 refine wp_block ?_
 refine R_loop (n := 17) (w0 := w0) (M := M) (fun (_ : Unit) => [(2, .slice none 0 0), (5, .pointer (some (⟨r_1, 0, none⟩)))]) (fun (_ : Unit) => ((Ent.obj r_1 (.mapIter none 0 #[] 0)) :: (Ent.row 3 1 (.slice none 0 0) 0 []) :: H)) (fun (_ : Unit) (_ : Mem) => True) (fun (_ : Unit) => 0) () (f_3.keep (ks := [2, 5]) (by kernel_rfl)) p_2 ?_ ?_
 ·trivial
 ·rintro ⟨⟩ M_1 a_4 w_2 hM_1 I_1 f_4 p_3
  replace f_4 : Frm 17 [(2, .slice none 0 0), (5, .pointer (some (⟨r_1, 0, none⟩)))] a_4 := f_4
  replace p_3 : Hp w0 M_1 ((Ent.obj r_1 (.mapIter none 0 #[] 0)) :: (Ent.row 3 1 (.slice none 0 0) 0 []) :: H) w_2 := p_3
  refine R_seq ?_
  refine R_reg ?_
  refine W_eq (v := .tuple #[.bool false]) f_4 (by kernel_rfl) (by kernel_rfl) rfl rfl (X_next_nil rfl (by kernel_rfl) (p_3.ownObj 0 rfl)) (fun a_5 f_5 => ?_)
  refine W_run (L' := [(2, .slice none 0 0), (5, .pointer (some (⟨r_1, 0, none⟩))), (7, .bool false)]) (w' := w_2) f_5 1 [2, 5, 7] (by kernel_rfl) (fun a_6 f_6 => ?_)
  refine W_end rfl ?_
  refine T_n ?_
  refine R_seq ?_
  refine R_cond_f f_6 (by kernel_rfl) (by kernel_rfl) ?_
  refine wp_exit ?_
  refine T_x ?_
  refine T_x ?_
  refine B_x ?_
  refine T_n ?_
  refine R_seq ?_
  refine R_reg ?_
  refine W_run (L' := [(2, .slice none 0 0), (14, .slice none 0 0)]) (w' := w_2) f_6 1 [2, 14] (by kernel_rfl) (fun a_7 f_7 => ?_)
  have p_4 : Hp w0 M_1 ((Ent.row 3 1 (.slice none 0 0) 0 []) :: (Ent.obj r_1 (.mapIter none 0 #[] 0)) :: H) w_2 := p_3.pull 1 rfl rfl
  refine W_okH (E := [Ent.row 3 1 (.slice none 0 0) 0 []]) (H := ((Ent.obj r_1 (.mapIter none 0 #[] 0)) :: H)) f_7 p_4 (by kernel_rfl) (by kernel_rfl) rfl rfl (fun _ => by kernel_rfl) (sort_ok _ (.slice none 0 0) [] (by simp)) (fun v_1 M_2 E_1 w_3 hM_2 p_5 q_1 a_8 f_8 => ?_)
  obtain ⟨rfl, rfl⟩ := q_1
  have p_6 : Hp w0 M_1 ((Ent.row 3 1 (.slice none 0 0) ([] : List Int).length ((rise []).map (Value.int .i64))) :: (Ent.obj r_1 (.mapIter none 0 #[] 0)) :: H) w_3 := p_5.less hM_2
  refine W_end rfl ?_
  refine T_n ?_
  refine R_seq ?_
  refine R_reg ?_
  refine W_run (L' := [(2, .slice none 0 0)]) (w' := w_3) f_8 2 [2] (by kernel_rfl) (fun a_9 f_9 => ?_)
  refine W_end rfl ?_
  refine T_n ?_
  refine wp_ret ?_
  refine E_ret1 f_9 rfl (by kernel_rfl : Vc.look _ 2 = some (.slice none 0 0)) ?_
  have p_7 : Hp w0 M_1 ((Ent.row 3 1 (.slice none 0 0) ([] : List Int).length (([] : List Int).map (Value.int .i64))) :: (Ent.obj r_1 (.mapIter none 0 #[] 0)) :: H) w_3 := p_6.rowEq (rfl) (by rw [rise_nil])
  obtain ⟨M9, hM9, p9, r9⟩ := p_7.rowInts
  exact ⟨_, rfl, M9, hM_1.trans hM9, p9.dropN 1, r9.more (hM0.trans hM_1) (Mem.le_refl _)⟩
end Go.Proofs.YtfdmlionhbeebaaGreat
end

section
namespace Go.Vc
open Go
def hits (l : LL) (k : Nat) (i : Nat) : Bool := (l.getD i []).any fun x => decide (x = (k : Int))
def turnedL (l : LL) : LL := (List.range l.length).map fun k => sel (hits l k) l.length
def gotK (l : LL) (i j k : Nat) : List Int := sel (hits l k) i ++ if ((l.getD i []).take j).any (fun x => decide (x = (k : Int))) then [(i : Int)] else []
def TI (l : LL) (i j : Nat) (G : MapRow Int) : Prop := G.length = l.length ∧ ∀ k, k < l.length → keysOf (G.getD k none) = gotK l i j k
theorem any_take {r : List Int} {p : Int → Bool} {j : Nat} (h : j < r.length) : (r.take (j + 1)).any p = ((r.take j).any p || p (r.getD j 0)) := by
 rw [List.take_add_one, List.any_append]
 simp [List.getD, h, Option.toList]
theorem TI.start (l : LL) : TI l 0 0 (List.replicate l.length none) := by
 refine ⟨by simp, fun k hk => ?_⟩
 simp [gotK, sel_zero, List.getD, hk, keysOf]
theorem TI.skip {l : LL} {i j : Nat} {G : MapRow Int} (h : TI l i j G) (hj : j < (l.getD i []).length) (hx : (l.getD i []).getD j 0 < 0 ∨ (l.length : Int) ≤ (l.getD i []).getD j 0) : TI l i (j + 1) G := by
 refine ⟨h.1, fun k hk => (h.2 k hk).trans ?_⟩
 unfold gotK
 rw [any_take hj, decide_eq_false (p := (l.getD i []).getD j 0 = (k : Int)) (by omega), Bool.or_false]
theorem TI.row {l : LL} {i j : Nat} {G : MapRow Int} (h : TI l i j G) (hj : (l.getD i []).length ≤ j) : TI l (i + 1) 0 G := by
 refine ⟨h.1, fun k hk => (h.2 k hk).trans ?_⟩
 unfold gotK
 rw [List.take_of_length_le hj]
 cases hh : hits l k i with
 | true =>
  rw [sel_yes hh]
  simp only [hits] at hh
  rw [hh]; simp
 | false =>
  rw [sel_no hh]
  simp only [hits] at hh
  rw [hh]; simp
def addKey (ks : List Int) (i : Int) : List Int := if i ∈ ks then ks else ks ++ [i]
theorem keys_upd (m : List (Int × Value)) (i : Int) (v : Value) : (updM m i v).map (·.1) = addKey (m.map (·.1)) i := by
 unfold updM addKey
 cases h : lkAt i m 0 with
 | none =>
  rw [if_neg (lkAt_none.1 h)]
  simp
 | some p =>
  obtain ⟨h1, h2⟩ := lkAt_some (i := p.1) (v := p.2) h
  simp only [Nat.sub_zero] at h2
  have hm : i ∈ m.map (·.1) := List.mem_map.2 ⟨_, List.mem_of_getElem? h2, rfl⟩
  rw [if_pos hm]
  apply List.ext_getElem?
  intro q
  simp only [List.getElem?_map, List.getElem?_set]
  by_cases e : p.1 = q
  ·subst e
   obtain ⟨hl, he⟩ := List.getElem?_eq_some_iff.1 h2
   simp [hl, he]
  ·simp [e]
theorem TI.put {l : LL} {i j : Nat} {G G' : MapRow Int} (h : TI l i j G) (hj : j < (l.getD i []).length) (h0 : 0 ≤ (l.getD i []).getD j 0) (hl : G'.length = G.length)
  (ho : ∀ k, k ≠ ((l.getD i []).getD j 0).toNat → G'.getD k none = G.getD k none) (hk : keysOf (G'.getD ((l.getD i []).getD j 0).toNat none) = addKey (keysOf (G.getD ((l.getD i []).getD j 0).toNat none)) i) : TI l i (j + 1) G' := by
 refine ⟨hl.trans h.1, fun k hkl => ?_⟩
 unfold gotK
 rw [any_take hj]
 by_cases e : (l.getD i []).getD j 0 = (k : Int)
 ·have ek : k = ((l.getD i []).getD j 0).toNat := by omega
  rw [decide_eq_true e, Bool.or_true, if_pos rfl, ek, hk, ← ek, h.2 k hkl]
  unfold addKey gotK
  have hns : (i : Int) ∉ sel (hits l k) i := fun hm => by
   obtain ⟨q, e1, e2, _⟩ := sel_mem.1 hm
   omega
  by_cases hb : ((l.getD i []).take j).any (fun x => decide (x = (k : Int))) = true
  ·rw [hb]; simp
  ·rw [if_neg hb, List.append_nil, if_neg hns]
 ·have ek : k ≠ ((l.getD i []).getD j 0).toNat := by omega
  rw [decide_eq_false e, Bool.or_false, ho k ek]
  exact h.2 k hkl
theorem sel_sorted (f : Nat → Bool) : ∀ n, (sel f n).Pairwise fun x y => decide (x ≤ y) = true
 | 0 => .nil
 | n + 1 => by
  cases h : f n with
  | false => rw [sel_no h]; exact sel_sorted f n
  | true =>
   rw [sel_yes h, List.pairwise_append]
   refine ⟨sel_sorted f n, List.pairwise_singleton _ _, fun x hx y hy => ?_⟩
   obtain ⟨q, e1, e2, _⟩ := sel_mem.1 hx
   simp at hy
   simp; omega
theorem rise_sel (f : Nat → Bool) (n : Nat) : rise (sel f n) = sel f n := List.mergeSort_of_pairwise (sel_sorted f n)
theorem TI.done {l : LL} {G : MapRow Int} (h : TI l l.length 0 G) {k : Nat} (hk : k < l.length) : rise (keysOf (G.getD k none)) = (turnedL l).getD k [] := by
 have e : (turnedL l).getD k [] = sel (hits l k) l.length := by simp [turnedL, List.getD, hk]
 rw [e, h.2 k hk]
 unfold gotK
 simp [rise_sel]
theorem TI.len {l : LL} {G : MapRow Int} (h : TI l l.length 0 G) {k : Nat} (hk : k < l.length) : (keysOf (G.getD k none)).length ≤ l.length := by
 have e : (turnedL l).getD k [] = sel (hits l k) l.length := by simp [turnedL, List.getD, hk]
 rw [← rise_len, h.done hk, e]
 exact sel_len _ _
theorem memOf {κ : Type} {G : MapRow κ} {k : Nat} (hk : k < G.length) {x : Option (Nat × List (κ × Value))} (h : G.getD k none = x) : x ∈ G := by
 rw [← h]; simp [List.getD, hk]
theorem outStep {M : Mem} {O : List Value} {R : LL} {k : Nat} {v : Value} (hk : k < O.length) (hb : ∀ q, q < k → IntRow M .i64 (O.getD q undef) (R.getD q [])) (hv : IntRow M .i64 v (R.getD k [])) : ∀ q, q < k + 1 → IntRow M .i64 ((O.set k v).getD q undef) (R.getD q []) := fun q hq => by
 by_cases e : q = k
 ·subst e
  have : (O.set q v).getD q undef = v := by simp [List.getD, hk]
  rw [this]; exact hv
 ·have : (O.set k v).getD q undef = O.getD q undef := by
   simp only [List.getD_eq_getElem?_getD]
   rw [List.getElem?_set_ne (by omega)]
  rw [this]; exact hb q (by omega)
def wayL (l : LL) (back : Bool) : LL := bif back then turnedL l else l
theorem turned_len (l : LL) : (turnedL l).length = l.length := by simp [turnedL]
theorem wayL_len (l : LL) (b : Bool) : (wayL l b).length = l.length := by cases b <;> simp [wayL, turned_len]
theorem turned_row {l : LL} : ∀ {x : List Int}, x ∈ turnedL l → ∃ k, x = sel (hits l k) l.length := fun {x} h => by
 obtain ⟨k, _, e⟩ := List.mem_map.1 h
 exact ⟨k, e.symm⟩
theorem way_in {l : LL} {st : List Int} {b : Bool} (h : mayB l st = true) : ∀ r ∈ wayL l b, ∀ x ∈ r, 0 ≤ x ∧ x < st.length := by
 obtain ⟨h1, _, h3⟩ := mayB_in h
 cases b with
 | false => intro r hr x hx; have := h3 r hr x hx; omega
 | true =>
  intro r hr x hx
  obtain ⟨k, rfl⟩ := turned_row (l := l) hr
  obtain ⟨i, e, hi, _⟩ := sel_mem.1 hx
  omega
def allQr (xs : List Int) (p : Int → Bool) : Bool := xs.all p
def anyQ (xs : List Int) (p : Int → Bool) : Bool := xs.any p
theorem RetInts.nil (M : Mem) (k : IntKind) (M' : Mem) : RetInts M k [] M' (.slice none 0 0) := ⟨none, 0, rfl, ⟨Nat.le_refl _, fun _ => rfl⟩, .inl rfl, fun _ e => by cases e⟩
end Go.Vc
end

section
namespace Go.Proofs.YtfdmlionhbeebaaGreat
open Go Go.Vc Go.RowKit
theorem risingAny_ok (M : Mem) (g : Option (Nat × List (Int × Value))) (hb : ∀ b m, g = some (b, m) → M b = some (mObj (Value.int .i64) m)) (hL : (keysOf g).length ≤ 1099511627776) : Ok Tryz.prog M 168 [hdOf g] (fun M' v => RetInts M .i64 (rise (keysOf g)) M' v) := by
 rcases g with _ | ⟨b, m⟩
 ·exact (risingNil_ok M).mono fun M' v _ h => by rw [show rise (keysOf (none : Option (Nat × List (Int × Value)))) = [] from rise_nil]; exact h
 ·exact rising_ok M b m (hb b m rfl) (by simpa [keysOf] using hL)
theorem turned_ok (M : Mem) (A : Option Addr) (l : LL) (cap : Nat) (hl : Vc.Rows M .i64 A l) (lL : l.length ≤ 1099511627776) (rL : ∀ r ∈ l, r.length ≤ 1099511627776) : Ok Tryz.prog M 122 [.slice A l.length cap] (fun M' v => ∃ ad, v = .slice (some ad) (turnedL l).length (turnedL l).length ∧ Vc.Rows M' .i64 (some ad) (turnedL l)) := by
 intro M1 hM0 w0 H w p0
 replace hl := hl.mono hM0
 refine R_enter 68 Tryz.func122 rfl rfl (by simp) (fun a0 f0 => ?_)
 replace f0 : Frm 68 [(0, .slice A l.length cap)] a0 := f0
 refine R_seq ?_
 refine R_reg ?_
 refine W_run (L' := [(0, .slice A l.length cap)]) (w' := w) f0 1 [0] (by kernel_rfl) (fun a_1 f_1 => ?_)
 refine W_end rfl ?_
 refine T_n ?_
 refine R_seq ?_
 refine R_reg ?_
 refine W_run (L' := [(0, .slice A l.length cap), (12, .int .i64 ((l.length : Nat) : Int))]) (w' := w) f_1 2 [0, 12] (by kernel_rfl) (fun a_2 f_2 => ?_)
 refine W_make (m := l.length) (z := .map none) (bytes := 8) (e := 59) f_2 p0 (by kernel_rfl) (by kernel_rfl) rfl rfl rfl (by kernel_rfl) (by kernel_rfl) (by kernel_rfl) (by kernel_rfl) rfl (by omega) (by omega) (fun b_1 w_1 p_1 a_3 f_3 => ?_)
 have p_2 : Hp w0 M1 ((Ent.obj b_1 (.cells ((List.replicate l.length none : MapRow Int).map hdOf).toArray 59 (0, 0))) :: (bag (Value.int .i64) (List.replicate l.length none : MapRow Int) ++ H)) w_1 := by rw [hd_none, bag_none]; exact p_1
 refine W_run (L' := [(0, .slice A l.length cap), (3, .slice (some ⟨b_1, 0, none⟩) l.length l.length)]) (w' := w_1) f_3 1 [0, 3] (by kernel_rfl) (fun a_4 f_4 => ?_)
 refine W_end rfl ?_
 refine T_n ?_
 refine R_seq ?_
 refine R_seq ?_
 refine R_reg ?_
 refine W_run (L' := [(0, .slice A l.length cap), (3, .slice (some ⟨b_1, 0, none⟩) l.length l.length), (14, .slice A l.length cap), (15, .int .i64 ((l.length : Nat) : Int)), (16, .int .i64 0)]) (w' := w_1) f_4 3 [0, 3, 14, 15, 16] (by kernel_rfl) (fun a_5 f_5 => ?_)
 refine W_end rfl ?_
 refine T_n ?_
 refine wp_block ?_
 have f_6 := Frm.set f_5 16 (v := .int .i64 0) (v' := .int .i64 (0 : Int)) (by kernel_rfl) (by first | rfl | (congr 1; omega) | simp)
 refine R_loop (n := 68) (w0 := w0) (M := M1) (fun (x : Nat × MapRow Int) => match x with | (i, G) => [(0, .slice A l.length cap), (3, .slice (some ⟨b_1, 0, none⟩) l.length l.length), (14, .slice A l.length cap), (15, .int .i64 ((l.length : Nat) : Int)), (16, .int .i64 (i : Int))]) (fun (x : Nat × MapRow Int) => match x with | (i, G) => ((Ent.obj b_1 (.cells (G.map hdOf).toArray 59 (0, 0))) :: (bag (Value.int .i64) G ++ H))) (fun (x : Nat × MapRow Int) (_ : Mem) => match x with | (i, G) => (i ≤ l.length) ∧ (TI l i 0 G)) (fun (x : Nat × MapRow Int) => match x with | (i, G) => l.length - i) (0, List.replicate l.length none) (f_6.keep (ks := [0, 3, 14, 15, 16]) (by kernel_rfl)) p_2 ?_ ?_
 ·exact ⟨Nat.zero_le _, TI.start l⟩
 ·rintro ⟨i, G⟩ M_1 a_6 w_2 hM_1 I_1 f_7 p_3
  replace f_7 : Frm 68 [(0, .slice A l.length cap), (3, .slice (some ⟨b_1, 0, none⟩) l.length l.length), (14, .slice A l.length cap), (15, .int .i64 ((l.length : Nat) : Int)), (16, .int .i64 (i : Int))] a_6 := f_7
  replace p_3 : Hp w0 M_1 ((Ent.obj b_1 (.cells (G.map hdOf).toArray 59 (0, 0))) :: (bag (Value.int .i64) G ++ H)) w_2 := p_3
  replace I_1 : (i ≤ l.length) ∧ (TI l i 0 G) := I_1
  obtain ⟨hi, hT⟩ := I_1
  have hGl := hT.1
  refine R_seq ?_
  refine R_reg ?_
  refine W_run (L' := [(0, .slice A l.length cap), (3, .slice (some ⟨b_1, 0, none⟩) l.length l.length), (14, .slice A l.length cap), (15, .int .i64 ((l.length : Nat) : Int)), (16, .int .i64 (i : Int)), (17, .bool (decide ((i : Int) < ((l.length : Nat) : Int))))]) (w' := w_2) f_7 1 [0, 3, 14, 15, 16, 17] (by kernel_rfl) (fun a_7 f_8 => ?_)
  refine W_end rfl ?_
  refine T_n ?_
  refine R_seq ?_
  refine R_cond f_8 (b := decide ((i : Int) < ((l.length : Nat) : Int))) (by kernel_rfl) (by kernel_rfl) (fun h_1 => ?_) (fun h_1 => ?_)
  ·have k_1 : (i : Int) < ((l.length : Nat) : Int) := decide_eq_true_iff.1 h_1
   refine wp_skip ?_
   refine T_n ?_
   refine R_seq ?_
   refine wp_block ?_
   refine R_seq ?_
   refine R_reg ?_
   refine W_run (L' := [(0, .slice A l.length cap), (3, .slice (some ⟨b_1, 0, none⟩) l.length l.length), (14, .slice A l.length cap), (15, .int .i64 ((l.length : Nat) : Int)), (16, .int .i64 (i : Int)), (18, .int .i64 (i : Int))]) (w' := w_2) f_8 1 [0, 3, 14, 15, 16, 18] (by kernel_rfl) (fun a_8 f_9 => ?_)
   obtain ⟨ad_1, e_1, B_1, cap_1, hc_1, hcap_1, hi_1⟩ := Vc.Rows.at_ (hl.mono hM_1) (i := (i : Int)) (by omega) (by omega)
   replace hcap_1 : (l.getD i []).length ≤ cap_1 := hcap_1
   replace hi_1 : Ints _ .i64 B_1 (l.getD i []) := hi_1
   refine W_eq (v := .pointer (some (ad_1.add ((i : Int).toNat * 1)))) f_9 (by kernel_rfl) (by kernel_rfl) rfl rfl (X_indexAddrA e_1 rfl (len := l.length) (cap := cap) (k := .i64) (i := (i : Int)) (by kernel_rfl) (by kernel_rfl) (e := 47) (by kernel_rfl) (sz := 1) (by kernel_rfl) (by omega) (by omega)) (fun a_9 f_10 => ?_)
   refine W_eq (v := .slice B_1 (l.getD i []).length cap_1) f_10 (by kernel_rfl) (by kernel_rfl) rfl rfl (X_load1 (v := .slice B_1 (l.getD i []).length cap_1) rfl (ad := ad_1.add ((i : Int).toNat * 1)) (by kernel_rfl) (by kernel_rfl) (p_3.cell hc_1)) (fun a_10 f_11 => ?_)
   refine W_run (L' := [(0, .slice A l.length cap), (3, .slice (some ⟨b_1, 0, none⟩) l.length l.length), (4, .int .i64 (i : Int)), (5, .slice B_1 (l.getD i []).length cap_1), (14, .slice A l.length cap), (15, .int .i64 ((l.length : Nat) : Int)), (16, .int .i64 (i : Int))]) (w' := w_2) f_11 2 [0, 3, 4, 5, 14, 15, 16] (by kernel_rfl) (fun a_11 f_12 => ?_)
   refine W_end rfl ?_
   refine T_n ?_
   refine R_seq ?_
   refine R_reg ?_
   refine W_run (L' := [(0, .slice A l.length cap), (3, .slice (some ⟨b_1, 0, none⟩) l.length l.length), (4, .int .i64 (i : Int)), (14, .slice A l.length cap), (15, .int .i64 ((l.length : Nat) : Int)), (16, .int .i64 (i : Int)), (21, .slice B_1 (l.getD i []).length cap_1), (22, .int .i64 (((l.getD i []).length : Nat) : Int)), (23, .int .i64 0)]) (w' := w_2) f_12 3 [0, 3, 4, 14, 15, 16, 21, 22, 23] (by kernel_rfl) (fun a_12 f_13 => ?_)
   refine W_end rfl ?_
   refine T_n ?_
   refine wp_block ?_
   have f_14 := Frm.set f_13 23 (v := .int .i64 0) (v' := .int .i64 (0 : Int)) (by kernel_rfl) (by first | rfl | (congr 1; omega) | simp)
   have hrl := rL _ (row_mem (l := l) (k := i) (by omega))
   refine R_loop (n := 68) (w0 := w0) (M := M_1) (fun (x : Nat × MapRow Int) => match x with | (j, G) => [(0, .slice A l.length cap), (3, .slice (some ⟨b_1, 0, none⟩) l.length l.length), (4, .int .i64 (i : Int)), (14, .slice A l.length cap), (15, .int .i64 ((l.length : Nat) : Int)), (16, .int .i64 (i : Int)), (21, .slice B_1 (l.getD i []).length cap_1), (22, .int .i64 (((l.getD i []).length : Nat) : Int)), (23, .int .i64 (j : Int))]) (fun (x : Nat × MapRow Int) => match x with | (j, G) => ((Ent.obj b_1 (.cells (G.map hdOf).toArray 59 (0, 0))) :: (bag (Value.int .i64) G ++ H))) (fun (x : Nat × MapRow Int) (_ : Mem) => match x with | (j, G) => (j ≤ (l.getD i []).length) ∧ (TI l i j G)) (fun (x : Nat × MapRow Int) => match x with | (j, G) => (l.getD i []).length - j) (0, G) (f_14.keep (ks := [0, 3, 4, 14, 15, 16, 21, 22, 23]) (by kernel_rfl)) p_3 ?_ ?_
   ·exact ⟨Nat.zero_le _, hT⟩
   ·rintro ⟨j, G⟩ M_2 a_13 w_3 hM_2 I_2 f_15 p_4
    replace f_15 : Frm 68 [(0, .slice A l.length cap), (3, .slice (some ⟨b_1, 0, none⟩) l.length l.length), (4, .int .i64 (i : Int)), (14, .slice A l.length cap), (15, .int .i64 ((l.length : Nat) : Int)), (16, .int .i64 (i : Int)), (21, .slice B_1 (l.getD i []).length cap_1), (22, .int .i64 (((l.getD i []).length : Nat) : Int)), (23, .int .i64 (j : Int))] a_13 := f_15
    replace p_4 : Hp w0 M_2 ((Ent.obj b_1 (.cells (G.map hdOf).toArray 59 (0, 0))) :: (bag (Value.int .i64) G ++ H)) w_3 := p_4
    replace I_2 : (j ≤ (l.getD i []).length) ∧ (TI l i j G) := I_2
    obtain ⟨hj, hT2⟩ := I_2
    have hGl2 := hT2.1
    refine R_seq ?_
    refine R_reg ?_
    refine W_run (L' := [(0, .slice A l.length cap), (3, .slice (some ⟨b_1, 0, none⟩) l.length l.length), (4, .int .i64 (i : Int)), (14, .slice A l.length cap), (15, .int .i64 ((l.length : Nat) : Int)), (16, .int .i64 (i : Int)), (21, .slice B_1 (l.getD i []).length cap_1), (22, .int .i64 (((l.getD i []).length : Nat) : Int)), (23, .int .i64 (j : Int)), (24, .bool (decide ((j : Int) < (((l.getD i []).length : Nat) : Int))))]) (w' := w_3) f_15 1 [0, 3, 4, 14, 15, 16, 21, 22, 23, 24] (by kernel_rfl) (fun a_14 f_16 => ?_)
    refine W_end rfl ?_
    refine T_n ?_
    refine R_seq ?_
    refine R_cond f_16 (b := decide ((j : Int) < (((l.getD i []).length : Nat) : Int))) (by kernel_rfl) (by kernel_rfl) (fun h_2 => ?_) (fun h_2 => ?_)
    ·have k_2 : (j : Int) < (((l.getD i []).length : Nat) : Int) := decide_eq_true_iff.1 h_2
     refine wp_skip ?_
     refine T_n ?_
     refine R_seq ?_
     refine wp_block ?_
     refine R_seq ?_
     refine R_reg ?_
     obtain ⟨ad_2, e_2, hc_2⟩ := Ints.at_ (hi_1.mono hM_2) (i := (j : Int)) (by omega) (by omega)
     refine W_eq (v := .pointer (some (ad_2.add ((j : Int).toNat * 1)))) f_16 (by kernel_rfl) (by kernel_rfl) rfl rfl (X_indexAddrA e_2 rfl (len := (l.getD i []).length) (cap := cap_1) (k := .i64) (i := (j : Int)) (by kernel_rfl) (by kernel_rfl) (e := 3) (by kernel_rfl) (sz := 1) (by kernel_rfl) (by omega) (by omega)) (fun a_15 f_17 => ?_)
     refine W_eq (v := .int .i64 ((l.getD i []).getD j 0)) f_17 (by kernel_rfl) (by kernel_rfl) rfl rfl (X_load1 (v := .int .i64 ((l.getD i []).getD j 0)) rfl (ad := ad_2.add ((j : Int).toNat * 1)) (by kernel_rfl) (by kernel_rfl) (p_4.cell hc_2)) (fun a_16 f_18 => ?_)
     refine W_run (L' := [(0, .slice A l.length cap), (3, .slice (some ⟨b_1, 0, none⟩) l.length l.length), (4, .int .i64 (i : Int)), (7, .int .i64 ((l.getD i []).getD j 0)), (14, .slice A l.length cap), (15, .int .i64 ((l.length : Nat) : Int)), (16, .int .i64 (i : Int)), (21, .slice B_1 (l.getD i []).length cap_1), (22, .int .i64 (((l.getD i []).length : Nat) : Int)), (23, .int .i64 (j : Int))]) (w' := w_3) f_18 1 [0, 3, 4, 7, 14, 15, 16, 21, 22, 23] (by kernel_rfl) (fun a_17 f_19 => ?_)
     refine W_end rfl ?_
     refine T_n ?_
     refine R_seq ?_
     refine R_seq ?_
     refine R_mid (fun a_18 w_4 => Frm 68 [(0, .slice A l.length cap), (3, .slice (some ⟨b_1, 0, none⟩) l.length l.length), (4, .int .i64 (i : Int)), (7, .int .i64 ((l.getD i []).getD j 0)), (14, .slice A l.length cap), (15, .int .i64 ((l.length : Nat) : Int)), (16, .int .i64 (i : Int)), (21, .slice B_1 (l.getD i []).length cap_1), (22, .int .i64 (((l.getD i []).length : Nat) : Int)), (23, .int .i64 (j : Int)), (34, .bool ((decide (((l.getD i []).getD j 0) < 0)) || (decide (((l.length : Nat) : Int) ≤ ((l.getD i []).getD j 0)))))] a_18 ∧ Hp w0 M_2 ((Ent.obj b_1 (.cells (G.map hdOf).toArray 59 (0, 0))) :: (bag (Value.int .i64) G ++ H)) w_4) ?_ ?_
     ·refine R_reg ?_
      refine W_run (L' := [(0, .slice A l.length cap), (3, .slice (some ⟨b_1, 0, none⟩) l.length l.length), (4, .int .i64 (i : Int)), (7, .int .i64 ((l.getD i []).getD j 0)), (14, .slice A l.length cap), (15, .int .i64 ((l.length : Nat) : Int)), (16, .int .i64 (i : Int)), (21, .slice B_1 (l.getD i []).length cap_1), (22, .int .i64 (((l.getD i []).length : Nat) : Int)), (23, .int .i64 (j : Int)), (29, .bool (decide (((l.getD i []).getD j 0) < 0)))]) (w' := w_3) f_19 3 [0, 3, 4, 7, 14, 15, 16, 21, 22, 23, 29] (by kernel_rfl) (fun a_19 f_21 => ?_)
      rcases Bool.eq_false_or_eq_true (decide (((l.getD i []).getD j 0) < 0)) with h_3 | h_3
      ·have k_3 : ((l.getD i []).getD j 0) < 0 := decide_eq_true_iff.1 h_3
       have f_22 := Frm.set f_21 29 (v := .bool (decide (((l.getD i []).getD j 0) < 0))) (v' := .bool true) (by kernel_rfl) (congrArg Value.bool h_3)
       have f_23 : Frm 68 [(0, .slice A l.length cap), (3, .slice (some ⟨b_1, 0, none⟩) l.length l.length), (4, .int .i64 (i : Int)), (7, .int .i64 ((l.getD i []).getD j 0)), (14, .slice A l.length cap), (15, .int .i64 ((l.length : Nat) : Int)), (16, .int .i64 (i : Int)), (21, .slice B_1 (l.getD i []).length cap_1), (22, .int .i64 (((l.getD i []).length : Nat) : Int)), (23, .int .i64 (j : Int)), (29, .bool true)] a_19 := f_22.keep (ks := [0, 3, 4, 7, 14, 15, 16, 21, 22, 23, 29]) (by kernel_rfl)
       refine W_run (L' := [(0, .slice A l.length cap), (3, .slice (some ⟨b_1, 0, none⟩) l.length l.length), (4, .int .i64 (i : Int)), (7, .int .i64 ((l.getD i []).getD j 0)), (14, .slice A l.length cap), (15, .int .i64 ((l.length : Nat) : Int)), (16, .int .i64 (i : Int)), (21, .slice B_1 (l.getD i []).length cap_1), (22, .int .i64 (((l.getD i []).length : Nat) : Int)), (23, .int .i64 (j : Int)), (34, .bool true)]) (w' := w_3) f_23 5 [0, 3, 4, 7, 14, 15, 16, 21, 22, 23, 34] (by kernel_rfl) (fun a_20 f_24 => ?_)
       refine W_end rfl ?_
       refine T_n ?_
       have f_25 := Frm.set f_24 34 (v := .bool true) (v' := .bool ((decide (((l.getD i []).getD j 0) < 0)) || (decide (((l.length : Nat) : Int) ≤ ((l.getD i []).getD j 0))))) (by kernel_rfl) (by simp only [h_3, Bool.and_true, Bool.true_and, Bool.false_and, Bool.and_false, Bool.or_true, Bool.true_or, Bool.or_false, Bool.false_or, Bool.not_true, Bool.not_false, cond_true, cond_false])
       exact ⟨f_25.keep (ks := [0, 3, 4, 7, 14, 15, 16, 21, 22, 23, 34]) (by kernel_rfl), p_4⟩
      ·have k_4 : ¬ (((l.getD i []).getD j 0) < 0) := iff_f decide_eq_true_iff h_3
       have f_26 := Frm.set f_21 29 (v := .bool (decide (((l.getD i []).getD j 0) < 0))) (v' := .bool false) (by kernel_rfl) (congrArg Value.bool h_3)
       have f_27 : Frm 68 [(0, .slice A l.length cap), (3, .slice (some ⟨b_1, 0, none⟩) l.length l.length), (4, .int .i64 (i : Int)), (7, .int .i64 ((l.getD i []).getD j 0)), (14, .slice A l.length cap), (15, .int .i64 ((l.length : Nat) : Int)), (16, .int .i64 (i : Int)), (21, .slice B_1 (l.getD i []).length cap_1), (22, .int .i64 (((l.getD i []).length : Nat) : Int)), (23, .int .i64 (j : Int)), (29, .bool false)] a_19 := f_26.keep (ks := [0, 3, 4, 7, 14, 15, 16, 21, 22, 23, 29]) (by kernel_rfl)
       refine W_run (L' := [(0, .slice A l.length cap), (3, .slice (some ⟨b_1, 0, none⟩) l.length l.length), (4, .int .i64 (i : Int)), (7, .int .i64 ((l.getD i []).getD j 0)), (14, .slice A l.length cap), (15, .int .i64 ((l.length : Nat) : Int)), (16, .int .i64 (i : Int)), (21, .slice B_1 (l.getD i []).length cap_1), (22, .int .i64 (((l.getD i []).length : Nat) : Int)), (23, .int .i64 (j : Int)), (34, .bool (decide (((l.length : Nat) : Int) ≤ ((l.getD i []).getD j 0))))]) (w' := w_3) f_27 5 [0, 3, 4, 7, 14, 15, 16, 21, 22, 23, 34] (by kernel_rfl) (fun a_21 f_28 => ?_)
       refine W_end rfl ?_
       refine T_n ?_
       have f_29 := Frm.set f_28 34 (v := .bool (decide (((l.length : Nat) : Int) ≤ ((l.getD i []).getD j 0)))) (v' := .bool ((decide (((l.getD i []).getD j 0) < 0)) || (decide (((l.length : Nat) : Int) ≤ ((l.getD i []).getD j 0))))) (by kernel_rfl) (by simp only [h_3, Bool.and_true, Bool.true_and, Bool.false_and, Bool.and_false, Bool.or_true, Bool.true_or, Bool.or_false, Bool.false_or, Bool.not_true, Bool.not_false, cond_true, cond_false])
       exact ⟨f_29.keep (ks := [0, 3, 4, 7, 14, 15, 16, 21, 22, 23, 34]) (by kernel_rfl), p_4⟩
     ·rintro a_18 w_4 ⟨f_20, p_5⟩
      refine T_n ?_
      refine R_cond f_20 (b := (decide (((l.getD i []).getD j 0) < 0)) || (decide (((l.length : Nat) : Int) ≤ ((l.getD i []).getD j 0)))) (by kernel_rfl) (by kernel_rfl) (fun h_4 => ?_) (fun h_4 => ?_)
      ·have k_5 : (((l.getD i []).getD j 0) < 0) ∨ (((l.length : Nat) : Int) ≤ ((l.getD i []).getD j 0)) := (or_iff decide_eq_true_iff decide_eq_true_iff).1 h_4
       refine wp_exit ?_
       refine T_x ?_
       refine B_x ?_
       refine T_n ?_
       refine R_reg ?_
       refine W_run (L' := [(0, .slice A l.length cap), (3, .slice (some ⟨b_1, 0, none⟩) l.length l.length), (4, .int .i64 (i : Int)), (7, .int .i64 ((l.getD i []).getD j 0)), (14, .slice A l.length cap), (15, .int .i64 ((l.length : Nat) : Int)), (16, .int .i64 (i : Int)), (21, .slice B_1 (l.getD i []).length cap_1), (22, .int .i64 (((l.getD i []).length : Nat) : Int)), (23, .int .i64 (j : Int)), (34, .bool ((decide (((l.getD i []).getD j 0) < 0)) || (decide (((l.length : Nat) : Int) ≤ ((l.getD i []).getD j 0))))), (49, .int .i64 (IntKind.wrap .i64 ((j : Int) + 1)))]) (w' := w_4) f_20 1 [0, 3, 4, 7, 14, 15, 16, 21, 22, 23, 34, 49] (by kernel_rfl) (fun a_22 f_30 => ?_)
       have f_31 := Frm.set f_30 49 (v := .int .i64 (IntKind.wrap .i64 ((j : Int) + 1))) (v' := .int .i64 ((j : Int) + 1)) (by kernel_rfl) (congrArg (Value.int .i64) (IntWalk.i64_in _ (by omega)))
       have f_32 : Frm 68 [(0, .slice A l.length cap), (3, .slice (some ⟨b_1, 0, none⟩) l.length l.length), (4, .int .i64 (i : Int)), (7, .int .i64 ((l.getD i []).getD j 0)), (14, .slice A l.length cap), (15, .int .i64 ((l.length : Nat) : Int)), (16, .int .i64 (i : Int)), (21, .slice B_1 (l.getD i []).length cap_1), (22, .int .i64 (((l.getD i []).length : Nat) : Int)), (23, .int .i64 (j : Int)), (34, .bool ((decide (((l.getD i []).getD j 0) < 0)) || (decide (((l.length : Nat) : Int) ≤ ((l.getD i []).getD j 0))))), (49, .int .i64 ((j : Int) + 1))] a_22 := f_31.keep (ks := [0, 3, 4, 7, 14, 15, 16, 21, 22, 23, 34, 49]) (by kernel_rfl)
       refine W_run (L' := [(0, .slice A l.length cap), (3, .slice (some ⟨b_1, 0, none⟩) l.length l.length), (4, .int .i64 (i : Int)), (14, .slice A l.length cap), (15, .int .i64 ((l.length : Nat) : Int)), (16, .int .i64 (i : Int)), (21, .slice B_1 (l.getD i []).length cap_1), (22, .int .i64 (((l.getD i []).length : Nat) : Int)), (23, .int .i64 ((j : Int) + 1))]) (w' := w_4) f_32 1 [0, 3, 4, 14, 15, 16, 21, 22, 23] (by kernel_rfl) (fun a_23 f_33 => ?_)
       refine W_end rfl ?_
       refine T_n ?_
       have f_34 := Frm.set f_33 23 (v := .int .i64 ((j : Int) + 1)) (v' := .int .i64 ((j + 1) : Int)) (by kernel_rfl) (by first | rfl | (congr 1; omega) | simp)
       refine ⟨((j + 1, G) : Nat × MapRow Int), ?_, M_2, hM_2, ?_, f_34.keep (ks := [0, 3, 4, 14, 15, 16, 21, 22, 23]) (by kernel_rfl), p_5⟩
       ·show (l.getD i []).length - (j + 1) < (l.getD i []).length - j; omega
       ·exact ⟨by omega, hT2.skip (by omega) (by omega)⟩
      ·have k_6 : ¬ ((((l.getD i []).getD j 0) < 0) ∨ (((l.length : Nat) : Int) ≤ ((l.getD i []).getD j 0))) := iff_f (or_iff decide_eq_true_iff decide_eq_true_iff) h_4
       refine wp_skip ?_
       refine T_n ?_
       refine R_seq ?_
       refine R_seq ?_
       refine R_reg ?_
       refine W_run (L' := [(0, .slice A l.length cap), (3, .slice (some ⟨b_1, 0, none⟩) l.length l.length), (4, .int .i64 (i : Int)), (7, .int .i64 ((l.getD i []).getD j 0)), (14, .slice A l.length cap), (15, .int .i64 ((l.length : Nat) : Int)), (16, .int .i64 (i : Int)), (21, .slice B_1 (l.getD i []).length cap_1), (22, .int .i64 (((l.getD i []).length : Nat) : Int)), (23, .int .i64 (j : Int)), (35, .slice (some ⟨b_1, 0, none⟩) l.length l.length), (36, .int .i64 ((l.getD i []).getD j 0))]) (w' := w_4) f_20 2 [0, 3, 4, 7, 14, 15, 16, 21, 22, 23, 35, 36] (by kernel_rfl) (fun a_24 f_35 => ?_)
       refine W_eq (v := .pointer (some ((⟨b_1, 0, none⟩ : Addr).add (((l.getD i []).getD j 0).toNat * 1)))) f_35 (by kernel_rfl) (by kernel_rfl) rfl rfl (X_indexAddr rfl (ad := ⟨b_1, 0, none⟩) (len := l.length) (cap := l.length) (k := .i64) (i := (l.getD i []).getD j 0) (by kernel_rfl) (by kernel_rfl) (e := 59) (by kernel_rfl) (sz := 1) (by kernel_rfl) (by omega) (by omega)) (fun a_25 f_36 => ?_)
       have f_37 := Frm.set f_36 37 (v := .pointer (some ((⟨b_1, 0, none⟩ : Addr).add (((l.getD i []).getD j 0).toNat * 1)))) (v' := .pointer (some (⟨b_1, ((l.getD i []).getD j 0).toNat, none⟩))) (by kernel_rfl) (congrArg (fun a => Value.pointer (some a)) (by rw [Nat.mul_one, Addr.add_lit]; simp))
       have f_38 : Frm 68 [(0, .slice A l.length cap), (3, .slice (some ⟨b_1, 0, none⟩) l.length l.length), (4, .int .i64 (i : Int)), (7, .int .i64 ((l.getD i []).getD j 0)), (14, .slice A l.length cap), (15, .int .i64 ((l.length : Nat) : Int)), (16, .int .i64 (i : Int)), (21, .slice B_1 (l.getD i []).length cap_1), (22, .int .i64 (((l.getD i []).length : Nat) : Int)), (23, .int .i64 (j : Int)), (35, .slice (some ⟨b_1, 0, none⟩) l.length l.length), (36, .int .i64 ((l.getD i []).getD j 0)), (37, .pointer (some (⟨b_1, ((l.getD i []).getD j 0).toNat, none⟩)))] a_25 := f_37.keep (ks := [0, 3, 4, 7, 14, 15, 16, 21, 22, 23, 35, 36, 37]) (by kernel_rfl)
       refine W_eq (v := hdOf (G.getD ((l.getD i []).getD j 0).toNat none)) f_38 (by kernel_rfl) (by kernel_rfl) rfl rfl (X_load1 (v := hdOf (G.getD ((l.getD i []).getD j 0).toNat none)) rfl (ad := ⟨b_1, ((l.getD i []).getD j 0).toNat, none⟩) (by kernel_rfl) (by kernel_rfl) (gotCell p_5 0 rfl (by omega))) (fun a_26 f_39 => ?_)
       refine W_eq (v := .bool (G.getD ((l.getD i []).getD j 0).toNat none).isNone) f_39 (by kernel_rfl) (by kernel_rfl) rfl rfl (X_mapnil (g := G.getD ((l.getD i []).getD j 0).toNat none) (kt := 3) (et := 4) rfl (by kernel_rfl) (by kernel_rfl) (by kernel_rfl) _) (fun a_27 f_40 => ?_)
       refine W_end rfl ?_
       refine T_n ?_
       refine R_cond f_40 (b := (G.getD ((l.getD i []).getD j 0).toNat none).isNone) (by kernel_rfl) (by kernel_rfl) (fun h_5 => ?_) (fun h_5 => ?_)
       ·have hgn : G.getD ((l.getD i []).getD j 0).toNat none = none := Option.isNone_iff_eq_none.1 h_5
        refine R_reg ?_
        refine W_run (L' := [(0, .slice A l.length cap), (3, .slice (some ⟨b_1, 0, none⟩) l.length l.length), (4, .int .i64 (i : Int)), (7, .int .i64 ((l.getD i []).getD j 0)), (14, .slice A l.length cap), (15, .int .i64 ((l.length : Nat) : Int)), (16, .int .i64 (i : Int)), (21, .slice B_1 (l.getD i []).length cap_1), (22, .int .i64 (((l.getD i []).length : Nat) : Int)), (23, .int .i64 (j : Int)), (40, .slice (some ⟨b_1, 0, none⟩) l.length l.length), (41, .int .i64 ((l.getD i []).getD j 0))]) (w' := w_4) f_40 2 [0, 3, 4, 7, 14, 15, 16, 21, 22, 23, 40, 41] (by kernel_rfl) (fun a_28 f_41 => ?_)
        refine W_makeMap (Value.int .i64) f_41 p_5 (by kernel_rfl) (by kernel_rfl) rfl rfl rfl (fun bn_1 w_5 p_6 a_29 f_42 => ?_)
        refine W_eq (v := .pointer (some ((⟨b_1, 0, none⟩ : Addr).add (((l.getD i []).getD j 0).toNat * 1)))) f_42 (by kernel_rfl) (by kernel_rfl) rfl rfl (X_indexAddr rfl (ad := ⟨b_1, 0, none⟩) (len := l.length) (cap := l.length) (k := .i64) (i := (l.getD i []).getD j 0) (by kernel_rfl) (by kernel_rfl) (e := 59) (by kernel_rfl) (sz := 1) (by kernel_rfl) (by omega) (by omega)) (fun a_30 f_43 => ?_)
        have f_44 := Frm.set f_43 43 (v := .pointer (some ((⟨b_1, 0, none⟩ : Addr).add (((l.getD i []).getD j 0).toNat * 1)))) (v' := .pointer (some (⟨b_1, ((l.getD i []).getD j 0).toNat, none⟩))) (by kernel_rfl) (congrArg (fun a => Value.pointer (some a)) (by rw [Nat.mul_one, Addr.add_lit]; simp))
        have f_45 : Frm 68 [(0, .slice A l.length cap), (3, .slice (some ⟨b_1, 0, none⟩) l.length l.length), (4, .int .i64 (i : Int)), (7, .int .i64 ((l.getD i []).getD j 0)), (14, .slice A l.length cap), (15, .int .i64 ((l.length : Nat) : Int)), (16, .int .i64 (i : Int)), (21, .slice B_1 (l.getD i []).length cap_1), (22, .int .i64 (((l.getD i []).length : Nat) : Int)), (23, .int .i64 (j : Int)), (40, .slice (some ⟨b_1, 0, none⟩) l.length l.length), (41, .int .i64 ((l.getD i []).getD j 0)), (42, .map (some bn_1)), (43, .pointer (some (⟨b_1, ((l.getD i []).getD j 0).toNat, none⟩)))] a_30 := f_44.keep (ks := [0, 3, 4, 7, 14, 15, 16, 21, 22, 23, 40, 41, 42, 43]) (by kernel_rfl)
        refine W_store1 f_45 p_6 1 (by kernel_rfl) (by kernel_rfl) rfl rfl (b := b_1) (j := ((l.getD i []).getD j 0).toNat) (v := .map (some bn_1)) (by kernel_rfl) (by kernel_rfl) rfl (by kernel_rfl) (by exact rfl) (by simp only [List.size_toArray, List.length_map]; omega) (by omega) ((Ent.obj bn_1 (mObj (Value.int .i64) [])) :: ((Ent.obj b_1 (.cells ((G.map hdOf).toArray.setIfInBounds ((l.getD i []).getD j 0).toNat (.map (some bn_1))) 59 (0, 0))) :: (bag (Value.int .i64) G ++ H))) rfl (fun w_6 p_7 a_31 f_46 => ?_)
        have p_8 : Hp w0 M_2 ((Ent.obj b_1 (.cells ((G.set ((l.getD i []).getD j 0).toNat (some (bn_1, []))).map hdOf).toArray 59 (0, 0))) :: (bag (Value.int .i64) (G.set ((l.getD i []).getD j 0).toNat (some (bn_1, []))) ++ H)) w_6 := Hp.bagNew p_7 (by omega) hgn
        have hg : (G.set ((l.getD i []).getD j 0).toNat (some (bn_1, []))).getD ((l.getD i []).getD j 0).toNat none = some (bn_1, []) := Vc.getD_set_self (by omega)
        refine W_end rfl ?_
        refine T_n ?_
        refine R_reg ?_
        refine W_run (L' := [(0, .slice A l.length cap), (3, .slice (some ⟨b_1, 0, none⟩) l.length l.length), (4, .int .i64 (i : Int)), (14, .slice A l.length cap), (15, .int .i64 ((l.length : Nat) : Int)), (16, .int .i64 (i : Int)), (21, .slice B_1 (l.getD i []).length cap_1), (22, .int .i64 (((l.getD i []).length : Nat) : Int)), (23, .int .i64 (j : Int)), (44, .slice (some ⟨b_1, 0, none⟩) l.length l.length), (45, .int .i64 ((l.getD i []).getD j 0))]) (w' := w_6) f_46 2 [0, 3, 4, 14, 15, 16, 21, 22, 23, 44, 45] (by kernel_rfl) (fun a_32 f_47 => ?_)
        refine W_eq (v := .pointer (some ((⟨b_1, 0, none⟩ : Addr).add (((l.getD i []).getD j 0).toNat * 1)))) f_47 (by kernel_rfl) (by kernel_rfl) rfl rfl (X_indexAddr rfl (ad := ⟨b_1, 0, none⟩) (len := l.length) (cap := l.length) (k := .i64) (i := (l.getD i []).getD j 0) (by kernel_rfl) (by kernel_rfl) (e := 59) (by kernel_rfl) (sz := 1) (by kernel_rfl) (by omega) (by omega)) (fun a_33 f_48 => ?_)
        have f_49 := Frm.set f_48 46 (v := .pointer (some ((⟨b_1, 0, none⟩ : Addr).add (((l.getD i []).getD j 0).toNat * 1)))) (v' := .pointer (some (⟨b_1, ((l.getD i []).getD j 0).toNat, none⟩))) (by kernel_rfl) (congrArg (fun a => Value.pointer (some a)) (by rw [Nat.mul_one, Addr.add_lit]; simp))
        have f_50 : Frm 68 [(0, .slice A l.length cap), (3, .slice (some ⟨b_1, 0, none⟩) l.length l.length), (4, .int .i64 (i : Int)), (14, .slice A l.length cap), (15, .int .i64 ((l.length : Nat) : Int)), (16, .int .i64 (i : Int)), (21, .slice B_1 (l.getD i []).length cap_1), (22, .int .i64 (((l.getD i []).length : Nat) : Int)), (23, .int .i64 (j : Int)), (44, .slice (some ⟨b_1, 0, none⟩) l.length l.length), (45, .int .i64 ((l.getD i []).getD j 0)), (46, .pointer (some (⟨b_1, ((l.getD i []).getD j 0).toNat, none⟩)))] a_33 := f_49.keep (ks := [0, 3, 4, 14, 15, 16, 21, 22, 23, 44, 45, 46]) (by kernel_rfl)
        refine W_eq (v := .map (some bn_1)) f_50 (by kernel_rfl) (by kernel_rfl) rfl rfl (X_load1 (v := .map (some bn_1)) rfl (ad := ⟨b_1, ((l.getD i []).getD j 0).toNat, none⟩) (by kernel_rfl) (by kernel_rfl) ((gotCell p_8 0 rfl (by first | omega | (simp only [List.length_set]; omega))).trans (by rw [hg]; rfl))) (fun a_34 f_51 => ?_)
        refine W_run (L' := [(0, .slice A l.length cap), (3, .slice (some ⟨b_1, 0, none⟩) l.length l.length), (4, .int .i64 (i : Int)), (14, .slice A l.length cap), (15, .int .i64 ((l.length : Nat) : Int)), (16, .int .i64 (i : Int)), (21, .slice B_1 (l.getD i []).length cap_1), (22, .int .i64 (((l.getD i []).length : Nat) : Int)), (23, .int .i64 (j : Int)), (47, .map (some bn_1)), (48, .int .i64 (i : Int))]) (w' := w_6) f_51 1 [0, 3, 4, 14, 15, 16, 21, 22, 23, 47, 48] (by kernel_rfl) (fun a_35 f_52 => ?_)
        refine W_bagUpdate (enc := (Value.int .i64)) (kt := 3) (et := 4) (k := (i : Int)) (v := .bool true) f_52 p_8 hg (by kernel_rfl) (by kernel_rfl) rfl (.inl rfl) (by kernel_rfl) (by kernel_rfl) (by kernel_rfl) (by kernel_rfl) (intKey (k := .i64) (by kernel_rfl)) (fun w_7 p_9 a_36 f_53 => ?_)
        refine W_end rfl ?_
        refine B_n ?_
        refine T_n ?_
        refine R_reg ?_
        refine W_run (L' := [(0, .slice A l.length cap), (3, .slice (some ⟨b_1, 0, none⟩) l.length l.length), (4, .int .i64 (i : Int)), (14, .slice A l.length cap), (15, .int .i64 ((l.length : Nat) : Int)), (16, .int .i64 (i : Int)), (21, .slice B_1 (l.getD i []).length cap_1), (22, .int .i64 (((l.getD i []).length : Nat) : Int)), (23, .int .i64 (j : Int)), (47, .map (some bn_1)), (48, .int .i64 (i : Int)), (49, .int .i64 (IntKind.wrap .i64 ((j : Int) + 1)))]) (w' := w_7) f_53 1 [0, 3, 4, 14, 15, 16, 21, 22, 23, 47, 48, 49] (by kernel_rfl) (fun a_37 f_54 => ?_)
        have f_55 := Frm.set f_54 49 (v := .int .i64 (IntKind.wrap .i64 ((j : Int) + 1))) (v' := .int .i64 ((j : Int) + 1)) (by kernel_rfl) (congrArg (Value.int .i64) (IntWalk.i64_in _ (by omega)))
        have f_56 : Frm 68 [(0, .slice A l.length cap), (3, .slice (some ⟨b_1, 0, none⟩) l.length l.length), (4, .int .i64 (i : Int)), (14, .slice A l.length cap), (15, .int .i64 ((l.length : Nat) : Int)), (16, .int .i64 (i : Int)), (21, .slice B_1 (l.getD i []).length cap_1), (22, .int .i64 (((l.getD i []).length : Nat) : Int)), (23, .int .i64 (j : Int)), (47, .map (some bn_1)), (48, .int .i64 (i : Int)), (49, .int .i64 ((j : Int) + 1))] a_37 := f_55.keep (ks := [0, 3, 4, 14, 15, 16, 21, 22, 23, 47, 48, 49]) (by kernel_rfl)
        refine W_run (L' := [(0, .slice A l.length cap), (3, .slice (some ⟨b_1, 0, none⟩) l.length l.length), (4, .int .i64 (i : Int)), (14, .slice A l.length cap), (15, .int .i64 ((l.length : Nat) : Int)), (16, .int .i64 (i : Int)), (21, .slice B_1 (l.getD i []).length cap_1), (22, .int .i64 (((l.getD i []).length : Nat) : Int)), (23, .int .i64 ((j : Int) + 1))]) (w' := w_7) f_56 1 [0, 3, 4, 14, 15, 16, 21, 22, 23] (by kernel_rfl) (fun a_38 f_57 => ?_)
        refine W_end rfl ?_
        refine T_n ?_
        have f_58 := Frm.set f_57 23 (v := .int .i64 ((j : Int) + 1)) (v' := .int .i64 ((j + 1) : Int)) (by kernel_rfl) (by first | rfl | (congr 1; omega) | simp)
        refine ⟨((j + 1, (G.set ((l.getD i []).getD j 0).toNat (some (bn_1, []))).set ((l.getD i []).getD j 0).toNat (some (bn_1, updM [] (i : Int) (.bool true)))) : Nat × MapRow Int), ?_, M_2, hM_2, ?_, f_58.keep (ks := [0, 3, 4, 14, 15, 16, 21, 22, 23]) (by kernel_rfl), p_9⟩
        ·show (l.getD i []).length - (j + 1) < (l.getD i []).length - j; omega
        ·exact ⟨by omega, hT2.put (by omega) (by omega) (by simp) (fun k hk => by rw [Vc.getD_set_ne hk, Vc.getD_set_ne hk]) (by rw [Vc.getD_set_self (by simp only [List.length_set]; omega), hgn]; exact keys_upd [] _ _)⟩
       ·refine wp_skip ?_
        refine T_n ?_
        obtain ⟨bo, mo, hg⟩ : ∃ b m, G.getD ((l.getD i []).getD j 0).toNat none = some (b, m) := by
         cases hq : G.getD ((l.getD i []).getD j 0).toNat none with
         | none => rw [hq] at h_5; cases h_5
         | some q => exact ⟨q.1, q.2, rfl⟩
        refine R_reg ?_
        refine W_run (L' := [(0, .slice A l.length cap), (3, .slice (some ⟨b_1, 0, none⟩) l.length l.length), (4, .int .i64 (i : Int)), (14, .slice A l.length cap), (15, .int .i64 ((l.length : Nat) : Int)), (16, .int .i64 (i : Int)), (21, .slice B_1 (l.getD i []).length cap_1), (22, .int .i64 (((l.getD i []).length : Nat) : Int)), (23, .int .i64 (j : Int)), (44, .slice (some ⟨b_1, 0, none⟩) l.length l.length), (45, .int .i64 ((l.getD i []).getD j 0))]) (w' := w_4) f_40 2 [0, 3, 4, 14, 15, 16, 21, 22, 23, 44, 45] (by kernel_rfl) (fun a_39 f_59 => ?_)
        refine W_eq (v := .pointer (some ((⟨b_1, 0, none⟩ : Addr).add (((l.getD i []).getD j 0).toNat * 1)))) f_59 (by kernel_rfl) (by kernel_rfl) rfl rfl (X_indexAddr rfl (ad := ⟨b_1, 0, none⟩) (len := l.length) (cap := l.length) (k := .i64) (i := (l.getD i []).getD j 0) (by kernel_rfl) (by kernel_rfl) (e := 59) (by kernel_rfl) (sz := 1) (by kernel_rfl) (by omega) (by omega)) (fun a_40 f_60 => ?_)
        have f_61 := Frm.set f_60 46 (v := .pointer (some ((⟨b_1, 0, none⟩ : Addr).add (((l.getD i []).getD j 0).toNat * 1)))) (v' := .pointer (some (⟨b_1, ((l.getD i []).getD j 0).toNat, none⟩))) (by kernel_rfl) (congrArg (fun a => Value.pointer (some a)) (by rw [Nat.mul_one, Addr.add_lit]; simp))
        have f_62 : Frm 68 [(0, .slice A l.length cap), (3, .slice (some ⟨b_1, 0, none⟩) l.length l.length), (4, .int .i64 (i : Int)), (14, .slice A l.length cap), (15, .int .i64 ((l.length : Nat) : Int)), (16, .int .i64 (i : Int)), (21, .slice B_1 (l.getD i []).length cap_1), (22, .int .i64 (((l.getD i []).length : Nat) : Int)), (23, .int .i64 (j : Int)), (44, .slice (some ⟨b_1, 0, none⟩) l.length l.length), (45, .int .i64 ((l.getD i []).getD j 0)), (46, .pointer (some (⟨b_1, ((l.getD i []).getD j 0).toNat, none⟩)))] a_40 := f_61.keep (ks := [0, 3, 4, 14, 15, 16, 21, 22, 23, 44, 45, 46]) (by kernel_rfl)
        refine W_eq (v := .map (some bo)) f_62 (by kernel_rfl) (by kernel_rfl) rfl rfl (X_load1 (v := .map (some bo)) rfl (ad := ⟨b_1, ((l.getD i []).getD j 0).toNat, none⟩) (by kernel_rfl) (by kernel_rfl) ((gotCell p_5 0 rfl (by first | omega | (simp only [List.length_set]; omega))).trans (by rw [hg]; rfl))) (fun a_41 f_63 => ?_)
        refine W_run (L' := [(0, .slice A l.length cap), (3, .slice (some ⟨b_1, 0, none⟩) l.length l.length), (4, .int .i64 (i : Int)), (14, .slice A l.length cap), (15, .int .i64 ((l.length : Nat) : Int)), (16, .int .i64 (i : Int)), (21, .slice B_1 (l.getD i []).length cap_1), (22, .int .i64 (((l.getD i []).length : Nat) : Int)), (23, .int .i64 (j : Int)), (47, .map (some bo)), (48, .int .i64 (i : Int))]) (w' := w_4) f_63 1 [0, 3, 4, 14, 15, 16, 21, 22, 23, 47, 48] (by kernel_rfl) (fun a_42 f_64 => ?_)
        refine W_bagUpdate (enc := (Value.int .i64)) (kt := 3) (et := 4) (k := (i : Int)) (v := .bool true) f_64 p_5 hg (by kernel_rfl) (by kernel_rfl) rfl (.inl rfl) (by kernel_rfl) (by kernel_rfl) (by kernel_rfl) (by kernel_rfl) (intKey (k := .i64) (by kernel_rfl)) (fun w_8 p_10 a_43 f_65 => ?_)
        refine W_end rfl ?_
        refine B_n ?_
        refine T_n ?_
        refine R_reg ?_
        refine W_run (L' := [(0, .slice A l.length cap), (3, .slice (some ⟨b_1, 0, none⟩) l.length l.length), (4, .int .i64 (i : Int)), (14, .slice A l.length cap), (15, .int .i64 ((l.length : Nat) : Int)), (16, .int .i64 (i : Int)), (21, .slice B_1 (l.getD i []).length cap_1), (22, .int .i64 (((l.getD i []).length : Nat) : Int)), (23, .int .i64 (j : Int)), (47, .map (some bo)), (48, .int .i64 (i : Int)), (49, .int .i64 (IntKind.wrap .i64 ((j : Int) + 1)))]) (w' := w_8) f_65 1 [0, 3, 4, 14, 15, 16, 21, 22, 23, 47, 48, 49] (by kernel_rfl) (fun a_44 f_66 => ?_)
        have f_67 := Frm.set f_66 49 (v := .int .i64 (IntKind.wrap .i64 ((j : Int) + 1))) (v' := .int .i64 ((j : Int) + 1)) (by kernel_rfl) (congrArg (Value.int .i64) (IntWalk.i64_in _ (by omega)))
        have f_68 : Frm 68 [(0, .slice A l.length cap), (3, .slice (some ⟨b_1, 0, none⟩) l.length l.length), (4, .int .i64 (i : Int)), (14, .slice A l.length cap), (15, .int .i64 ((l.length : Nat) : Int)), (16, .int .i64 (i : Int)), (21, .slice B_1 (l.getD i []).length cap_1), (22, .int .i64 (((l.getD i []).length : Nat) : Int)), (23, .int .i64 (j : Int)), (47, .map (some bo)), (48, .int .i64 (i : Int)), (49, .int .i64 ((j : Int) + 1))] a_44 := f_67.keep (ks := [0, 3, 4, 14, 15, 16, 21, 22, 23, 47, 48, 49]) (by kernel_rfl)
        refine W_run (L' := [(0, .slice A l.length cap), (3, .slice (some ⟨b_1, 0, none⟩) l.length l.length), (4, .int .i64 (i : Int)), (14, .slice A l.length cap), (15, .int .i64 ((l.length : Nat) : Int)), (16, .int .i64 (i : Int)), (21, .slice B_1 (l.getD i []).length cap_1), (22, .int .i64 (((l.getD i []).length : Nat) : Int)), (23, .int .i64 ((j : Int) + 1))]) (w' := w_8) f_68 1 [0, 3, 4, 14, 15, 16, 21, 22, 23] (by kernel_rfl) (fun a_45 f_69 => ?_)
        refine W_end rfl ?_
        refine T_n ?_
        have f_70 := Frm.set f_69 23 (v := .int .i64 ((j : Int) + 1)) (v' := .int .i64 ((j + 1) : Int)) (by kernel_rfl) (by first | rfl | (congr 1; omega) | simp)
        refine ⟨((j + 1, G.set ((l.getD i []).getD j 0).toNat (some (bo, updM mo (i : Int) (.bool true)))) : Nat × MapRow Int), ?_, M_2, hM_2, ?_, f_70.keep (ks := [0, 3, 4, 14, 15, 16, 21, 22, 23]) (by kernel_rfl), p_10⟩
        ·show (l.getD i []).length - (j + 1) < (l.getD i []).length - j; omega
        ·exact ⟨by omega, hT2.put (by omega) (by omega) (by simp) (fun k hk => Vc.getD_set_ne hk) (by rw [Vc.getD_set_self (by omega), hg]; exact keys_upd mo _ _)⟩
    ·have k_9 : ¬ ((j : Int) < (((l.getD i []).length : Nat) : Int)) := iff_f decide_eq_true_iff h_2
     refine wp_exit ?_
     refine T_x ?_
     refine T_x ?_
     refine B_x ?_
     refine B_n ?_
     refine T_n ?_
     refine R_reg ?_
     refine W_run (L' := [(0, .slice A l.length cap), (3, .slice (some ⟨b_1, 0, none⟩) l.length l.length), (4, .int .i64 (i : Int)), (14, .slice A l.length cap), (15, .int .i64 ((l.length : Nat) : Int)), (16, .int .i64 (i : Int)), (21, .slice B_1 (l.getD i []).length cap_1), (22, .int .i64 (((l.getD i []).length : Nat) : Int)), (23, .int .i64 (j : Int)), (24, .bool (decide ((j : Int) < (((l.getD i []).length : Nat) : Int)))), (50, .int .i64 (IntKind.wrap .i64 ((i : Int) + 1)))]) (w' := w_3) f_16 1 [0, 3, 4, 14, 15, 16, 21, 22, 23, 24, 50] (by kernel_rfl) (fun a_46 f_71 => ?_)
     have f_72 := Frm.set f_71 50 (v := .int .i64 (IntKind.wrap .i64 ((i : Int) + 1))) (v' := .int .i64 ((i : Int) + 1)) (by kernel_rfl) (congrArg (Value.int .i64) (IntWalk.i64_in _ (by omega)))
     have f_73 : Frm 68 [(0, .slice A l.length cap), (3, .slice (some ⟨b_1, 0, none⟩) l.length l.length), (4, .int .i64 (i : Int)), (14, .slice A l.length cap), (15, .int .i64 ((l.length : Nat) : Int)), (16, .int .i64 (i : Int)), (21, .slice B_1 (l.getD i []).length cap_1), (22, .int .i64 (((l.getD i []).length : Nat) : Int)), (23, .int .i64 (j : Int)), (24, .bool (decide ((j : Int) < (((l.getD i []).length : Nat) : Int)))), (50, .int .i64 ((i : Int) + 1))] a_46 := f_72.keep (ks := [0, 3, 4, 14, 15, 16, 21, 22, 23, 24, 50]) (by kernel_rfl)
     refine W_run (L' := [(0, .slice A l.length cap), (3, .slice (some ⟨b_1, 0, none⟩) l.length l.length), (14, .slice A l.length cap), (15, .int .i64 ((l.length : Nat) : Int)), (16, .int .i64 ((i : Int) + 1))]) (w' := w_3) f_73 1 [0, 3, 14, 15, 16] (by kernel_rfl) (fun a_47 f_74 => ?_)
     refine W_end rfl ?_
     refine T_n ?_
     have f_75 := Frm.set f_74 16 (v := .int .i64 ((i : Int) + 1)) (v' := .int .i64 ((i + 1) : Int)) (by kernel_rfl) (by first | rfl | (congr 1; omega) | simp)
     refine ⟨((i + 1, G) : Nat × MapRow Int), ?_, M_2, (hM_1.trans hM_2), ?_, f_75.keep (ks := [0, 3, 14, 15, 16]) (by kernel_rfl), p_4⟩
     ·show l.length - (i + 1) < l.length - i; omega
     ·exact ⟨by omega, hT2.row (by omega)⟩
  ·have k_10 : ¬ ((i : Int) < ((l.length : Nat) : Int)) := iff_f decide_eq_true_iff h_1
   refine wp_exit ?_
   refine T_x ?_
   refine T_x ?_
   refine B_x ?_
   refine T_n ?_
   refine R_seq ?_
   obtain ⟨kf_1, pf_1⟩ := p_3.freeze
   obtain ⟨M_3, hM_3, p_11, hbag_1⟩ := Hp.bagKnown pf_1
   have hgot_1 : ∀ k, k < l.length → M_3.cell? ⟨b_1, k, none⟩ = some (hdOf (G.getD k none)) := fun k hk => hM_3.cell (by rw [add_cell]; simp [List.getD, hGl, hk])
   have hie : i = l.length := by omega
   subst hie
   refine R_reg ?_
   refine W_run (L' := [(3, .slice (some ⟨b_1, 0, none⟩) l.length l.length), (52, .int .i64 ((l.length : Nat) : Int))]) (w' := w_2) f_8 2 [3, 52] (by kernel_rfl) (fun a_48 f_76 => ?_)
   refine W_make (m := l.length) (z := .slice none 0 0) (bytes := 24) (e := 47) f_76 p_11 (by kernel_rfl) (by kernel_rfl) rfl rfl rfl (by kernel_rfl) (by kernel_rfl) (by kernel_rfl) (by kernel_rfl) rfl (by omega) (by omega) (fun b_2 w_9 p_12 a_49 f_77 => ?_)
   refine W_run (L' := [(3, .slice (some ⟨b_1, 0, none⟩) l.length l.length), (8, .slice (some ⟨b_2, 0, none⟩) l.length l.length)]) (w' := w_9) f_77 1 [3, 8] (by kernel_rfl) (fun a_50 f_78 => ?_)
   refine W_end rfl ?_
   refine T_n ?_
   refine R_seq ?_
   refine R_seq ?_
   refine R_reg ?_
   refine W_run (L' := [(8, .slice (some ⟨b_2, 0, none⟩) l.length l.length), (54, .slice (some ⟨b_1, 0, none⟩) l.length l.length), (55, .int .i64 ((l.length : Nat) : Int)), (56, .int .i64 0)]) (w' := w_9) f_78 3 [8, 54, 55, 56] (by kernel_rfl) (fun a_51 f_79 => ?_)
   refine W_end rfl ?_
   refine T_n ?_
   refine wp_block ?_
   have f_80 := Frm.set f_79 56 (v := .int .i64 0) (v' := .int .i64 (0 : Int)) (by kernel_rfl) (by first | rfl | (congr 1; omega) | simp)
   refine R_loop (n := 68) (w0 := w0) (M := M_3) (fun (x : Nat × List Value) => match x with | (k, O) => [(8, .slice (some ⟨b_2, 0, none⟩) l.length l.length), (54, .slice (some ⟨b_1, 0, none⟩) l.length l.length), (55, .int .i64 ((l.length : Nat) : Int)), (56, .int .i64 (k : Int))]) (fun (x : Nat × List Value) => match x with | (k, O) => ((Ent.obj b_2 (.cells O.toArray 47 (0, 0))) :: H)) (fun (x : Nat × List Value) (M_4 : Mem) => match x with | (k, O) => (k ≤ l.length) ∧ (O.length = l.length) ∧ (∀ q, q < k → IntRow M_4 .i64 (O.getD q undef) ((turnedL l).getD q []))) (fun (x : Nat × List Value) => match x with | (k, O) => l.length - k) (0, List.replicate l.length (.slice none 0 0)) (f_80.keep (ks := [8, 54, 55, 56]) (by kernel_rfl)) p_12 ?_ ?_
   ·exact ⟨Nat.zero_le _, by simp, lt_zero⟩
   ·rintro ⟨k, O⟩ M_4 a_52 w_10 hM_4 I_3 f_81 p_13
    replace f_81 : Frm 68 [(8, .slice (some ⟨b_2, 0, none⟩) l.length l.length), (54, .slice (some ⟨b_1, 0, none⟩) l.length l.length), (55, .int .i64 ((l.length : Nat) : Int)), (56, .int .i64 (k : Int))] a_52 := f_81
    replace p_13 : Hp w0 M_4 ((Ent.obj b_2 (.cells O.toArray 47 (0, 0))) :: H) w_10 := p_13
    replace I_3 : (k ≤ l.length) ∧ (O.length = l.length) ∧ (∀ q, q < k → IntRow M_4 .i64 (O.getD q undef) ((turnedL l).getD q [])) := I_3
    obtain ⟨hk, hOl, hO⟩ := I_3
    refine R_seq ?_
    refine R_reg ?_
    refine W_run (L' := [(8, .slice (some ⟨b_2, 0, none⟩) l.length l.length), (54, .slice (some ⟨b_1, 0, none⟩) l.length l.length), (55, .int .i64 ((l.length : Nat) : Int)), (56, .int .i64 (k : Int)), (57, .bool (decide ((k : Int) < ((l.length : Nat) : Int))))]) (w' := w_10) f_81 1 [8, 54, 55, 56, 57] (by kernel_rfl) (fun a_53 f_82 => ?_)
    refine W_end rfl ?_
    refine T_n ?_
    refine R_seq ?_
    refine R_cond f_82 (b := decide ((k : Int) < ((l.length : Nat) : Int))) (by kernel_rfl) (by kernel_rfl) (fun h_6 => ?_) (fun h_6 => ?_)
    ·have k_11 : (k : Int) < ((l.length : Nat) : Int) := decide_eq_true_iff.1 h_6
     refine wp_skip ?_
     refine T_n ?_
     refine R_seq ?_
     refine wp_block ?_
     refine R_seq ?_
     refine R_reg ?_
     refine W_run (L' := [(8, .slice (some ⟨b_2, 0, none⟩) l.length l.length), (54, .slice (some ⟨b_1, 0, none⟩) l.length l.length), (55, .int .i64 ((l.length : Nat) : Int)), (56, .int .i64 (k : Int)), (58, .int .i64 (k : Int))]) (w' := w_10) f_82 1 [8, 54, 55, 56, 58] (by kernel_rfl) (fun a_54 f_83 => ?_)
     refine W_eq (v := .pointer (some ((⟨b_1, 0, none⟩ : Addr).add ((k : Int).toNat * 1)))) f_83 (by kernel_rfl) (by kernel_rfl) rfl rfl (X_indexAddr rfl (ad := ⟨b_1, 0, none⟩) (len := l.length) (cap := l.length) (k := .i64) (i := (k : Int)) (by kernel_rfl) (by kernel_rfl) (e := 59) (by kernel_rfl) (sz := 1) (by kernel_rfl) (by omega) (by omega)) (fun a_55 f_84 => ?_)
     have f_85 := Frm.set f_84 59 (v := .pointer (some ((⟨b_1, 0, none⟩ : Addr).add ((k : Int).toNat * 1)))) (v' := .pointer (some (⟨b_1, k, none⟩))) (by kernel_rfl) (congrArg (fun a => Value.pointer (some a)) (by rw [Nat.mul_one, Addr.add_lit]; simp))
     have f_86 : Frm 68 [(8, .slice (some ⟨b_2, 0, none⟩) l.length l.length), (54, .slice (some ⟨b_1, 0, none⟩) l.length l.length), (55, .int .i64 ((l.length : Nat) : Int)), (56, .int .i64 (k : Int)), (58, .int .i64 (k : Int)), (59, .pointer (some (⟨b_1, k, none⟩)))] a_55 := f_85.keep (ks := [8, 54, 55, 56, 58, 59]) (by kernel_rfl)
     refine W_eq (v := hdOf (G.getD k none)) f_86 (by kernel_rfl) (by kernel_rfl) rfl rfl (X_load1 (v := hdOf (G.getD k none)) rfl (ad := ⟨b_1, k, none⟩) (by kernel_rfl) (by kernel_rfl) (p_13.cell (hM_4.cell (hgot_1 _ (by omega))))) (fun a_56 f_87 => ?_)
     refine W_run (L' := [(8, .slice (some ⟨b_2, 0, none⟩) l.length l.length), (9, .int .i64 (k : Int)), (10, hdOf (G.getD k none)), (54, .slice (some ⟨b_1, 0, none⟩) l.length l.length), (55, .int .i64 ((l.length : Nat) : Int)), (56, .int .i64 (k : Int))]) (w' := w_10) f_87 2 [8, 9, 10, 54, 55, 56] (by kernel_rfl) (fun a_57 f_88 => ?_)
     refine W_end rfl ?_
     refine T_n ?_
     refine R_reg ?_
     refine W_run (L' := [(8, .slice (some ⟨b_2, 0, none⟩) l.length l.length), (54, .slice (some ⟨b_1, 0, none⟩) l.length l.length), (55, .int .i64 ((l.length : Nat) : Int)), (56, .int .i64 (k : Int)), (61, .slice (some ⟨b_2, 0, none⟩) l.length l.length), (62, .int .i64 (k : Int)), (63, hdOf (G.getD k none))]) (w' := w_10) f_88 3 [8, 54, 55, 56, 61, 62, 63] (by kernel_rfl) (fun a_58 f_89 => ?_)
     refine W_ok f_89 p_13 (by kernel_rfl) (by kernel_rfl) rfl rfl (fun _ => by kernel_rfl) (risingAny_ok _ (G.getD k none) (fun b m e => hM_4 _ _ (hbag_1 b m (memOf (by omega) e))) (Nat.le_trans (hT.len (by omega)) lL)) (fun v_1 M_5 w_11 hM_5 p_14 q_1 a_59 f_90 => ?_)
     obtain ⟨A_1, cap_2, rfl, hcap_2, hi_2, hnew_1⟩ := q_1
     refine W_eq (v := .pointer (some ((⟨b_2, 0, none⟩ : Addr).add ((k : Int).toNat * 1)))) f_90 (by kernel_rfl) (by kernel_rfl) rfl rfl (X_indexAddr rfl (ad := ⟨b_2, 0, none⟩) (len := l.length) (cap := l.length) (k := .i64) (i := (k : Int)) (by kernel_rfl) (by kernel_rfl) (e := 47) (by kernel_rfl) (sz := 1) (by kernel_rfl) (by omega) (by omega)) (fun a_60 f_91 => ?_)
     have f_92 := Frm.set f_91 65 (v := .pointer (some ((⟨b_2, 0, none⟩ : Addr).add ((k : Int).toNat * 1)))) (v' := .pointer (some (⟨b_2, k, none⟩))) (by kernel_rfl) (congrArg (fun a => Value.pointer (some a)) (by rw [Nat.mul_one, Addr.add_lit]; simp))
     have f_93 : Frm 68 [(8, .slice (some ⟨b_2, 0, none⟩) l.length l.length), (54, .slice (some ⟨b_1, 0, none⟩) l.length l.length), (55, .int .i64 ((l.length : Nat) : Int)), (56, .int .i64 (k : Int)), (61, .slice (some ⟨b_2, 0, none⟩) l.length l.length), (62, .int .i64 (k : Int)), (63, hdOf (G.getD k none)), (64, .slice A_1 (rise (keysOf (G.getD k none))).length cap_2), (65, .pointer (some (⟨b_2, k, none⟩)))] a_60 := f_92.keep (ks := [8, 54, 55, 56, 61, 62, 63, 64, 65]) (by kernel_rfl)
     refine W_store1 f_93 p_14 0 (by kernel_rfl) (by kernel_rfl) rfl rfl (b := b_2) (j := k) (v := .slice A_1 (rise (keysOf (G.getD k none))).length cap_2) (by kernel_rfl) (by kernel_rfl) rfl (by kernel_rfl) (by exact rfl) (by simp only [List.size_toArray]; omega) (by omega) _ rfl (fun w_12 p_15 a_61 f_94 => ?_)
     have p_16 : Hp w0 M_5 ((Ent.obj b_2 (.cells (O.set k (.slice A_1 (rise (keysOf (G.getD k none))).length cap_2)).toArray 47 (0, 0))) :: H) w_12 := by simpa using p_15
     refine W_end rfl ?_
     refine B_n ?_
     refine T_n ?_
     refine R_reg ?_
     refine W_run (L' := [(8, .slice (some ⟨b_2, 0, none⟩) l.length l.length), (54, .slice (some ⟨b_1, 0, none⟩) l.length l.length), (55, .int .i64 ((l.length : Nat) : Int)), (56, .int .i64 (k : Int)), (61, .slice (some ⟨b_2, 0, none⟩) l.length l.length), (62, .int .i64 (k : Int)), (63, hdOf (G.getD k none)), (64, .slice A_1 (rise (keysOf (G.getD k none))).length cap_2), (65, .pointer (some (⟨b_2, k, none⟩))), (66, .int .i64 (IntKind.wrap .i64 ((k : Int) + 1)))]) (w' := w_12) f_94 1 [8, 54, 55, 56, 61, 62, 63, 64, 65, 66] (by kernel_rfl) (fun a_62 f_95 => ?_)
     have f_96 := Frm.set f_95 66 (v := .int .i64 (IntKind.wrap .i64 ((k : Int) + 1))) (v' := .int .i64 ((k : Int) + 1)) (by kernel_rfl) (congrArg (Value.int .i64) (IntWalk.i64_in _ (by omega)))
     have f_97 : Frm 68 [(8, .slice (some ⟨b_2, 0, none⟩) l.length l.length), (54, .slice (some ⟨b_1, 0, none⟩) l.length l.length), (55, .int .i64 ((l.length : Nat) : Int)), (56, .int .i64 (k : Int)), (61, .slice (some ⟨b_2, 0, none⟩) l.length l.length), (62, .int .i64 (k : Int)), (63, hdOf (G.getD k none)), (64, .slice A_1 (rise (keysOf (G.getD k none))).length cap_2), (65, .pointer (some (⟨b_2, k, none⟩))), (66, .int .i64 ((k : Int) + 1))] a_62 := f_96.keep (ks := [8, 54, 55, 56, 61, 62, 63, 64, 65, 66]) (by kernel_rfl)
     refine W_run (L' := [(8, .slice (some ⟨b_2, 0, none⟩) l.length l.length), (54, .slice (some ⟨b_1, 0, none⟩) l.length l.length), (55, .int .i64 ((l.length : Nat) : Int)), (56, .int .i64 ((k : Int) + 1))]) (w' := w_12) f_97 1 [8, 54, 55, 56] (by kernel_rfl) (fun a_63 f_98 => ?_)
     refine W_end rfl ?_
     refine T_n ?_
     have f_99 := Frm.set f_98 56 (v := .int .i64 ((k : Int) + 1)) (v' := .int .i64 ((k + 1) : Int)) (by kernel_rfl) (by first | rfl | (congr 1; omega) | simp)
     refine ⟨((k + 1, O.set k (.slice A_1 (rise (keysOf (G.getD k none))).length cap_2)) : Nat × List Value), ?_, M_5, (hM_4.trans hM_5), ?_, f_99.keep (ks := [8, 54, 55, 56]) (by kernel_rfl), p_16⟩
     ·show l.length - (k + 1) < l.length - k; omega
     ·exact ⟨by omega, by simp only [List.length_set]; omega, outStep (by omega) (fun q hq => (hO q hq).mono hM_5) (hT.done (k := k) (by omega) ▸ ⟨_, _, rfl, by assumption, hi_2⟩)⟩
    ·have k_12 : ¬ ((k : Int) < ((l.length : Nat) : Int)) := iff_f decide_eq_true_iff h_6
     refine wp_exit ?_
     refine T_x ?_
     refine T_x ?_
     refine B_x ?_
     refine T_n ?_
     refine R_seq ?_
     refine R_reg ?_
     refine W_run (L' := [(2, .slice (some ⟨b_2, 0, none⟩) l.length l.length)]) (w' := w_10) f_82 2 [2] (by kernel_rfl) (fun a_64 f_100 => ?_)
     refine W_end rfl ?_
     refine T_n ?_
     refine wp_ret ?_
     refine E_ret1 f_100 rfl (by kernel_rfl : Vc.look _ 2 = some (.slice (some ⟨b_2, 0, none⟩) l.length l.length)) ?_
     obtain ⟨k9, p9⟩ := p_13.freeze
     refine ⟨_, rfl, _, ((hM_1.trans (kf_1.trans hM_3)).trans hM_4).trans k9, p9, _, by rw [turned_len], O, by rw [turned_len]; exact hOl, .inr ⟨_, rfl, fun q u hq => ?_⟩, fun q hq => (hO q (by rw [turned_len] at hq; omega)).mono k9⟩
     rw [Addr.add_lit, add_cell]; simpa using hq
end Go.Proofs.YtfdmlionhbeebaaGreat
end

section
namespace Go.Vc
open Go Go.RowKit
theorem RepArr.mk {M : Mem} {sz : Nat} : ∀ {ds : List Dat} {ad : Addr}, (∀ i d, ds[i]? = some d → ∃ c, c.length = sz ∧ Rep M d c ∧ ∀ j v, c[j]? = some v → M.cell? ((ad.add (i * sz)).add j) = some v) → RepArr M sz ds ad
 | [], _, _ => trivial
 | d :: ds, ad, h => by
  refine ⟨?_, RepArr.mk fun i e he => ?_⟩
  ·have := h 0 d rfl
   simpa [Addr.add] using this
  ·obtain ⟨c, h1, h2, h3⟩ := h (i + 1) e (by simpa using he)
   refine ⟨c, h1, h2, fun j v hv => ?_⟩
   have := h3 j v hv
   rw [add_of_add] at this
   rw [add_of_add, add_of_add, show sz + (i * sz + j) = (i + 1) * sz + j by rw [Nat.add_mul]; omega]
   exact this
theorem sli_ints {M : Mem} {k : IntKind} {A : Option Addr} {cap : Nat} {xs : List Int} (h : Sli M 1 (Dat.int k) A cap xs) : Ints M k A xs := by
 obtain ⟨_, _, h3⟩ := h
 rcases h3 with h3 | ⟨ad, h4, h5⟩
 ·exact .inl (by simp [h3])
 ·refine .inr ⟨ad, h4, fun j v hv => ?_⟩
  obtain ⟨x, hx, rfl⟩ : ∃ x, xs[j]? = some x ∧ Value.int k x = v := by simpa using hv
  obtain ⟨c, k1, k2, k3⟩ := RepArr.get j (.int k x) h5 (by simp [hx])
  obtain rfl : c = _ := k2
  have := k3 0 _ rfl
  rwa [add_of_add, Nat.mul_one, Nat.add_zero] at this
theorem ints_sli {M : Mem} {k : IntKind} {A : Option Addr} {cap : Nat} {xs : List Int} (h : Ints M k A xs) (h1 : xs.length ≤ cap) (h2 : A = none → cap = 0) : Sli M 1 (Dat.int k) A cap xs := by
 refine ⟨h1, h2, ?_⟩
 rcases h with h | ⟨ad, h4, h5⟩
 ·exact .inl (by simpa using h)
 ·refine .inr ⟨ad, h4, RepArr.mk fun i d hd => ?_⟩
  obtain ⟨x, hx, rfl⟩ : ∃ x, xs[i]? = some x ∧ Dat.int k x = d := by simpa using hd
  refine ⟨[.int k x], rfl, rfl, fun j v hv => ?_⟩
  cases j with
  | zero =>
   simp at hv; subst hv
   rw [add_of_add, Nat.mul_one, Nat.add_zero]
   exact h5 i _ (by simp [hx])
  | succ j => simp at hv
theorem sli_rows {M : Mem} {k : IntKind} {A : Option Addr} {cap : Nat} {l : List (List Int)} (h : Sli M 1 (eL 1 (Dat.int k)) A cap l) : Vc.Rows M k A l := by
 obtain ⟨h1, h2, h3⟩ := h
 rcases h3 with h3 | ⟨ad, h4, h5⟩
 ·subst h3; exact ⟨[], rfl, .inl rfl, fun i hi => by simp at hi⟩
 ·obtain ⟨cs, k1, k2, k3⟩ := RepArr.cells h5
  refine ⟨cs, by simpa using k1, .inr ⟨ad, h4, k3⟩, fun i hi => ?_⟩
  have hx : l[i]? = some (l.getD i []) := by simp [List.getD, hi]
  obtain ⟨e, e1, e2, e3⟩ := RepSeq.get (sz := 1) i (d := eL 1 (Dat.int k) (l.getD i [])) (fun d hd => by obtain ⟨x, _, rfl⟩ := List.mem_map.1 hd; exact szd_list _ _) k2 (by rw [List.getElem?_map, hx]; rfl)
  obtain ⟨B, c, rfl, hs⟩ := Rep.sli e2
  have := e3 0 _ rfl
  rw [Nat.mul_one, Nat.add_zero] at this
  refine ⟨B, c, by rw [List.getD_eq_getElem?_getD, this]; rfl, ⟨hs.1, hs.2.1⟩, sli_ints hs⟩
theorem rows_sli {M : Mem} {k : IntKind} {A : Option Addr} {cap : Nat} {l : List (List Int)} (h : Vc.Rows M k A l) (h1 : l.length ≤ cap) (h2 : A = none → cap = 0) : Sli M 1 (eL 1 (Dat.int k)) A cap l := by
 refine ⟨h1, h2, ?_⟩
 obtain ⟨hs, e1, e2, e3⟩ := h
 rcases e2 with e2 | ⟨ad, h4, h5⟩
 ·exact .inl (List.eq_nil_of_length_eq_zero (by rw [← e1, e2]; rfl))
 ·refine .inr ⟨ad, h4, RepArr.mk fun i d hd => ?_⟩
  obtain ⟨x, hx, rfl⟩ : ∃ x, l[i]? = some x ∧ eL 1 (Dat.int k) x = d := by simpa using hd
  have hi : i < l.length := (List.getElem?_eq_some_iff.1 hx).1
  have hxe : l.getD i [] = x := by simp [List.getD, hx]
  obtain ⟨B, c, g1, g2, g3⟩ := e3 i hi
  rw [hxe] at g1 g2 g3
  refine ⟨[.slice B x.length c], rfl, (ints_sli g3 g2.1 g2.2).rep, fun j v hv => ?_⟩
  cases j with
  | zero =>
   simp at hv; subst hv
   rw [add_of_add, Nat.mul_one, Nat.add_zero]
   refine h5 i _ ?_
   have hih : i < hs.length := by omega
   rw [List.getD_eq_getElem?_getD, List.getElem?_eq_getElem hih] at g1
   rw [List.getElem?_eq_getElem hih]; exact congrArg some g1
  | succ j => simp at hv
end Go.Vc
namespace Go.Proofs.YtfdmlionhbeebaaGreat
open Go Go.Vc Go.RowKit
def deps_Turned (_ : Nat) (l : List (List Int)) : Option (List (List Int)) := need (l.length ≤ 1099511627776 ∧ ∀ r ∈ l, r.length ≤ 1099511627776) (some (turnedL l))
theorem deps_Turned_ok (n : Nat) (M : Mem) (A0 : Option Addr) (cap0 : Nat) (d0 : List (List Int)) (h0 : Sli M 1 (eL 1 (Dat.int .i64)) A0 cap0 d0) (r : List (List Int)) (hF : deps_Turned n d0 = some r) :
  Ok Tryz.prog M 122 [.slice A0 d0.length cap0] (fun M' v => ∃ (A0 : Option Addr) (k0 : Nat), v = .slice A0 r.length k0 ∧ Sli M' 1 (eL 1 (Dat.int .i64)) A0 k0 r) := by
 unfold deps_Turned at hF
 obtain ⟨⟨g1, g2⟩, hF⟩ := need_some hF
 obtain rfl := (Option.some.inj hF).symm
 refine (turned_ok M A0 d0 cap0 (sli_rows h0) g1 g2).mono fun M' v hM hv => ?_
 obtain ⟨ad, rfl, hr⟩ := hv
 exact ⟨some ad, _, rfl, rows_sli hr (Nat.le_refl _) (fun e => by cases e)⟩
end Go.Proofs.YtfdmlionhbeebaaGreat
end
