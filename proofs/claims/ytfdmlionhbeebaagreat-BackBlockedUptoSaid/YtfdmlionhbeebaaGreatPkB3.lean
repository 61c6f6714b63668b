/-
  Texts of this claim, packed (what nothing names is left out): B5, B6, B3, B4, B7, E1, E2, D1. Own work, partly printed by own programs. No condition.
-/
import Derived.Test.YtfdmlionhbeebaaGreatPkB2
set_option linter.unusedVariables false
set_option linter.unusedSimpArgs false
set_option maxHeartbeats 2000000
namespace Go.Proofs.YtfdmlionhbeebaaGreat
open Go Go.Vc Go.RowKit
def change_Leans_s1 (n : Nat) (s_1 : (List ((List UInt8) × Int))) (x_1 : Int × TC0) : Option (Lp (List ((List UInt8) × Int)) Empty) :=
    some (.nx (mput s_1 x_1.2.fId x_1.1))
def change_Leans_s3 (n : Nat) (s_2 : (List ((List UInt8) × Int))) (s_3 : Int × List (List Int)) (y_1 : List (List UInt8)) (s_4 : Int × List (List Int)) : Option (Lp (Int × List (List Int)) (List (List Int))) :=
    bif (decide (s_4.1 < ((y_1.length : Nat) : Int))) then
      ((getI y_1 s_4.1).bind fun x_4 =>
      bif (mget s_2 x_4).isSome then
        ((getI s_4.2 s_3.1).bind fun x_5 =>
        need ((x_5.length + 1) * 8 ≤ 140737488355328) <|
        need (inR .i64 (s_4.1 + 1)) <|
        some (.nx (s_4.1 + 1, s_4.2.set s_3.1.toNat (x_5 ++ [(mget s_2 x_4).getD (0 : Int)]))))
      else
        need (inR .i64 (s_4.1 + 1)) <|
        some (.nx (s_4.1 + 1, s_4.2)))
    else
      some (.br s_4.2)
def change_Leans_s2 (n : Nat) (d0 : TK0) (d1 : Bool) (s_2 : (List ((List UInt8) × Int))) (s_3 : Int × List (List Int)) : Option (Lp (Int × List (List Int)) (List (List Int))) :=
    bif (decide (s_3.1 < ((d0.fChanges.length : Nat) : Int))) then
      ((getI d0.fChanges s_3.1).bind fun x_2 =>
      ((bif d1 then
          ((state_Own n (⟨d0.fOld.fOwned, d0.fOld.fPending, d0.fOld.fRetained, d0.fOld.fOuts, d0.fOld.fText, d0.fOld.fArgs, d0.fOld.fCalls, d0.fOld.fStatus⟩ : TF0) x_2.fId).bind fun x_3 =>
          some (x_3.1.fLeans))
        else
          some (x_2.fLeans) : Option (List (List UInt8)))).bind fun y_1 =>
      (loopF (change_Leans_s3 n s_2 s_3 y_1) n ((0 : Int), s_3.2)).bind fun y_2 =>
      (getI y_2 s_3.1).bind fun x_6 =>
      (h_SortI n x_6).bind fun x_7 =>
      (getI (y_2.set s_3.1.toNat x_7) s_3.1).bind fun x_8 =>
      (h_CompactI n x_8).bind fun x_9 =>
      need (0 ≤ ((x_9.length : Nat) : Int) ∧ ((x_9.length : Nat) : Int) ≤ (x_9.length : Int)) <|
      need (inR .i64 (s_3.1 + 1)) <|
      some (.nx (s_3.1 + 1, (y_2.set s_3.1.toNat x_7).set s_3.1.toNat (x_9.take ((x_9.length : Nat) : Int).toNat))))
    else
      some (.br s_3.2)
def change_Leans (n : Nat) (d0 : TK0) (d1 : Bool) : Option (List (List Int)) :=
  need (d0.fChanges.length ≤ 9223372036854775806) <|
  (foldY (change_Leans_s1 n) (backI d0.fChanges) ([] : List ((List UInt8) × Int))).bind fun j_1 =>
  (match j_1 with 
  | .nx s_2 => need (0 ≤ ((d0.fChanges.length : Nat) : Int) ∧ ((d0.fChanges.length : Nat) : Int) * 24 ≤ 140737488355328 ∧ ((d0.fChanges.length : Nat) : Int) ≤ 140737488355328) <|
    (loopF (change_Leans_s2 n d0 d1 s_2) n ((0 : Int), List.replicate ((d0.fChanges.length : Nat) : Int).toNat ([] : List Int))).bind fun y_3 =>
    some (y_3) 
  | .br _ => none)
set_option maxRecDepth 20000 in
theorem change_Leans_ok (n : Nat) (M : Mem) (c0 : List Value) (d0 : TK0) (h0 : Rep M (emb_TK0 d0) c0) (d1 : Bool) (r : List (List Int)) (hF : change_Leans n d0 d1 = some r) : Ok Tryz.prog M 52 [.agg c0.toArray, .bool d1] (fun M' v => ∃ (A0 : Option Addr) (k0 : Nat), v = .slice A0 r.length k0 ∧ Sli M' 1 (eL 1 (Dat.int .i64)) A0 k0 r) := by
 unfold change_Leans at hF
 intro M1 hM0 w0 H w p0
 replace h0 := Rep.mono hM0 _ _ h0
 obtain ⟨A_1, cap_1, A_2, cap_2, A_3, cap_3, A_4, cap_4, A_5, cap_5, A_6, cap_6, A_7, cap_7, A_8, cap_8, A_9, cap_9, A_10, cap_10, rfl, h_1, h_2, h_3, h_4, h_5, h_6, h_7, h_8, h_9, h_10⟩ := TK0.opn h0
 refine R_enterM 99 Tryz.func52 rfl rfl (by simp) fun a0 f0 => RR (Y12 (cs := #[.int .i8 d0.fKind, .int .i64 d0.fWidth, .slice A_1 d0.fOld.fOwned.length cap_1, .slice A_2 d0.fOld.fPending.length cap_2, .slice A_3 d0.fOld.fRetained.length cap_3, .slice A_4 d0.fOld.fOuts.length cap_4, S d0.fOld.fText, .slice A_5 d0.fOld.fArgs.length cap_5, .int .i64 d0.fOld.fCalls, .int .i8 d0.fOld.fStatus, .slice A_6 d0.fNew.fScopes.length cap_6, .slice A_7 d0.fNew.fNodes.length cap_7, S d0.fText, .slice A_8 d0.fArgs.length cap_8, .slice A_9 d0.fChanges.length cap_9, .slice A_10 d0.fTasks.length cap_10, .int .i8 d0.fPhase, .int .i8 d0.fStatus]) (T := 34) f0 p0 fun b_1 M_1 w_1 hM_1 hc_1 p_1 _ f => ?_)
 have hc_2 := fz_box hc_1
 refine Y f 1 fun _ f => eT (RR (W_newmap S (Value.int .i64) f p_1 (by kernel_rfl) (by kernel_rfl) rfl rfl rfl fun bm_1 w_2 p_2 _ f => Y11 f p_2 (.cells #[.map none] 177 (0, 0)) fun b_2 w_3 p_3 _ f => Y25 f p_3 0 rfl rfl (b := b_2) (j := 0) (v := .map (some bm_1)) rfl (by exact rfl) (by simp) (by simp) ((Ent.obj b_2 (.cells #[.map (some bm_1)] 177 (0, 0))) :: (Ent.obj bm_1 (mapO S (Value.int .i64) ([] : List ((List UInt8) × Int)))) :: H) rfl fun w_4 p_4 _ f => eT (R_seq (RR (Y f 1 fun _ f => Y14 f p_4 hc_2 14 rfl fun _ f => ?_)))))
 obtain ⟨g_1, hF_1⟩ := nS hF
 refine Y15 f p_4 (backC_ok d0.fChanges g_1 _ A_9 cap_9 (h_9.mono hM_1)) fun _ M_2 w_5 hM_2 p_5 q_1 a_8 f => ?_
 obtain ⟨fv_1, cp_1, rfl, hit_1⟩ := q_1
 refine eT (wp_block ?_)
 have p_6 := p_5.pl [1]
 have f : Frm 99 [(1, .bool d1), (2, .pointer (some (⟨b_1, 0, none⟩))), (5, .pointer (some (⟨b_2, 0, none⟩))), (22, .func (.func fv_1) #[] cp_1.toArray)] a_8 := f.kp
 obtain ⟨j_1, hL_1, hF_2⟩ := bS hF_1
 refine R_range2 (σ := (List ((List UInt8) × Int))) (β := Empty) (vals := (vals2 (vstr emb_TC0))) (Y := (change_Leans_s1 n)) (E0 := [Ent.obj bm_1 (mapO S (Value.int .i64) ([] : List ((List UInt8) × Int))), Ent.obj b_2 (.cells #[.map (some bm_1)] 177 (0, 0))]) (H := H) (w0 := w0) (M := M_2) (f := fv_1) (caps := cp_1) f p_6 (by kernel_rfl) (by kernel_rfl) (by kernel_rfl) (by kernel_rfl) hit_1.1 (fun (s_1 : (List ((List UInt8) × Int))) M' E1 => E1 = [Ent.obj bm_1 (mapO S (Value.int .i64) s_1), Ent.obj b_2 (.cells #[.map (some bm_1)] 177 (0, 0))]) (fun (b : Empty) _ _ => b.elim) (fun (b : Empty) => b.elim) ([] : List ((List UInt8) × Int)) j_1 rfl (fun s_ M_ M2_ E_ hM h => h) (fun b => b.elim) (fun M_ x_ vs_ h => by obtain ⟨c_, h, _⟩ := h; exact ⟨_, _, h⟩) (hit_1.2 _ _ _ _ _ hL_1) ?_ ?_ ?_
 ·rintro s_1 x_1 r_1 hs_1 l_1 w0 M_3 E_1 H w_6 _ v_1 u_2 hM_3 rfl ⟨u_3, hv_1, cc_1, hu_1, hr_1⟩ p_7 f
  obtain ⟨rfl, rfl⟩ : v_1 = .int .i64 x_1.1 ∧ u_2 = u_3 := by simpa using hv_1
  subst hu_1
  unfold change_Leans_s1 at hs_1
  obtain ⟨A_11, cap_11, A_12, cap_12, rfl, h_11, h_12⟩ := TC0.opn hr_1
  refine RI_seq (RI_reg (then_out (then_out F_out)) (by kernel_rfl) (Y f 1 fun _ f => eT (RI_reg (then_out F_out) (by kernel_rfl) (Y11 f p_7 (.cells #[S [], .int .i8 0, S [], .slice none 0 0, .bool false, .int .i64 0, .bool false, .slice none 0 0] 72 (0, 0)) fun b_3 w_7 p_8 _ f => Y26 (vs := [S x_1.2.fId, .int .i8 x_1.2.fKind, S x_1.2.fType, .slice A_11 x_1.2.fProps.length cap_11, .bool x_1.2.fRetain, .int .i64 x_1.2.fNode, .bool x_1.2.fOld, .slice A_12 x_1.2.fLeans.length cap_12]) (j := 0) f p_8 rfl rfl (by simp [Value.oneCell', S]) (by simp) (by decide) (cs' := #[S x_1.2.fId, .int .i8 x_1.2.fKind, S x_1.2.fType, .slice A_11 x_1.2.fProps.length cap_11, .bool x_1.2.fRetain, .int .i64 x_1.2.fNode, .bool x_1.2.fOld, .slice A_12 x_1.2.fLeans.length cap_12]) fun w_8 p_9 _ f => eT (⟨M_3, [Ent.obj b_3 (.cells #[S x_1.2.fId, .int .i8 x_1.2.fKind, S x_1.2.fType, .slice A_11 x_1.2.fProps.length cap_11, .bool x_1.2.fRetain, .int .i64 x_1.2.fNode, .bool x_1.2.fOld, .slice A_12 x_1.2.fLeans.length cap_12] 72 (0, 0)), Ent.obj bm_1 (mapO S (Value.int .i64) s_1), Ent.obj b_2 (.cells #[.map (some bm_1)] 177 (0, 0))], (mR _), p_9, fun H w_9 p_10 => ?_⟩)))))
  refine RI_block (RI_reg (block_out (RB_out)) (by kernel_rfl) (Z f (Y29 (v := .map (some bm_1)) rfl (ad := ⟨b_2, 0, none⟩) (p_10.ownCell 2 rfl 0)) fun _ f => Y f 1 fun _ f => Z f (Y29 (v := S x_1.2.fId) rfl (ad := ⟨b_3, 0, none⟩) (p_10.ownCell 0 rfl 0)) fun _ f => Y f 1 fun _ f => ?_))
  have p_11 := p_10.pl [1]
  refine Y23 (ek := S) (ev := (Value.int .i64)) (m := s_1) (k := x_1.2.fId) (v := x_1.1) (kt := 9) (et := 3) f p_11 rfl (.inl rfl) (strKey (by kernel_rfl)) fun w_10 p_12 _ f => W_end rfl (B_n ?_)
  have p_15 := p_12.pl [2, 1, 2]
  obtain rfl := sI hs_1
  exact RB_n ⟨M_3, [Ent.obj bm_1 (mapO S (Value.int .i64) (mput s_1 x_1.2.fId x_1.1)), Ent.obj b_2 (.cells #[.map (some bm_1)] 177 (0, 0))], (mR _), (p_15.dropN 1), rfl⟩
 ·rintro s_2 rfl l_2 D_1 rr_1 M_4 E_2 w_11 _ hM_4 rfl p_16 f
  replace p_16 : Hp w0 M_4 ((Ent.obj D_1 (.deferred (some []))) :: (Ent.obj bm_1 (mapO S (Value.int .i64) s_2)) :: (Ent.obj b_2 (.cells #[.map (some bm_1)] 177 (0, 0))) :: H) w_11 := p_16.drop
  replace hF_2 : (_ : Option _) = some _ := hF_2
  refine B_n (T_n (RR (Y f 1 fun _ f => Y14 f p_16 (fzu (hM_2.trans hM_4) hc_2) 14 rfl fun _ f => Y f 1 fun _ f => ?_)))
  obtain ⟨g_2, hF_3⟩ := nS hF_2
  refine W_makeRR (e := 47) (e2 := 3) (k := .i64) (m := ((d0.fChanges.length : Nat) : Int)) (bytes := 24) [Ent.obj D_1 (.deferred (some [])), Ent.obj bm_1 (mapO S (Value.int .i64) s_2), Ent.obj b_2 (.cells #[.map (some bm_1)] 177 (0, 0))] f p_16 (by kernel_rfl) (by kernel_rfl) rfl rfl rfl (by kernel_rfl) (by kernel_rfl) (by kernel_rfl) (by kernel_rfl) g_2 fun b_4 w_12 p_17 _ f => ?_
  have hl_1 : (List.replicate ((d0.fChanges.length : Nat) : Int).toNat (Value.slice none 0 0)).length = (List.replicate ((d0.fChanges.length : Nat) : Int).toNat ([] : List Int)).length ∧ (List.replicate ((d0.fChanges.length : Nat) : Int).toNat ([] : List Int)).length = ((d0.fChanges.length : Nat) : Int).toNat := rr_new _
  refine Y f 1 fun _ f => eT (R_seq (RR (Y f 1 fun _ f => Y14 f p_17 (fzu (hM_2.trans hM_4) hc_2) 14 rfl fun _ f => Y f 2 fun _ f => eT (wp_block ?_))))
  obtain ⟨b_5, hL_2, hF_4⟩ := bS hF_3
  refine wp_mono (Q := fun e a w => (e = .exit 2 ∧ (∃ y_3 : List (List Int), b_5 = y_3 ∧ ∃ M_12 : Mem, M_4.le M_12 ∧ ∃ (hs_7 : List Value), (hs_7.length = y_3.length ∧ y_3.length = ((d0.fChanges.length : Nat) : Int).toNat) ∧ Frm 99 [(8, .slice (some ⟨b_4, 0, none⟩) ((d0.fChanges.length : Nat) : Int).toNat ((d0.fChanges.length : Nat) : Int).toNat)] a (Go.Vc.mark D_1) ∧ Hp w0 M_12 ((Ent.obj b_4 (.cells hs_7.toArray 47 (0, 0))) :: ((Ent.obj D_1 (.deferred (some []))) :: ((Ent.obj bm_1 (mapO S (Value.int .i64) s_2)) :: ((Ent.obj b_2 (.cells #[.map (some bm_1)] 177 (0, 0))) :: (rbag 3 .i64 y_3 hs_7 ++ H))))) w))) (R_loop (n := 99) (w0 := w0) (M := M_4) (fun (x : Nat × (Int × List (List Int)) × (List Value)) => match x with | (m_1, s_3, hs_2) => [(1, .bool d1), (2, .pointer (some (⟨b_1, 0, none⟩))), (5, .pointer (some (⟨b_2, 0, none⟩))), (8, .slice (some ⟨b_4, 0, none⟩) ((d0.fChanges.length : Nat) : Int).toNat ((d0.fChanges.length : Nat) : Int).toNat), (34, .slice A_9 d0.fChanges.length cap_9), (35, .int .i64 ((d0.fChanges.length : Nat) : Int)), (36, .int .i64 s_3.1)]) (fun (x : Nat × (Int × List (List Int)) × (List Value)) => match x with | (m_1, s_3, hs_2) => ((Ent.obj b_4 (.cells hs_2.toArray 47 (0, 0))) :: ((Ent.obj D_1 (.deferred (some []))) :: ((Ent.obj bm_1 (mapO S (Value.int .i64) s_2)) :: ((Ent.obj b_2 (.cells #[.map (some bm_1)] 177 (0, 0))) :: (rbag 3 .i64 s_3.2 hs_2 ++ H)))))) (fun (x : Nat × (Int × List (List Int)) × (List Value)) (MM : Mem) => match x with | (m_1, s_3, hs_2) => loopF (change_Leans_s2 n d0 d1 s_2) m_1 s_3 = some b_5 ∧ (hs_2.length = s_3.2.length ∧ s_3.2.length = ((d0.fChanges.length : Nat) : Int).toNat)) (fun (x : Nat × (Int × List (List Int)) × (List Value)) => match x with | (m_1, s_3, hs_2) => m_1) (n, ((0 : Int), List.replicate ((d0.fChanges.length : Nat) : Int).toNat ([] : List Int)), (List.replicate ((d0.fChanges.length : Nat) : Int).toNat (Value.slice none 0 0))) (f.kp) p_17 ⟨hL_2, hl_1⟩ ?_) ?_
  ·rintro ⟨m_1, s_3, hs_2⟩ M_5 _ w_13 hM_5 I_1 f p_18
   obtain ⟨I_1L, hl_2⟩ := I_1
   obtain ⟨m_2, r_2, rfl, hs_3, hn_1⟩ := loop_step I_1L
   unfold change_Leans_s2 at hs_3
   refine RR (Y f 1 fun _ f => eT (R_seq (RcF f hs_3 (fun h_13 hF_5 => ?_) fun h_13 hF_27 => ?_)))
   ·have k_1 := dI.1 h_13
    refine wp_skip (T_n (R_seq (wp_block (RR (Y f 1 fun _ f => ?_)))))
    obtain ⟨x_2, hx_1, hF_6⟩ := bS hF_5
    obtain ⟨ad_1, c_1, e_1, -, hr_2, hc_3⟩ := Sli.at_ (h_9.mono (((hM_1.trans hM_2).trans hM_4).trans hM_5)) hx_1
    obtain ⟨A_13, cap_13, A_14, cap_14, rfl, h_14, h_15⟩ := TC0.opn hr_2
    refine Z f (Y28 e_1 rfl (len := d0.fChanges.length) (cap := cap_9) (k := .i64) (i := s_3.1) (e := 72) (sz := 8) (getI_nn hx_1) (getI_lt hx_1)) fun _ f => Z (v := .agg #[S x_2.fId, .int .i8 x_2.fKind, S x_2.fType, .slice A_13 x_2.fProps.length cap_13, .bool x_2.fRetain, .int .i64 x_2.fNode, .bool x_2.fOld, .slice A_14 x_2.fLeans.length cap_14]) f (Y30 (cs := [S x_2.fId, .int .i8 x_2.fKind, S x_2.fType, .slice A_13 x_2.fProps.length cap_13, .bool x_2.fRetain, .int .i64 x_2.fNode, .bool x_2.fOld, .slice A_14 x_2.fLeans.length cap_14]) rfl (ad := ad_1.add (s_3.1.toNat * 8)) (fun j v h => p_18.cell (hc_3 j v h))) fun _ f => Y11 f p_18 (.cells #[S [], .int .i8 0, S [], .slice none 0 0, .bool false, .int .i64 0, .bool false, .slice none 0 0] 72 (0, 0)) fun b_6 w_14 p_19 _ f => Y f 1 fun _ f => Y26 (vs := [S x_2.fId, .int .i8 x_2.fKind, S x_2.fType, .slice A_13 x_2.fProps.length cap_13, .bool x_2.fRetain, .int .i64 x_2.fNode, .bool x_2.fOld, .slice A_14 x_2.fLeans.length cap_14]) (j := 0) f p_19 rfl rfl (by simp [Value.oneCell', S]) (by simp) (by decide) (cs' := #[S x_2.fId, .int .i8 x_2.fKind, S x_2.fType, .slice A_13 x_2.fProps.length cap_13, .bool x_2.fRetain, .int .i64 x_2.fNode, .bool x_2.fOld, .slice A_14 x_2.fLeans.length cap_14]) fun w_15 p_20 _ f => eT (RR (Y f 1 fun _ f => Z f (Y29 (v := .slice A_14 x_2.fLeans.length cap_14) rfl (ad := ⟨b_6, 7, none⟩) (p_20.ownCell 0 rfl 7)) fun _ f => Y f 1 fun _ f => eT (R_seq (RR (Y f 1 fun _ f => ?_)))))
    refine eT ?_
    obtain ⟨j_2, hj_1, hF_7⟩ := bS hF_6
    refine R_mid (fun a_51 w_19 => ∃ y_1 : List (List UInt8), j_2 = y_1 ∧ ∃ M_7 : Mem, M_5.le M_7 ∧ ∃ (A_17 : Option Addr), ∃ (cap_17 : Nat), Sli M_7 1 Dat.str A_17 cap_17 y_1 ∧ Frm 99 [(1, .bool d1), (2, .pointer (some (⟨b_1, 0, none⟩))), (5, .pointer (some (⟨b_2, 0, none⟩))), (8, .slice (some ⟨b_4, 0, none⟩) ((d0.fChanges.length : Nat) : Int).toNat ((d0.fChanges.length : Nat) : Int).toNat), (9, .int .i64 s_3.1), (11, .slice A_17 y_1.length cap_17), (34, .slice A_9 d0.fChanges.length cap_9), (35, .int .i64 ((d0.fChanges.length : Nat) : Int)), (36, .int .i64 s_3.1)] a_51 (Go.Vc.mark D_1) ∧ Hp w0 M_7 ((Ent.obj b_6 (.cells #[S x_2.fId, .int .i8 x_2.fKind, S x_2.fType, .slice A_13 x_2.fProps.length cap_13, .bool x_2.fRetain, .int .i64 x_2.fNode, .bool x_2.fOld, .slice A_14 x_2.fLeans.length cap_14] 72 (0, 0))) :: ((Ent.obj b_4 (.cells hs_2.toArray 47 (0, 0))) :: ((Ent.obj D_1 (.deferred (some []))) :: ((Ent.obj bm_1 (mapO S (Value.int .i64) s_2)) :: ((Ent.obj b_2 (.cells #[.map (some bm_1)] 177 (0, 0))) :: (rbag 3 .i64 s_3.2 hs_2 ++ H)))))) w_19) ?_ ?_
    ·refine RcF f hj_1 (fun h_16 hF_8 => ?_) fun h_16 hF_10 => ?_
     ·refine RR (Y f 1 fun _ f => Z (v := .agg #[.slice A_1 d0.fOld.fOwned.length cap_1, .slice A_2 d0.fOld.fPending.length cap_2, .slice A_3 d0.fOld.fRetained.length cap_3, .slice A_4 d0.fOld.fOuts.length cap_4, S d0.fOld.fText, .slice A_5 d0.fOld.fArgs.length cap_5, .int .i64 d0.fOld.fCalls, .int .i8 d0.fOld.fStatus]) f (Y30 (cs := [.slice A_1 d0.fOld.fOwned.length cap_1, .slice A_2 d0.fOld.fPending.length cap_2, .slice A_3 d0.fOld.fRetained.length cap_3, .slice A_4 d0.fOld.fOuts.length cap_4, S d0.fOld.fText, .slice A_5 d0.fOld.fArgs.length cap_5, .int .i64 d0.fOld.fCalls, .int .i8 d0.fOld.fStatus]) rfl (ad := (⟨b_1, 0, none⟩ : Addr).add 2) (fz_part (base := (⟨b_1, 0, none⟩ : Addr)) (fun j v h => p_20.cell ((fzu ((hM_2.trans hM_4).trans hM_5) hc_2) j v h)) 2 rfl)) fun _ f => Y f 1 fun _ f => Z f (Y29 (v := S x_2.fId) rfl (ad := ⟨b_6, 0, none⟩) (p_20.ownCell 0 rfl 0)) fun _ f => ?_)
      obtain ⟨x_3, hx_2, hF_9⟩ := bS hF_8
      refine Y15 f p_20 (state_Own_ok n _ _ (⟨d0.fOld.fOwned, d0.fOld.fPending, d0.fOld.fRetained, d0.fOld.fOuts, d0.fOld.fText, d0.fOld.fArgs, d0.fOld.fCalls, d0.fOld.fStatus⟩ : TF0) (TF0.shut (h_1.mono (((hM_1.trans hM_2).trans hM_4).trans hM_5)) (h_2.mono (((hM_1.trans hM_2).trans hM_4).trans hM_5)) (h_3.mono (((hM_1.trans hM_2).trans hM_4).trans hM_5)) (h_4.mono (((hM_1.trans hM_2).trans hM_4).trans hM_5)) (h_5.mono (((hM_1.trans hM_2).trans hM_4).trans hM_5))) x_2.fId x_3 hx_2) fun _ M_6 w_16 hM_6 p_21 q_2 _ f => ?_
      obtain ⟨c_2, rfl, hr_3⟩ := q_2
      obtain ⟨A_15, cap_15, A_16, cap_16, rfl, h_17, h_18⟩ := TS0.opn hr_3
      refine Y f 3 fun _ f => Y11 f p_21 (.cells #[S [], S [], S [], .slice none 0 0, .bool false, .slice none 0 0] 68 (0, 0)) fun b_7 w_17 p_22 _ f => Y26 (vs := [S x_3.1.fId, S x_3.1.fType, S x_3.1.fPhys, .slice A_15 x_3.1.fProps.length cap_15, .bool x_3.1.fRetain, .slice A_16 x_3.1.fLeans.length cap_16]) (j := 0) f p_22 rfl rfl (by simp [Value.oneCell', S]) (by simp) (by decide) (cs' := #[S x_3.1.fId, S x_3.1.fType, S x_3.1.fPhys, .slice A_15 x_3.1.fProps.length cap_15, .bool x_3.1.fRetain, .slice A_16 x_3.1.fLeans.length cap_16]) fun w_18 p_23 _ f => Y f 1 fun _ f => eT (R_reg (Y f 1 fun _ f => Z f (Y29 (v := .slice A_16 x_3.1.fLeans.length cap_16) rfl (ad := ⟨b_7, 5, none⟩) (p_23.ownCell 0 rfl 5)) fun _ f => Y f 1 fun _ f => eT ?_))
      exact ⟨x_3.1.fLeans, (sI hF_9).symm, M_6, hM_6, A_16, cap_16, h_18, f.kp, (p_23.dropN 1)⟩
     ·refine wp_skip (T_n ?_)
      exact ⟨x_2.fLeans, (sI hF_10).symm, M_5, (mR _), A_14, cap_14, h_15, f.kp, p_20⟩
    ·rintro a_51 w_19 ⟨y_1, hq_1, M_7, hM_7, A_17, cap_17, h_19, f, p_24⟩
     subst j_2
     refine T_n (R_seq (RR (Y f 3 fun _ f => eT (wp_block ?_))))
     have p_29 := p_24.pl [4, 4, 4, 3, 4]
     obtain ⟨b_8, hL_3, hF_11⟩ := bS hF_7
     refine wp_mono (Q := fun e a w => (e = .exit 4 ∧ (∃ y_2 : List (List Int), b_8 = y_2 ∧ ∃ M_9 : Mem, M_7.le M_9 ∧ ∃ (hs_6 : List Value), (hs_6.length = y_2.length ∧ y_2.length = ((d0.fChanges.length : Nat) : Int).toNat) ∧ Frm 99 [(1, .bool d1), (2, .pointer (some (⟨b_1, 0, none⟩))), (5, .pointer (some (⟨b_2, 0, none⟩))), (8, .slice (some ⟨b_4, 0, none⟩) ((d0.fChanges.length : Nat) : Int).toNat ((d0.fChanges.length : Nat) : Int).toNat), (9, .int .i64 s_3.1), (34, .slice A_9 d0.fChanges.length cap_9), (35, .int .i64 ((d0.fChanges.length : Nat) : Int)), (36, .int .i64 s_3.1)] a (Go.Vc.mark D_1) ∧ Hp w0 M_9 ((Ent.obj b_4 (.cells hs_6.toArray 47 (0, 0))) :: ((Ent.obj b_6 (.cells #[S x_2.fId, .int .i8 x_2.fKind, S x_2.fType, .slice A_13 x_2.fProps.length cap_13, .bool x_2.fRetain, .int .i64 x_2.fNode, .bool x_2.fOld, .slice A_14 x_2.fLeans.length cap_14] 72 (0, 0))) :: ((Ent.obj D_1 (.deferred (some []))) :: ((Ent.obj bm_1 (mapO S (Value.int .i64) s_2)) :: ((Ent.obj b_2 (.cells #[.map (some bm_1)] 177 (0, 0))) :: (rbag 3 .i64 y_2 hs_6 ++ H)))))) w))) (R_loop (n := 99) (w0 := w0) (M := M_7) (fun (x : Nat × (Int × List (List Int)) × (List Value)) => match x with | (m_3, s_4, hs_4) => [(1, .bool d1), (2, .pointer (some (⟨b_1, 0, none⟩))), (5, .pointer (some (⟨b_2, 0, none⟩))), (8, .slice (some ⟨b_4, 0, none⟩) ((d0.fChanges.length : Nat) : Int).toNat ((d0.fChanges.length : Nat) : Int).toNat), (9, .int .i64 s_3.1), (34, .slice A_9 d0.fChanges.length cap_9), (35, .int .i64 ((d0.fChanges.length : Nat) : Int)), (36, .int .i64 s_3.1), (54, .slice A_17 y_1.length cap_17), (55, .int .i64 ((y_1.length : Nat) : Int)), (56, .int .i64 s_4.1)]) (fun (x : Nat × (Int × List (List Int)) × (List Value)) => match x with | (m_3, s_4, hs_4) => ((Ent.obj b_4 (.cells hs_4.toArray 47 (0, 0))) :: ((Ent.obj b_6 (.cells #[S x_2.fId, .int .i8 x_2.fKind, S x_2.fType, .slice A_13 x_2.fProps.length cap_13, .bool x_2.fRetain, .int .i64 x_2.fNode, .bool x_2.fOld, .slice A_14 x_2.fLeans.length cap_14] 72 (0, 0))) :: ((Ent.obj D_1 (.deferred (some []))) :: ((Ent.obj bm_1 (mapO S (Value.int .i64) s_2)) :: ((Ent.obj b_2 (.cells #[.map (some bm_1)] 177 (0, 0))) :: (rbag 3 .i64 s_4.2 hs_4 ++ H))))))) (fun (x : Nat × (Int × List (List Int)) × (List Value)) (MM : Mem) => match x with | (m_3, s_4, hs_4) => loopF (change_Leans_s3 n s_2 s_3 y_1) m_3 s_4 = some b_8 ∧ (hs_4.length = s_4.2.length ∧ s_4.2.length = ((d0.fChanges.length : Nat) : Int).toNat)) (fun (x : Nat × (Int × List (List Int)) × (List Value)) => match x with | (m_3, s_4, hs_4) => m_3) (n, ((0 : Int), s_3.2), hs_2) (f.kp) p_29 ⟨hL_3, hl_2⟩ ?_) ?_
     ·rintro ⟨m_3, s_4, hs_4⟩ M_8 _ w_20 hM_8 I_2 f p_30
      obtain ⟨I_2L, hl_4⟩ := I_2
      obtain ⟨m_4, r_3, rfl, hs_5, hn_2⟩ := loop_step I_2L
      unfold change_Leans_s3 at hs_5
      refine RR (Y f 1 fun _ f => eT (R_seq (RcF f hs_5 (fun h_20 hF_12 => ?_) fun h_20 hF_20 => ?_)))
      ·have k_4 := dI.1 h_20
       refine wp_skip (T_n (R_seq (wp_block (RR ?_))))
       obtain ⟨x_4, hx_3, hF_13⟩ := bS hF_12
       obtain ⟨ad_2, c_3, e_2, -, hr_4, hc_4⟩ := Sli.at_ (h_19.mono hM_8) hx_3
       obtain rfl : c_3 = [S x_4] := hr_4
       refine Z f (Y28 e_2 rfl (len := y_1.length) (cap := cap_17) (k := .i64) (i := s_4.1) (e := 9) (sz := 1) (getI_nn hx_3) (getI_lt hx_3)) fun _ f => Y14 f p_30 hc_4 0 rfl fun _ f => Y f 1 fun _ f => eT (RR (Z f (Y29 (v := .map (some bm_1)) rfl (ad := ⟨b_2, 0, none⟩) (p_30.ownCell 4 rfl 0)) fun _ f => Y f 1 fun _ f => Z (v := .tuple #[.int .i64 ((mget s_2 x_4).getD (0 : Int)), .bool (mget s_2 x_4).isSome]) f (Y31 (ek := S) (ev := (Value.int .i64)) (m := s_2) (k := x_4) (z := (0 : Int)) (kt := 9) (et := 3) rfl (strKey (by kernel_rfl)) (p_30.ownObj 3 rfl)) fun _ f => Y f 5 fun _ f => eT (RR (Y f 1 fun _ f => eT ?_))))
       refine RcF f hF_13 (fun h_21 hF_14 => ?_) fun h_21 hF_18 => ?_
       ·refine R_reg (Y f 4 fun _ f => ?_)
        obtain ⟨x_5, hx_4, hF_15⟩ := bS hF_14
        refine Z f (Y27 rfl (ad := ⟨b_4, 0, none⟩) (len := ((d0.fChanges.length : Nat) : Int).toNat) (cap := ((d0.fChanges.length : Nat) : Int).toNat) (k := .i64) (i := s_3.1) (e := 47) (sz := 1) (getI_nn hx_4) (rr_lt hl_4 hx_4)) fun _ f => ?_
        obtain ⟨A_18, cap_18, hv_2⟩ := Hp.rbagHead [Ent.obj b_4 (.cells hs_4.toArray 47 (0, 0)), Ent.obj b_6 (.cells #[S x_2.fId, .int .i8 x_2.fKind, S x_2.fType, .slice A_13 x_2.fProps.length cap_13, .bool x_2.fRetain, .int .i64 x_2.fNode, .bool x_2.fOld, .slice A_14 x_2.fLeans.length cap_14] 72 (0, 0)), Ent.obj D_1 (.deferred (some [])), Ent.obj bm_1 (mapO S (Value.int .i64) s_2), Ent.obj b_2 (.cells #[.map (some bm_1)] 177 (0, 0))] p_30 hl_4.1 hx_4
        have p_31 := Hp.rbagTake [Ent.obj b_4 (.cells hs_4.toArray 47 (0, 0)), Ent.obj b_6 (.cells #[S x_2.fId, .int .i8 x_2.fKind, S x_2.fType, .slice A_13 x_2.fProps.length cap_13, .bool x_2.fRetain, .int .i64 x_2.fNode, .bool x_2.fOld, .slice A_14 x_2.fLeans.length cap_14] 72 (0, 0)), Ent.obj D_1 (.deferred (some [])), Ent.obj bm_1 (mapO S (Value.int .i64) s_2), Ent.obj b_2 (.cells #[.map (some bm_1)] 177 (0, 0))] p_30 hx_4 hv_2
        have hr_5 : RepSeq M_8 (x_5.map (Dat.int .i64)) (x_5.map (Value.int .i64)) := ints_rep x_5
        refine Z f (Y29 (v := .slice A_18 x_5.length cap_18) rfl (ad := (⟨b_4, 0, none⟩ : Addr).add (s_3.1.toNat * 1)) (rr_cell p_31 (i := 1) rfl hv_2)) fun _ f => Y f 1 fun _ f => V_allocS (k := 1) (c := 1) f p_31 (.cells #[.int .i64 ((mget s_2 x_4).getD (0 : Int))] 3 (0, 0)) (by kernel_rfl) (fun _ => by kernel_rfl) fun b_9 w_21 p_32 _ f => ?_
        have p_33 := p_32.pl [1]
        obtain ⟨g_3, hF_16⟩ := nS hF_15
        refine Y20 (z := .int .i64 0) (f := (Dat.int .i64)) (xs := x_5) (ys := [(mget s_2 x_4).getD (0 : Int)]) (news := [.int .i64 ((mget s_2 x_4).getD (0 : Int))]) (ad := ⟨b_9, 0, none⟩) (m := 1) (c := 1) f p_33 hr_5 (by exact ⟨_, _, rfl, rfl, rfl⟩) rfl rfl rfl rfl (own_cells (p_33.ownCell 1 rfl) 0 rfl) (by exact g_3) (by have hg_ := g_3; first | omega | (simp only [List.length_cons, List.length_nil] at *; omega)) fun A_19 cap_19 cs_1 w_22 p_34 hr_6 _ f => ?_
        have p_35 := p_34.pl [1]
        have p_36 := p_35.drop
        refine Z f (Y27 rfl (ad := ⟨b_4, 0, none⟩) (len := ((d0.fChanges.length : Nat) : Int).toNat) (cap := ((d0.fChanges.length : Nat) : Int).toNat) (k := .i64) (i := s_3.1) (e := 47) (sz := 1) (getI_nn hx_4) (rr_lt hl_4 hx_4)) fun _ f => W_storeRR (b := b_4) (j := s_3.1.toNat) (v := .slice A_19 (x_5 ++ [(mget s_2 x_4).getD (0 : Int)]).length cap_19) (hs := hs_4) f p_36 1 (by kernel_rfl) (by kernel_rfl) rfl rfl (by kernel_rfl) (by kernel_rfl) rfl (by kernel_rfl) rfl (rr_ltN hl_4 hx_4) fun w_23 p_37 _ f => ?_
        have p_38 := Hp.rbagPut [Ent.obj b_4 (.cells (hs_4.set s_3.1.toNat (.slice A_19 (x_5 ++ [(mget s_2 x_4).getD (0 : Int)]).length cap_19)).toArray 47 (0, 0)), Ent.obj b_6 (.cells #[S x_2.fId, .int .i8 x_2.fKind, S x_2.fType, .slice A_13 x_2.fProps.length cap_13, .bool x_2.fRetain, .int .i64 x_2.fNode, .bool x_2.fOld, .slice A_14 x_2.fLeans.length cap_14] 72 (0, 0)), Ent.obj D_1 (.deferred (some [])), Ent.obj bm_1 (mapO S (Value.int .i64) s_2), Ent.obj b_2 (.cells #[.map (some bm_1)] 177 (0, 0))] p_37 hr_6 hl_4.1 (rr_ltD hx_4)
        have hl_6 : (hs_4.set s_3.1.toNat (.slice A_19 (x_5 ++ [(mget s_2 x_4).getD (0 : Int)]).length cap_19)).length = (s_4.2.set s_3.1.toNat (x_5 ++ [(mget s_2 x_4).getD (0 : Int)])).length ∧ (s_4.2.set s_3.1.toNat (x_5 ++ [(mget s_2 x_4).getD (0 : Int)])).length = ((d0.fChanges.length : Nat) : Int).toNat := rr_set hl_4 _ _
        refine W_end rfl (B_n (T_n (R_reg ?_)))
        obtain ⟨g_4, hF_17⟩ := nS hF_16
        refine Y f 1 fun _ f => ?_
        have f := f.st 77 (congrArg (Value.int .i64) (inR_wrap g_4))
        refine Y f 1 fun _ f => eT ?_
        obtain rfl := sI hF_17
        exact ⟨⟨m_4, (s_4.1 + 1, s_4.2.set s_3.1.toNat (x_5 ++ [(mget s_2 x_4).getD (0 : Int)])), (hs_4.set s_3.1.toNat (.slice A_19 (x_5 ++ [(mget s_2 x_4).getD (0 : Int)]).length cap_19))⟩, Nat.lt_succ_self _, M_8, hM_8, ⟨hn_2, hl_6⟩, f.kp, p_38⟩
       ·refine wp_skip (B_n (T_n (R_reg ?_)))
        obtain ⟨g_5, hF_19⟩ := nS hF_18
        refine Y f 1 fun _ f => ?_
        have f := f.st 77 (congrArg (Value.int .i64) (inR_wrap g_5))
        refine Y f 1 fun _ f => eT ?_
        obtain rfl := sI hF_19
        exact ⟨⟨m_4, (s_4.1 + 1, s_4.2), hs_4⟩, Nat.lt_succ_self _, M_8, hM_8, ⟨hn_2, hl_4⟩, f.kp, p_30⟩
      ·have k_7 := iff_f dI h_20
       refine wp_exit (T_x (T_x ?_))
       obtain rfl := sI hF_20
       exact ⟨rfl, s_4.2, (sI hn_2).symm, M_8, hM_8, hs_4, hl_4, f.kp, p_30⟩
     ·rintro _ _ w_25 ⟨rfl, y_2, hq_, M_9, hM_9, hs_6, hl_7, f, p_39⟩
      subst b_8
      refine B_x (T_n (RR (Y f 2 fun _ f => ?_)))
      obtain ⟨x_6, hx_5, hF_21⟩ := bS hF_11
      refine Z f (Y27 rfl (ad := ⟨b_4, 0, none⟩) (len := ((d0.fChanges.length : Nat) : Int).toNat) (cap := ((d0.fChanges.length : Nat) : Int).toNat) (k := .i64) (i := s_3.1) (e := 47) (sz := 1) (getI_nn hx_5) (rr_lt hl_7 hx_5)) fun _ f => ?_
      obtain ⟨A_20, cap_20, hv_3⟩ := Hp.rbagHead [Ent.obj b_4 (.cells hs_6.toArray 47 (0, 0)), Ent.obj b_6 (.cells #[S x_2.fId, .int .i8 x_2.fKind, S x_2.fType, .slice A_13 x_2.fProps.length cap_13, .bool x_2.fRetain, .int .i64 x_2.fNode, .bool x_2.fOld, .slice A_14 x_2.fLeans.length cap_14] 72 (0, 0)), Ent.obj D_1 (.deferred (some [])), Ent.obj bm_1 (mapO S (Value.int .i64) s_2), Ent.obj b_2 (.cells #[.map (some bm_1)] 177 (0, 0))] p_39 hl_7.1 hx_5
      have p_40 := Hp.rbagTake [Ent.obj b_4 (.cells hs_6.toArray 47 (0, 0)), Ent.obj b_6 (.cells #[S x_2.fId, .int .i8 x_2.fKind, S x_2.fType, .slice A_13 x_2.fProps.length cap_13, .bool x_2.fRetain, .int .i64 x_2.fNode, .bool x_2.fOld, .slice A_14 x_2.fLeans.length cap_14] 72 (0, 0)), Ent.obj D_1 (.deferred (some [])), Ent.obj bm_1 (mapO S (Value.int .i64) s_2), Ent.obj b_2 (.cells #[.map (some bm_1)] 177 (0, 0))] p_39 hx_5 hv_3
      have hr_7 : RepSeq M_9 (x_6.map (Dat.int .i64)) (x_6.map (Value.int .i64)) := ints_rep x_6
      refine Z f (Y29 (v := .slice A_20 x_6.length cap_20) rfl (ad := (⟨b_4, 0, none⟩ : Addr).add (s_3.1.toNat * 1)) (rr_cell p_40 (i := 1) rfl hv_3)) fun _ f => ?_
      obtain ⟨x_7, hx_6, hF_22⟩ := bS hF_21
      refine Y16 (E := [Ent.row 3 1 (.slice A_20 x_6.length cap_20) x_6.length (x_6.map (Value.int .i64))]) (H := ((Ent.obj b_4 (.cells hs_6.toArray 47 (0, 0))) :: ((Ent.obj b_6 (.cells #[S x_2.fId, .int .i8 x_2.fKind, S x_2.fType, .slice A_13 x_2.fProps.length cap_13, .bool x_2.fRetain, .int .i64 x_2.fNode, .bool x_2.fOld, .slice A_14 x_2.fLeans.length cap_14] 72 (0, 0))) :: ((Ent.obj D_1 (.deferred (some []))) :: ((Ent.obj bm_1 (mapO S (Value.int .i64) s_2)) :: ((Ent.obj b_2 (.cells #[.map (some bm_1)] 177 (0, 0))) :: (rbag 3 .i64 (y_2.eraseIdx s_3.1.toNat) (hs_6.eraseIdx s_3.1.toNat) ++ H))))))) f p_40 (h_SortI_ok n _ A_20 cap_20 x_6 (x_6.map (Value.int .i64)) hr_7 x_7 hx_6) fun _ M_10 E_3 w_26 hM_10 p_41 q_3 _ f => ?_
      obtain ⟨cs_2, rfl, rfl, hr_8, hl_8⟩ := q_3
      refine W_end rfl ?_
      have p_43 := Hp.rbagBack [Ent.obj b_4 (.cells hs_6.toArray 47 (0, 0)), Ent.obj b_6 (.cells #[S x_2.fId, .int .i8 x_2.fKind, S x_2.fType, .slice A_13 x_2.fProps.length cap_13, .bool x_2.fRetain, .int .i64 x_2.fNode, .bool x_2.fOld, .slice A_14 x_2.fLeans.length cap_14] 72 (0, 0)), Ent.obj D_1 (.deferred (some [])), Ent.obj bm_1 (mapO S (Value.int .i64) s_2), Ent.obj b_2 (.cells #[.map (some bm_1)] 177 (0, 0))] p_41 hr_8 hl_7.1 hx_5 hv_3
      have hl_9 : hs_6.length = (y_2.set s_3.1.toNat x_7).length ∧ (y_2.set s_3.1.toNat x_7).length = ((d0.fChanges.length : Nat) : Int).toNat := rr_set1 hl_7 _
      refine T_n (RR (Y f 2 fun _ f => ?_))
      obtain ⟨x_8, hx_7, hF_23⟩ := bS hF_22
      refine Z f (Y27 rfl (ad := ⟨b_4, 0, none⟩) (len := ((d0.fChanges.length : Nat) : Int).toNat) (cap := ((d0.fChanges.length : Nat) : Int).toNat) (k := .i64) (i := s_3.1) (e := 47) (sz := 1) (getI_nn hx_7) (rr_lt hl_9 hx_7)) fun _ f => ?_
      obtain ⟨A_21, cap_21, hv_5⟩ := Hp.rbagHead [Ent.obj b_4 (.cells hs_6.toArray 47 (0, 0)), Ent.obj b_6 (.cells #[S x_2.fId, .int .i8 x_2.fKind, S x_2.fType, .slice A_13 x_2.fProps.length cap_13, .bool x_2.fRetain, .int .i64 x_2.fNode, .bool x_2.fOld, .slice A_14 x_2.fLeans.length cap_14] 72 (0, 0)), Ent.obj D_1 (.deferred (some [])), Ent.obj bm_1 (mapO S (Value.int .i64) s_2), Ent.obj b_2 (.cells #[.map (some bm_1)] 177 (0, 0))] p_43 hl_9.1 hx_7
      have p_44 := Hp.rbagTake [Ent.obj b_4 (.cells hs_6.toArray 47 (0, 0)), Ent.obj b_6 (.cells #[S x_2.fId, .int .i8 x_2.fKind, S x_2.fType, .slice A_13 x_2.fProps.length cap_13, .bool x_2.fRetain, .int .i64 x_2.fNode, .bool x_2.fOld, .slice A_14 x_2.fLeans.length cap_14] 72 (0, 0)), Ent.obj D_1 (.deferred (some [])), Ent.obj bm_1 (mapO S (Value.int .i64) s_2), Ent.obj b_2 (.cells #[.map (some bm_1)] 177 (0, 0))] p_43 hx_7 hv_5
      have hr_9 : RepSeq M_10 (x_8.map (Dat.int .i64)) (x_8.map (Value.int .i64)) := ints_rep x_8
      refine Z f (Y29 (v := .slice A_21 x_8.length cap_21) rfl (ad := (⟨b_4, 0, none⟩ : Addr).add (s_3.1.toNat * 1)) (rr_cell p_44 (i := 1) rfl hv_5)) fun _ f => ?_
      obtain ⟨x_9, hx_8, hF_24⟩ := bS hF_23
      refine Y16 (E := [Ent.row 3 1 (.slice A_21 x_8.length cap_21) x_8.length (x_8.map (Value.int .i64))]) (H := ((Ent.obj b_4 (.cells hs_6.toArray 47 (0, 0))) :: ((Ent.obj b_6 (.cells #[S x_2.fId, .int .i8 x_2.fKind, S x_2.fType, .slice A_13 x_2.fProps.length cap_13, .bool x_2.fRetain, .int .i64 x_2.fNode, .bool x_2.fOld, .slice A_14 x_2.fLeans.length cap_14] 72 (0, 0))) :: ((Ent.obj D_1 (.deferred (some []))) :: ((Ent.obj bm_1 (mapO S (Value.int .i64) s_2)) :: ((Ent.obj b_2 (.cells #[.map (some bm_1)] 177 (0, 0))) :: (rbag 3 .i64 ((y_2.set s_3.1.toNat x_7).eraseIdx s_3.1.toNat) (hs_6.eraseIdx s_3.1.toNat) ++ H))))))) f p_44 (h_CompactI_ok n _ A_21 cap_21 x_8 (x_8.map (Value.int .i64)) hr_9 x_9 hx_8) fun _ M_11 E_4 w_27 hM_11 p_45 q_4 _ f => ?_
      obtain ⟨cs_3, rfl, rfl, hr_10⟩ := q_4
      refine Y f 1 fun _ f => eT (R_reg (Y f 7 fun _ f => ?_))
      obtain ⟨g_6, hF_25⟩ := nS hF_24
      obtain ⟨A_22, cap_22, hv_6, hcap_1, hcn_1⟩ := p_45.rowShape 0 rfl
      have f := f.st 90 (hv_6)
      refine Z (v := .slice (cutA A_22 1 0 ((x_9.length : Nat) : Int).toNat) ((x_9.length : Nat) : Int).toNat ((x_9.length : Nat) : Int).toNat) f (Y32 rfl (A := A_22) (len := x_9.length) (cap := cap_22) (k := .i64) (k' := .i64) (b := ((x_9.length : Nat) : Int)) (e := 3) (sz := 1) g_6.1 (by omega)) fun _ f => ?_
      have f := f.st 90 (hv_6.symm)
      refine Z f (Y27 rfl (ad := ⟨b_4, 0, none⟩) (len := ((d0.fChanges.length : Nat) : Int).toNat) (cap := ((d0.fChanges.length : Nat) : Int).toNat) (k := .i64) (i := s_3.1) (e := 47) (sz := 1) (getI_nn hx_7) (rr_lt hl_9 hx_7)) fun _ f => ?_
      have hr_11 : RepSeq M_11 ((x_9.take ((x_9.length : Nat) : Int).toNat).map (Dat.int .i64)) (cs_3.take (((x_9.length : Nat) : Int).toNat * 1)) := by rw [List.map_take]; exact RepSeq.takeD _ (szd_all (szd_int .i64)) hr_10
      have hl_10 : (x_9.take ((x_9.length : Nat) : Int).toNat).length = ((x_9.length : Nat) : Int).toNat := by rw [List.length_take]; omega
      have p_46 : Hp w0 M_11 ((Ent.row 3 1 (.slice (cutA A_22 1 0 ((x_9.length : Nat) : Int).toNat) (x_9.take ((x_9.length : Nat) : Int).toNat).length (x_9.take ((x_9.length : Nat) : Int).toNat).length) (x_9.take ((x_9.length : Nat) : Int).toNat).length (cs_3.take (((x_9.length : Nat) : Int).toNat * 1))) :: ((Ent.obj b_4 (.cells hs_6.toArray 47 (0, 0))) :: ((Ent.obj b_6 (.cells #[S x_2.fId, .int .i8 x_2.fKind, S x_2.fType, .slice A_13 x_2.fProps.length cap_13, .bool x_2.fRetain, .int .i64 x_2.fNode, .bool x_2.fOld, .slice A_14 x_2.fLeans.length cap_14] 72 (0, 0))) :: ((Ent.obj D_1 (.deferred (some []))) :: ((Ent.obj bm_1 (mapO S (Value.int .i64) s_2)) :: ((Ent.obj b_2 (.cells #[.map (some bm_1)] 177 (0, 0))) :: (rbag 3 .i64 ((y_2.set s_3.1.toNat x_7).eraseIdx s_3.1.toNat) (hs_6.eraseIdx s_3.1.toNat) ++ H))))))) w_27 := by rw [hl_10]; exact p_45.rowFull hv_6 (by omega)
      have f := Frm.set f 95 (v := .slice (cutA A_22 1 0 ((x_9.length : Nat) : Int).toNat) ((x_9.length : Nat) : Int).toNat ((x_9.length : Nat) : Int).toNat) (v' := .slice (cutA A_22 1 0 ((x_9.length : Nat) : Int).toNat) (x_9.take ((x_9.length : Nat) : Int).toNat).length (x_9.take ((x_9.length : Nat) : Int).toNat).length) (by kernel_rfl) (by rw [hl_10])
      refine W_storeRR (b := b_4) (j := s_3.1.toNat) (v := .slice (cutA A_22 1 0 ((x_9.length : Nat) : Int).toNat) (x_9.take ((x_9.length : Nat) : Int).toNat).length (x_9.take ((x_9.length : Nat) : Int).toNat).length) (hs := hs_6) f p_46 1 (by kernel_rfl) (by kernel_rfl) rfl rfl (by kernel_rfl) (by kernel_rfl) rfl (by kernel_rfl) rfl (rr_ltN hl_9 hx_7) fun w_28 p_47 _ f => ?_
      have p_48 := Hp.rbagPut [Ent.obj b_4 (.cells (hs_6.set s_3.1.toNat (.slice (cutA A_22 1 0 ((x_9.length : Nat) : Int).toNat) (x_9.take ((x_9.length : Nat) : Int).toNat).length (x_9.take ((x_9.length : Nat) : Int).toNat).length)).toArray 47 (0, 0)), Ent.obj b_6 (.cells #[S x_2.fId, .int .i8 x_2.fKind, S x_2.fType, .slice A_13 x_2.fProps.length cap_13, .bool x_2.fRetain, .int .i64 x_2.fNode, .bool x_2.fOld, .slice A_14 x_2.fLeans.length cap_14] 72 (0, 0)), Ent.obj D_1 (.deferred (some [])), Ent.obj bm_1 (mapO S (Value.int .i64) s_2), Ent.obj b_2 (.cells #[.map (some bm_1)] 177 (0, 0))] p_47 hr_11 hl_9.1 (rr_ltD hx_7)
      have hl_11 : (hs_6.set s_3.1.toNat (.slice (cutA A_22 1 0 ((x_9.length : Nat) : Int).toNat) (x_9.take ((x_9.length : Nat) : Int).toNat).length (x_9.take ((x_9.length : Nat) : Int).toNat).length)).length = ((y_2.set s_3.1.toNat x_7).set s_3.1.toNat (x_9.take ((x_9.length : Nat) : Int).toNat)).length ∧ ((y_2.set s_3.1.toNat x_7).set s_3.1.toNat (x_9.take ((x_9.length : Nat) : Int).toNat)).length = ((d0.fChanges.length : Nat) : Int).toNat := rr_set hl_9 _ _
      refine W_end rfl (B_n (T_n (R_reg ?_)))
      obtain ⟨g_7, hF_26⟩ := nS hF_25
      refine Y f 1 fun _ f => ?_
      have f := f.st 97 (congrArg (Value.int .i64) (inR_wrap g_7))
      refine Y f 1 fun _ f => W_end rfl ?_
      have p_54 := p_48.pl [4, 4, 4, 3, 4]
      refine T_n ?_
      obtain rfl := sI hF_26
      exact ⟨⟨m_2, (s_3.1 + 1, (y_2.set s_3.1.toNat x_7).set s_3.1.toNat (x_9.take ((x_9.length : Nat) : Int).toNat)), (hs_6.set s_3.1.toNat (.slice (cutA A_22 1 0 ((x_9.length : Nat) : Int).toNat) (x_9.take ((x_9.length : Nat) : Int).toNat).length (x_9.take ((x_9.length : Nat) : Int).toNat).length))⟩, Nat.lt_succ_self _, M_11, ((((hM_5.trans hM_7).trans hM_9).trans hM_10).trans hM_11), ⟨hn_1, hl_11⟩, f.kp, (p_54.dropN 1)⟩
   ·have k_8 := iff_f dI h_13
    refine wp_exit (T_x (T_x ?_))
    obtain rfl := sI hF_27
    exact ⟨rfl, s_3.2, (sI hn_1).symm, M_5, hM_5, hs_2, hl_2, f.kp, p_18⟩
  ·rintro _ _ w_30 ⟨rfl, y_3, hq_, M_12, hM_12, hs_7, hl_12, f, p_49⟩
   subst b_5
   refine B_x (T_n (RR (Y f 2 fun _ f => eT (wp_ret ?_))))
   obtain ⟨M_13, hM_13, p_55, h_22⟩ := Hp.rrKnown [Ent.obj D_1 (.deferred (some [])), Ent.obj bm_1 (mapO S (Value.int .i64) s_2), Ent.obj b_2 (.cells #[.map (some bm_1)] 177 (0, 0))] p_49 hl_12
   have f := Frm.set f 4 (v := .slice (some ⟨b_4, 0, none⟩) ((d0.fChanges.length : Nat) : Int).toNat ((d0.fChanges.length : Nat) : Int).toNat) (v' := .slice (some ⟨b_4, 0, none⟩) y_3.length ((d0.fChanges.length : Nat) : Int).toNat) (by kernel_rfl) (congrArg (fun q => Value.slice _ q _) hl_12.2.symm)
   refine E_M1 f p_55 fun w_31 p_56 => V_rv1 rfl (Y10 (v := .slice (some ⟨b_4, 0, none⟩) y_3.length ((d0.fChanges.length : Nat) : Int).toNat) f) ?_
   obtain rfl := sI hF_4
   exact ⟨_, rfl, M_13, ((((hM_1.trans hM_2).trans hM_4).trans hM_12).trans hM_13), (p_56.dropN 2), ⟨(some ⟨b_4, 0, none⟩), ((d0.fChanges.length : Nat) : Int).toNat, rfl, h_22⟩⟩
 ·intro b; exact b.elim
def slices_Cloneapi_Change_api_Change_z (n : Nat) (d0 : List TC0) (z0 : Bool) : Option (List TC0) :=
  bif z0 then
    (some (([] : List TC0)))
  else
    need ((([] : List TC0).length + d0.length) * 112 ≤ 140737488355328) <|
    some (([] : List TC0) ++ d0)
theorem slices_Cloneapi_Change_api_Change_z_ok (n : Nat) (M : Mem) (A0 : Option Addr) (cap0 : Nat) (d0 : List TC0) (h0 : Sli M 8 emb_TC0 A0 cap0 d0) (z0 : Bool) (hz0 : A0.isNone = z0) (r : List TC0) (hF : slices_Cloneapi_Change_api_Change_z n d0 z0 = some r) : OkH Tryz.prog M [] 118 [.slice A0 d0.length cap0] (fun M' E' v => ∃ (A0 : Option Addr) (k0 : Nat) (s0 : List Value), v = .slice A0 r.length k0 ∧ E' = [.row 72 8 (.slice A0 r.length k0) r.length s0] ∧ RepSeq M' (r.map emb_TC0) s0) := by
 unfold slices_Cloneapi_Change_api_Change_z at hF
 intro M1 hM0 w0 H w p0
 replace h0 := h0.mono hM0
 refine R_enter 8 Tryz.func118 rfl rfl (by simp) fun a0 f0 => RR (Y f0 1 fun _ f => eT (R_seq (RR (Y f 1 fun _ f => Z (v := .bool A0.isNone) f (X_slicenil (A := A0) (n := d0.length) (c := cap0) (e := 72) rfl (by kernel_rfl) (by kernel_rfl) (by kernel_rfl) _) fun _ f => ?_))))
 have f := Frm.set f 4 (v := .bool A0.isNone) (v' := .bool z0) (by kernel_rfl) (cB hz0)
 refine eT (RcF f hF (fun h_1 hF_1 => ?_) fun h_1 hF_2 => ?_)
 ·refine RR (Y f 1 fun _ f => eT (wp_ret (T_r ?_)))
  obtain ⟨A_1, cap_1, hv_1⟩ : ∃ A cap, Value.slice none 0 0 = .slice A ([] : List TC0).length cap := ⟨none, 0, rfl⟩
  have p_1 : Hp w0 M1 ((Ent.row 72 8 (.slice A_1 ([] : List TC0).length cap_1) ([] : List TC0).length []) :: H) w := by rw [← hv_1]; exact p0.nilRow 72 8
  have f := f.st 2 (hv_1)
  have hr_1 : RepSeq M1 (([] : List TC0).map emb_TC0) [] := rfl
  refine E_ret1 f rfl (by kernel_rfl : Vc.look _ 2 = some (.slice A_1 ([] : List TC0).length cap_1)) ?_
  obtain rfl := sI hF_1
  exact ⟨_, rfl, M1, _, (mR _), p_1, ⟨A_1, cap_1, [], rfl, rfl, hr_1⟩⟩
 ·refine wp_skip (T_n (RR (V_allocS (k := 0) (c := 0) f p0 (.cells #[] 72 (0, 0)) (by kernel_rfl) (fun _ => by kernel_rfl) fun b_1 w_1 p_2 _ f => Y f 1 fun _ f => ?_)))
  have hr_2 : RepSeq M1 (([] : List TC0).map emb_TC0) [] := rfl
  have p_3 : Hp w0 M1 ((Ent.row 72 8 (.slice (some ⟨b_1, 0, none⟩) 0 0) ([] : List TC0).length []) :: H) w_1 := p_2.objRow (n := 0) (cap := 0) (size := 8) (by decide) (by decide) (blk_eq (by decide) rfl) rfl rfl
  obtain ⟨g_1, hF_3⟩ := nS hF_2
  refine Y21 (z := .agg #[S [], .int .i8 0, S [], .slice none 0 0, .bool false, .int .i64 0, .bool false, .slice none 0 0]) (f := emb_TC0) (xs := ([] : List TC0)) (ys := d0) (c := cap0) f p_3 hr_2 h0 rfl rfl rfl g_1 (by omega) fun A_2 cap_2 cs_1 w_2 p_4 hr_3 _ f => Y f 1 fun _ f => eT (wp_ret (E_ret1 f rfl (by kernel_rfl : Vc.look _ 2 = some (.slice A_2 (([] : List TC0) ++ d0).length cap_2)) ?_))
  obtain rfl := sI hF_3
  exact ⟨_, rfl, M1, _, (mR _), p_4, ⟨A_2, cap_2, cs_1, rfl, rfl, hr_3⟩⟩
def slices_Cloneapi_Change_api_Change (_ : Nat) (d0 : List TC0) : Option (List TC0) := need (d0.length * 112 ≤ 140737488355328) (some d0)
theorem slices_Cloneapi_Change_api_Change_ok (n : Nat) (M : Mem) (A0 : Option Addr) (cap0 : Nat) (d0 : List TC0) (h0 : Sli M 8 emb_TC0 A0 cap0 d0) (r : List TC0) (hF : slices_Cloneapi_Change_api_Change n d0 = some r) : OkH Tryz.prog M [] 118 [.slice A0 d0.length cap0] (fun M' E' v => ∃ (A0 : Option Addr) (k0 : Nat) (s0 : List Value), v = .slice A0 r.length k0 ∧ E' = [.row 72 8 (.slice A0 r.length k0) r.length s0] ∧ RepSeq M' (r.map emb_TC0) s0) := by
 unfold slices_Cloneapi_Change_api_Change at hF
 obtain ⟨g, hF⟩ := nS hF
 obtain rfl := sI hF
 refine slices_Cloneapi_Change_api_Change_z_ok n M A0 cap0 d0 h0 A0.isNone rfl d0 ?_
 unfold slices_Cloneapi_Change_api_Change_z
 cases A0 with
 | none =>
  obtain ⟨h1, h2, _⟩ := h0
  have h3 := h2 rfl
  obtain rfl : d0 = [] := List.eq_nil_of_length_eq_zero (by omega)
  rfl
 | some a => simp [need]; omega
def forward_leans_s1 (n : Nat) (x_1 : List TC0) (s_1 : Int × List TC0) : Option (Lp (Int × List TC0) (List TC0)) :=
    bif (decide (s_1.1 < ((x_1.length : Nat) : Int))) then
      ((getI s_1.2 s_1.1).bind fun x_2 =>
      bif (decide (x_2.fKind = 4)) then
        ((getI s_1.2 s_1.1).bind fun x_3 =>
        (some (⟨x_3.fId, x_3.fKind, x_3.fType, x_3.fProps, (x_3.fRetain), x_3.fNode, (x_3.fOld), ([] : List (List UInt8))⟩ : TC0)).bind fun x_4 =>
        (some (s_1.2.set s_1.1.toNat x_4)).bind fun x_5 =>
        need (inR .i64 (s_1.1 + 1)) <|
        some (.nx (s_1.1 + 1, x_5)))
      else
        need (inR .i64 (s_1.1 + 1)) <|
        some (.nx (s_1.1 + 1, s_1.2)))
    else
      some (.br s_1.2)
def forward_leans (n : Nat) (d0 : TK0) : Option (List (List Int)) :=
  (slices_Cloneapi_Change_api_Change n d0.fChanges).bind fun x_1 =>
  (loopF (forward_leans_s1 n x_1) n ((0 : Int), x_1)).bind fun y_1 =>
  (change_Leans n (⟨d0.fKind, d0.fWidth, (⟨d0.fOld.fOwned, d0.fOld.fPending, d0.fOld.fRetained, d0.fOld.fOuts, d0.fOld.fText, d0.fOld.fArgs, d0.fOld.fCalls, d0.fOld.fStatus⟩ : TF0), (⟨d0.fNew.fScopes, d0.fNew.fNodes⟩ : TL0), d0.fText, d0.fArgs, y_1, d0.fTasks, d0.fPhase, d0.fStatus⟩ : TK0) (false)).bind fun x_6 =>
  some (x_6)
set_option maxRecDepth 20000 in
theorem forward_leans_ok (n : Nat) (M : Mem) (c0 : List Value) (d0 : TK0) (h0 : Rep M (emb_TK0 d0) c0) (r : List (List Int)) (hF : forward_leans n d0 = some r) : Ok Tryz.prog M 66 [.agg c0.toArray] (fun M' v => ∃ (A0 : Option Addr) (k0 : Nat), v = .slice A0 r.length k0 ∧ Sli M' 1 (eL 1 (Dat.int .i64)) A0 k0 r) := by
 unfold forward_leans at hF
 intro M1 hM0 w0 H w p0
 replace h0 := Rep.mono hM0 _ _ h0
 obtain ⟨A_1, cap_1, A_2, cap_2, A_3, cap_3, A_4, cap_4, A_5, cap_5, A_6, cap_6, A_7, cap_7, A_8, cap_8, A_9, cap_9, A_10, cap_10, rfl, h_1, h_2, h_3, h_4, h_5, h_6, h_7, h_8, h_9, h_10⟩ := TK0.opn h0
 refine R_enter 29 Tryz.func66 rfl rfl (by simp) fun a0 f0 => RR (Y11 f0 p0 (.cells #[.int .i8 d0.fKind, .int .i64 d0.fWidth, .slice A_1 d0.fOld.fOwned.length cap_1, .slice A_2 d0.fOld.fPending.length cap_2, .slice A_3 d0.fOld.fRetained.length cap_3, .slice A_4 d0.fOld.fOuts.length cap_4, S d0.fOld.fText, .slice A_5 d0.fOld.fArgs.length cap_5, .int .i64 d0.fOld.fCalls, .int .i8 d0.fOld.fStatus, .slice A_6 d0.fNew.fScopes.length cap_6, .slice A_7 d0.fNew.fNodes.length cap_7, S d0.fText, .slice A_8 d0.fArgs.length cap_8, .slice A_9 d0.fChanges.length cap_9, .slice A_10 d0.fTasks.length cap_10, .int .i8 d0.fPhase, .int .i8 d0.fStatus] 34 (0, 0)) fun b_1 w_1 p_1 _ f => Y f 1 fun _ f => eT (RR (Y f 1 fun _ f => Z f (Y29 (v := .slice A_9 d0.fChanges.length cap_9) rfl (ad := ⟨b_1, 14, none⟩) (p_1.ownCell 0 rfl 14)) fun _ f => ?_)))
 obtain ⟨x_1, hx_1, hF_1⟩ := bS hF
 refine Y16 (E := []) (H := ((Ent.obj b_1 (.cells #[.int .i8 d0.fKind, .int .i64 d0.fWidth, .slice A_1 d0.fOld.fOwned.length cap_1, .slice A_2 d0.fOld.fPending.length cap_2, .slice A_3 d0.fOld.fRetained.length cap_3, .slice A_4 d0.fOld.fOuts.length cap_4, S d0.fOld.fText, .slice A_5 d0.fOld.fArgs.length cap_5, .int .i64 d0.fOld.fCalls, .int .i8 d0.fOld.fStatus, .slice A_6 d0.fNew.fScopes.length cap_6, .slice A_7 d0.fNew.fNodes.length cap_7, S d0.fText, .slice A_8 d0.fArgs.length cap_8, .slice A_9 d0.fChanges.length cap_9, .slice A_10 d0.fTasks.length cap_10, .int .i8 d0.fPhase, .int .i8 d0.fStatus] 34 (0, 0))) :: H)) f p_1 (slices_Cloneapi_Change_api_Change_ok n _ A_9 cap_9 d0.fChanges h_9 x_1 hx_1) fun _ M_1 E_1 w_2 hM_1 p_2 q_1 _ f => ?_
 obtain ⟨A_11, cap_11, cs_1, rfl, rfl, hr_1⟩ := q_1
 refine Y f 1 fun _ f => Y25 f p_2 1 rfl rfl (b := b_1) (j := 14) (v := .slice A_11 x_1.length cap_11) rfl (by exact rfl) (by simp) (by simp) ((Ent.row 72 8 (.slice A_11 x_1.length cap_11) x_1.length cs_1) :: (Ent.obj b_1 (.cells #[.int .i8 d0.fKind, .int .i64 d0.fWidth, .slice A_1 d0.fOld.fOwned.length cap_1, .slice A_2 d0.fOld.fPending.length cap_2, .slice A_3 d0.fOld.fRetained.length cap_3, .slice A_4 d0.fOld.fOuts.length cap_4, S d0.fOld.fText, .slice A_5 d0.fOld.fArgs.length cap_5, .int .i64 d0.fOld.fCalls, .int .i8 d0.fOld.fStatus, .slice A_6 d0.fNew.fScopes.length cap_6, .slice A_7 d0.fNew.fNodes.length cap_7, S d0.fText, .slice A_8 d0.fArgs.length cap_8, .slice A_11 x_1.length cap_11, .slice A_10 d0.fTasks.length cap_10, .int .i8 d0.fPhase, .int .i8 d0.fStatus] 34 (0, 0))) :: H) rfl fun w_3 p_3 _ f => eT (R_seq (RR (Y f 1 fun _ f => Z f (Y29 (v := .slice A_11 x_1.length cap_11) rfl (ad := ⟨b_1, 14, none⟩) (p_3.ownCell 1 rfl 14)) fun _ f => Y f 2 fun _ f => eT (wp_block ?_))))
 obtain ⟨b_2, hL_1, hF_2⟩ := bS hF_1
 refine wp_mono (Q := fun e a w => (e = .exit 0 ∧ (∃ y_1 : List TC0, b_2 = y_1 ∧ ∃ M_3 : Mem, M_1.le M_3 ∧ ∃ (A_17 : Option Addr), ∃ (cap_19 : Nat), ∃ (cs_3 : List Value), RepSeq M_3 (y_1.map emb_TC0) cs_3 ∧ Frm 29 [(1, .pointer (some (⟨b_1, 0, none⟩)))] a ∧ Hp w0 M_3 ((Ent.row 72 8 (.slice A_17 y_1.length cap_19) y_1.length cs_3) :: (Ent.obj b_1 (.cells #[.int .i8 d0.fKind, .int .i64 d0.fWidth, .slice A_1 d0.fOld.fOwned.length cap_1, .slice A_2 d0.fOld.fPending.length cap_2, .slice A_3 d0.fOld.fRetained.length cap_3, .slice A_4 d0.fOld.fOuts.length cap_4, S d0.fOld.fText, .slice A_5 d0.fOld.fArgs.length cap_5, .int .i64 d0.fOld.fCalls, .int .i8 d0.fOld.fStatus, .slice A_6 d0.fNew.fScopes.length cap_6, .slice A_7 d0.fNew.fNodes.length cap_7, S d0.fText, .slice A_8 d0.fArgs.length cap_8, .slice A_17 y_1.length cap_19, .slice A_10 d0.fTasks.length cap_10, .int .i8 d0.fPhase, .int .i8 d0.fStatus] 34 (0, 0))) :: H) w))) (R_loop (n := 29) (w0 := w0) (M := M_1) (fun (x : Nat × (Int × List TC0) × (Option Addr) × Nat × (List Value)) => match x with | (m_1, s_1, A_12, cap_12, cs_2) => [(1, .pointer (some (⟨b_1, 0, none⟩))), (10, .int .i64 ((x_1.length : Nat) : Int)), (11, .int .i64 s_1.1)]) (fun (x : Nat × (Int × List TC0) × (Option Addr) × Nat × (List Value)) => match x with | (m_1, s_1, A_12, cap_12, cs_2) => ((Ent.row 72 8 (.slice A_12 s_1.2.length cap_12) s_1.2.length cs_2) :: (Ent.obj b_1 (.cells #[.int .i8 d0.fKind, .int .i64 d0.fWidth, .slice A_1 d0.fOld.fOwned.length cap_1, .slice A_2 d0.fOld.fPending.length cap_2, .slice A_3 d0.fOld.fRetained.length cap_3, .slice A_4 d0.fOld.fOuts.length cap_4, S d0.fOld.fText, .slice A_5 d0.fOld.fArgs.length cap_5, .int .i64 d0.fOld.fCalls, .int .i8 d0.fOld.fStatus, .slice A_6 d0.fNew.fScopes.length cap_6, .slice A_7 d0.fNew.fNodes.length cap_7, S d0.fText, .slice A_8 d0.fArgs.length cap_8, .slice A_12 s_1.2.length cap_12, .slice A_10 d0.fTasks.length cap_10, .int .i8 d0.fPhase, .int .i8 d0.fStatus] 34 (0, 0))) :: H)) (fun (x : Nat × (Int × List TC0) × (Option Addr) × Nat × (List Value)) (MM : Mem) => match x with | (m_1, s_1, A_12, cap_12, cs_2) => loopF (forward_leans_s1 n x_1) m_1 s_1 = some b_2 ∧ RepSeq MM (s_1.2.map emb_TC0) cs_2) (fun (x : Nat × (Int × List TC0) × (Option Addr) × Nat × (List Value)) => match x with | (m_1, s_1, A_12, cap_12, cs_2) => m_1) (n, ((0 : Int), x_1), A_11, cap_11, cs_1) (f.kp) p_3 ⟨hL_1, hr_1⟩ ?_) ?_
 ·rintro ⟨m_1, s_1, A_12, cap_12, cs_2⟩ M_2 _ w_4 hM_2 I_1 f p_4
  obtain ⟨I_1L, hr_2⟩ := I_1
  obtain ⟨m_2, r_1, rfl, hs_1, hn_1⟩ := loop_step I_1L
  unfold forward_leans_s1 at hs_1
  refine RR (Y f 1 fun _ f => eT (R_seq (RcF f hs_1 (fun h_11 hF_3 => ?_) fun h_11 hF_12 => ?_)))
  ·have k_1 := dI.1 h_11
   refine wp_skip (T_n (R_seq (wp_block (RR (Y f 2 fun _ f => eT (RR (Y f 1 fun _ f => Z f (Y29 (v := .slice A_12 s_1.2.length cap_12) rfl (ad := ⟨b_1, 14, none⟩) (p_4.ownCell 1 rfl 14)) fun _ f => Y f 1 fun _ f => ?_)))))))
   obtain ⟨x_2, hx_2, hF_4⟩ := bS hF_3
   obtain ⟨b_3, cap_13, hv_1, hcap_1⟩ := p_4.rowAddr 0 rfl (getI_pos hx_2)
   have f := f.st 15 (hv_1)
   refine Z f (Y27 rfl (ad := ⟨b_3, 0, none⟩) (len := s_1.2.length) (cap := cap_13) (k := .i64) (i := s_1.1) (e := 72) (sz := 8) (getI_nn hx_2) (getI_lt hx_2)) fun _ f => ?_
   have f := f.st 15 (hv_1.symm)
   refine Y f 1 fun _ f => ?_
   obtain ⟨c_1, -, hr_3, hc_1⟩ := RepSeq.get s_1.1.toNat (szd_all szd_TC0) hr_2 (getI_map hx_2)
   obtain ⟨A_13, cap_14, A_14, cap_15, rfl, h_12, h_13⟩ := TC0.opn hr_3
   refine Z f (Y29 (v := .int .i8 x_2.fKind) rfl (ad := ((⟨b_3, 0, none⟩ : Addr).add (s_1.1.toNat * 8)).add 1) ((fun j v h => row_at (p_4.rowCell 0 rfl hv_1) hc_1 j v h) 1 _ rfl)) fun _ f => Y f 1 fun _ f => eT (RcF f hF_4 (fun h_14 hF_5 => ?_) fun h_14 hF_10 => ?_)
   ·have k_2 := dI.1 h_14
    refine R_reg (Y f 1 fun _ f => Z f (Y29 (v := .slice A_12 s_1.2.length cap_12) rfl (ad := ⟨b_1, 14, none⟩) (p_4.ownCell 1 rfl 14)) fun _ f => Y f 1 fun _ f => ?_)
    obtain ⟨x_3, hx_3, hF_6⟩ := bS hF_5
    obtain ⟨b_4, cap_16, hv_2, hcap_2⟩ := p_4.rowAddr 0 rfl (getI_pos hx_3)
    have f := f.st 22 (hv_2)
    refine Z f (Y27 rfl (ad := ⟨b_4, 0, none⟩) (len := s_1.2.length) (cap := cap_16) (k := .i64) (i := s_1.1) (e := 72) (sz := 8) (getI_nn hx_3) (getI_lt hx_3)) fun _ f => ?_
    have f := f.st 22 (hv_2.symm)
    refine Y f 1 fun _ f => ?_
    obtain ⟨c_2, hl_2, hr_4, hc_2⟩ := RepSeq.get s_1.1.toNat (szd_all szd_TC0) hr_2 (getI_map hx_3)
    obtain ⟨A_15, cap_17, A_16, cap_18, rfl, h_15, h_16⟩ := TC0.opn hr_4
    obtain ⟨x_4, hx_4, hF_7⟩ := bS hF_6
    replace hx_4 : (⟨x_3.fId, x_3.fKind, x_3.fType, x_3.fProps, (x_3.fRetain), x_3.fNode, (x_3.fOld), ([] : List (List UInt8))⟩ : TC0) = x_4 := sI hx_4
    obtain ⟨x_5, hx_5, hF_8⟩ := bS hF_7
    replace hx_5 : s_1.2.set s_1.1.toNat x_4 = x_5 := sI hx_5
    refine W_rowstoreF (it := s_1.1) (off := 7) (d := s_1.2) (f := emb_TC0) (xv := x_4) (u := .slice none 0 0) (c0 := [S x_3.fId, .int .i8 x_3.fKind, S x_3.fType, .slice A_15 x_3.fProps.length cap_17, .bool x_3.fRetain, .int .i64 x_3.fNode, .bool x_3.fOld, .slice A_16 x_3.fLeans.length cap_18]) (c1 := [S x_3.fId, .int .i8 x_3.fKind, S x_3.fType, .slice A_15 x_3.fProps.length cap_17, .bool x_3.fRetain, .int .i64 x_3.fNode, .bool x_3.fOld, .slice none 0 0]) f p_4 hv_2 (by kernel_rfl) (by kernel_rfl) rfl rfl (by kernel_rfl) (by kernel_rfl) rfl (by kernel_rfl) szd_TC0 hx_3 hr_2 rfl hc_2 (Nat.le_of_ble_eq_true rfl) rfl (by rw [← hx_4]; exact TC0.shut h_15 Sli.nil) fun w_5 p_5 hr_5 _ f => ?_
    rw [hx_5] at hr_5
    have p_6 : Hp w0 M_2 ((Ent.row 72 8 (.slice A_12 (x_5).length cap_12) x_5.length (cs_2.set (s_1.1.toNat * 8 + 7) (.slice none 0 0))) :: (Ent.obj b_1 (.cells #[.int .i8 d0.fKind, .int .i64 d0.fWidth, .slice A_1 d0.fOld.fOwned.length cap_1, .slice A_2 d0.fOld.fPending.length cap_2, .slice A_3 d0.fOld.fRetained.length cap_3, .slice A_4 d0.fOld.fOuts.length cap_4, S d0.fOld.fText, .slice A_5 d0.fOld.fArgs.length cap_5, .int .i64 d0.fOld.fCalls, .int .i8 d0.fOld.fStatus, .slice A_6 d0.fNew.fScopes.length cap_6, .slice A_7 d0.fNew.fNodes.length cap_7, S d0.fText, .slice A_8 d0.fArgs.length cap_8, .slice A_12 s_1.2.length cap_12, .slice A_10 d0.fTasks.length cap_10, .int .i8 d0.fPhase, .int .i8 d0.fStatus] 34 (0, 0))) :: H) w_5 := by rw [← hx_5]; exact p_5.rowVal (by simp only [List.length_set])
    have hv_3 := hv_set hv_2 s_1.1.toNat x_4
    have hx_6 := getI_set (y := x_4) hx_3
    rw [hx_5] at hv_3 hx_6
    have p_7 : Hp w0 M_2 ((Ent.row 72 8 (.slice A_12 (x_5).length cap_12) x_5.length (cs_2.set (s_1.1.toNat * 8 + 7) (.slice none 0 0))) :: (Ent.obj b_1 (.cells #[.int .i8 d0.fKind, .int .i64 d0.fWidth, .slice A_1 d0.fOld.fOwned.length cap_1, .slice A_2 d0.fOld.fPending.length cap_2, .slice A_3 d0.fOld.fRetained.length cap_3, .slice A_4 d0.fOld.fOuts.length cap_4, S d0.fOld.fText, .slice A_5 d0.fOld.fArgs.length cap_5, .int .i64 d0.fOld.fCalls, .int .i8 d0.fOld.fStatus, .slice A_6 d0.fNew.fScopes.length cap_6, .slice A_7 d0.fNew.fNodes.length cap_7, S d0.fText, .slice A_8 d0.fArgs.length cap_8, .slice A_12 (x_5).length cap_12, .slice A_10 d0.fTasks.length cap_10, .int .i8 d0.fPhase, .int .i8 d0.fStatus] 34 (0, 0))) :: H) w_5 := by rw [← hx_5, List.length_set]; rw [← hx_5, List.length_set] at p_6; exact p_6
    refine W_end rfl (B_n (T_n (R_reg ?_)))
    obtain ⟨g_1, hF_9⟩ := nS hF_8
    refine Y f 1 fun _ f => ?_
    have f := f.st 26 (congrArg (Value.int .i64) (inR_wrap g_1))
    refine Y f 1 fun _ f => eT ?_
    obtain rfl := sI hF_9
    exact ⟨⟨m_2, (s_1.1 + 1, x_5), A_12, cap_12, cs_2.set (s_1.1.toNat * 8 + 7) (.slice none 0 0)⟩, Nat.lt_succ_self _, M_2, hM_2, ⟨hn_1, hr_5⟩, f.kp, p_7⟩
   ·have k_3 := iff_f dI h_14
    refine wp_skip (B_n (T_n (R_reg ?_)))
    obtain ⟨g_2, hF_11⟩ := nS hF_10
    refine Y f 1 fun _ f => ?_
    have f := f.st 26 (congrArg (Value.int .i64) (inR_wrap g_2))
    refine Y f 1 fun _ f => eT ?_
    obtain rfl := sI hF_11
    exact ⟨⟨m_2, (s_1.1 + 1, s_1.2), A_12, cap_12, cs_2⟩, Nat.lt_succ_self _, M_2, hM_2, ⟨hn_1, hr_2⟩, f.kp, p_4⟩
  ·have k_4 := iff_f dI h_11
   refine wp_exit (T_x (T_x ?_))
   obtain rfl := sI hF_12
   exact ⟨rfl, s_1.2, (sI hn_1).symm, M_2, hM_2, A_12, cap_12, cs_2, hr_2, f.kp, p_4⟩
 ·rintro _ _ w_7 ⟨rfl, y_1, hq_, M_3, hM_3, A_17, cap_19, cs_3, hr_6, f, p_8⟩
  subst b_2
  refine B_x (T_n (RR (Z (v := .agg #[.int .i8 d0.fKind, .int .i64 d0.fWidth, .slice A_1 d0.fOld.fOwned.length cap_1, .slice A_2 d0.fOld.fPending.length cap_2, .slice A_3 d0.fOld.fRetained.length cap_3, .slice A_4 d0.fOld.fOuts.length cap_4, S d0.fOld.fText, .slice A_5 d0.fOld.fArgs.length cap_5, .int .i64 d0.fOld.fCalls, .int .i8 d0.fOld.fStatus, .slice A_6 d0.fNew.fScopes.length cap_6, .slice A_7 d0.fNew.fNodes.length cap_7, S d0.fText, .slice A_8 d0.fArgs.length cap_8, .slice A_17 y_1.length cap_19, .slice A_10 d0.fTasks.length cap_10, .int .i8 d0.fPhase, .int .i8 d0.fStatus]) f (Y30 (cs := [.int .i8 d0.fKind, .int .i64 d0.fWidth, .slice A_1 d0.fOld.fOwned.length cap_1, .slice A_2 d0.fOld.fPending.length cap_2, .slice A_3 d0.fOld.fRetained.length cap_3, .slice A_4 d0.fOld.fOuts.length cap_4, S d0.fOld.fText, .slice A_5 d0.fOld.fArgs.length cap_5, .int .i64 d0.fOld.fCalls, .int .i8 d0.fOld.fStatus, .slice A_6 d0.fNew.fScopes.length cap_6, .slice A_7 d0.fNew.fNodes.length cap_7, S d0.fText, .slice A_8 d0.fArgs.length cap_8, .slice A_17 y_1.length cap_19, .slice A_10 d0.fTasks.length cap_10, .int .i8 d0.fPhase, .int .i8 d0.fStatus]) rfl (ad := ⟨b_1, 0, none⟩) (own_cells (p_8.ownCell 1 rfl) 0 rfl)) fun _ f => ?_)))
  obtain ⟨A_18, cap_20, M_4, hv_4, hM_4, p_9, h_17⟩ := p_8.rowSli (f := emb_TC0) (xs := y_1) szd_TC0 hr_6
  have f := Frm.set f 27 (v := .agg #[.int .i8 d0.fKind, .int .i64 d0.fWidth, .slice A_1 d0.fOld.fOwned.length cap_1, .slice A_2 d0.fOld.fPending.length cap_2, .slice A_3 d0.fOld.fRetained.length cap_3, .slice A_4 d0.fOld.fOuts.length cap_4, S d0.fOld.fText, .slice A_5 d0.fOld.fArgs.length cap_5, .int .i64 d0.fOld.fCalls, .int .i8 d0.fOld.fStatus, .slice A_6 d0.fNew.fScopes.length cap_6, .slice A_7 d0.fNew.fNodes.length cap_7, S d0.fText, .slice A_8 d0.fArgs.length cap_8, .slice A_17 y_1.length cap_19, .slice A_10 d0.fTasks.length cap_10, .int .i8 d0.fPhase, .int .i8 d0.fStatus]) (v' := .agg #[.int .i8 d0.fKind, .int .i64 d0.fWidth, .slice A_1 d0.fOld.fOwned.length cap_1, .slice A_2 d0.fOld.fPending.length cap_2, .slice A_3 d0.fOld.fRetained.length cap_3, .slice A_4 d0.fOld.fOuts.length cap_4, S d0.fOld.fText, .slice A_5 d0.fOld.fArgs.length cap_5, .int .i64 d0.fOld.fCalls, .int .i8 d0.fOld.fStatus, .slice A_6 d0.fNew.fScopes.length cap_6, .slice A_7 d0.fNew.fNodes.length cap_7, S d0.fText, .slice A_8 d0.fArgs.length cap_8, .slice A_18 y_1.length cap_20, .slice A_10 d0.fTasks.length cap_10, .int .i8 d0.fPhase, .int .i8 d0.fStatus]) (by kernel_rfl) (by rw [hv_4])
  have p_10 : Hp w0 M_4 ((Ent.obj b_1 (.cells #[.int .i8 d0.fKind, .int .i64 d0.fWidth, .slice A_1 d0.fOld.fOwned.length cap_1, .slice A_2 d0.fOld.fPending.length cap_2, .slice A_3 d0.fOld.fRetained.length cap_3, .slice A_4 d0.fOld.fOuts.length cap_4, S d0.fOld.fText, .slice A_5 d0.fOld.fArgs.length cap_5, .int .i64 d0.fOld.fCalls, .int .i8 d0.fOld.fStatus, .slice A_6 d0.fNew.fScopes.length cap_6, .slice A_7 d0.fNew.fNodes.length cap_7, S d0.fText, .slice A_8 d0.fArgs.length cap_8, .slice A_18 y_1.length cap_20, .slice A_10 d0.fTasks.length cap_10, .int .i8 d0.fPhase, .int .i8 d0.fStatus] 34 (0, 0))) :: H) w_7 := by rw [hv_4] at p_9; exact p_9
  obtain ⟨x_6, hx_7, hF_13⟩ := bS hF_2
  refine Y15 f p_10 (change_Leans_ok n _ _ (⟨d0.fKind, d0.fWidth, (⟨d0.fOld.fOwned, d0.fOld.fPending, d0.fOld.fRetained, d0.fOld.fOuts, d0.fOld.fText, d0.fOld.fArgs, d0.fOld.fCalls, d0.fOld.fStatus⟩ : TF0), (⟨d0.fNew.fScopes, d0.fNew.fNodes⟩ : TL0), d0.fText, d0.fArgs, y_1, d0.fTasks, d0.fPhase, d0.fStatus⟩ : TK0) (TK0.shut (h_1.mono ((hM_1.trans hM_3).trans hM_4)) (h_2.mono ((hM_1.trans hM_3).trans hM_4)) (h_3.mono ((hM_1.trans hM_3).trans hM_4)) (h_4.mono ((hM_1.trans hM_3).trans hM_4)) (h_5.mono ((hM_1.trans hM_3).trans hM_4)) (h_6.mono ((hM_1.trans hM_3).trans hM_4)) (h_7.mono ((hM_1.trans hM_3).trans hM_4)) (h_8.mono ((hM_1.trans hM_3).trans hM_4)) h_17 (h_10.mono ((hM_1.trans hM_3).trans hM_4))) (false) x_6 hx_7) fun _ M_5 w_8 hM_5 p_11 q_2 _ f => ?_
  obtain ⟨A_19, cap_21, rfl, h_18⟩ := q_2
  refine Y f 1 fun _ f => eT (wp_ret (E_ret1 f rfl (by kernel_rfl : Vc.look _ 2 = some (.slice A_19 x_6.length cap_21)) ?_))
  obtain rfl := sI hF_13
  exact ⟨_, rfl, M_5, (((hM_1.trans hM_3).trans hM_4).trans hM_5), (p_11.dropN 1), ⟨A_19, cap_21, rfl, h_18⟩⟩
def state_Live_s2 (n : Nat) (y_1 : List TS0 × Int) (s_2 : List (List UInt8) × Int) : Option (Lp (List (List UInt8) × Int) (List (List UInt8))) :=
    bif (decide (s_2.2 < ((y_1.1.length : Nat) : Int))) then
      ((getI y_1.1 s_2.2).bind fun x_1 =>
      need ((s_2.1.length + 1) * 16 ≤ 140737488355328) <|
      need (inR .i64 (s_2.2 + 1)) <|
      some (.nx (s_2.1 ++ [x_1.fPhys], s_2.2 + 1)))
    else
      some (.br s_2.1)
def state_Live_s1 (n : Nat) (d0 : TF0) (s_1 : List (List UInt8) × Int) : Option (Lp (List (List UInt8) × Int) (List (List UInt8))) :=
    bif (decide (s_1.2 < 3)) then
      (((need (0 ≤ s_1.2 ∧ s_1.2 < 3) <|
        bif (decide (s_1.2 = 0)) then
          (some ((d0.fOwned, (0 : Int))))
        else
          bif (decide (s_1.2 = 1)) then
            (some ((d0.fPending, (1 : Int))))
          else
            some ((d0.fRetained, (2 : Int))) : Option (List TS0 × Int))).bind fun y_1 =>
      (loopF (state_Live_s2 n y_1) n (s_1.1, (0 : Int))).bind fun y_2 =>
      need (inR .i64 (y_1.2 + 1)) <|
      some (.nx (y_2, y_1.2 + 1)))
    else
      some (.br s_1.1)
def state_Live (n : Nat) (d0 : TF0) : Option (List (List UInt8)) :=
  (loopF (state_Live_s1 n d0) n (([] : List (List UInt8)), (0 : Int))).bind fun y_3 =>
  some (y_3)
set_option maxRecDepth 20000 in
theorem state_Live_ok (n : Nat) (M : Mem) (c0 : List Value) (d0 : TF0) (h0 : Rep M (emb_TF0 d0) c0) (r : List (List UInt8)) (hF : state_Live n d0 = some r) : OkH Tryz.prog M [] 113 [.agg c0.toArray] (fun M' E' v => ∃ (A0 : Option Addr) (k0 : Nat) (s0 : List Value), v = .slice A0 r.length k0 ∧ E' = [.row 9 1 (.slice A0 r.length k0) r.length s0] ∧ RepSeq M' (r.map Dat.str) s0) := by
 unfold state_Live at hF
 intro M1 hM0 w0 H w p0
 replace h0 := Rep.mono hM0 _ _ h0
 obtain ⟨A_1, cap_1, A_2, cap_2, A_3, cap_3, A_4, cap_4, A_5, cap_5, rfl, h_1, h_2, h_3, h_4, h_5⟩ := TF0.opn h0
 refine R_enter 31 Tryz.func113 rfl rfl (by simp) fun a0 f0 => RR (Y12 (cs := #[.slice A_1 d0.fOwned.length cap_1, .slice A_2 d0.fPending.length cap_2, .slice A_3 d0.fRetained.length cap_3, .slice A_4 d0.fOuts.length cap_4, S d0.fText, .slice A_5 d0.fArgs.length cap_5, .int .i64 d0.fCalls, .int .i8 d0.fStatus]) (T := 26) f0 p0 fun b_1 M_1 w_1 hM_1 hc_1 p_1 _ f => ?_)
 have hc_2 := fz_box hc_1
 refine Y f 1 fun _ f => eT (R_seq (RR (Y f 1 fun _ f => Y14 f p_1 hc_2 0 rfl fun _ f => Y f 1 fun _ f => Y14 f p_1 hc_2 1 rfl fun _ f => Y f 1 fun _ f => Y14 f p_1 hc_2 2 rfl fun _ f => Y f 2 fun _ f => eT (wp_block ?_))))
 obtain ⟨A_6, cap_6, hv_1⟩ : ∃ A cap, Value.slice none 0 0 = .slice A ([] : List (List UInt8)).length cap := ⟨none, 0, rfl⟩
 have p_2 : Hp w0 M_1 ((Ent.row 9 1 (.slice A_6 ([] : List (List UInt8)).length cap_6) ([] : List (List UInt8)).length []) :: H) w_1 := by rw [← hv_1]; exact p_1.nilRow 9 1
 have f := f.st 2 (hv_1)
 have hr_1 : RepSeq M_1 (([] : List (List UInt8)).map Dat.str) [] := rfl
 obtain ⟨b_2, hL_1, hF_1⟩ := bS hF
 refine wp_mono (Q := fun e a w => (e = .exit 0 ∧ (∃ y_3 : List (List UInt8), b_2 = y_3 ∧ ∃ M_6 : Mem, M_1.le M_6 ∧ ∃ (A_14 : Option Addr), ∃ (cap_14 : Nat), ∃ (cs_5 : List Value), RepSeq M_6 (y_3.map Dat.str) cs_5 ∧ Frm 31 [(2, .slice A_14 y_3.length cap_14)] a ∧ Hp w0 M_6 ((Ent.row 9 1 (.slice A_14 y_3.length cap_14) y_3.length cs_5) :: H) w))) (R_loop (n := 31) (w0 := w0) (M := M_1) (fun (x : Nat × (List (List UInt8) × Int) × (Option Addr) × Nat × (List Value)) => match x with | (m_1, s_1, A_7, cap_7, cs_1) => [(2, .slice A_7 s_1.1.length cap_7), (13, .agg #[.slice A_1 d0.fOwned.length cap_1, .slice A_2 d0.fPending.length cap_2, .slice A_3 d0.fRetained.length cap_3]), (14, .int .i64 s_1.2)]) (fun (x : Nat × (List (List UInt8) × Int) × (Option Addr) × Nat × (List Value)) => match x with | (m_1, s_1, A_7, cap_7, cs_1) => ((Ent.row 9 1 (.slice A_7 s_1.1.length cap_7) s_1.1.length cs_1) :: H)) (fun (x : Nat × (List (List UInt8) × Int) × (Option Addr) × Nat × (List Value)) (MM : Mem) => match x with | (m_1, s_1, A_7, cap_7, cs_1) => loopF (state_Live_s1 n d0) m_1 s_1 = some b_2 ∧ RepSeq MM (s_1.1.map Dat.str) cs_1) (fun (x : Nat × (List (List UInt8) × Int) × (Option Addr) × Nat × (List Value)) => match x with | (m_1, s_1, A_7, cap_7, cs_1) => m_1) (n, (([] : List (List UInt8)), (0 : Int)), A_6, cap_6, []) (f.kp) p_2 ⟨hL_1, hr_1⟩ ?_) ?_
 ·rintro ⟨m_1, s_1, A_7, cap_7, cs_1⟩ M_2 _ w_2 hM_2 I_1 f p_3
  obtain ⟨I_1L, hr_2⟩ := I_1
  obtain ⟨m_2, r_1, rfl, hs_1, hn_1⟩ := loop_step I_1L
  unfold state_Live_s1 at hs_1
  refine RR (Y f 1 fun _ f => eT (R_seq (RcF f hs_1 (fun h_6 hF_2 => ?_) fun h_6 hF_16 => ?_)))
  ·have k_1 := dI.1 h_6
   refine wp_skip (T_n (R_seq (wp_block (R_seq ?_))))
   obtain ⟨j_1, hj_1, hF_3⟩ := bS hF_2
   refine R_mid (fun a_18 w_3 => ∃ y_1 : List TS0 × Int, j_1 = y_1 ∧ ∃ M_3 : Mem, M_2.le M_3 ∧ ∃ (A_8 : Option Addr), ∃ (cap_8 : Nat), Sli M_3 6 emb_TS0 A_8 cap_8 y_1.1 ∧ Frm 31 [(2, .slice A_7 s_1.1.length cap_7), (4, .slice A_8 y_1.1.length cap_8), (13, .agg #[.slice A_1 d0.fOwned.length cap_1, .slice A_2 d0.fPending.length cap_2, .slice A_3 d0.fRetained.length cap_3]), (14, .int .i64 y_1.2)] a_18 ∧ Hp w0 M_3 ((Ent.row 9 1 (.slice A_7 s_1.1.length cap_7) s_1.1.length cs_1) :: H) w_3) ?_ ?_
   ·refine R_reg ?_
    obtain ⟨g_1, hF_4⟩ := nS hj_1
    rcases cE hF_4 with ⟨h_7, hF_5⟩ | ⟨h_7, hF_6⟩
    ·have e_1 : s_1.2 = 0 := of_decide_eq_true h_7
     have f := Frm.set f 14 (v := .int .i64 s_1.2) (v' := .int .i64 0) (by kernel_rfl) (congrArg (Value.int .i64) e_1)
     refine Y f 1 fun _ f => Y f 1 fun _ f => eT ?_
     exact ⟨(d0.fOwned, (0 : Int)), (sI hF_5).symm, M_2, (mR _), A_1, cap_1, (h_1.mono (hM_1.trans hM_2)), f.kp, p_3⟩
    ·have e_2 : ¬ (s_1.2 = 0) := of_decide_eq_false h_7
     rcases cE hF_6 with ⟨h_8, hF_7⟩ | ⟨h_8, hF_8⟩
     ·have e_3 : s_1.2 = 1 := of_decide_eq_true h_8
      have f := Frm.set f 14 (v := .int .i64 s_1.2) (v' := .int .i64 1) (by kernel_rfl) (congrArg (Value.int .i64) e_3)
      refine Y f 1 fun _ f => Y f 1 fun _ f => eT ?_
      exact ⟨(d0.fPending, (1 : Int)), (sI hF_7).symm, M_2, (mR _), A_2, cap_2, (h_2.mono (hM_1.trans hM_2)), f.kp, p_3⟩
     ·have e_4 : ¬ (s_1.2 = 1) := of_decide_eq_false h_8
      have e_5 : s_1.2 = 2 := by omega
      have f := Frm.set f 14 (v := .int .i64 s_1.2) (v' := .int .i64 2) (by kernel_rfl) (congrArg (Value.int .i64) e_5)
      refine Y f 1 fun _ f => Y f 1 fun _ f => eT ?_
      exact ⟨(d0.fRetained, (2 : Int)), (sI hF_8).symm, M_2, (mR _), A_3, cap_3, (h_3.mono (hM_1.trans hM_2)), f.kp, p_3⟩
   ·rintro a_18 w_3 ⟨y_1, hq_1, M_3, hM_3, A_8, cap_8, h_9, f, p_4⟩
    subst j_1
    refine T_n (RR (Y f 3 fun _ f => eT (wp_block ?_)))
    obtain ⟨b_3, hL_2, hF_9⟩ := bS hF_3
    refine wp_mono (Q := fun e a w => (e = .exit 2 ∧ (∃ y_2 : List (List UInt8), b_3 = y_2 ∧ ∃ M_5 : Mem, M_3.le M_5 ∧ ∃ (A_13 : Option Addr), ∃ (cap_13 : Nat), ∃ (cs_4 : List Value), RepSeq M_5 (y_2.map Dat.str) cs_4 ∧ Frm 31 [(2, .slice A_13 y_2.length cap_13), (13, .agg #[.slice A_1 d0.fOwned.length cap_1, .slice A_2 d0.fPending.length cap_2, .slice A_3 d0.fRetained.length cap_3]), (14, .int .i64 y_1.2)] a ∧ Hp w0 M_5 ((Ent.row 9 1 (.slice A_13 y_2.length cap_13) y_2.length cs_4) :: H) w))) (R_loop (n := 31) (w0 := w0) (M := M_3) (fun (x : Nat × (List (List UInt8) × Int) × (Option Addr) × Nat × (List Value)) => match x with | (m_3, s_2, A_9, cap_9, cs_2) => [(2, .slice A_9 s_2.1.length cap_9), (13, .agg #[.slice A_1 d0.fOwned.length cap_1, .slice A_2 d0.fPending.length cap_2, .slice A_3 d0.fRetained.length cap_3]), (14, .int .i64 y_1.2), (17, .slice A_8 y_1.1.length cap_8), (18, .int .i64 ((y_1.1.length : Nat) : Int)), (19, .int .i64 s_2.2)]) (fun (x : Nat × (List (List UInt8) × Int) × (Option Addr) × Nat × (List Value)) => match x with | (m_3, s_2, A_9, cap_9, cs_2) => ((Ent.row 9 1 (.slice A_9 s_2.1.length cap_9) s_2.1.length cs_2) :: H)) (fun (x : Nat × (List (List UInt8) × Int) × (Option Addr) × Nat × (List Value)) (MM : Mem) => match x with | (m_3, s_2, A_9, cap_9, cs_2) => loopF (state_Live_s2 n y_1) m_3 s_2 = some b_3 ∧ RepSeq MM (s_2.1.map Dat.str) cs_2) (fun (x : Nat × (List (List UInt8) × Int) × (Option Addr) × Nat × (List Value)) => match x with | (m_3, s_2, A_9, cap_9, cs_2) => m_3) (n, (s_1.1, (0 : Int)), A_7, cap_7, cs_1) (f.kp) p_4 ⟨hL_2, (RepSeq.mono hM_3 _ _ hr_2)⟩ ?_) ?_
    ·rintro ⟨m_3, s_2, A_9, cap_9, cs_2⟩ M_4 _ w_4 hM_4 I_2 f p_5
     obtain ⟨I_2L, hr_3⟩ := I_2
     obtain ⟨m_4, r_2, rfl, hs_2, hn_2⟩ := loop_step I_2L
     unfold state_Live_s2 at hs_2
     refine RR (Y f 1 fun _ f => eT (R_seq (RcF f hs_2 (fun h_10 hF_10 => ?_) fun h_10 hF_14 => ?_)))
     ·have k_2 := dI.1 h_10
      refine wp_skip (T_n (R_seq (wp_block (RR ?_))))
      obtain ⟨x_1, hx_1, hF_11⟩ := bS hF_10
      obtain ⟨ad_1, c_1, e_6, -, hr_4, hc_3⟩ := Sli.at_ (h_9.mono hM_4) hx_1
      obtain ⟨A_10, cap_10, A_11, cap_11, rfl, h_11, h_12⟩ := TS0.opn hr_4
      refine Z f (Y28 e_6 rfl (len := y_1.1.length) (cap := cap_8) (k := .i64) (i := s_2.2) (e := 68) (sz := 6) (getI_nn hx_1) (getI_lt hx_1)) fun _ f => Z (v := .agg #[S x_1.fId, S x_1.fType, S x_1.fPhys, .slice A_10 x_1.fProps.length cap_10, .bool x_1.fRetain, .slice A_11 x_1.fLeans.length cap_11]) f (Y30 (cs := [S x_1.fId, S x_1.fType, S x_1.fPhys, .slice A_10 x_1.fProps.length cap_10, .bool x_1.fRetain, .slice A_11 x_1.fLeans.length cap_11]) rfl (ad := ad_1.add (s_2.2.toNat * 6)) (fun j v h => p_5.cell (hc_3 j v h))) fun _ f => Y11 f p_5 (.cells #[S [], S [], S [], .slice none 0 0, .bool false, .slice none 0 0] 68 (0, 0)) fun b_4 w_5 p_6 _ f => Y26 (vs := [S x_1.fId, S x_1.fType, S x_1.fPhys, .slice A_10 x_1.fProps.length cap_10, .bool x_1.fRetain, .slice A_11 x_1.fLeans.length cap_11]) (j := 0) f p_6 rfl rfl (by simp [Value.oneCell', S]) (by simp) (by decide) (cs' := #[S x_1.fId, S x_1.fType, S x_1.fPhys, .slice A_10 x_1.fProps.length cap_10, .bool x_1.fRetain, .slice A_11 x_1.fLeans.length cap_11]) fun w_6 p_7 _ f => eT (R_reg (Y f 2 fun _ f => Z f (Y29 (v := S x_1.fPhys) rfl (ad := ⟨b_4, 2, none⟩) (p_7.ownCell 0 rfl 2)) fun _ f => V_allocS (k := 1) (c := 1) f p_7 (.cells #[S x_1.fPhys] 9 (0, 0)) (by kernel_rfl) (fun _ => by kernel_rfl) fun b_5 w_7 p_8 _ f => ?_))
      have p_9 := p_8.pl [2]
      obtain ⟨g_2, hF_12⟩ := nS hF_11
      refine Y20 (z := S []) (f := Dat.str) (xs := s_2.1) (ys := [x_1.fPhys]) (news := [S x_1.fPhys]) (ad := ⟨b_5, 0, none⟩) (m := 1) (c := 1) f p_9 hr_3 (by exact ⟨_, _, rfl, rfl, rfl⟩) rfl rfl rfl rfl (own_cells (p_9.ownCell 1 rfl) 0 rfl) (by exact g_2) (by have hg_ := g_2; first | omega | (simp only [List.length_cons, List.length_nil] at *; omega)) fun A_12 cap_12 cs_3 w_8 p_10 hr_5 _ f => ?_
      have p_11 := p_10.pl [1]
      have p_12 := p_11.drop
      refine Y f 1 fun _ f => W_end rfl (B_n (T_n (R_reg ?_)))
      obtain ⟨g_3, hF_13⟩ := nS hF_12
      refine Y f 1 fun _ f => ?_
      have f := f.st 28 (congrArg (Value.int .i64) (inR_wrap g_3))
      refine Y f 1 fun _ f => W_end rfl ?_
      have p_14 := p_12.pl [1]
      refine T_n ?_
      obtain rfl := sI hF_13
      exact ⟨⟨m_4, (s_2.1 ++ [x_1.fPhys], s_2.2 + 1), A_12, cap_12, cs_3⟩, Nat.lt_succ_self _, M_4, hM_4, ⟨hn_2, hr_5⟩, f.kp, (p_14.dropN 1)⟩
     ·have k_3 := iff_f dI h_10
      refine wp_exit (T_x (T_x ?_))
      obtain rfl := sI hF_14
      exact ⟨rfl, s_2.1, (sI hn_2).symm, M_4, hM_4, A_9, cap_9, cs_2, hr_3, f.kp, p_5⟩
    ·rintro _ _ w_10 ⟨rfl, y_2, hq_, M_5, hM_5, A_13, cap_13, cs_4, hr_6, f, p_13⟩
     subst b_3
     refine B_x (B_n (T_n (R_reg ?_)))
     obtain ⟨g_4, hF_15⟩ := nS hF_9
     refine Y f 1 fun _ f => ?_
     have f := f.st 29 (congrArg (Value.int .i64) (inR_wrap g_4))
     refine Y f 1 fun _ f => eT ?_
     obtain rfl := sI hF_15
     exact ⟨⟨m_2, (y_2, y_1.2 + 1), A_13, cap_13, cs_4⟩, Nat.lt_succ_self _, M_5, ((hM_2.trans hM_3).trans hM_5), ⟨hn_1, hr_6⟩, f.kp, p_13⟩
  ·have k_4 := iff_f dI h_6
   refine wp_exit (T_x (T_x ?_))
   obtain rfl := sI hF_16
   exact ⟨rfl, s_1.1, (sI hn_1).symm, M_2, hM_2, A_7, cap_7, cs_1, hr_2, f.kp, p_3⟩
 ·rintro _ _ w_12 ⟨rfl, y_3, hq_, M_6, hM_6, A_14, cap_14, cs_5, hr_7, f, p_15⟩
  subst b_2
  refine B_x (T_n (RR (Y f 2 fun _ f => eT (wp_ret (E_ret1 f rfl (by kernel_rfl : Vc.look _ 2 = some (.slice A_14 y_3.length cap_14)) ?_)))))
  obtain rfl := sI hF_1
  exact ⟨_, rfl, M_6, _, (hM_1.trans hM_6), p_15, ⟨A_14, cap_14, cs_5, rfl, rfl, hr_7⟩⟩
def slices_Clonestring_string_z (n : Nat) (d0 : List (List UInt8)) (z0 : Bool) : Option (List (List UInt8)) :=
  bif z0 then
    (some (([] : List (List UInt8))))
  else
    need ((([] : List (List UInt8)).length + d0.length) * 16 ≤ 140737488355328) <|
    some (([] : List (List UInt8)) ++ d0)
theorem slices_Clonestring_string_z_ok (n : Nat) (M : Mem) (A0 : Option Addr) (cap0 : Nat) (d0 : List (List UInt8)) (h0 : Sli M 1 Dat.str A0 cap0 d0) (z0 : Bool) (hz0 : A0.isNone = z0) (r : List (List UInt8)) (hF : slices_Clonestring_string_z n d0 z0 = some r) : OkH Tryz.prog M [] 117 [.slice A0 d0.length cap0] (fun M' E' v => ∃ (A0 : Option Addr) (k0 : Nat) (s0 : List Value), v = .slice A0 r.length k0 ∧ E' = [.row 9 1 (.slice A0 r.length k0) r.length s0] ∧ RepSeq M' (r.map Dat.str) s0) := by
 unfold slices_Clonestring_string_z at hF
 intro M1 hM0 w0 H w p0
 replace h0 := h0.mono hM0
 refine R_enter 8 Tryz.func117 rfl rfl (by simp) fun a0 f0 => RR (Y f0 1 fun _ f => eT (R_seq (RR (Y f 1 fun _ f => Z (v := .bool A0.isNone) f (X_slicenil (A := A0) (n := d0.length) (c := cap0) (e := 9) rfl (by kernel_rfl) (by kernel_rfl) (by kernel_rfl) _) fun _ f => ?_))))
 have f := Frm.set f 4 (v := .bool A0.isNone) (v' := .bool z0) (by kernel_rfl) (cB hz0)
 refine eT (RcF f hF (fun h_1 hF_1 => ?_) fun h_1 hF_2 => ?_)
 ·refine RR (Y f 1 fun _ f => eT (wp_ret (T_r ?_)))
  obtain ⟨A_1, cap_1, hv_1⟩ : ∃ A cap, Value.slice none 0 0 = .slice A ([] : List (List UInt8)).length cap := ⟨none, 0, rfl⟩
  have p_1 : Hp w0 M1 ((Ent.row 9 1 (.slice A_1 ([] : List (List UInt8)).length cap_1) ([] : List (List UInt8)).length []) :: H) w := by rw [← hv_1]; exact p0.nilRow 9 1
  have f := f.st 2 (hv_1)
  have hr_1 : RepSeq M1 (([] : List (List UInt8)).map Dat.str) [] := rfl
  refine E_ret1 f rfl (by kernel_rfl : Vc.look _ 2 = some (.slice A_1 ([] : List (List UInt8)).length cap_1)) ?_
  obtain rfl := sI hF_1
  exact ⟨_, rfl, M1, _, (mR _), p_1, ⟨A_1, cap_1, [], rfl, rfl, hr_1⟩⟩
 ·refine wp_skip (T_n (RR (V_allocS (k := 0) (c := 0) f p0 (.cells #[] 9 (0, 0)) (by kernel_rfl) (fun _ => by kernel_rfl) fun b_1 w_1 p_2 _ f => Y f 1 fun _ f => ?_)))
  have hr_2 : RepSeq M1 (([] : List (List UInt8)).map Dat.str) [] := rfl
  have p_3 : Hp w0 M1 ((Ent.row 9 1 (.slice (some ⟨b_1, 0, none⟩) 0 0) ([] : List (List UInt8)).length []) :: H) w_1 := p_2.objRow (n := 0) (cap := 0) (size := 1) (by decide) (by decide) (blk_eq (by decide) rfl) rfl rfl
  obtain ⟨g_1, hF_3⟩ := nS hF_2
  refine Y21 (z := S []) (f := Dat.str) (xs := ([] : List (List UInt8))) (ys := d0) (c := cap0) f p_3 hr_2 h0 rfl rfl rfl g_1 (by omega) fun A_2 cap_2 cs_1 w_2 p_4 hr_3 _ f => Y f 1 fun _ f => eT (wp_ret (E_ret1 f rfl (by kernel_rfl : Vc.look _ 2 = some (.slice A_2 (([] : List (List UInt8)) ++ d0).length cap_2)) ?_))
  obtain rfl := sI hF_3
  exact ⟨_, rfl, M1, _, (mR _), p_4, ⟨A_2, cap_2, cs_1, rfl, rfl, hr_3⟩⟩
def slices_Clonestring_string (_ : Nat) (d0 : List (List UInt8)) : Option (List (List UInt8)) := need (d0.length * 16 ≤ 140737488355328) (some d0)
theorem slices_Clonestring_string_ok (n : Nat) (M : Mem) (A0 : Option Addr) (cap0 : Nat) (d0 : List (List UInt8)) (h0 : Sli M 1 Dat.str A0 cap0 d0) (r : List (List UInt8)) (hF : slices_Clonestring_string n d0 = some r) : OkH Tryz.prog M [] 117 [.slice A0 d0.length cap0] (fun M' E' v => ∃ (A0 : Option Addr) (k0 : Nat) (s0 : List Value), v = .slice A0 r.length k0 ∧ E' = [.row 9 1 (.slice A0 r.length k0) r.length s0] ∧ RepSeq M' (r.map Dat.str) s0) := by
 unfold slices_Clonestring_string at hF
 obtain ⟨g, hF⟩ := nS hF
 obtain rfl := sI hF
 refine slices_Clonestring_string_z_ok n M A0 cap0 d0 h0 A0.isNone rfl d0 ?_
 unfold slices_Clonestring_string_z
 cases A0 with
 | none =>
  obtain ⟨h1, h2, _⟩ := h0
  have h3 := h2 rfl
  obtain rfl : d0 = [] := List.eq_nil_of_length_eq_zero (by omega)
  rfl
 | some a => simp [need]; omega
def state_Check_1 (n : Nat) (d0 : TS0) (d1 : TS0) : Option Int :=
  bif (Op.bytesLess d0.fId d1.fId) then
    (some ((-1 : Int)))
  else
    some ((1 : Int))
theorem state_Check_1_ok (n : Nat) (M : Mem) (c0 : List Value) (d0 : TS0) (h0 : Rep M (emb_TS0 d0) c0) (c1 : List Value) (d1 : TS0) (h1 : Rep M (emb_TS0 d1) c1) (r : Int) (hF : state_Check_1 n d0 d1 = some r) : Ok Tryz.prog M 115 [.agg c0.toArray, .agg c1.toArray] (fun _ v => v = .int .i64 r) := by
 unfold state_Check_1 at hF
 intro M1 hM0 w0 H w p0
 replace h0 := Rep.mono hM0 _ _ h0
 replace h1 := Rep.mono hM0 _ _ h1
 obtain ⟨A_1, cap_1, A_2, cap_2, rfl, h_1, h_2⟩ := TS0.opn h0
 obtain ⟨A_3, cap_3, A_4, cap_4, rfl, h_3, h_4⟩ := TS0.opn h1
 refine R_enter 10 Tryz.func115 rfl rfl (by simp) fun a0 f0 => RR (Y12 (cs := #[S d0.fId, S d0.fType, S d0.fPhys, .slice A_1 d0.fProps.length cap_1, .bool d0.fRetain, .slice A_2 d0.fLeans.length cap_2]) (T := 68) f0 p0 fun b_1 M_1 w_1 hM_1 hc_1 p_1 _ f => ?_)
 have hc_2 := fz_box hc_1
 refine Y12 (cs := #[S d1.fId, S d1.fType, S d1.fPhys, .slice A_3 d1.fProps.length cap_3, .bool d1.fRetain, .slice A_4 d1.fLeans.length cap_4]) (T := 68) f p_1 fun b_2 M_2 w_2 hM_2 hc_3 p_2 _ f => ?_
 have hc_4 := fz_box hc_3
 refine Y f 1 fun _ f => eT (R_seq (RR (Y f 1 fun _ f => Y14 f p_2 (fzu hM_2 hc_2) 0 rfl fun _ f => Y f 1 fun _ f => Y14 f p_2 hc_4 0 rfl fun _ f => Z (v := .bool (Op.bytesLess d0.fId d1.fId)) f (X_strlt rfl (l := d0.fId) (m := d1.fId) (by kernel_rfl) (by kernel_rfl)) fun _ f => eT (RcF f hF (fun h_5 hF_1 => ?_) fun h_5 hF_2 => ?_))))
 ·refine RR (Y f 1 fun _ f => eT (wp_ret (T_r (E_ret1 f rfl (by kernel_rfl : Vc.look _ 4 = some (.int .i64 (-1))) ?_))))
  obtain rfl := sI hF_1
  exact ⟨_, rfl, M_2, (hM_1.trans hM_2), p_2, rfl⟩
 ·refine wp_skip (T_n (RR (Y f 1 fun _ f => eT (wp_ret (E_ret1 f rfl (by kernel_rfl : Vc.look _ 4 = some (.int .i64 1)) ?_)))))
  obtain rfl := sI hF_2
  exact ⟨_, rfl, M_2, (hM_1.trans hM_2), p_2, rfl⟩
def state_Check_s1 (n : Nat) (d0 : TF0) (s_1 : Int) : Option (Lp Int (Sum Unit Unit)) :=
    bif (decide (s_1 < ((d0.fOwned.length : Nat) : Int))) then
      (need (inR .i64 (s_1 - 1)) <|
      (getI d0.fOwned (s_1 - 1)).bind fun x_5 =>
      (getI d0.fOwned s_1).bind fun x_6 =>
      (state_Check_1 n x_5 x_6).bind fun x_7 =>
      bif (decide ((0 : Int) < x_7)) then
        (some (.br (.inl ())))
      else
        need (inR .i64 (s_1 + 1)) <|
        some (.nx (s_1 + 1)))
    else
      some (.br (.inr ()))
def state_Check (n : Nat) (d0 : TF0) : Option Int :=
  (state_Live n d0).bind fun x_1 =>
  (h_SortS n x_1).bind fun x_2 =>
  (slices_Clonestring_string n x_2).bind fun x_3 =>
  (h_CompactS n x_3).bind fun x_4 =>
  ((bif (!(decide (((x_4.length : Nat) : Int) = ((x_2.length : Nat) : Int)))) then
      (some ((true)))
    else
      bif (decide (d0.fCalls < 0)) then
        (some ((true)))
      else
        bif (decide ((1099511627776 : Int) < d0.fCalls)) then
          (some ((true)))
        else
          bif (decide (d0.fStatus < 0)) then
            (some ((true)))
          else
            some ((decide ((6 : Int) < d0.fStatus))) : Option Bool)).bind fun y_1 =>
  bif y_1 then
    (some ((2 : Int)))
  else
    (loopF (state_Check_s1 n d0) n (1 : Int)).bind fun b_2 =>
    (match b_2 with 
    | .inl y_2 => some ((2 : Int)) 
    | .inr y_3 => some ((0 : Int)))
set_option maxRecDepth 20000 in
theorem state_Check_ok (n : Nat) (M : Mem) (c0 : List Value) (d0 : TF0) (h0 : Rep M (emb_TF0 d0) c0) (r : Int) (hF : state_Check n d0 = some r) : Ok Tryz.prog M 65 [.agg c0.toArray] (fun _ v => v = .int .i64 r) := by
 unfold state_Check at hF
 intro M1 hM0 w0 H w p0
 replace h0 := Rep.mono hM0 _ _ h0
 obtain ⟨A_1, cap_1, A_2, cap_2, A_3, cap_3, A_4, cap_4, A_5, cap_5, rfl, h_1, h_2, h_3, h_4, h_5⟩ := TF0.opn h0
 refine R_enter 60 Tryz.func65 rfl rfl (by simp) fun a0 f0 => RR (Y12 (cs := #[.slice A_1 d0.fOwned.length cap_1, .slice A_2 d0.fPending.length cap_2, .slice A_3 d0.fRetained.length cap_3, .slice A_4 d0.fOuts.length cap_4, S d0.fText, .slice A_5 d0.fArgs.length cap_5, .int .i64 d0.fCalls, .int .i8 d0.fStatus]) (T := 26) f0 p0 fun b_1 M_1 w_1 hM_1 hc_1 p_1 _ f => ?_)
 have hc_2 := fz_box hc_1
 refine Y f 1 fun _ f => eT (RR (Z (v := .agg #[.slice A_1 d0.fOwned.length cap_1, .slice A_2 d0.fPending.length cap_2, .slice A_3 d0.fRetained.length cap_3, .slice A_4 d0.fOuts.length cap_4, S d0.fText, .slice A_5 d0.fArgs.length cap_5, .int .i64 d0.fCalls, .int .i8 d0.fStatus]) f (Y30 (cs := [.slice A_1 d0.fOwned.length cap_1, .slice A_2 d0.fPending.length cap_2, .slice A_3 d0.fRetained.length cap_3, .slice A_4 d0.fOuts.length cap_4, S d0.fText, .slice A_5 d0.fArgs.length cap_5, .int .i64 d0.fCalls, .int .i8 d0.fStatus]) rfl (ad := ⟨b_1, 0, none⟩) (fun j v h => p_1.cell (hc_2 j v h))) fun _ f => ?_))
 obtain ⟨x_1, hx_1, hF_1⟩ := bS hF
 refine Y16 (E := []) (H := (H)) f p_1 (state_Live_ok n _ _ d0 (TF0.shutx (x := d0) (h_1.mono hM_1) (h_2.mono hM_1) (h_3.mono hM_1) (h_4.mono hM_1) (h_5.mono hM_1)) x_1 hx_1) fun _ M_2 E_1 w_2 hM_2 p_2 q_1 _ f => ?_
 obtain ⟨A_6, cap_6, cs_1, rfl, rfl, hr_1⟩ := q_1
 refine Y f 1 fun _ f => eT (RR (Y f 1 fun _ f => ?_))
 obtain ⟨x_2, hx_2, hF_2⟩ := bS hF_1
 refine Y16 (E := [Ent.row 9 1 (.slice A_6 x_1.length cap_6) x_1.length cs_1]) (H := (H)) f p_2 (h_SortS_ok n _ A_6 cap_6 x_1 cs_1 hr_1 x_2 hx_2) fun _ M_3 E_2 w_3 hM_3 p_3 q_2 _ f => ?_
 obtain ⟨cs_2, rfl, rfl, hr_2, hl_1⟩ := q_2
 have hv_1 : (.slice A_6 x_1.length cap_6 : Value) = .slice A_6 x_2.length cap_6 := by rw [hl_1]
 have p_4 : Hp w0 M_3 ((Ent.row 9 1 (.slice A_6 x_2.length cap_6) x_2.length cs_2) :: H) w_3 := by rw [← hv_1]; exact p_3
 have f := f.st 3 (hv_1)
 have f := f.st 9 (hv_1)
 refine eT (RR (Y f 1 fun _ f => eT (RR (Y f 1 fun _ f => ?_))))
 obtain ⟨M_4, A_7, cap_7, hM_4, hv_2, p_5, h_6, hb_1⟩ := p_4.lend (f := Dat.str) (xs := x_2) szd_str hr_2
 have f := f.st 3 (hv_2)
 have f := f.st 11 (hv_2)
 obtain ⟨x_3, hx_3, hF_3⟩ := bS hF_2
 refine Y16 (E := []) (H := (H)) f p_5 (slices_Clonestring_string_ok n _ A_7 cap_7 x_2 h_6 x_3 hx_3) fun _ M_5 E_3 w_4 hM_5 p_6 q_3 _ f => ?_
 obtain ⟨A_8, cap_8, cs_3, rfl, rfl, hr_3⟩ := q_3
 have hr_4 : ∀ M, RepSeq M (x_3.map Dat.str) cs_3 := fun M => RepSeq.flat flat_str _ hr_3
 obtain ⟨M_6, hM_6, p_7⟩ := hb_1 _ _ _ hM_5 p_6
 have f := f.st 3 (hv_2.symm)
 have f := f.st 11 (hv_2.symm)
 have hr_5 := hr_4 M_6
 have p_8 := p_7.pl [1]
 obtain ⟨x_4, hx_4, hF_4⟩ := bS hF_3
 refine Y16 (E := [Ent.row 9 1 (.slice A_8 x_3.length cap_8) x_3.length cs_3]) (H := ((Ent.row 9 1 (.slice A_6 x_2.length cap_6) x_2.length cs_2) :: H)) f p_8 (h_CompactS_ok n _ A_8 cap_8 x_3 cs_3 hr_5 x_4 hx_4) fun _ M_7 E_4 w_5 hM_7 p_9 q_4 _ f => ?_
 obtain ⟨cs_4, rfl, rfl, hr_6⟩ := q_4
 refine Y f 5 fun _ f => eT (R_seq (R_seq ?_))
 obtain ⟨j_1, hj_1, hF_5⟩ := bS hF_4
 refine R_mid (fun a_30 w_6 => ∃ y_1 : Bool, j_1 = y_1 ∧ ∃ M_8 : Mem, M_7.le M_8 ∧ Frm 60 [(1, .pointer (some (⟨b_1, 0, none⟩))), (4, .func (.func 115) #[] #[]), (38, .bool y_1)] a_30 ∧ Hp w0 M_8 ((Ent.row 9 1 (.slice A_8 x_4.length cap_8) x_4.length cs_4) :: (Ent.row 9 1 (.slice A_6 x_2.length cap_6) x_2.length cs_2) :: H) w_6) ?_ ?_
 ·refine R_reg (Y f 2 fun _ f => ?_)
  rcases cE hj_1 with ⟨h_7, hF_6⟩ | ⟨h_7, hF_7⟩
  ·have k_1 : ¬ (((x_4.length : Nat) : Int) = ((x_2.length : Nat) : Int)) := (not_iff dI).1 h_7
   have f := f.st 19 (cB h_7)
   refine Y f 19 fun _ f => eT ?_
   exact ⟨(true), (sI hF_6).symm, M_7, (mR _), f.kp, p_9⟩
  ·have k_2 : ¬ (¬ (((x_4.length : Nat) : Int) = ((x_2.length : Nat) : Int))) := iff_f (not_iff dI) h_7
   have f := f.st 19 (cB h_7)
   refine Y f 1 fun _ f => Y14 f p_9 (fzu (((hM_2.trans hM_3).trans hM_6).trans hM_7) hc_2) 6 rfl fun _ f => Y f 3 fun _ f => ?_
   rcases cE hF_7 with ⟨h_8, hF_8⟩ | ⟨h_8, hF_9⟩
   ·have k_3 := dI.1 h_8
    have f := f.st 24 (cB h_8)
    refine Y f 14 fun _ f => eT ?_
    exact ⟨(true), (sI hF_8).symm, M_7, (mR _), f.kp, p_9⟩
   ·have k_4 := iff_f dI h_8
    have f := f.st 24 (cB h_8)
    refine Y f 1 fun _ f => Y14 f p_9 (fzu (((hM_2.trans hM_3).trans hM_6).trans hM_7) hc_2) 6 rfl fun _ f => Y f 3 fun _ f => ?_
    rcases cE hF_9 with ⟨h_9, hF_10⟩ | ⟨h_9, hF_11⟩
    ·have k_5 := dI.1 h_9
     have f := f.st 29 (cB h_9)
     refine Y f 9 fun _ f => eT ?_
     exact ⟨(true), (sI hF_10).symm, M_7, (mR _), f.kp, p_9⟩
    ·have k_6 := iff_f dI h_9
     have f := f.st 29 (cB h_9)
     refine Y f 1 fun _ f => Y14 f p_9 (fzu (((hM_2.trans hM_3).trans hM_6).trans hM_7) hc_2) 7 rfl fun _ f => Y f 3 fun _ f => ?_
     rcases cE hF_11 with ⟨h_10, hF_12⟩ | ⟨h_10, hF_13⟩
     ·have k_7 := dI.1 h_10
      have f := f.st 34 (cB h_10)
      refine Y f 4 fun _ f => eT ?_
      exact ⟨(true), (sI hF_12).symm, M_7, (mR _), f.kp, p_9⟩
     ·have k_8 := iff_f dI h_10
      have f := f.st 34 (cB h_10)
      refine Y f 1 fun _ f => Y14 f p_9 (fzu (((hM_2.trans hM_3).trans hM_6).trans hM_7) hc_2) 7 rfl fun _ f => Y f 2 fun _ f => eT ?_
      exact ⟨(decide ((6 : Int) < d0.fStatus)), (sI hF_13).symm, M_7, (mR _), f.kp, p_9⟩
 ·rintro a_30 w_6 ⟨y_1, hq_1, M_8, hM_8, f, p_10⟩
  subst j_1
  refine T_n (RcF f hF_5 (fun h_11 hF_14 => ?_) fun h_11 hF_15 => ?_)
  ·refine RR (Y f 1 fun _ f => eT (wp_ret (T_r (E_ret1 f rfl (by kernel_rfl : Vc.look _ 2 = some (.int .i64 2)) ?_))))
   obtain rfl := sI hF_14
   exact ⟨_, rfl, M_8, (((((hM_1.trans hM_2).trans hM_3).trans hM_6).trans hM_7).trans hM_8), (p_10.dropN 2), rfl⟩
  ·refine wp_skip (T_n (R_seq (RR (Y f 1 fun _ f => eT (wp_block ?_)))))
   obtain ⟨b_2, hL_1, hF_16⟩ := bS hF_15
   refine wp_mono (Q := fun e a w => (e = .ret ∧ (∃ y_2 : Unit, b_2 = .inl y_2 ∧ ∃ M_10 : Mem, M_8.le M_10 ∧ Frm 60 [(2, .int .i64 2)] a ∧ Hp w0 M_10 ((Ent.row 9 1 (.slice A_8 x_4.length cap_8) x_4.length cs_4) :: (Ent.row 9 1 (.slice A_6 x_2.length cap_6) x_2.length cs_2) :: H) w)) ∨ (e = .exit 0 ∧ (∃ y_3 : Unit, b_2 = .inr y_3 ∧ ∃ M_11 : Mem, M_8.le M_11 ∧ Frm 60 [] a ∧ Hp w0 M_11 ((Ent.row 9 1 (.slice A_8 x_4.length cap_8) x_4.length cs_4) :: (Ent.row 9 1 (.slice A_6 x_2.length cap_6) x_2.length cs_2) :: H) w))) (R_loop (n := 60) (w0 := w0) (M := M_8) (fun (x : Nat × Int) => match x with | (m_1, s_1) => [(1, .pointer (some (⟨b_1, 0, none⟩))), (4, .func (.func 115) #[] #[]), (6, .int .i64 s_1)]) (fun (x : Nat × Int) => match x with | (m_1, s_1) => ((Ent.row 9 1 (.slice A_8 x_4.length cap_8) x_4.length cs_4) :: (Ent.row 9 1 (.slice A_6 x_2.length cap_6) x_2.length cs_2) :: H)) (fun (x : Nat × Int) (MM : Mem) => match x with | (m_1, s_1) => loopF (state_Check_s1 n d0) m_1 s_1 = some b_2) (fun (x : Nat × Int) => match x with | (m_1, s_1) => m_1) (n, (1 : Int)) (f.kp) p_10 hL_1 ?_) ?_
   ·rintro ⟨m_1, s_1⟩ M_9 _ w_7 hM_9 I_1 f p_11
    have I_1L := I_1
    obtain ⟨m_2, r_1, rfl, hs_1, hn_1⟩ := loop_step I_1L
    unfold state_Check_s1 at hs_1
    refine R_seq (RR (Y f 2 fun _ f => Y14 f p_11 (fzu (((((hM_2.trans hM_3).trans hM_6).trans hM_7).trans hM_8).trans hM_9) hc_2) 0 rfl fun _ f => Y f 2 fun _ f => eT (RcF f hs_1 (fun h_12 hF_17 => ?_) fun h_12 hF_25 => ?_)))
    ·have k_11 := dI.1 h_12
     refine wp_skip (T_n (R_seq (wp_block (R_seq (R_draw p_11 (by kernel_rfl) (by kernel_rfl) (Y5 default f 2 fun _ f => Y4 f (fzu (((((hM_2.trans hM_3).trans hM_6).trans hM_7).trans hM_8).trans hM_9) hc_2) 0 rfl fun _ f => Y5 default f 1 fun _ f => ?_))))))
     obtain ⟨g_1, hF_18⟩ := nS hF_17
     refine Y2 (v := .int .i64 (IntKind.wrap .i64 (s_1 - 1))) f (fun _ pq => by kernel_rfl) fun _ f => ?_
     have f := f.st 50 (congrArg (Value.int .i64) (inR_wrap g_1))
     obtain ⟨x_5, hx_5, hF_19⟩ := bS hF_18
     obtain ⟨ad_1, c_1, e_1, -, hr_7, hc_3⟩ := Sli.at_ (h_1.mono ((((((hM_1.trans hM_2).trans hM_3).trans hM_6).trans hM_7).trans hM_8).trans hM_9)) hx_5
     obtain ⟨A_9, cap_9, A_10, cap_10, rfl, h_13, h_14⟩ := TS0.opn hr_7
     refine Y2 (v := .pointer (some (ad_1.add ((s_1 - 1).toNat * 6)))) f (fun _ pq => Y28 e_1 rfl (len := d0.fOwned.length) (cap := cap_1) (k := .i64) (i := s_1 - 1) (e := 68) (sz := 6) (getI_nn hx_5) (getI_lt hx_5)) fun _ f => Y2 (v := .agg #[S x_5.fId, S x_5.fType, S x_5.fPhys, .slice A_9 x_5.fProps.length cap_9, .bool x_5.fRetain, .slice A_10 x_5.fLeans.length cap_10]) f (fun _ pq => Y30 (cs := [S x_5.fId, S x_5.fType, S x_5.fPhys, .slice A_9 x_5.fProps.length cap_9, .bool x_5.fRetain, .slice A_10 x_5.fLeans.length cap_10]) rfl (ad := ad_1.add ((s_1 - 1).toNat * 6)) (fun j v h => pq.cell (hc_3 j v h))) fun _ f => Y5 default f 1 fun _ f => Y4 f (fzu (((((hM_2.trans hM_3).trans hM_6).trans hM_7).trans hM_8).trans hM_9) hc_2) 0 rfl fun _ f => Y5 default f 1 fun _ f => ?_
     obtain ⟨x_6, hx_6, hF_20⟩ := bS hF_19
     obtain ⟨ad_2, c_2, e_2, -, hr_8, hc_4⟩ := Sli.at_ (h_1.mono ((((((hM_1.trans hM_2).trans hM_3).trans hM_6).trans hM_7).trans hM_8).trans hM_9)) hx_6
     obtain ⟨A_11, cap_11, A_12, cap_12, rfl, h_15, h_16⟩ := TS0.opn hr_8
     refine Y2 (v := .pointer (some (ad_2.add (s_1.toNat * 6)))) f (fun _ pq => Y28 e_2 rfl (len := d0.fOwned.length) (cap := cap_1) (k := .i64) (i := s_1) (e := 68) (sz := 6) (getI_nn hx_6) (getI_lt hx_6)) fun _ f => Y2 (v := .agg #[S x_6.fId, S x_6.fType, S x_6.fPhys, .slice A_11 x_6.fProps.length cap_11, .bool x_6.fRetain, .slice A_12 x_6.fLeans.length cap_12]) f (fun _ pq => Y30 (cs := [S x_6.fId, S x_6.fType, S x_6.fPhys, .slice A_11 x_6.fProps.length cap_11, .bool x_6.fRetain, .slice A_12 x_6.fLeans.length cap_12]) rfl (ad := ad_2.add (s_1.toNat * 6)) (fun j v h => pq.cell (hc_4 j v h))) fun _ f => ?_
     obtain ⟨x_7, hx_7, hF_21⟩ := bS hF_20
     refine Y3 f (state_Check_1_ok n _ _ x_5 (TS0.shutx (x := x_5) h_13 h_14) _ x_6 (TS0.shutx (x := x_6) h_15 h_16) x_7 hx_7) fun _ f => Y5 default f 1 fun _ f => Q_end rfl ?_
     intro w_9 p_13
     refine T_n (RcF f hF_21 (fun h_17 hF_22 => ?_) fun h_17 hF_23 => ?_)
     ·have k_12 := dI.1 h_17
      refine RR (Y f 1 fun _ f => eT (wp_ret (B_r (T_r (T_r ?_)))))
      obtain rfl := sI hF_22
      exact .inl ⟨rfl, (), (sI hn_1).symm, M_9, hM_9, f.kp, p_13⟩
     ·have k_13 := iff_f dI h_17
      refine wp_skip (B_n (T_n (R_reg (Y f 1 fun _ f => ?_))))
      obtain ⟨g_2, hF_24⟩ := nS hF_23
      refine Y f 1 fun _ f => ?_
      have f := f.st 45 (congrArg (Value.int .i64) (inR_wrap g_2))
      refine Y f 1 fun _ f => eT ?_
      obtain rfl := sI hF_24
      exact ⟨⟨m_2, s_1 + 1⟩, Nat.lt_succ_self _, M_9, hM_9, hn_1, f.kp, p_13⟩
    ·have k_14 := iff_f dI h_12
     refine wp_exit (T_x (T_x ?_))
     obtain rfl := sI hF_25
     exact .inr ⟨rfl, (), (sI hn_1).symm, M_9, hM_9, f.kp, p_11⟩
   ·rintro _ _ w_12 (⟨rfl, y_2, rfl, M_10, hM_10, f, p_14⟩ | ⟨rfl, y_3, rfl, M_11, hM_11, f, p_15⟩)
    ·refine B_r (T_r (E_ret1 f rfl (by kernel_rfl : Vc.look _ 2 = some (.int .i64 2)) ?_))
     obtain rfl := sI hF_16
     exact ⟨_, rfl, M_10, ((((((hM_1.trans hM_2).trans hM_3).trans hM_6).trans hM_7).trans hM_8).trans hM_10), (p_14.dropN 2), rfl⟩
    ·refine B_x (T_n (RR (Y f 1 fun _ f => eT (wp_ret (E_ret1 f rfl (by kernel_rfl : Vc.look _ 2 = some (.int .i64 0)) ?_)))))
     obtain rfl := sI hF_16
     exact ⟨_, rfl, M_11, ((((((hM_1.trans hM_2).trans hM_3).trans hM_6).trans hM_7).trans hM_8).trans hM_11), (p_15.dropN 2), rfl⟩
def forward_May_s1 (n : Nat) (d0 : TK0) (s_1 : Int × (List (T_forward_key × Bool))) : Option (Lp (Int × (List (T_forward_key × Bool))) (Sum (List (T_forward_key × Bool)) (List (T_forward_key × Bool)))) :=
    bif (decide (s_1.1 < ((d0.fTasks.length : Nat) : Int))) then
      ((getI d0.fTasks s_1.1).bind fun x_4 =>
      ((need (inR .i64 (s_1.1 + 1)) <|
        bif (!(decide (x_4.fCall.fToken = (s_1.1 + 1)))) then
          (some ((true)))
        else
          need (inR .i64 (((d0.fChanges.length : Nat) : Int) - 1)) <|
          (forward_within n x_4.fChange (0 : Int) (((d0.fChanges.length : Nat) : Int) - 1)).bind fun x_5 =>
          bif !x_5 then
            (some ((true)))
          else
            (forward_within_2 n x_4.fState (0 : Int) (2 : Int)).bind fun x_6 =>
            bif !x_6 then
              (some ((true)))
            else
              (forward_within_2 n x_4.fPhase (0 : Int) (2 : Int)).bind fun x_7 =>
              bif !x_7 then
                (some ((true)))
              else
                some (((mget s_1.2 (⟨x_4.fChange, x_4.fPhase⟩ : T_forward_key)).getD false)) : Option Bool)).bind fun y_2 =>
      bif y_2 then
        (some (.br (.inl s_1.2)))
      else
        need (inR .i64 (s_1.1 + 1)) <|
        some (.nx (s_1.1 + 1, mput s_1.2 (⟨x_4.fChange, x_4.fPhase⟩ : T_forward_key) (true))))
    else
      some (.br (.inr s_1.2))
def forward_May_s2 (n : Nat) (x_8 : List (List Int)) (s_2 : Int) : Option (Lp Int (Sum Unit Unit)) :=
    bif (decide (s_2 < ((x_8.length : Nat) : Int))) then
      ((getI x_8 s_2).bind fun x_9 =>
      bif (decide ((0 : Int) < ((x_9.length : Nat) : Int))) then
        (need (inR .i64 (((x_9.length : Nat) : Int) - 1)) <|
        (getI x_9 (((x_9.length : Nat) : Int) - 1)).bind fun x_10 =>
        bif (decide (s_2 ≤ x_10)) then
          (some (.br (.inl ())))
        else
          need (inR .i64 (s_2 + 1)) <|
          some (.nx (s_2 + 1)))
      else
        need (inR .i64 (s_2 + 1)) <|
        some (.nx (s_2 + 1)))
    else
      some (.br (.inr ()))
def forward_May (n : Nat) (d0 : TK0) : Option Bool :=
  (((forward_within n d0.fWidth (1 : Int) (4 : Int)).bind fun x_1 =>
    bif !x_1 then
      (some ((true)))
    else
      (forward_within_2 n d0.fPhase (0 : Int) (3 : Int)).bind fun x_2 =>
      bif !x_2 then
        (some ((true)))
      else
        (state_Check n (⟨d0.fOld.fOwned, d0.fOld.fPending, d0.fOld.fRetained, d0.fOld.fOuts, d0.fOld.fText, d0.fOld.fArgs, d0.fOld.fCalls, d0.fOld.fStatus⟩ : TF0)).bind fun x_3 =>
        some ((!(decide (x_3 = 0)))) : Option Bool)).bind fun y_1 =>
  bif y_1 then
    (some ((false)))
  else
    (loopF (forward_May_s1 n d0) n ((0 : Int), ([] : List (T_forward_key × Bool)))).bind fun b_2 =>
    (match b_2 with 
    | .inl y_3 => some ((false)) 
    | .inr y_4 => (forward_leans n d0).bind fun x_8 =>
      (loopF (forward_May_s2 n x_8) n (0 : Int)).bind fun b_5 =>
      (match b_5 with 
      | .inl y_5 => some ((false)) 
      | .inr y_6 => some ((true))))
set_option maxRecDepth 20000 in
theorem forward_May_ok (n : Nat) (M : Mem) (c0 : List Value) (d0 : TK0) (h0 : Rep M (emb_TK0 d0) c0) (r : Bool) (hF : forward_May n d0 = some r) : Ok Tryz.prog M 33 [.agg c0.toArray] (fun _ v => v = .bool r) := by
 unfold forward_May at hF
 intro M1 hM0 w0 H w p0
 replace h0 := Rep.mono hM0 _ _ h0
 obtain ⟨A_1, cap_1, A_2, cap_2, A_3, cap_3, A_4, cap_4, A_5, cap_5, A_6, cap_6, A_7, cap_7, A_8, cap_8, A_9, cap_9, A_10, cap_10, rfl, h_1, h_2, h_3, h_4, h_5, h_6, h_7, h_8, h_9, h_10⟩ := TK0.opn h0
 refine R_enter 97 Tryz.func33 rfl rfl (by simp) fun a0 f0 => RR (Y12 (cs := #[.int .i8 d0.fKind, .int .i64 d0.fWidth, .slice A_1 d0.fOld.fOwned.length cap_1, .slice A_2 d0.fOld.fPending.length cap_2, .slice A_3 d0.fOld.fRetained.length cap_3, .slice A_4 d0.fOld.fOuts.length cap_4, S d0.fOld.fText, .slice A_5 d0.fOld.fArgs.length cap_5, .int .i64 d0.fOld.fCalls, .int .i8 d0.fOld.fStatus, .slice A_6 d0.fNew.fScopes.length cap_6, .slice A_7 d0.fNew.fNodes.length cap_7, S d0.fText, .slice A_8 d0.fArgs.length cap_8, .slice A_9 d0.fChanges.length cap_9, .slice A_10 d0.fTasks.length cap_10, .int .i8 d0.fPhase, .int .i8 d0.fStatus]) (T := 34) f0 p0 fun b_1 M_1 w_1 hM_1 hc_1 p_1 _ f => ?_)
 have hc_2 := fz_box hc_1
 refine Y f 1 fun _ f => eT (R_seq (R_seq ?_))
 obtain ⟨j_1, hj_1, hF_1⟩ := bS hF
 refine R_mid (fun a_17 w_5 => ∃ y_1 : Bool, j_1 = y_1 ∧ ∃ M_2 : Mem, M_1.le M_2 ∧ Frm 97 [(1, .pointer (some (⟨b_1, 0, none⟩))), (24, .bool y_1)] a_17 ∧ Hp w0 M_2 (H) w_5) ?_ ?_
 ·refine R_reg (Y f 1 fun _ f => Y14 f p_1 hc_2 1 rfl fun _ f => ?_)
  obtain ⟨x_1, hx_1, hF_2⟩ := bS hj_1
  refine Y17 f p_1 (forward_within_ok n _ d0.fWidth (1 : Int) (4 : Int) x_1 hx_1) fun w_2 p_2 _ f => Y f 2 fun _ f => ?_
  rcases cE hF_2 with ⟨h_11, hF_3⟩ | ⟨h_11, hF_4⟩
  ·have k_1 : (x_1) = false := by simpa using h_11
   have f := f.st 13 (cB h_11)
   refine Y f 11 fun _ f => eT ?_
   exact ⟨(true), (sI hF_3).symm, M_1, (mR _), f.kp, p_2⟩
  ·have k_2 : (x_1) = true := by simpa using h_11
   have f := f.st 13 (cB h_11)
   refine Y f 1 fun _ f => Y14 f p_2 hc_2 16 rfl fun _ f => ?_
   obtain ⟨x_2, hx_2, hF_5⟩ := bS hF_4
   refine Y17 f p_2 (forward_within_2_ok n _ d0.fPhase (0 : Int) (3 : Int) x_2 hx_2) fun w_3 p_3 _ f => Y f 3 fun _ f => ?_
   rcases cE hF_5 with ⟨h_12, hF_6⟩ | ⟨h_12, hF_7⟩
   ·have k_3 : (x_2) = false := by simpa using h_12
    have f := f.st 19 (cB h_12)
    refine Y f 5 fun _ f => eT ?_
    exact ⟨(true), (sI hF_6).symm, M_1, (mR _), f.kp, p_3⟩
   ·have k_4 : (x_2) = true := by simpa using h_12
    have f := f.st 19 (cB h_12)
    refine Y f 1 fun _ f => Z (v := .agg #[.slice A_1 d0.fOld.fOwned.length cap_1, .slice A_2 d0.fOld.fPending.length cap_2, .slice A_3 d0.fOld.fRetained.length cap_3, .slice A_4 d0.fOld.fOuts.length cap_4, S d0.fOld.fText, .slice A_5 d0.fOld.fArgs.length cap_5, .int .i64 d0.fOld.fCalls, .int .i8 d0.fOld.fStatus]) f (Y30 (cs := [.slice A_1 d0.fOld.fOwned.length cap_1, .slice A_2 d0.fOld.fPending.length cap_2, .slice A_3 d0.fOld.fRetained.length cap_3, .slice A_4 d0.fOld.fOuts.length cap_4, S d0.fOld.fText, .slice A_5 d0.fOld.fArgs.length cap_5, .int .i64 d0.fOld.fCalls, .int .i8 d0.fOld.fStatus]) rfl (ad := (⟨b_1, 0, none⟩ : Addr).add 2) (fz_part (base := (⟨b_1, 0, none⟩ : Addr)) (fun j v h => p_3.cell (hc_2 j v h)) 2 rfl)) fun _ f => ?_
    obtain ⟨x_3, hx_3, hF_8⟩ := bS hF_7
    refine Y17 f p_3 (state_Check_ok n _ _ (⟨d0.fOld.fOwned, d0.fOld.fPending, d0.fOld.fRetained, d0.fOld.fOuts, d0.fOld.fText, d0.fOld.fArgs, d0.fOld.fCalls, d0.fOld.fStatus⟩ : TF0) (TF0.shut (h_1.mono hM_1) (h_2.mono hM_1) (h_3.mono hM_1) (h_4.mono hM_1) (h_5.mono hM_1)) x_3 hx_3) fun w_4 p_4 _ f => Y f 2 fun _ f => eT ?_
    exact ⟨(!(decide (x_3 = 0))), (sI hF_8).symm, M_1, (mR _), f.kp, p_4⟩
 ·rintro a_17 w_5 ⟨y_1, hq_1, M_2, hM_2, f, p_5⟩
  subst j_1
  refine T_n (RcF f hF_1 (fun h_13 hF_9 => ?_) fun h_13 hF_10 => ?_)
  ·refine RR (Y f 1 fun _ f => eT (wp_ret (T_r (E_ret1 f rfl (by kernel_rfl : Vc.look _ 2 = some (.bool false)) ?_))))
   obtain rfl := sI hF_9
   exact ⟨_, rfl, M_2, (hM_1.trans hM_2), p_5, rfl⟩
  ·refine wp_skip (T_n (RR (W_newmap (fun x : T_forward_key => Value.agg #[.int .i64 x.change, .int .i8 x.phase]) Value.bool f p_5 (by kernel_rfl) (by kernel_rfl) rfl rfl rfl fun bm_1 w_6 p_6 _ f => Y f 1 fun _ f => eT (R_seq (RR (Y f 1 fun _ f => Y14 f p_6 (fzu hM_2 hc_2) 15 rfl fun _ f => Y f 2 fun _ f => eT (wp_block ?_)))))))
   obtain ⟨b_2, hL_1, hF_11⟩ := bS hF_10
   refine wp_mono (Q := fun e a w => (e = .ret ∧ (∃ y_3 : (List (T_forward_key × Bool)), b_2 = .inl y_3 ∧ ∃ M_5 : Mem, M_2.le M_5 ∧ Frm 97 [(2, .bool false)] a ∧ Hp w0 M_5 ((Ent.obj bm_1 (mapO (fun x : T_forward_key => Value.agg #[.int .i64 x.change, .int .i8 x.phase]) Value.bool y_3)) :: H) w)) ∨ (e = .exit 0 ∧ (∃ y_4 : (List (T_forward_key × Bool)), b_2 = .inr y_4 ∧ ∃ M_6 : Mem, M_2.le M_6 ∧ Frm 97 [(1, .pointer (some (⟨b_1, 0, none⟩)))] a ∧ Hp w0 M_6 ((Ent.obj bm_1 (mapO (fun x : T_forward_key => Value.agg #[.int .i64 x.change, .int .i8 x.phase]) Value.bool y_4)) :: H) w))) (R_loop (n := 97) (w0 := w0) (M := M_2) (fun (x : Nat × (Int × (List (T_forward_key × Bool)))) => match x with | (m_1, s_1) => [(1, .pointer (some (⟨b_1, 0, none⟩))), (3, .map (some bm_1)), (27, .slice A_10 d0.fTasks.length cap_10), (28, .int .i64 ((d0.fTasks.length : Nat) : Int)), (29, .int .i64 s_1.1)]) (fun (x : Nat × (Int × (List (T_forward_key × Bool)))) => match x with | (m_1, s_1) => ((Ent.obj bm_1 (mapO (fun x : T_forward_key => Value.agg #[.int .i64 x.change, .int .i8 x.phase]) Value.bool s_1.2)) :: H)) (fun (x : Nat × (Int × (List (T_forward_key × Bool)))) (MM : Mem) => match x with | (m_1, s_1) => loopF (forward_May_s1 n d0) m_1 s_1 = some b_2) (fun (x : Nat × (Int × (List (T_forward_key × Bool)))) => match x with | (m_1, s_1) => m_1) (n, ((0 : Int), ([] : List (T_forward_key × Bool)))) (f.kp) p_6 hL_1 ?_) ?_
   ·rintro ⟨m_1, s_1⟩ M_3 _ w_7 hM_3 I_1 f p_7
    have I_1L := I_1
    obtain ⟨m_2, r_1, rfl, hs_1, hn_1⟩ := loop_step I_1L
    unfold forward_May_s1 at hs_1
    refine RR (Y f 1 fun _ f => eT (R_seq (RcF f hs_1 (fun h_14 hF_12 => ?_) fun h_14 hF_31 => ?_)))
    ·have k_7 := dI.1 h_14
     refine wp_skip (T_n (R_seq (wp_block (RR (Y f 1 fun _ f => ?_)))))
     obtain ⟨x_4, hx_4, hF_13⟩ := bS hF_12
     obtain ⟨ad_1, c_1, e_1, -, hr_1, hc_3⟩ := Sli.at_ (h_10.mono ((hM_1.trans hM_2).trans hM_3)) hx_4
     obtain ⟨A_11, cap_11, rfl, h_15⟩ := TR0.opn hr_1
     refine Z f (Y28 e_1 rfl (len := d0.fTasks.length) (cap := cap_10) (k := .i64) (i := s_1.1) (e := 44) (sz := 9) (getI_nn hx_4) (getI_lt hx_4)) fun _ f => Z (v := .agg #[.int .i64 x_4.fChange, .int .i8 x_4.fPhase, .int .i64 x_4.fCall.fToken, .int .i8 x_4.fCall.fKind, S x_4.fCall.fPhys, S x_4.fCall.fType, .slice A_11 x_4.fCall.fProps.length cap_11, .int .i8 x_4.fState, S x_4.fPhys]) f (Y30 (cs := [.int .i64 x_4.fChange, .int .i8 x_4.fPhase, .int .i64 x_4.fCall.fToken, .int .i8 x_4.fCall.fKind, S x_4.fCall.fPhys, S x_4.fCall.fType, .slice A_11 x_4.fCall.fProps.length cap_11, .int .i8 x_4.fState, S x_4.fPhys]) rfl (ad := ad_1.add (s_1.1.toNat * 9)) (fun j v h => p_7.cell (hc_3 j v h))) fun _ f => Y11 f p_7 (.cells #[.int .i64 0, .int .i8 0, .int .i64 0, .int .i8 0, S [], S [], .slice none 0 0, .int .i8 0, S []] 44 (0, 0)) fun b_3 w_8 p_8 _ f => Y f 1 fun _ f => Y26 (vs := [.int .i64 x_4.fChange, .int .i8 x_4.fPhase, .int .i64 x_4.fCall.fToken, .int .i8 x_4.fCall.fKind, S x_4.fCall.fPhys, S x_4.fCall.fType, .slice A_11 x_4.fCall.fProps.length cap_11, .int .i8 x_4.fState, S x_4.fPhys]) (j := 0) f p_8 rfl rfl (by simp [Value.oneCell', S]) (by simp) (by decide) (cs' := #[.int .i64 x_4.fChange, .int .i8 x_4.fPhase, .int .i64 x_4.fCall.fToken, .int .i8 x_4.fCall.fKind, S x_4.fCall.fPhys, S x_4.fCall.fType, .slice A_11 x_4.fCall.fProps.length cap_11, .int .i8 x_4.fState, S x_4.fPhys]) fun w_9 p_9 _ f => eT (RR (Y f 1 fun _ f => Z f (Y29 (v := .int .i64 x_4.fChange) rfl (ad := ⟨b_3, 0, none⟩) (p_9.ownCell 0 rfl 0)) fun _ f => Y f 1 fun _ f => Z f (Y29 (v := .int .i8 x_4.fPhase) rfl (ad := ⟨b_3, 1, none⟩) (p_9.ownCell 0 rfl 1)) fun _ f => Y f 1 fun _ f => ?_))
     refine Y11 f p_9 (.cells #[.int .i64 0, .int .i8 0] 128 (0, 0)) fun b_4 w_10 p_10 _ f => Y26 (vs := [.int .i64 x_4.fChange, .int .i8 x_4.fPhase]) (j := 0) f p_10 rfl rfl (by simp [Value.oneCell', S]) (by simp) (by decide) (cs' := #[.int .i64 x_4.fChange, .int .i8 x_4.fPhase]) fun w_11 p_11 _ f => eT (R_seq (R_seq ?_))
     obtain ⟨j_2, hj_2, hF_14⟩ := bS hF_13
     refine R_mid (fun a_68 w_15 => ∃ y_2 : Bool, j_2 = y_2 ∧ ∃ M_4 : Mem, M_3.le M_4 ∧ Frm 97 [(1, .pointer (some (⟨b_1, 0, none⟩))), (3, .map (some bm_1)), (6, .pointer (some (⟨b_4, 0, none⟩))), (27, .slice A_10 d0.fTasks.length cap_10), (28, .int .i64 ((d0.fTasks.length : Nat) : Int)), (29, .int .i64 s_1.1), (71, .bool y_2)] a_68 ∧ Hp w0 M_4 ((Ent.obj b_4 (.cells #[.int .i64 x_4.fChange, .int .i8 x_4.fPhase] 128 (0, 0))) :: (Ent.obj b_3 (.cells #[.int .i64 x_4.fChange, .int .i8 x_4.fPhase, .int .i64 x_4.fCall.fToken, .int .i8 x_4.fCall.fKind, S x_4.fCall.fPhys, S x_4.fCall.fType, .slice A_11 x_4.fCall.fProps.length cap_11, .int .i8 x_4.fState, S x_4.fPhys] 44 (0, 0))) :: (Ent.obj bm_1 (mapO (fun x : T_forward_key => Value.agg #[.int .i64 x.change, .int .i8 x.phase]) Value.bool s_1.2)) :: H) w_15) ?_ ?_
     ·refine R_reg (Y f 2 fun _ f => Z f (Y29 (v := .int .i64 x_4.fCall.fToken) rfl (ad := ⟨b_3, 2, none⟩) (p_11.ownCell 1 rfl 2)) fun _ f => Y f 1 fun _ f => ?_)
      obtain ⟨g_1, hF_15⟩ := nS hj_2
      refine Y f 1 fun _ f => ?_
      have f := f.st 43 (congrArg (Value.int .i64) (inR_wrap g_1))
      refine Y f 2 fun _ f => ?_
      rcases cE hF_15 with ⟨h_16, hF_16⟩ | ⟨h_16, hF_17⟩
      ·have k_8 : ¬ (x_4.fCall.fToken = (s_1.1 + 1)) := (not_iff dI).1 h_16
       have f := f.st 45 (cB h_16)
       refine Y f 26 fun _ f => eT ?_
       exact ⟨(true), (sI hF_16).symm, M_3, (mR _), f.kp, p_11⟩
      ·have k_9 : ¬ (¬ (x_4.fCall.fToken = (s_1.1 + 1))) := iff_f (not_iff dI) h_16
       have f := f.st 45 (cB h_16)
       refine Y f 1 fun _ f => Z f (Y29 (v := .int .i64 x_4.fChange) rfl (ad := ⟨b_3, 0, none⟩) (p_11.ownCell 1 rfl 0)) fun _ f => Y f 1 fun _ f => Y14 f p_11 (fzu (hM_2.trans hM_3) hc_2) 14 rfl fun _ f => Y f 1 fun _ f => ?_
       obtain ⟨g_2, hF_18⟩ := nS hF_17
       refine Y f 1 fun _ f => ?_
       have f := f.st 51 (congrArg (Value.int .i64) (inR_wrap g_2))
       obtain ⟨x_5, hx_5, hF_19⟩ := bS hF_18
       refine Y17 f p_11 (forward_within_ok n _ x_4.fChange (0 : Int) (((d0.fChanges.length : Nat) : Int) - 1) x_5 hx_5) fun w_12 p_12 _ f => Y f 3 fun _ f => ?_
       rcases cE hF_19 with ⟨h_17, hF_20⟩ | ⟨h_17, hF_21⟩
       ·have k_10 : (x_5) = false := by simpa using h_17
        have f := f.st 55 (cB h_17)
        refine Y f 16 fun _ f => eT ?_
        exact ⟨(true), (sI hF_20).symm, M_3, (mR _), f.kp, p_12⟩
       ·have k_11 : (x_5) = true := by simpa using h_17
        have f := f.st 55 (cB h_17)
        refine Y f 1 fun _ f => Z f (Y29 (v := .int .i8 x_4.fState) rfl (ad := ⟨b_3, 7, none⟩) (p_12.ownCell 1 rfl 7)) fun _ f => ?_
        obtain ⟨x_6, hx_6, hF_22⟩ := bS hF_21
        refine Y17 f p_12 (forward_within_2_ok n _ x_4.fState (0 : Int) (2 : Int) x_6 hx_6) fun w_13 p_13 _ f => Y f 3 fun _ f => ?_
        rcases cE hF_22 with ⟨h_18, hF_23⟩ | ⟨h_18, hF_24⟩
        ·have k_12 : (x_6) = false := by simpa using h_18
         have f := f.st 61 (cB h_18)
         refine Y f 10 fun _ f => eT ?_
         exact ⟨(true), (sI hF_23).symm, M_3, (mR _), f.kp, p_13⟩
        ·have k_13 : (x_6) = true := by simpa using h_18
         have f := f.st 61 (cB h_18)
         refine Y f 1 fun _ f => Z f (Y29 (v := .int .i8 x_4.fPhase) rfl (ad := ⟨b_3, 1, none⟩) (p_13.ownCell 1 rfl 1)) fun _ f => ?_
         obtain ⟨x_7, hx_7, hF_25⟩ := bS hF_24
         refine Y17 f p_13 (forward_within_2_ok n _ x_4.fPhase (0 : Int) (2 : Int) x_7 hx_7) fun w_14 p_14 _ f => Y f 3 fun _ f => ?_
         rcases cE hF_25 with ⟨h_19, hF_26⟩ | ⟨h_19, hF_27⟩
         ·have k_14 : (x_7) = false := by simpa using h_19
          have f := f.st 67 (cB h_19)
          refine Y f 4 fun _ f => eT ?_
          exact ⟨(true), (sI hF_26).symm, M_3, (mR _), f.kp, p_14⟩
         ·have k_15 : (x_7) = true := by simpa using h_19
          have f := f.st 67 (cB h_19)
          refine Y f 1 fun _ f => Z (v := .agg #[.int .i64 x_4.fChange, .int .i8 x_4.fPhase]) f (Y30 (cs := [.int .i64 x_4.fChange, .int .i8 x_4.fPhase]) rfl (ad := ⟨b_4, 0, none⟩) (own_cells (p_14.ownCell 0 rfl) 0 rfl)) fun _ f => Z (v := .bool ((mget s_1.2 (⟨x_4.fChange, x_4.fPhase⟩ : T_forward_key)).getD false)) f (X_lookup1S (enc := (fun x : T_forward_key => Value.agg #[.int .i64 x.change, .int .i8 x.phase])) (ev := Value.bool) (m := s_1.2) (k := (⟨x_4.fChange, x_4.fPhase⟩ : T_forward_key)) (z := false) (kt := 128) (et := 4) rfl (by kernel_rfl) (by kernel_rfl) (by kernel_rfl) (key2 (f := T_forward_key.change) (g := T_forward_key.phase) (t1 := 3) (t2 := 22) (by kernel_rfl) (by kernel_rfl) (by kernel_rfl) (by kernel_rfl) (by kernel_rfl) (fun x y => by cases x; cases y; simp)) (by kernel_rfl) (p_14.ownObj 2 rfl)) fun _ f => Y f 1 fun _ f => eT ?_
          exact ⟨((mget s_1.2 (⟨x_4.fChange, x_4.fPhase⟩ : T_forward_key)).getD false), (sI hF_27).symm, M_3, (mR _), f.kp, p_14⟩
     ·rintro a_68 w_15 ⟨y_2, hq_2, M_4, hM_4, f, p_15⟩
      subst j_2
      refine T_n (RcF f hF_14 (fun h_20 hF_28 => ?_) fun h_20 hF_29 => ?_)
      ·refine RR (Y f 1 fun _ f => eT (wp_ret (T_r (B_r (T_r (T_r ?_))))))
       obtain rfl := sI hF_28
       exact .inl ⟨rfl, s_1.2, (sI hn_1).symm, M_4, (hM_3.trans hM_4), f.kp, (p_15.dropN 2)⟩
      ·refine wp_skip (T_n (R_reg (Y f 1 fun _ f => Z (v := .agg #[.int .i64 x_4.fChange, .int .i8 x_4.fPhase]) f (Y30 (cs := [.int .i64 x_4.fChange, .int .i8 x_4.fPhase]) rfl (ad := ⟨b_4, 0, none⟩) (own_cells (p_15.ownCell 0 rfl) 0 rfl)) fun _ f => ?_)))
       have p_16 := p_15.pl [2]
       refine W_mapputS (enc := (fun x : T_forward_key => Value.agg #[.int .i64 x.change, .int .i8 x.phase])) (ev := Value.bool) (m := s_1.2) (k := (⟨x_4.fChange, x_4.fPhase⟩ : T_forward_key)) (v := (true)) (kt := 128) (et := 4) f p_16 (by kernel_rfl) (by kernel_rfl) rfl (.inl rfl) (by kernel_rfl) (by kernel_rfl) (by kernel_rfl) (by kernel_rfl) (key2 (f := T_forward_key.change) (g := T_forward_key.phase) (t1 := 3) (t2 := 22) (by kernel_rfl) (by kernel_rfl) (by kernel_rfl) (by kernel_rfl) (by kernel_rfl) (fun x y => by cases x; cases y; simp)) fun w_16 p_17 _ f => W_end rfl (B_n (T_n (R_reg ?_)))
       obtain ⟨g_3, hF_30⟩ := nS hF_29
       refine Y f 1 fun _ f => ?_
       have f := f.st 74 (congrArg (Value.int .i64) (inR_wrap g_3))
       refine Y f 1 fun _ f => W_end rfl ?_
       have p_21 := p_17.pl [2, 2]
       refine T_n ?_
       obtain rfl := sI hF_30
       exact ⟨⟨m_2, (s_1.1 + 1, mput s_1.2 (⟨x_4.fChange, x_4.fPhase⟩ : T_forward_key) (true))⟩, Nat.lt_succ_self _, M_4, (hM_3.trans hM_4), hn_1, f.kp, (p_21.dropN 2)⟩
    ·have k_18 := iff_f dI h_14
     refine wp_exit (T_x (T_x ?_))
     obtain rfl := sI hF_31
     exact .inr ⟨rfl, s_1.2, (sI hn_1).symm, M_3, hM_3, f.kp, p_7⟩
   ·rintro _ _ w_19 (⟨rfl, y_3, rfl, M_5, hM_5, f, p_18⟩ | ⟨rfl, y_4, rfl, M_6, hM_6, f, p_19⟩)
    ·refine B_r (T_r (E_ret1 f rfl (by kernel_rfl : Vc.look _ 2 = some (.bool false)) ?_))
     obtain rfl := sI hF_11
     exact ⟨_, rfl, M_5, ((hM_1.trans hM_2).trans hM_5), (p_18.dropN 1), rfl⟩
    ·refine B_x (T_n (R_seq (RR (Z (v := .agg #[.int .i8 d0.fKind, .int .i64 d0.fWidth, .slice A_1 d0.fOld.fOwned.length cap_1, .slice A_2 d0.fOld.fPending.length cap_2, .slice A_3 d0.fOld.fRetained.length cap_3, .slice A_4 d0.fOld.fOuts.length cap_4, S d0.fOld.fText, .slice A_5 d0.fOld.fArgs.length cap_5, .int .i64 d0.fOld.fCalls, .int .i8 d0.fOld.fStatus, .slice A_6 d0.fNew.fScopes.length cap_6, .slice A_7 d0.fNew.fNodes.length cap_7, S d0.fText, .slice A_8 d0.fArgs.length cap_8, .slice A_9 d0.fChanges.length cap_9, .slice A_10 d0.fTasks.length cap_10, .int .i8 d0.fPhase, .int .i8 d0.fStatus]) f (Y30 (cs := [.int .i8 d0.fKind, .int .i64 d0.fWidth, .slice A_1 d0.fOld.fOwned.length cap_1, .slice A_2 d0.fOld.fPending.length cap_2, .slice A_3 d0.fOld.fRetained.length cap_3, .slice A_4 d0.fOld.fOuts.length cap_4, S d0.fOld.fText, .slice A_5 d0.fOld.fArgs.length cap_5, .int .i64 d0.fOld.fCalls, .int .i8 d0.fOld.fStatus, .slice A_6 d0.fNew.fScopes.length cap_6, .slice A_7 d0.fNew.fNodes.length cap_7, S d0.fText, .slice A_8 d0.fArgs.length cap_8, .slice A_9 d0.fChanges.length cap_9, .slice A_10 d0.fTasks.length cap_10, .int .i8 d0.fPhase, .int .i8 d0.fStatus]) rfl (ad := ⟨b_1, 0, none⟩) (fun j v h => p_19.cell ((fzu (hM_2.trans hM_6) hc_2) j v h))) fun _ f => ?_))))
     obtain ⟨x_8, hx_8, hF_32⟩ := bS hF_11
     refine Y15 f p_19 (forward_leans_ok n _ _ d0 (TK0.shutx (x := d0) (h_1.mono ((hM_1.trans hM_2).trans hM_6)) (h_2.mono ((hM_1.trans hM_2).trans hM_6)) (h_3.mono ((hM_1.trans hM_2).trans hM_6)) (h_4.mono ((hM_1.trans hM_2).trans hM_6)) (h_5.mono ((hM_1.trans hM_2).trans hM_6)) (h_6.mono ((hM_1.trans hM_2).trans hM_6)) (h_7.mono ((hM_1.trans hM_2).trans hM_6)) (h_8.mono ((hM_1.trans hM_2).trans hM_6)) (h_9.mono ((hM_1.trans hM_2).trans hM_6)) (h_10.mono ((hM_1.trans hM_2).trans hM_6))) x_8 hx_8) fun _ M_7 w_20 hM_7 p_22 q_1 _ f => ?_
     obtain ⟨A_12, cap_12, rfl, h_21⟩ := q_1
     refine Y f 2 fun _ f => eT (wp_block ?_)
     obtain ⟨b_5, hL_2, hF_33⟩ := bS hF_32
     refine wp_mono (Q := fun e a w => (e = .ret ∧ (∃ y_5 : Unit, b_5 = .inl y_5 ∧ ∃ M_9 : Mem, M_7.le M_9 ∧ Frm 97 [(2, .bool false)] a ∧ Hp w0 M_9 ((Ent.obj bm_1 (mapO (fun x : T_forward_key => Value.agg #[.int .i64 x.change, .int .i8 x.phase]) Value.bool y_4)) :: H) w)) ∨ (e = .exit 2 ∧ (∃ y_6 : Unit, b_5 = .inr y_6 ∧ ∃ M_10 : Mem, M_7.le M_10 ∧ Frm 97 [] a ∧ Hp w0 M_10 ((Ent.obj bm_1 (mapO (fun x : T_forward_key => Value.agg #[.int .i64 x.change, .int .i8 x.phase]) Value.bool y_4)) :: H) w))) (R_loop (n := 97) (w0 := w0) (M := M_7) (fun (x : Nat × Int) => match x with | (m_3, s_2) => [(76, .slice A_12 x_8.length cap_12), (77, .int .i64 ((x_8.length : Nat) : Int)), (78, .int .i64 s_2)]) (fun (x : Nat × Int) => match x with | (m_3, s_2) => ((Ent.obj bm_1 (mapO (fun x : T_forward_key => Value.agg #[.int .i64 x.change, .int .i8 x.phase]) Value.bool y_4)) :: H)) (fun (x : Nat × Int) (MM : Mem) => match x with | (m_3, s_2) => loopF (forward_May_s2 n x_8) m_3 s_2 = some b_5) (fun (x : Nat × Int) => match x with | (m_3, s_2) => m_3) (n, (0 : Int)) (f.kp) p_22 hL_2 ?_) ?_
     ·rintro ⟨m_3, s_2⟩ M_8 _ w_21 hM_8 I_2 f p_23
      have I_2L := I_2
      obtain ⟨m_4, r_2, rfl, hs_2, hn_2⟩ := loop_step I_2L
      unfold forward_May_s2 at hs_2
      refine RR (Y f 1 fun _ f => eT (R_seq (RcF f hs_2 (fun h_22 hF_34 => ?_) fun h_22 hF_44 => ?_)))
      ·have k_19 := dI.1 h_22
       refine wp_skip (T_n (R_seq (wp_block (RR (Y f 1 fun _ f => ?_)))))
       obtain ⟨x_9, hx_9, hF_35⟩ := bS hF_34
       obtain ⟨ad_2, c_2, e_2, -, hr_2, hc_4⟩ := Sli.at_ (h_21.mono hM_8) hx_9
       obtain ⟨A_13, cap_13, rfl, h_23⟩ := Rep.sli hr_2
       refine Z f (Y28 e_2 rfl (len := x_8.length) (cap := cap_12) (k := .i64) (i := s_2) (e := 47) (sz := 1) (getI_nn hx_9) (getI_lt hx_9)) fun _ f => Y14 f p_23 hc_4 0 rfl fun _ f => Y f 2 fun _ f => eT (RR (Y f 4 fun _ f => ?_))
       rcases cE hF_35 with ⟨h_24, hF_36⟩ | ⟨h_24, hF_42⟩
       ·have k_20 := dI.1 h_24
        have f := f.st 86 (cB h_24)
        refine Y f 3 fun _ f => ?_
        obtain ⟨g_4, hF_37⟩ := nS hF_36
        refine Y f 1 fun _ f => ?_
        have f := f.st 90 (congrArg (Value.int .i64) (inR_wrap g_4))
        obtain ⟨x_10, hx_10, hF_38⟩ := bS hF_37
        obtain ⟨ad_3, c_3, e_3, -, hr_3, hc_5⟩ := Sli.at_ h_23 hx_10
        obtain rfl : c_3 = [.int .i64 x_10] := hr_3
        refine Z f (Y28 e_3 rfl (len := x_9.length) (cap := cap_13) (k := .i64) (i := ((x_9.length : Nat) : Int) - 1) (e := 3) (sz := 1) (getI_nn hx_10) (getI_lt hx_10)) fun _ f => Y14 f p_23 hc_5 0 rfl fun _ f => Y f 3 fun _ f => eT (RcF f hF_38 (fun h_25 hF_39 => ?_) fun h_25 hF_40 => ?_)
        ·have k_21 := dI.1 h_25
         refine RR (Y f 1 fun _ f => eT (wp_ret (B_r (T_r (T_r ?_)))))
         obtain rfl := sI hF_39
         exact .inl ⟨rfl, (), (sI hn_2).symm, M_8, hM_8, f.kp, p_23⟩
        ·have k_22 := iff_f dI h_25
         refine wp_skip (B_n (T_n (R_reg ?_)))
         obtain ⟨g_5, hF_41⟩ := nS hF_40
         refine Y f 1 fun _ f => ?_
         have f := f.st 96 (congrArg (Value.int .i64) (inR_wrap g_5))
         refine Y f 1 fun _ f => eT ?_
         obtain rfl := sI hF_41
         exact ⟨⟨m_4, s_2 + 1⟩, Nat.lt_succ_self _, M_8, hM_8, hn_2, f.kp, p_23⟩
       ·have k_23 := iff_f dI h_24
        have f := f.st 86 (cB h_24)
        refine Y f 9 fun _ f => eT (Y7 f (wp_skip (B_n (T_n (R_reg ?_)))))
        obtain ⟨g_6, hF_43⟩ := nS hF_42
        refine Y f 1 fun _ f => ?_
        have f := f.st 96 (congrArg (Value.int .i64) (inR_wrap g_6))
        refine Y f 1 fun _ f => eT ?_
        obtain rfl := sI hF_43
        exact ⟨⟨m_4, s_2 + 1⟩, Nat.lt_succ_self _, M_8, hM_8, hn_2, f.kp, p_23⟩
      ·have k_24 := iff_f dI h_22
       refine wp_exit (T_x (T_x ?_))
       obtain rfl := sI hF_44
       exact .inr ⟨rfl, (), (sI hn_2).symm, M_8, hM_8, f.kp, p_23⟩
     ·rintro _ _ w_24 (⟨rfl, y_5, rfl, M_9, hM_9, f, p_24⟩ | ⟨rfl, y_6, rfl, M_10, hM_10, f, p_25⟩)
      ·refine B_r (T_r (E_ret1 f rfl (by kernel_rfl : Vc.look _ 2 = some (.bool false)) ?_))
       obtain rfl := sI hF_33
       exact ⟨_, rfl, M_9, ((((hM_1.trans hM_2).trans hM_6).trans hM_7).trans hM_9), (p_24.dropN 1), rfl⟩
      ·refine B_x (T_n (RR (Y f 1 fun _ f => eT (wp_ret (E_ret1 f rfl (by kernel_rfl : Vc.look _ 2 = some (.bool true)) ?_)))))
       obtain rfl := sI hF_33
       exact ⟨_, rfl, M_10, ((((hM_1.trans hM_2).trans hM_6).trans hM_7).trans hM_10), (p_25.dropN 1), rfl⟩
def back_at_s2 (n : Nat) (d0 : List Int) (d1 : List Int) (s_1 : List Int × Int) (s_2 : List Int × Int) : Option (Lp (List Int × Int) (List Int)) :=
    bif (decide (s_2.2 < ((d1.length : Nat) : Int))) then
      ((getI d1 s_2.2).bind fun x_1 =>
      (getI d0 s_1.2).bind fun x_2 =>
      bif (decide (x_2 = x_1)) then
        (need ((s_2.1.length + 1) * 8 ≤ 140737488355328) <|
        need (inR .i64 (s_2.2 + 1)) <|
        some (.nx (s_2.1 ++ [s_1.2], s_2.2 + 1)))
      else
        need (inR .i64 (s_2.2 + 1)) <|
        some (.nx (s_2.1, s_2.2 + 1)))
    else
      some (.br s_2.1)
def back_at_s1 (n : Nat) (d0 : List Int) (d1 : List Int) (s_1 : List Int × Int) : Option (Lp (List Int × Int) (List Int)) :=
    bif (decide (s_1.2 < ((d0.length : Nat) : Int))) then
      ((loopF (back_at_s2 n d0 d1 s_1) n (s_1.1, (0 : Int))).bind fun y_1 =>
      need (inR .i64 (s_1.2 + 1)) <|
      some (.nx (y_1, s_1.2 + 1)))
    else
      some (.br s_1.1)
def back_at (n : Nat) (d0 : List Int) (d1 : List Int) : Option (List Int) :=
  (loopF (back_at_s1 n d0 d1) n (([] : List Int), (0 : Int))).bind fun y_2 =>
  some (y_2)
set_option maxRecDepth 20000 in
theorem back_at_ok (n : Nat) (M : Mem) (A0 : Option Addr) (cap0 : Nat) (d0 : List Int) (h0 : Sli M 1 (Dat.int .i8) A0 cap0 d0) (A1 : Option Addr) (cap1 : Nat) (d1 : List Int) (h1 : Sli M 1 (Dat.int .i8) A1 cap1 d1) (r : List Int) (hF : back_at n d0 d1 = some r) : OkH Tryz.prog M [] 67 [.slice A0 d0.length cap0, .slice A1 d1.length cap1] (fun M' E' v => ∃ (A0 : Option Addr) (k0 : Nat) (s0 : List Value), v = .slice A0 r.length k0 ∧ E' = [.row 3 1 (.slice A0 r.length k0) r.length s0] ∧ RepSeq M' (r.map (Dat.int .i64)) s0) := by
 unfold back_at at hF
 intro M1 hM0 w0 H w p0
 replace h0 := h0.mono hM0
 replace h1 := h1.mono hM0
 refine R_enter 32 Tryz.func67 rfl rfl (by simp) fun a0 f0 => RR (Y f0 1 fun _ f => eT (R_seq (RR (Y f 3 fun _ f => eT (wp_block ?_)))))
 obtain ⟨A_1, cap_1, hv_1⟩ : ∃ A cap, Value.slice none 0 0 = .slice A ([] : List Int).length cap := ⟨none, 0, rfl⟩
 have p_1 : Hp w0 M1 ((Ent.row 3 1 (.slice A_1 ([] : List Int).length cap_1) ([] : List Int).length []) :: H) w := by rw [← hv_1]; exact p0.nilRow 3 1
 have f := f.st 4 (hv_1)
 have hr_1 : RepSeq M1 (([] : List Int).map (Dat.int .i64)) [] := rfl
 obtain ⟨b_1, hL_1, hF_1⟩ := bS hF
 refine wp_mono (Q := fun e a w => (e = .exit 0 ∧ (∃ y_2 : List Int, b_1 = y_2 ∧ ∃ M_4 : Mem, M1.le M_4 ∧ ∃ (A_6 : Option Addr), ∃ (cap_6 : Nat), ∃ (cs_5 : List Value), RepSeq M_4 (y_2.map (Dat.int .i64)) cs_5 ∧ Frm 32 [(4, .slice A_6 y_2.length cap_6)] a ∧ Hp w0 M_4 ((Ent.row 3 1 (.slice A_6 y_2.length cap_6) y_2.length cs_5) :: H) w))) (R_loop (n := 32) (w0 := w0) (M := M1) (fun (x : Nat × (List Int × Int) × (Option Addr) × Nat × (List Value)) => match x with | (m_1, s_1, A_2, cap_2, cs_1) => [(0, .slice A0 d0.length cap0), (1, .slice A1 d1.length cap1), (4, .slice A_2 s_1.1.length cap_2), (9, .int .i64 ((d0.length : Nat) : Int)), (10, .int .i64 s_1.2)]) (fun (x : Nat × (List Int × Int) × (Option Addr) × Nat × (List Value)) => match x with | (m_1, s_1, A_2, cap_2, cs_1) => ((Ent.row 3 1 (.slice A_2 s_1.1.length cap_2) s_1.1.length cs_1) :: H)) (fun (x : Nat × (List Int × Int) × (Option Addr) × Nat × (List Value)) (MM : Mem) => match x with | (m_1, s_1, A_2, cap_2, cs_1) => loopF (back_at_s1 n d0 d1) m_1 s_1 = some b_1 ∧ RepSeq MM (s_1.1.map (Dat.int .i64)) cs_1) (fun (x : Nat × (List Int × Int) × (Option Addr) × Nat × (List Value)) => match x with | (m_1, s_1, A_2, cap_2, cs_1) => m_1) (n, (([] : List Int), (0 : Int)), A_1, cap_1, []) (f.kp) p_1 ⟨hL_1, hr_1⟩ ?_) ?_
 ·rintro ⟨m_1, s_1, A_2, cap_2, cs_1⟩ M_1 _ w_1 hM_1 I_1 f p_2
  obtain ⟨I_1L, hr_2⟩ := I_1
  obtain ⟨m_2, r_1, rfl, hs_1, hn_1⟩ := loop_step I_1L
  unfold back_at_s1 at hs_1
  refine RR (Y f 1 fun _ f => eT (R_seq (RcF f hs_1 (fun h_1 hF_2 => ?_) fun h_1 hF_14 => ?_)))
  ·have k_1 := dI.1 h_1
   refine wp_skip (T_n (R_seq (wp_block (RR (Y f 2 fun _ f => eT (RR (Y f 3 fun _ f => eT (wp_block ?_))))))))
   obtain ⟨b_2, hL_2, hF_3⟩ := bS hF_2
   refine wp_mono (Q := fun e a w => (e = .exit 2 ∧ (∃ y_1 : List Int, b_2 = y_1 ∧ ∃ M_3 : Mem, M_1.le M_3 ∧ ∃ (A_5 : Option Addr), ∃ (cap_5 : Nat), ∃ (cs_4 : List Value), RepSeq M_3 (y_1.map (Dat.int .i64)) cs_4 ∧ Frm 32 [(0, .slice A0 d0.length cap0), (1, .slice A1 d1.length cap1), (4, .slice A_5 y_1.length cap_5), (9, .int .i64 ((d0.length : Nat) : Int)), (10, .int .i64 s_1.2)] a ∧ Hp w0 M_3 ((Ent.row 3 1 (.slice A_5 y_1.length cap_5) y_1.length cs_4) :: H) w))) (R_loop (n := 32) (w0 := w0) (M := M_1) (fun (x : Nat × (List Int × Int) × (Option Addr) × Nat × (List Value)) => match x with | (m_3, s_2, A_3, cap_3, cs_2) => [(0, .slice A0 d0.length cap0), (1, .slice A1 d1.length cap1), (4, .slice A_3 s_2.1.length cap_3), (5, .int .i64 s_1.2), (9, .int .i64 ((d0.length : Nat) : Int)), (10, .int .i64 s_1.2), (13, .slice A1 d1.length cap1), (14, .int .i64 ((d1.length : Nat) : Int)), (15, .int .i64 s_2.2)]) (fun (x : Nat × (List Int × Int) × (Option Addr) × Nat × (List Value)) => match x with | (m_3, s_2, A_3, cap_3, cs_2) => ((Ent.row 3 1 (.slice A_3 s_2.1.length cap_3) s_2.1.length cs_2) :: H)) (fun (x : Nat × (List Int × Int) × (Option Addr) × Nat × (List Value)) (MM : Mem) => match x with | (m_3, s_2, A_3, cap_3, cs_2) => loopF (back_at_s2 n d0 d1 s_1) m_3 s_2 = some b_2 ∧ RepSeq MM (s_2.1.map (Dat.int .i64)) cs_2) (fun (x : Nat × (List Int × Int) × (Option Addr) × Nat × (List Value)) => match x with | (m_3, s_2, A_3, cap_3, cs_2) => m_3) (n, (s_1.1, (0 : Int)), A_2, cap_2, cs_1) (f.kp) p_2 ⟨hL_2, hr_2⟩ ?_) ?_
   ·rintro ⟨m_3, s_2, A_3, cap_3, cs_2⟩ M_2 _ w_2 hM_2 I_2 f p_3
    obtain ⟨I_2L, hr_3⟩ := I_2
    obtain ⟨m_4, r_2, rfl, hs_2, hn_2⟩ := loop_step I_2L
    unfold back_at_s2 at hs_2
    refine RR (Y f 1 fun _ f => eT (R_seq (RcF f hs_2 (fun h_2 hF_4 => ?_) fun h_2 hF_12 => ?_)))
    ·have k_2 := dI.1 h_2
     refine wp_skip (T_n (R_seq (wp_block (RR ?_))))
     obtain ⟨x_1, hx_1, hF_5⟩ := bS hF_4
     obtain ⟨ad_1, c_1, e_1, -, hr_4, hc_1⟩ := Sli.at_ (h1.mono (hM_1.trans hM_2)) hx_1
     obtain rfl : c_1 = [.int .i8 x_1] := hr_4
     refine Z f (Y28 e_1 rfl (len := d1.length) (cap := cap1) (k := .i64) (i := s_2.2) (e := 22) (sz := 1) (getI_nn hx_1) (getI_lt hx_1)) fun _ f => Y14 f p_3 hc_1 0 rfl fun _ f => Y f 1 fun _ f => eT (RR (Y f 2 fun _ f => ?_))
     obtain ⟨x_2, hx_2, hF_6⟩ := bS hF_5
     obtain ⟨ad_2, c_2, e_2, -, hr_5, hc_2⟩ := Sli.at_ (h0.mono (hM_1.trans hM_2)) hx_2
     obtain rfl : c_2 = [.int .i8 x_2] := hr_5
     refine Z f (Y28 e_2 rfl (len := d0.length) (cap := cap0) (k := .i64) (i := s_1.2) (e := 22) (sz := 1) (getI_nn hx_2) (getI_lt hx_2)) fun _ f => Y14 f p_3 hc_2 0 rfl fun _ f => Y f 2 fun _ f => eT (RcF f hF_6 (fun h_3 hF_7 => ?_) fun h_3 hF_10 => ?_)
     ·have k_3 := dI.1 h_3
      refine R_reg (Y f 2 fun _ f => V_allocS (k := 1) (c := 1) f p_3 (.cells #[.int .i64 s_1.2] 3 (0, 0)) (by kernel_rfl) (fun _ => by kernel_rfl) fun b_3 w_3 p_4 _ f => ?_)
      have p_5 := p_4.pl [1]
      obtain ⟨g_1, hF_8⟩ := nS hF_7
      refine Y20 (z := .int .i64 0) (f := (Dat.int .i64)) (xs := s_2.1) (ys := [s_1.2]) (news := [.int .i64 s_1.2]) (ad := ⟨b_3, 0, none⟩) (m := 1) (c := 1) f p_5 hr_3 (by exact ⟨_, _, rfl, rfl, rfl⟩) rfl rfl rfl rfl (own_cells (p_5.ownCell 1 rfl) 0 rfl) (by exact g_1) (by have hg_ := g_1; first | omega | (simp only [List.length_cons, List.length_nil] at *; omega)) fun A_4 cap_4 cs_3 w_4 p_6 hr_6 _ f => ?_
      have p_7 := p_6.pl [1]
      have p_8 := p_7.drop
      refine Y f 1 fun _ f => W_end rfl (B_n (T_n (R_reg ?_)))
      obtain ⟨g_2, hF_9⟩ := nS hF_8
      refine Y f 1 fun _ f => ?_
      have f := f.st 29 (congrArg (Value.int .i64) (inR_wrap g_2))
      refine Y f 1 fun _ f => eT ?_
      obtain rfl := sI hF_9
      exact ⟨⟨m_4, (s_2.1 ++ [s_1.2], s_2.2 + 1), A_4, cap_4, cs_3⟩, Nat.lt_succ_self _, M_2, hM_2, ⟨hn_2, hr_6⟩, f.kp, p_8⟩
     ·have k_4 := iff_f dI h_3
      refine wp_skip (B_n (T_n (R_reg ?_)))
      obtain ⟨g_3, hF_11⟩ := nS hF_10
      refine Y f 1 fun _ f => ?_
      have f := f.st 29 (congrArg (Value.int .i64) (inR_wrap g_3))
      refine Y f 1 fun _ f => eT ?_
      obtain rfl := sI hF_11
      exact ⟨⟨m_4, (s_2.1, s_2.2 + 1), A_3, cap_3, cs_2⟩, Nat.lt_succ_self _, M_2, hM_2, ⟨hn_2, hr_3⟩, f.kp, p_3⟩
    ·have k_5 := iff_f dI h_2
     refine wp_exit (T_x (T_x ?_))
     obtain rfl := sI hF_12
     exact ⟨rfl, s_2.1, (sI hn_2).symm, M_2, hM_2, A_3, cap_3, cs_2, hr_3, f.kp, p_3⟩
   ·rintro _ _ w_6 ⟨rfl, y_1, hq_, M_3, hM_3, A_5, cap_5, cs_4, hr_7, f, p_9⟩
    subst b_2
    refine B_x (B_n (T_n (R_reg ?_)))
    obtain ⟨g_4, hF_13⟩ := nS hF_3
    refine Y f 1 fun _ f => ?_
    have f := f.st 30 (congrArg (Value.int .i64) (inR_wrap g_4))
    refine Y f 1 fun _ f => eT ?_
    obtain rfl := sI hF_13
    exact ⟨⟨m_2, (y_1, s_1.2 + 1), A_5, cap_5, cs_4⟩, Nat.lt_succ_self _, M_3, (hM_1.trans hM_3), ⟨hn_1, hr_7⟩, f.kp, p_9⟩
  ·have k_6 := iff_f dI h_1
   refine wp_exit (T_x (T_x ?_))
   obtain rfl := sI hF_14
   exact ⟨rfl, s_1.1, (sI hn_1).symm, M_1, hM_1, A_2, cap_2, cs_1, hr_2, f.kp, p_2⟩
 ·rintro _ _ w_8 ⟨rfl, y_2, hq_, M_4, hM_4, A_6, cap_6, cs_5, hr_8, f, p_10⟩
  subst b_1
  refine B_x (T_n (RR (Y f 2 fun _ f => eT (wp_ret (E_ret1 f rfl (by kernel_rfl : Vc.look _ 4 = some (.slice A_6 y_2.length cap_6)) ?_)))))
  obtain rfl := sI hF_1
  exact ⟨_, rfl, M_4, _, hM_4, p_10, ⟨A_6, cap_6, cs_5, rfl, rfl, hr_8⟩⟩
def forward_of (n : Nat) (d0_0 : Int) (d0_1 : Int) (d0_2 : Int) (d0_3 : Int) (d0_4 : List UInt8) (d0_5 : List UInt8) (d0_6 : List TE0) (d0_7 : Int) (d0_8 : List UInt8) : Option (Int × Int × Int × Int × Int × List UInt8 × List UInt8 × List TE0 × Int × List UInt8) :=
  need (0 ≤ d0_7 ∧ d0_7 < 3) <|
  bif (decide (d0_7 = 0)) then
    (some (((2 : Int), d0_0, d0_1, d0_2, d0_3, d0_4, d0_5, d0_6, d0_7, d0_8)))
  else
    bif (decide (d0_7 = 1)) then
      (some (((3 : Int), d0_0, d0_1, d0_2, d0_3, d0_4, d0_5, d0_6, d0_7, d0_8)))
    else
      some (((4 : Int), d0_0, d0_1, d0_2, d0_3, d0_4, d0_5, d0_6, d0_7, d0_8))
theorem forward_of_ok (n : Nat) (M : Mem) (b0 : Nat) (d0_0 : Int) (d0_1 : Int) (d0_2 : Int) (d0_3 : Int) (d0_4 : List UInt8) (d0_5 : List UInt8) (d0_6 : List TE0) (A_1 : Option Addr) (cap_1 : Nat) (h_1 : Sli M 8 emb_TE0 A_1 cap_1 d0_6) (d0_7 : Int) (d0_8 : List UInt8) (r : Int × Int × Int × Int × Int × List UInt8 × List UInt8 × List TE0 × Int × List UInt8) (hF : forward_of n d0_0 d0_1 d0_2 d0_3 d0_4 d0_5 d0_6 d0_7 d0_8 = some r) : OkH Tryz.prog M [Ent.obj b0 (.cells #[.int .i64 d0_0, .int .i8 d0_1, .int .i64 d0_2, .int .i8 d0_3, S d0_4, S d0_5, .slice A_1 d0_6.length cap_1, .int .i8 d0_7, S d0_8] 44 (0, 0))] 119 [.pointer (some (⟨b0, 0, none⟩))] (fun M' E' v => ∃ (A_2 : Option Addr) (cap_2 : Nat), v = .int .i8 r.1 ∧ E' = [Ent.obj b0 (.cells #[.int .i64 r.2.1, .int .i8 r.2.2.1, .int .i64 r.2.2.2.1, .int .i8 r.2.2.2.2.1, S r.2.2.2.2.2.1, S r.2.2.2.2.2.2.1, .slice A_2 r.2.2.2.2.2.2.2.1.length cap_2, .int .i8 r.2.2.2.2.2.2.2.2.1, S r.2.2.2.2.2.2.2.2.2] 44 (0, 0))] ∧ Sli M' 8 emb_TE0 A_2 cap_2 r.2.2.2.2.2.2.2.1) := by
 unfold forward_of at hF
 intro M1 hM0 w0 H w p0
 replace h_1 := h_1.mono hM0
 refine R_enter 9 Tryz.func119 rfl rfl (by simp) fun a0 f0 => RR (Y f0 1 fun _ f => eT (RR (Y f 4 fun _ f => Z f (Y29 (v := .int .i8 d0_7) rfl (ad := ⟨b0, 7, none⟩) (p0.ownCell 0 rfl 7)) fun _ f => ?_)))
 obtain ⟨g_1, hF_1⟩ := nS hF
 rcases cE hF_1 with ⟨h_2, hF_2⟩ | ⟨h_2, hF_3⟩
 ·have e_1 : d0_7 = 0 := of_decide_eq_true h_2
  have f := Frm.set f 7 (v := .int .i8 d0_7) (v' := .int .i8 0) (by kernel_rfl) (congrArg (Value.int .i8) e_1)
  refine Y f 1 fun _ f => Y f 1 fun _ f => eT (wp_ret (E_ret1 f rfl (by kernel_rfl : Vc.look _ 2 = some (.int .i8 2)) ?_))
  obtain rfl := sI hF_2
  exact ⟨_, rfl, M1, _, (mR _), p0, ⟨A_1, cap_1, rfl, rfl, h_1⟩⟩
 ·have e_2 : ¬ (d0_7 = 0) := of_decide_eq_false h_2
  rcases cE hF_3 with ⟨h_3, hF_4⟩ | ⟨h_3, hF_5⟩
  ·have e_3 : d0_7 = 1 := of_decide_eq_true h_3
   have f := Frm.set f 7 (v := .int .i8 d0_7) (v' := .int .i8 1) (by kernel_rfl) (congrArg (Value.int .i8) e_3)
   refine Y f 1 fun _ f => Y f 1 fun _ f => eT (wp_ret (E_ret1 f rfl (by kernel_rfl : Vc.look _ 2 = some (.int .i8 3)) ?_))
   obtain rfl := sI hF_4
   exact ⟨_, rfl, M1, _, (mR _), p0, ⟨A_1, cap_1, rfl, rfl, h_1⟩⟩
  ·have e_4 : ¬ (d0_7 = 1) := of_decide_eq_false h_3
   have e_5 : d0_7 = 2 := by omega
   have f := Frm.set f 7 (v := .int .i8 d0_7) (v' := .int .i8 2) (by kernel_rfl) (congrArg (Value.int .i8) e_5)
   refine Y f 1 fun _ f => Y f 1 fun _ f => eT (wp_ret (E_ret1 f rfl (by kernel_rfl : Vc.look _ 2 = some (.int .i8 4)) ?_))
   obtain rfl := sI hF_5
   exact ⟨_, rfl, M1, _, (mR _), p0, ⟨A_1, cap_1, rfl, rfl, h_1⟩⟩
def forward_States_s1 (n : Nat) (d0 : TK0) (s_1 : List Int × Int) : Option (Lp (List Int × Int) (List Int)) :=
    bif (decide (s_1.2 < ((d0.fChanges.length : Nat) : Int))) then
      ((getI d0.fChanges s_1.2).bind fun x_2 =>
      (forward_Task n d0 s_1.2 (0 : Int)).bind fun x_3 =>
      ((bif x_3.2 then
          ((forward_of n x_3.1.fChange x_3.1.fPhase x_3.1.fCall.fToken x_3.1.fCall.fKind x_3.1.fCall.fPhys x_3.1.fCall.fType x_3.1.fCall.fProps x_3.1.fState x_3.1.fPhys).bind fun x_4 =>
          some ((x_4.1, x_4.2.1, x_4.2.2.1, x_4.2.2.2.1, x_4.2.2.2.2.1, x_4.2.2.2.2.2.1, x_4.2.2.2.2.2.2.1, x_4.2.2.2.2.2.2.2.1, x_4.2.2.2.2.2.2.2.2.1, x_4.2.2.2.2.2.2.2.2.2)))
        else
          some (((1 : Int), x_3.1.fChange, x_3.1.fPhase, x_3.1.fCall.fToken, x_3.1.fCall.fKind, x_3.1.fCall.fPhys, x_3.1.fCall.fType, x_3.1.fCall.fProps, x_3.1.fState, x_3.1.fPhys)) : Option (Int × Int × Int × Int × Int × List UInt8 × List UInt8 × List TE0 × Int × List UInt8))).bind fun y_1 =>
      ((bif (!(decide (x_2.fKind = 1))) then
          (bif (!(decide (x_2.fKind = 2))) then
            (some ((!(decide (x_2.fKind = 3)))))
          else
            some ((false)))
        else
          some ((false)) : Option Bool)).bind fun y_2 =>
      ((bif y_2 then
          (some ((0 : Int)))
        else
          some (y_1.1) : Option Int)).bind fun y_3 =>
      need ((s_1.1.length + 1) * 1 ≤ 140737488355328) <|
      need (inR .i64 (s_1.2 + 1)) <|
      some (.nx (s_1.1 ++ [y_3], s_1.2 + 1)))
    else
      some (.br s_1.1)
def forward_States (n : Nat) (d0 : TK0) : Option (List Int) :=
  (forward_May n d0).bind fun x_1 =>
  bif !x_1 then
    (some (([] : List Int)))
  else
    (loopF (forward_States_s1 n d0) n (([] : List Int), (0 : Int))).bind fun y_4 =>
    some (y_4)
set_option maxRecDepth 20000 in
theorem forward_States_ok (n : Nat) (M : Mem) (c0 : List Value) (d0 : TK0) (h0 : Rep M (emb_TK0 d0) c0) (r : List Int) (hF : forward_States n d0 = some r) : OkH Tryz.prog M [] 68 [.agg c0.toArray] (fun M' E' v => ∃ (A0 : Option Addr) (k0 : Nat) (s0 : List Value), v = .slice A0 r.length k0 ∧ E' = [.row 22 1 (.slice A0 r.length k0) r.length s0] ∧ RepSeq M' (r.map (Dat.int .i8)) s0) := by
 unfold forward_States at hF
 intro M1 hM0 w0 H w p0
 replace h0 := Rep.mono hM0 _ _ h0
 obtain ⟨A_1, cap_1, A_2, cap_2, A_3, cap_3, A_4, cap_4, A_5, cap_5, A_6, cap_6, A_7, cap_7, A_8, cap_8, A_9, cap_9, A_10, cap_10, rfl, h_1, h_2, h_3, h_4, h_5, h_6, h_7, h_8, h_9, h_10⟩ := TK0.opn h0
 refine R_enter 46 Tryz.func68 rfl rfl (by simp) fun a0 f0 => RR (Y12 (cs := #[.int .i8 d0.fKind, .int .i64 d0.fWidth, .slice A_1 d0.fOld.fOwned.length cap_1, .slice A_2 d0.fOld.fPending.length cap_2, .slice A_3 d0.fOld.fRetained.length cap_3, .slice A_4 d0.fOld.fOuts.length cap_4, S d0.fOld.fText, .slice A_5 d0.fOld.fArgs.length cap_5, .int .i64 d0.fOld.fCalls, .int .i8 d0.fOld.fStatus, .slice A_6 d0.fNew.fScopes.length cap_6, .slice A_7 d0.fNew.fNodes.length cap_7, S d0.fText, .slice A_8 d0.fArgs.length cap_8, .slice A_9 d0.fChanges.length cap_9, .slice A_10 d0.fTasks.length cap_10, .int .i8 d0.fPhase, .int .i8 d0.fStatus]) (T := 34) f0 p0 fun b_1 M_1 w_1 hM_1 hc_1 p_1 _ f => ?_)
 have hc_2 := fz_box hc_1
 refine Y f 1 fun _ f => eT (R_seq (RR (Z (v := .agg #[.int .i8 d0.fKind, .int .i64 d0.fWidth, .slice A_1 d0.fOld.fOwned.length cap_1, .slice A_2 d0.fOld.fPending.length cap_2, .slice A_3 d0.fOld.fRetained.length cap_3, .slice A_4 d0.fOld.fOuts.length cap_4, S d0.fOld.fText, .slice A_5 d0.fOld.fArgs.length cap_5, .int .i64 d0.fOld.fCalls, .int .i8 d0.fOld.fStatus, .slice A_6 d0.fNew.fScopes.length cap_6, .slice A_7 d0.fNew.fNodes.length cap_7, S d0.fText, .slice A_8 d0.fArgs.length cap_8, .slice A_9 d0.fChanges.length cap_9, .slice A_10 d0.fTasks.length cap_10, .int .i8 d0.fPhase, .int .i8 d0.fStatus]) f (Y30 (cs := [.int .i8 d0.fKind, .int .i64 d0.fWidth, .slice A_1 d0.fOld.fOwned.length cap_1, .slice A_2 d0.fOld.fPending.length cap_2, .slice A_3 d0.fOld.fRetained.length cap_3, .slice A_4 d0.fOld.fOuts.length cap_4, S d0.fOld.fText, .slice A_5 d0.fOld.fArgs.length cap_5, .int .i64 d0.fOld.fCalls, .int .i8 d0.fOld.fStatus, .slice A_6 d0.fNew.fScopes.length cap_6, .slice A_7 d0.fNew.fNodes.length cap_7, S d0.fText, .slice A_8 d0.fArgs.length cap_8, .slice A_9 d0.fChanges.length cap_9, .slice A_10 d0.fTasks.length cap_10, .int .i8 d0.fPhase, .int .i8 d0.fStatus]) rfl (ad := ⟨b_1, 0, none⟩) (fun j v h => p_1.cell (hc_2 j v h))) fun _ f => ?_)))
 obtain ⟨x_1, hx_1, hF_1⟩ := bS hF
 refine Y17 f p_1 (forward_May_ok n _ _ d0 (TK0.shutx (x := d0) (h_1.mono hM_1) (h_2.mono hM_1) (h_3.mono hM_1) (h_4.mono hM_1) (h_5.mono hM_1) (h_6.mono hM_1) (h_7.mono hM_1) (h_8.mono hM_1) (h_9.mono hM_1) (h_10.mono hM_1)) x_1 hx_1) fun w_2 p_2 _ f => Y f 1 fun _ f => eT (RcF f hF_1 (fun h_11 hF_2 => ?_) fun h_11 hF_3 => ?_)
 ·have k_1 : (x_1) = false := by simpa using h_11
  refine RR (Y f 1 fun _ f => eT (wp_ret (T_r ?_)))
  obtain ⟨A_11, cap_11, hv_1⟩ : ∃ A cap, Value.slice none 0 0 = .slice A ([] : List Int).length cap := ⟨none, 0, rfl⟩
  have p_3 : Hp w0 M_1 ((Ent.row 22 1 (.slice A_11 ([] : List Int).length cap_11) ([] : List Int).length []) :: H) w_2 := by rw [← hv_1]; exact p_2.nilRow 22 1
  have f := f.st 2 (hv_1)
  have hr_1 : RepSeq M_1 (([] : List Int).map (Dat.int .i8)) [] := rfl
  refine E_ret1 f rfl (by kernel_rfl : Vc.look _ 2 = some (.slice A_11 ([] : List Int).length cap_11)) ?_
  obtain rfl := sI hF_2
  exact ⟨_, rfl, M_1, _, hM_1, p_3, ⟨A_11, cap_11, [], rfl, rfl, hr_1⟩⟩
 ·have k_2 : (x_1) = true := by simpa using h_11
  refine wp_skip (T_n (R_seq (RR (Y f 1 fun _ f => Y14 f p_2 hc_2 14 rfl fun _ f => Y f 2 fun _ f => eT (wp_block ?_)))))
  obtain ⟨A_12, cap_12, hv_2⟩ : ∃ A cap, Value.slice none 0 0 = .slice A ([] : List Int).length cap := ⟨none, 0, rfl⟩
  have p_4 : Hp w0 M_1 ((Ent.row 22 1 (.slice A_12 ([] : List Int).length cap_12) ([] : List Int).length []) :: H) w_2 := by rw [← hv_2]; exact p_2.nilRow 22 1
  have f := f.st 2 (hv_2)
  have hr_2 : RepSeq M_1 (([] : List Int).map (Dat.int .i8)) [] := rfl
  obtain ⟨b_2, hL_1, hF_4⟩ := bS hF_3
  refine wp_mono (Q := fun e a w => (e = .exit 0 ∧ (∃ y_4 : List Int, b_2 = y_4 ∧ ∃ M_8 : Mem, M_1.le M_8 ∧ ∃ (A_20 : Option Addr), ∃ (cap_20 : Nat), ∃ (cs_3 : List Value), RepSeq M_8 (y_4.map (Dat.int .i8)) cs_3 ∧ Frm 46 [(2, .slice A_20 y_4.length cap_20)] a ∧ Hp w0 M_8 ((Ent.row 22 1 (.slice A_20 y_4.length cap_20) y_4.length cs_3) :: H) w))) (R_loop (n := 46) (w0 := w0) (M := M_1) (fun (x : Nat × (List Int × Int) × (Option Addr) × Nat × (List Value)) => match x with | (m_1, s_1, A_13, cap_13, cs_1) => [(1, .pointer (some (⟨b_1, 0, none⟩))), (2, .slice A_13 s_1.1.length cap_13), (12, .slice A_9 d0.fChanges.length cap_9), (13, .int .i64 ((d0.fChanges.length : Nat) : Int)), (14, .int .i64 s_1.2)]) (fun (x : Nat × (List Int × Int) × (Option Addr) × Nat × (List Value)) => match x with | (m_1, s_1, A_13, cap_13, cs_1) => ((Ent.row 22 1 (.slice A_13 s_1.1.length cap_13) s_1.1.length cs_1) :: H)) (fun (x : Nat × (List Int × Int) × (Option Addr) × Nat × (List Value)) (MM : Mem) => match x with | (m_1, s_1, A_13, cap_13, cs_1) => loopF (forward_States_s1 n d0) m_1 s_1 = some b_2 ∧ RepSeq MM (s_1.1.map (Dat.int .i8)) cs_1) (fun (x : Nat × (List Int × Int) × (Option Addr) × Nat × (List Value)) => match x with | (m_1, s_1, A_13, cap_13, cs_1) => m_1) (n, (([] : List Int), (0 : Int)), A_12, cap_12, []) (f.kp) p_4 ⟨hL_1, hr_2⟩ ?_) ?_
  ·rintro ⟨m_1, s_1, A_13, cap_13, cs_1⟩ M_2 _ w_3 hM_2 I_1 f p_5
   obtain ⟨I_1L, hr_3⟩ := I_1
   obtain ⟨m_2, r_1, rfl, hs_1, hn_1⟩ := loop_step I_1L
   unfold forward_States_s1 at hs_1
   refine RR (Y f 1 fun _ f => eT (R_seq (RcF f hs_1 (fun h_12 hF_5 => ?_) fun h_12 hF_22 => ?_)))
   ·have k_3 := dI.1 h_12
    refine wp_skip (T_n (R_seq (wp_block (RR (Y f 1 fun _ f => ?_)))))
    obtain ⟨x_2, hx_2, hF_6⟩ := bS hF_5
    obtain ⟨ad_1, c_1, e_1, -, hr_4, hc_3⟩ := Sli.at_ (h_9.mono (hM_1.trans hM_2)) hx_2
    obtain ⟨A_14, cap_14, A_15, cap_15, rfl, h_13, h_14⟩ := TC0.opn hr_4
    refine Z f (Y28 e_1 rfl (len := d0.fChanges.length) (cap := cap_9) (k := .i64) (i := s_1.2) (e := 72) (sz := 8) (getI_nn hx_2) (getI_lt hx_2)) fun _ f => Z (v := .agg #[S x_2.fId, .int .i8 x_2.fKind, S x_2.fType, .slice A_14 x_2.fProps.length cap_14, .bool x_2.fRetain, .int .i64 x_2.fNode, .bool x_2.fOld, .slice A_15 x_2.fLeans.length cap_15]) f (Y30 (cs := [S x_2.fId, .int .i8 x_2.fKind, S x_2.fType, .slice A_14 x_2.fProps.length cap_14, .bool x_2.fRetain, .int .i64 x_2.fNode, .bool x_2.fOld, .slice A_15 x_2.fLeans.length cap_15]) rfl (ad := ad_1.add (s_1.2.toNat * 8)) (fun j v h => p_5.cell (hc_3 j v h))) fun _ f => Y11 f p_5 (.cells #[S [], .int .i8 0, S [], .slice none 0 0, .bool false, .int .i64 0, .bool false, .slice none 0 0] 72 (0, 0)) fun b_3 w_4 p_6 _ f => Y f 1 fun _ f => Y26 (vs := [S x_2.fId, .int .i8 x_2.fKind, S x_2.fType, .slice A_14 x_2.fProps.length cap_14, .bool x_2.fRetain, .int .i64 x_2.fNode, .bool x_2.fOld, .slice A_15 x_2.fLeans.length cap_15]) (j := 0) f p_6 rfl rfl (by simp [Value.oneCell', S]) (by simp) (by decide) (cs' := #[S x_2.fId, .int .i8 x_2.fKind, S x_2.fType, .slice A_14 x_2.fProps.length cap_14, .bool x_2.fRetain, .int .i64 x_2.fNode, .bool x_2.fOld, .slice A_15 x_2.fLeans.length cap_15]) fun w_5 p_7 _ f => eT (RR (Y f 1 fun _ f => eT (R_seq (RR (Z (v := .agg #[.int .i8 d0.fKind, .int .i64 d0.fWidth, .slice A_1 d0.fOld.fOwned.length cap_1, .slice A_2 d0.fOld.fPending.length cap_2, .slice A_3 d0.fOld.fRetained.length cap_3, .slice A_4 d0.fOld.fOuts.length cap_4, S d0.fOld.fText, .slice A_5 d0.fOld.fArgs.length cap_5, .int .i64 d0.fOld.fCalls, .int .i8 d0.fOld.fStatus, .slice A_6 d0.fNew.fScopes.length cap_6, .slice A_7 d0.fNew.fNodes.length cap_7, S d0.fText, .slice A_8 d0.fArgs.length cap_8, .slice A_9 d0.fChanges.length cap_9, .slice A_10 d0.fTasks.length cap_10, .int .i8 d0.fPhase, .int .i8 d0.fStatus]) f (Y30 (cs := [.int .i8 d0.fKind, .int .i64 d0.fWidth, .slice A_1 d0.fOld.fOwned.length cap_1, .slice A_2 d0.fOld.fPending.length cap_2, .slice A_3 d0.fOld.fRetained.length cap_3, .slice A_4 d0.fOld.fOuts.length cap_4, S d0.fOld.fText, .slice A_5 d0.fOld.fArgs.length cap_5, .int .i64 d0.fOld.fCalls, .int .i8 d0.fOld.fStatus, .slice A_6 d0.fNew.fScopes.length cap_6, .slice A_7 d0.fNew.fNodes.length cap_7, S d0.fText, .slice A_8 d0.fArgs.length cap_8, .slice A_9 d0.fChanges.length cap_9, .slice A_10 d0.fTasks.length cap_10, .int .i8 d0.fPhase, .int .i8 d0.fStatus]) rfl (ad := ⟨b_1, 0, none⟩) (fun j v h => p_7.cell ((fzu hM_2 hc_2) j v h))) fun _ f => Y f 1 fun _ f => ?_)))))
    obtain ⟨x_3, hx_3, hF_7⟩ := bS hF_6
    refine Y15 f p_7 (forward_Task_ok n _ _ d0 (TK0.shutx (x := d0) (h_1.mono (hM_1.trans hM_2)) (h_2.mono (hM_1.trans hM_2)) (h_3.mono (hM_1.trans hM_2)) (h_4.mono (hM_1.trans hM_2)) (h_5.mono (hM_1.trans hM_2)) (h_6.mono (hM_1.trans hM_2)) (h_7.mono (hM_1.trans hM_2)) (h_8.mono (hM_1.trans hM_2)) (h_9.mono (hM_1.trans hM_2)) (h_10.mono (hM_1.trans hM_2))) s_1.2 (0 : Int) x_3 hx_3) fun _ M_3 w_6 hM_3 p_8 q_1 _ f => ?_
    obtain ⟨c_2, rfl, hr_5⟩ := q_1
    obtain ⟨A_16, cap_16, rfl, h_15⟩ := TR0.opn hr_5
    refine Y f 3 fun _ f => Y11 f p_8 (.cells #[.int .i64 0, .int .i8 0, .int .i64 0, .int .i8 0, S [], S [], .slice none 0 0, .int .i8 0, S []] 44 (0, 0)) fun b_4 w_7 p_9 _ f => Y26 (vs := [.int .i64 x_3.1.fChange, .int .i8 x_3.1.fPhase, .int .i64 x_3.1.fCall.fToken, .int .i8 x_3.1.fCall.fKind, S x_3.1.fCall.fPhys, S x_3.1.fCall.fType, .slice A_16 x_3.1.fCall.fProps.length cap_16, .int .i8 x_3.1.fState, S x_3.1.fPhys]) (j := 0) f p_9 rfl rfl (by simp [Value.oneCell', S]) (by simp) (by decide) (cs' := #[.int .i64 x_3.1.fChange, .int .i8 x_3.1.fPhase, .int .i64 x_3.1.fCall.fToken, .int .i8 x_3.1.fCall.fKind, S x_3.1.fCall.fPhys, S x_3.1.fCall.fType, .slice A_16 x_3.1.fCall.fProps.length cap_16, .int .i8 x_3.1.fState, S x_3.1.fPhys]) fun w_8 p_10 _ f => Y f 1 fun _ f => eT (RR (Y f 1 fun _ f => eT ?_))
    obtain ⟨j_1, hj_1, hF_8⟩ := bS hF_7
    refine R_mid (fun a_29 w_10 => ∃ y_1 : Int × Int × Int × Int × Int × List UInt8 × List UInt8 × List TE0 × Int × List UInt8, j_1 = y_1 ∧ ∃ M_5 : Mem, M_3.le M_5 ∧ ∃ (A_18 : Option Addr), ∃ (cap_18 : Nat), Sli M_5 8 emb_TE0 A_18 cap_18 y_1.2.2.2.2.2.2.2.1 ∧ Frm 46 [(1, .pointer (some (⟨b_1, 0, none⟩))), (2, .slice A_13 s_1.1.length cap_13), (4, .pointer (some (⟨b_3, 0, none⟩))), (5, .int .i8 y_1.1), (12, .slice A_9 d0.fChanges.length cap_9), (13, .int .i64 ((d0.fChanges.length : Nat) : Int)), (14, .int .i64 s_1.2)] a_29 ∧ Hp w0 M_5 ((Ent.obj b_4 (.cells #[.int .i64 y_1.2.1, .int .i8 y_1.2.2.1, .int .i64 y_1.2.2.2.1, .int .i8 y_1.2.2.2.2.1, S y_1.2.2.2.2.2.1, S y_1.2.2.2.2.2.2.1, .slice A_18 y_1.2.2.2.2.2.2.2.1.length cap_18, .int .i8 y_1.2.2.2.2.2.2.2.2.1, S y_1.2.2.2.2.2.2.2.2.2] 44 (0, 0))) :: (Ent.obj b_3 (.cells #[S x_2.fId, .int .i8 x_2.fKind, S x_2.fType, .slice A_14 x_2.fProps.length cap_14, .bool x_2.fRetain, .int .i64 x_2.fNode, .bool x_2.fOld, .slice A_15 x_2.fLeans.length cap_15] 72 (0, 0))) :: (Ent.row 22 1 (.slice A_13 s_1.1.length cap_13) s_1.1.length cs_1) :: H) w_10) ?_ ?_
    ·refine RcF f hj_1 (fun h_16 hF_9 => ?_) fun h_16 hF_11 => ?_
     ·refine R_reg ?_
      obtain ⟨x_4, hx_4, hF_10⟩ := bS hF_9
      refine Y16 (E := [Ent.obj b_4 (.cells #[.int .i64 x_3.1.fChange, .int .i8 x_3.1.fPhase, .int .i64 x_3.1.fCall.fToken, .int .i8 x_3.1.fCall.fKind, S x_3.1.fCall.fPhys, S x_3.1.fCall.fType, .slice A_16 x_3.1.fCall.fProps.length cap_16, .int .i8 x_3.1.fState, S x_3.1.fPhys] 44 (0, 0))]) (H := ((Ent.obj b_3 (.cells #[S x_2.fId, .int .i8 x_2.fKind, S x_2.fType, .slice A_14 x_2.fProps.length cap_14, .bool x_2.fRetain, .int .i64 x_2.fNode, .bool x_2.fOld, .slice A_15 x_2.fLeans.length cap_15] 72 (0, 0))) :: (Ent.row 22 1 (.slice A_13 s_1.1.length cap_13) s_1.1.length cs_1) :: H)) f p_10 (forward_of_ok n _ b_4 x_3.1.fChange x_3.1.fPhase x_3.1.fCall.fToken x_3.1.fCall.fKind x_3.1.fCall.fPhys x_3.1.fCall.fType x_3.1.fCall.fProps A_16 cap_16 h_15 x_3.1.fState x_3.1.fPhys x_4 hx_4) fun _ M_4 E_1 w_9 hM_4 p_11 q_2 _ f => ?_
      obtain ⟨A_17, cap_17, rfl, rfl, h_17⟩ := q_2
      refine Y f 1 fun _ f => eT ?_
      exact ⟨(x_4.1, x_4.2.1, x_4.2.2.1, x_4.2.2.2.1, x_4.2.2.2.2.1, x_4.2.2.2.2.2.1, x_4.2.2.2.2.2.2.1, x_4.2.2.2.2.2.2.2.1, x_4.2.2.2.2.2.2.2.2.1, x_4.2.2.2.2.2.2.2.2.2), (sI hF_10).symm, M_4, hM_4, A_17, cap_17, h_17, f.kp, p_11⟩
     ·refine wp_skip (T_n ?_)
      exact ⟨((1 : Int), x_3.1.fChange, x_3.1.fPhase, x_3.1.fCall.fToken, x_3.1.fCall.fKind, x_3.1.fCall.fPhys, x_3.1.fCall.fType, x_3.1.fCall.fProps, x_3.1.fState, x_3.1.fPhys), (sI hF_11).symm, M_3, (mR _), A_16, cap_16, h_15, f.kp, p_10⟩
    ·rintro a_29 w_10 ⟨y_1, hq_1, M_5, hM_5, A_18, cap_18, h_18, f, p_12⟩
     subst j_1
     refine T_n (R_seq (R_seq ?_))
     obtain ⟨j_2, hj_2, hF_12⟩ := bS hF_8
     refine R_mid (fun a_41 w_11 => ∃ y_2 : Bool, j_2 = y_2 ∧ ∃ M_6 : Mem, M_5.le M_6 ∧ Frm 46 [(1, .pointer (some (⟨b_1, 0, none⟩))), (2, .slice A_13 s_1.1.length cap_13), (5, .int .i8 y_1.1), (12, .slice A_9 d0.fChanges.length cap_9), (13, .int .i64 ((d0.fChanges.length : Nat) : Int)), (14, .int .i64 s_1.2), (39, .bool y_2)] a_41 ∧ Hp w0 M_6 ((Ent.obj b_4 (.cells #[.int .i64 y_1.2.1, .int .i8 y_1.2.2.1, .int .i64 y_1.2.2.2.1, .int .i8 y_1.2.2.2.2.1, S y_1.2.2.2.2.2.1, S y_1.2.2.2.2.2.2.1, .slice A_18 y_1.2.2.2.2.2.2.2.1.length cap_18, .int .i8 y_1.2.2.2.2.2.2.2.2.1, S y_1.2.2.2.2.2.2.2.2.2] 44 (0, 0))) :: (Ent.obj b_3 (.cells #[S x_2.fId, .int .i8 x_2.fKind, S x_2.fType, .slice A_14 x_2.fProps.length cap_14, .bool x_2.fRetain, .int .i64 x_2.fNode, .bool x_2.fOld, .slice A_15 x_2.fLeans.length cap_15] 72 (0, 0))) :: (Ent.row 22 1 (.slice A_13 s_1.1.length cap_13) s_1.1.length cs_1) :: H) w_11) ?_ ?_
     ·refine R_reg (Y f 1 fun _ f => Z f (Y29 (v := .int .i8 x_2.fKind) rfl (ad := ⟨b_3, 1, none⟩) (p_12.ownCell 1 rfl 1)) fun _ f => Y f 2 fun _ f => ?_)
      rcases cE hj_2 with ⟨h_19, hF_13⟩ | ⟨h_19, hF_16⟩
      ·have k_6 : ¬ (x_2.fKind = 1) := (not_iff dI).1 h_19
       have f := f.st 30 (cB h_19)
       refine Y f 1 fun _ f => Z f (Y29 (v := .int .i8 x_2.fKind) rfl (ad := ⟨b_3, 1, none⟩) (p_12.ownCell 1 rfl 1)) fun _ f => Y f 3 fun _ f => ?_
       rcases cE hF_13 with ⟨h_20, hF_14⟩ | ⟨h_20, hF_15⟩
       ·have k_7 : ¬ (x_2.fKind = 2) := (not_iff dI).1 h_20
        have f := f.st 35 (cB h_20)
        refine Y f 1 fun _ f => Z f (Y29 (v := .int .i8 x_2.fKind) rfl (ad := ⟨b_3, 1, none⟩) (p_12.ownCell 1 rfl 1)) fun _ f => Y f 2 fun _ f => eT ?_
        exact ⟨(!(decide (x_2.fKind = 3))), (sI hF_14).symm, M_5, (mR _), f.kp, p_12⟩
       ·have k_8 : ¬ (¬ (x_2.fKind = 2)) := iff_f (not_iff dI) h_20
        have f := f.st 35 (cB h_20)
        refine Y f 4 fun _ f => eT ?_
        exact ⟨(false), (sI hF_15).symm, M_5, (mR _), f.kp, p_12⟩
      ·have k_9 : ¬ (¬ (x_2.fKind = 1)) := iff_f (not_iff dI) h_19
       have f := f.st 30 (cB h_19)
       refine Y f 9 fun _ f => eT ?_
       exact ⟨(false), (sI hF_16).symm, M_5, (mR _), f.kp, p_12⟩
     ·rintro a_41 w_11 ⟨y_2, hq_2, M_6, hM_6, f, p_13⟩
      subst j_2
      refine T_n ?_
      obtain ⟨j_3, hj_3, hF_17⟩ := bS hF_12
      refine R_mid (fun a_43 w_12 => ∃ y_3 : Int, j_3 = y_3 ∧ ∃ M_7 : Mem, M_6.le M_7 ∧ Frm 46 [(1, .pointer (some (⟨b_1, 0, none⟩))), (2, .slice A_13 s_1.1.length cap_13), (5, .int .i8 y_3), (12, .slice A_9 d0.fChanges.length cap_9), (13, .int .i64 ((d0.fChanges.length : Nat) : Int)), (14, .int .i64 s_1.2)] a_43 ∧ Hp w0 M_7 ((Ent.obj b_4 (.cells #[.int .i64 y_1.2.1, .int .i8 y_1.2.2.1, .int .i64 y_1.2.2.2.1, .int .i8 y_1.2.2.2.2.1, S y_1.2.2.2.2.2.1, S y_1.2.2.2.2.2.2.1, .slice A_18 y_1.2.2.2.2.2.2.2.1.length cap_18, .int .i8 y_1.2.2.2.2.2.2.2.2.1, S y_1.2.2.2.2.2.2.2.2.2] 44 (0, 0))) :: (Ent.obj b_3 (.cells #[S x_2.fId, .int .i8 x_2.fKind, S x_2.fType, .slice A_14 x_2.fProps.length cap_14, .bool x_2.fRetain, .int .i64 x_2.fNode, .bool x_2.fOld, .slice A_15 x_2.fLeans.length cap_15] 72 (0, 0))) :: (Ent.row 22 1 (.slice A_13 s_1.1.length cap_13) s_1.1.length cs_1) :: H) w_12) ?_ ?_
      ·refine RcF f hj_3 (fun h_21 hF_18 => ?_) fun h_21 hF_19 => ?_
       ·refine R_reg (Y f 1 fun _ f => eT ?_)
        exact ⟨(0 : Int), (sI hF_18).symm, M_6, (mR _), f.kp, p_13⟩
       ·refine wp_skip (T_n ?_)
        exact ⟨y_1.1, (sI hF_19).symm, M_6, (mR _), f.kp, p_13⟩
      ·rintro a_43 w_12 ⟨y_3, hq_3, M_7, hM_7, f, p_14⟩
       subst j_3
       refine T_n (R_reg (Y f 2 fun _ f => V_allocS (k := 1) (c := 1) f p_14 (.cells #[.int .i8 y_3] 22 (0, 0)) (by kernel_rfl) (fun _ => by kernel_rfl) fun b_5 w_13 p_15 _ f => ?_))
       have p_16 := p_15.pl [3]
       obtain ⟨g_1, hF_20⟩ := nS hF_17
       refine Y20 (z := .int .i8 0) (f := (Dat.int .i8)) (xs := s_1.1) (ys := [y_3]) (news := [.int .i8 y_3]) (ad := ⟨b_5, 0, none⟩) (m := 1) (c := 1) f p_16 (RepSeq.mono (((hM_3.trans hM_5).trans hM_6).trans hM_7) _ _ hr_3) (by exact ⟨_, _, rfl, rfl, rfl⟩) rfl rfl rfl rfl (own_cells (p_16.ownCell 1 rfl) 0 rfl) (by exact g_1) (by have hg_ := g_1; first | omega | (simp only [List.length_cons, List.length_nil] at *; omega)) fun A_19 cap_19 cs_2 w_14 p_17 hr_6 _ f => ?_
       have p_18 := p_17.pl [1]
       have p_19 := p_18.drop
       refine Y f 1 fun _ f => W_end rfl (B_n (T_n (R_reg ?_)))
       obtain ⟨g_2, hF_21⟩ := nS hF_20
       refine Y f 1 fun _ f => ?_
       have f := f.st 44 (congrArg (Value.int .i64) (inR_wrap g_2))
       refine Y f 1 fun _ f => W_end rfl ?_
       have p_22 := p_19.pl [2, 2]
       refine T_n ?_
       obtain rfl := sI hF_21
       exact ⟨⟨m_2, (s_1.1 ++ [y_3], s_1.2 + 1), A_19, cap_19, cs_2⟩, Nat.lt_succ_self _, M_7, ((((hM_2.trans hM_3).trans hM_5).trans hM_6).trans hM_7), ⟨hn_1, hr_6⟩, f.kp, (p_22.dropN 2)⟩
   ·have k_12 := iff_f dI h_12
    refine wp_exit (T_x (T_x ?_))
    obtain rfl := sI hF_22
    exact ⟨rfl, s_1.1, (sI hn_1).symm, M_2, hM_2, A_13, cap_13, cs_1, hr_3, f.kp, p_5⟩
  ·rintro _ _ w_16 ⟨rfl, y_4, hq_, M_8, hM_8, A_20, cap_20, cs_3, hr_7, f, p_20⟩
   subst b_2
   refine B_x (T_n (RR (Y f 2 fun _ f => eT (wp_ret (E_ret1 f rfl (by kernel_rfl : Vc.look _ 2 = some (.slice A_20 y_4.length cap_20)) ?_)))))
   obtain rfl := sI hF_4
   exact ⟨_, rfl, M_8, _, (hM_1.trans hM_8), p_20, ⟨A_20, cap_20, cs_3, rfl, rfl, hr_7⟩⟩
def back_Goes (n : Nat) (d0 : TK0) : Option (List Int) :=
  (forward_States n d0).bind fun x_1 =>
  (back_at n x_1 [(3 : Int)]).bind fun x_2 =>
  some (x_2)
theorem back_Goes_ok (n : Nat) (M : Mem) (c0 : List Value) (d0 : TK0) (h0 : Rep M (emb_TK0 d0) c0) (r : List Int) (hF : back_Goes n d0 = some r) : OkH Tryz.prog M [] 34 [.agg c0.toArray] (fun M' E' v => ∃ (A0 : Option Addr) (k0 : Nat) (s0 : List Value), v = .slice A0 r.length k0 ∧ E' = [.row 3 1 (.slice A0 r.length k0) r.length s0] ∧ RepSeq M' (r.map (Dat.int .i64)) s0) := by
 unfold back_Goes at hF
 intro M1 hM0 w0 H w p0
 replace h0 := Rep.mono hM0 _ _ h0
 obtain ⟨A_1, cap_1, A_2, cap_2, A_3, cap_3, A_4, cap_4, A_5, cap_5, A_6, cap_6, A_7, cap_7, A_8, cap_8, A_9, cap_9, A_10, cap_10, rfl, h_1, h_2, h_3, h_4, h_5, h_6, h_7, h_8, h_9, h_10⟩ := TK0.opn h0
 refine R_enter 7 Tryz.func34 rfl rfl (by simp) fun a0 f0 => RR (Y12 (cs := #[.int .i8 d0.fKind, .int .i64 d0.fWidth, .slice A_1 d0.fOld.fOwned.length cap_1, .slice A_2 d0.fOld.fPending.length cap_2, .slice A_3 d0.fOld.fRetained.length cap_3, .slice A_4 d0.fOld.fOuts.length cap_4, S d0.fOld.fText, .slice A_5 d0.fOld.fArgs.length cap_5, .int .i64 d0.fOld.fCalls, .int .i8 d0.fOld.fStatus, .slice A_6 d0.fNew.fScopes.length cap_6, .slice A_7 d0.fNew.fNodes.length cap_7, S d0.fText, .slice A_8 d0.fArgs.length cap_8, .slice A_9 d0.fChanges.length cap_9, .slice A_10 d0.fTasks.length cap_10, .int .i8 d0.fPhase, .int .i8 d0.fStatus]) (T := 34) f0 p0 fun b_1 M_1 w_1 hM_1 hc_1 p_1 _ f => ?_)
 have hc_2 := fz_box hc_1
 refine Y f 1 fun _ f => eT (RR (Z (v := .agg #[.int .i8 d0.fKind, .int .i64 d0.fWidth, .slice A_1 d0.fOld.fOwned.length cap_1, .slice A_2 d0.fOld.fPending.length cap_2, .slice A_3 d0.fOld.fRetained.length cap_3, .slice A_4 d0.fOld.fOuts.length cap_4, S d0.fOld.fText, .slice A_5 d0.fOld.fArgs.length cap_5, .int .i64 d0.fOld.fCalls, .int .i8 d0.fOld.fStatus, .slice A_6 d0.fNew.fScopes.length cap_6, .slice A_7 d0.fNew.fNodes.length cap_7, S d0.fText, .slice A_8 d0.fArgs.length cap_8, .slice A_9 d0.fChanges.length cap_9, .slice A_10 d0.fTasks.length cap_10, .int .i8 d0.fPhase, .int .i8 d0.fStatus]) f (Y30 (cs := [.int .i8 d0.fKind, .int .i64 d0.fWidth, .slice A_1 d0.fOld.fOwned.length cap_1, .slice A_2 d0.fOld.fPending.length cap_2, .slice A_3 d0.fOld.fRetained.length cap_3, .slice A_4 d0.fOld.fOuts.length cap_4, S d0.fOld.fText, .slice A_5 d0.fOld.fArgs.length cap_5, .int .i64 d0.fOld.fCalls, .int .i8 d0.fOld.fStatus, .slice A_6 d0.fNew.fScopes.length cap_6, .slice A_7 d0.fNew.fNodes.length cap_7, S d0.fText, .slice A_8 d0.fArgs.length cap_8, .slice A_9 d0.fChanges.length cap_9, .slice A_10 d0.fTasks.length cap_10, .int .i8 d0.fPhase, .int .i8 d0.fStatus]) rfl (ad := ⟨b_1, 0, none⟩) (fun j v h => p_1.cell (hc_2 j v h))) fun _ f => ?_))
 obtain ⟨x_1, hx_1, hF_1⟩ := bS hF
 refine Y16 (E := []) (H := (H)) f p_1 (forward_States_ok n _ _ d0 (TK0.shutx (x := d0) (h_1.mono hM_1) (h_2.mono hM_1) (h_3.mono hM_1) (h_4.mono hM_1) (h_5.mono hM_1) (h_6.mono hM_1) (h_7.mono hM_1) (h_8.mono hM_1) (h_9.mono hM_1) (h_10.mono hM_1)) x_1 hx_1) fun _ M_2 E_1 w_2 hM_2 p_2 q_1 _ f => ?_
 obtain ⟨A_11, cap_11, cs_1, rfl, rfl, hr_1⟩ := q_1
 refine V_allocS (k := 1) (c := 1) f p_2 (.cells #[.int .i8 3] 22 (0, 0)) (by kernel_rfl) (fun _ => by kernel_rfl) fun b_2 w_3 p_3 _ f => ?_
 have p_4 := p_3.pl [1]
 obtain ⟨M_3, A_12, cap_12, hM_3, hv_1, p_5, h_11, hb_1⟩ := p_4.lend (f := (Dat.int .i8)) (xs := x_1) (szd_int .i8) hr_1
 have f := f.st 4 (hv_1)
 have hr_2 : RepSeq M_3 ([(3 : Int)].map (Dat.int .i8)) [.int .i8 3] := ⟨_, _, rfl, rfl, rfl⟩
 have p_6 : Hp w0 M_3 ((Ent.row 22 1 (.slice (some ⟨b_2, 0, none⟩) 1 1) [(3 : Int)].length [.int .i8 3]) :: H) w_3 := p_5.objRow (n := 1) (cap := 1) (size := 1) (by decide) (by decide) (blk_eq (by decide) rfl) rfl rfl
 obtain ⟨M_4, A_13, cap_13, hM_4, hv_2, p_7, h_12, hb_2⟩ := p_6.lend (f := (Dat.int .i8)) (xs := [(3 : Int)]) (szd_int .i8) hr_2
 have f := f.st 5 (hv_2)
 obtain ⟨x_2, hx_2, hF_2⟩ := bS hF_1
 refine Y16 (E := []) (H := (H)) f p_7 (back_at_ok n _ A_12 cap_12 x_1 (h_11.mono hM_4) A_13 cap_13 [(3 : Int)] h_12 x_2 hx_2) fun _ M_5 E_2 w_4 hM_5 p_8 q_2 _ f => ?_
 obtain ⟨A_14, cap_14, cs_2, rfl, rfl, hr_3⟩ := q_2
 have hr_4 : ∀ M, RepSeq M (x_2.map (Dat.int .i64)) cs_2 := fun M => RepSeq.flat (flat_int .i64) _ hr_3
 obtain ⟨M_6, hM_6, p_9⟩ := hb_2 _ _ _ hM_5 p_8
 have f := f.st 5 (hv_2.symm)
 obtain ⟨M_7, hM_7, p_10⟩ := hb_1 _ _ _ hM_6 p_9
 have f := f.st 4 (hv_1.symm)
 have hr_5 := hr_4 M_7
 refine Y f 1 fun _ f => eT (wp_ret (E_ret1 f rfl (by kernel_rfl : Vc.look _ 2 = some (.slice A_14 x_2.length cap_14)) ?_))
 obtain rfl := sI hF_2
 exact ⟨_, rfl, M_7, _, ((hM_1.trans hM_2).trans hM_7), (p_10.dropN 2), ⟨A_14, cap_14, cs_2, rfl, rfl, hr_5⟩⟩
def back_leans_s1 (n : Nat) (d0 : TK0) (s_1 : Int × List TC0) : Option (Lp (Int × List TC0) (List TC0)) :=
    bif (decide (s_1.1 < (((d0.fChanges.take ((d0.fChanges.length : Nat) : Int).toNat).length : Nat) : Int))) then
      ((getI (d0.fChanges.take ((d0.fChanges.length : Nat) : Int).toNat) s_1.1).bind fun x_1 =>
      ((bif (decide (x_1.fKind = 4)) then
          (some (([] : List (List UInt8))))
        else
          some (x_1.fLeans) : Option (List (List UInt8)))).bind fun y_1 =>
      need ((s_1.2.length + 1) * 112 ≤ 140737488355328) <|
      need (inR .i64 (s_1.1 + 1)) <|
      some (.nx (s_1.1 + 1, s_1.2 ++ [(⟨x_1.fId, x_1.fKind, x_1.fType, x_1.fProps, (x_1.fRetain), x_1.fNode, (x_1.fOld), y_1⟩ : TC0)])))
    else
      some (.br s_1.2)
def back_leans (n : Nat) (d0 : TK0) : Option (List (List Int)) :=
  need (0 ≤ ((d0.fChanges.length : Nat) : Int) ∧ ((d0.fChanges.length : Nat) : Int) ≤ (d0.fChanges.length : Int)) <|
  (loopF (back_leans_s1 n d0) n ((0 : Int), ([] : List TC0))).bind fun y_2 =>
  (change_Leans n (⟨d0.fKind, d0.fWidth, (⟨d0.fOld.fOwned, d0.fOld.fPending, d0.fOld.fRetained, d0.fOld.fOuts, d0.fOld.fText, d0.fOld.fArgs, d0.fOld.fCalls, d0.fOld.fStatus⟩ : TF0), (⟨d0.fNew.fScopes, d0.fNew.fNodes⟩ : TL0), d0.fText, d0.fArgs, y_2, d0.fTasks, d0.fPhase, d0.fStatus⟩ : TK0) (false)).bind fun x_2 =>
  some (x_2)
set_option maxRecDepth 20000 in
theorem back_leans_ok (n : Nat) (M : Mem) (c0 : List Value) (d0 : TK0) (h0 : Rep M (emb_TK0 d0) c0) (r : List (List Int)) (hF : back_leans n d0 = some r) : Ok Tryz.prog M 37 [.agg c0.toArray] (fun M' v => ∃ (A0 : Option Addr) (k0 : Nat), v = .slice A0 r.length k0 ∧ Sli M' 1 (eL 1 (Dat.int .i64)) A0 k0 r) := by
 unfold back_leans at hF
 intro M1 hM0 w0 H w p0
 replace h0 := Rep.mono hM0 _ _ h0
 obtain ⟨A_1, cap_1, A_2, cap_2, A_3, cap_3, A_4, cap_4, A_5, cap_5, A_6, cap_6, A_7, cap_7, A_8, cap_8, A_9, cap_9, A_10, cap_10, rfl, h_1, h_2, h_3, h_4, h_5, h_6, h_7, h_8, h_9, h_10⟩ := TK0.opn h0
 refine R_enter 35 Tryz.func37 rfl rfl (by simp) fun a0 f0 => RR (Y11 f0 p0 (.cells #[.int .i8 d0.fKind, .int .i64 d0.fWidth, .slice A_1 d0.fOld.fOwned.length cap_1, .slice A_2 d0.fOld.fPending.length cap_2, .slice A_3 d0.fOld.fRetained.length cap_3, .slice A_4 d0.fOld.fOuts.length cap_4, S d0.fOld.fText, .slice A_5 d0.fOld.fArgs.length cap_5, .int .i64 d0.fOld.fCalls, .int .i8 d0.fOld.fStatus, .slice A_6 d0.fNew.fScopes.length cap_6, .slice A_7 d0.fNew.fNodes.length cap_7, S d0.fText, .slice A_8 d0.fArgs.length cap_8, .slice A_9 d0.fChanges.length cap_9, .slice A_10 d0.fTasks.length cap_10, .int .i8 d0.fPhase, .int .i8 d0.fStatus] 34 (0, 0)) fun b_1 w_1 p_1 _ f => Y f 1 fun _ f => eT (RR (Y f 1 fun _ f => Z f (Y29 (v := .slice A_9 d0.fChanges.length cap_9) rfl (ad := ⟨b_1, 14, none⟩) (p_1.ownCell 0 rfl 14)) fun _ f => Y f 1 fun _ f => Z f (Y29 (v := .slice A_9 d0.fChanges.length cap_9) rfl (ad := ⟨b_1, 14, none⟩) (p_1.ownCell 0 rfl 14)) fun _ f => Y f 2 fun _ f => Z f (Y29 (v := .slice A_9 d0.fChanges.length cap_9) rfl (ad := ⟨b_1, 14, none⟩) (p_1.ownCell 0 rfl 14)) fun _ f => ?_)))
 refine Y f 1 fun _ f => ?_
 obtain ⟨g_1, hF_1⟩ := nS hF
 have h_11 : Sli M1 8 emb_TC0 (cutA A_9 8 0 ((d0.fChanges.length : Nat) : Int).toNat) (d0.fChanges.take ((d0.fChanges.length : Nat) : Int).toNat).length (d0.fChanges.take ((d0.fChanges.length : Nat) : Int).toNat) := Sli.full (cap := cap_9) h_9 (by omega)
 have hl_1 := Sli.len (cap := cap_9) h_9
 have he_1 : ((d0.fChanges.length : Nat) : Int).toNat = (d0.fChanges.take ((d0.fChanges.length : Nat) : Int).toNat).length := by rw [List.length_take]; omega
 refine Z (v := .slice (cutA A_9 8 0 ((d0.fChanges.length : Nat) : Int).toNat) ((d0.fChanges.length : Nat) : Int).toNat ((d0.fChanges.length : Nat) : Int).toNat) f (Y32 rfl (A := A_9) (len := d0.fChanges.length) (cap := cap_9) (k := .i64) (k' := .i64) (b := ((d0.fChanges.length : Nat) : Int)) (e := 72) (sz := 8) g_1.1 (by omega)) fun _ f => ?_
 have f := Frm.set f 14 (v := .slice (cutA A_9 8 0 ((d0.fChanges.length : Nat) : Int).toNat) ((d0.fChanges.length : Nat) : Int).toNat ((d0.fChanges.length : Nat) : Int).toNat) (v' := .slice (cutA A_9 8 0 ((d0.fChanges.length : Nat) : Int).toNat) (d0.fChanges.take ((d0.fChanges.length : Nat) : Int).toNat).length (d0.fChanges.take ((d0.fChanges.length : Nat) : Int).toNat).length) (by kernel_rfl) (by rw [← he_1])
 refine Y f 1 fun _ f => eT (RR (Y f 1 fun _ f => Y25 f p_1 0 rfl rfl (b := b_1) (j := 14) (v := .slice none 0 0) rfl (by exact rfl) (by simp) (by simp) ((Ent.obj b_1 (.cells #[.int .i8 d0.fKind, .int .i64 d0.fWidth, .slice A_1 d0.fOld.fOwned.length cap_1, .slice A_2 d0.fOld.fPending.length cap_2, .slice A_3 d0.fOld.fRetained.length cap_3, .slice A_4 d0.fOld.fOuts.length cap_4, S d0.fOld.fText, .slice A_5 d0.fOld.fArgs.length cap_5, .int .i64 d0.fOld.fCalls, .int .i8 d0.fOld.fStatus, .slice A_6 d0.fNew.fScopes.length cap_6, .slice A_7 d0.fNew.fNodes.length cap_7, S d0.fText, .slice A_8 d0.fArgs.length cap_8, .slice none 0 0, .slice A_10 d0.fTasks.length cap_10, .int .i8 d0.fPhase, .int .i8 d0.fStatus] 34 (0, 0))) :: H) rfl fun w_2 p_2 _ f => eT (R_seq (RR (Y f 3 fun _ f => eT (wp_block ?_))))))
 obtain ⟨A_11, cap_11, hv_1⟩ : ∃ A cap, Value.slice none 0 0 = .slice A ([] : List TC0).length cap := ⟨none, 0, rfl⟩
 have p_3 : Hp w0 M1 ((Ent.row 72 8 (.slice A_11 ([] : List TC0).length cap_11) ([] : List TC0).length []) :: (Ent.obj b_1 (.cells #[.int .i8 d0.fKind, .int .i64 d0.fWidth, .slice A_1 d0.fOld.fOwned.length cap_1, .slice A_2 d0.fOld.fPending.length cap_2, .slice A_3 d0.fOld.fRetained.length cap_3, .slice A_4 d0.fOld.fOuts.length cap_4, S d0.fOld.fText, .slice A_5 d0.fOld.fArgs.length cap_5, .int .i64 d0.fOld.fCalls, .int .i8 d0.fOld.fStatus, .slice A_6 d0.fNew.fScopes.length cap_6, .slice A_7 d0.fNew.fNodes.length cap_7, S d0.fText, .slice A_8 d0.fArgs.length cap_8, .slice A_11 ([] : List TC0).length cap_11, .slice A_10 d0.fTasks.length cap_10, .int .i8 d0.fPhase, .int .i8 d0.fStatus] 34 (0, 0))) :: H) w_2 := by rw [← hv_1]; exact p_2.nilRow 72 8
 have hr_1 : RepSeq M1 (([] : List TC0).map emb_TC0) [] := rfl
 obtain ⟨b_2, hL_1, hF_2⟩ := bS hF_1
 refine wp_mono (Q := fun e a w => (e = .exit 0 ∧ (∃ y_2 : List TC0, b_2 = y_2 ∧ ∃ M_3 : Mem, M1.le M_3 ∧ ∃ (A_17 : Option Addr), ∃ (cap_17 : Nat), ∃ (cs_3 : List Value), RepSeq M_3 (y_2.map emb_TC0) cs_3 ∧ Frm 35 [(1, .pointer (some (⟨b_1, 0, none⟩)))] a ∧ Hp w0 M_3 ((Ent.row 72 8 (.slice A_17 y_2.length cap_17) y_2.length cs_3) :: (Ent.obj b_1 (.cells #[.int .i8 d0.fKind, .int .i64 d0.fWidth, .slice A_1 d0.fOld.fOwned.length cap_1, .slice A_2 d0.fOld.fPending.length cap_2, .slice A_3 d0.fOld.fRetained.length cap_3, .slice A_4 d0.fOld.fOuts.length cap_4, S d0.fOld.fText, .slice A_5 d0.fOld.fArgs.length cap_5, .int .i64 d0.fOld.fCalls, .int .i8 d0.fOld.fStatus, .slice A_6 d0.fNew.fScopes.length cap_6, .slice A_7 d0.fNew.fNodes.length cap_7, S d0.fText, .slice A_8 d0.fArgs.length cap_8, .slice A_17 y_2.length cap_17, .slice A_10 d0.fTasks.length cap_10, .int .i8 d0.fPhase, .int .i8 d0.fStatus] 34 (0, 0))) :: H) w))) (R_loop (n := 35) (w0 := w0) (M := M1) (fun (x : Nat × (Int × List TC0) × (Option Addr) × Nat × (List Value)) => match x with | (m_1, s_1, A_12, cap_12, cs_1) => [(1, .pointer (some (⟨b_1, 0, none⟩))), (16, .slice (cutA A_9 8 0 ((d0.fChanges.length : Nat) : Int).toNat) (d0.fChanges.take ((d0.fChanges.length : Nat) : Int).toNat).length (d0.fChanges.take ((d0.fChanges.length : Nat) : Int).toNat).length), (17, .int .i64 (((d0.fChanges.take ((d0.fChanges.length : Nat) : Int).toNat).length : Nat) : Int)), (18, .int .i64 s_1.1)]) (fun (x : Nat × (Int × List TC0) × (Option Addr) × Nat × (List Value)) => match x with | (m_1, s_1, A_12, cap_12, cs_1) => ((Ent.row 72 8 (.slice A_12 s_1.2.length cap_12) s_1.2.length cs_1) :: (Ent.obj b_1 (.cells #[.int .i8 d0.fKind, .int .i64 d0.fWidth, .slice A_1 d0.fOld.fOwned.length cap_1, .slice A_2 d0.fOld.fPending.length cap_2, .slice A_3 d0.fOld.fRetained.length cap_3, .slice A_4 d0.fOld.fOuts.length cap_4, S d0.fOld.fText, .slice A_5 d0.fOld.fArgs.length cap_5, .int .i64 d0.fOld.fCalls, .int .i8 d0.fOld.fStatus, .slice A_6 d0.fNew.fScopes.length cap_6, .slice A_7 d0.fNew.fNodes.length cap_7, S d0.fText, .slice A_8 d0.fArgs.length cap_8, .slice A_12 s_1.2.length cap_12, .slice A_10 d0.fTasks.length cap_10, .int .i8 d0.fPhase, .int .i8 d0.fStatus] 34 (0, 0))) :: H)) (fun (x : Nat × (Int × List TC0) × (Option Addr) × Nat × (List Value)) (MM : Mem) => match x with | (m_1, s_1, A_12, cap_12, cs_1) => loopF (back_leans_s1 n d0) m_1 s_1 = some b_2 ∧ RepSeq MM (s_1.2.map emb_TC0) cs_1) (fun (x : Nat × (Int × List TC0) × (Option Addr) × Nat × (List Value)) => match x with | (m_1, s_1, A_12, cap_12, cs_1) => m_1) (n, ((0 : Int), ([] : List TC0)), A_11, cap_11, []) (f.kp) p_3 ⟨hL_1, hr_1⟩ ?_) ?_
 ·rintro ⟨m_1, s_1, A_12, cap_12, cs_1⟩ M_1 _ w_3 hM_1 I_1 f p_4
  obtain ⟨I_1L, hr_2⟩ := I_1
  obtain ⟨m_2, r_1, rfl, hs_1, hn_1⟩ := loop_step I_1L
  unfold back_leans_s1 at hs_1
  refine RR (Y f 1 fun _ f => eT (R_seq (RcF f hs_1 (fun h_12 hF_3 => ?_) fun h_12 hF_10 => ?_)))
  ·have k_1 := dI.1 h_12
   refine wp_skip (T_n (R_seq (wp_block (RR ?_))))
   obtain ⟨x_1, hx_1, hF_4⟩ := bS hF_3
   obtain ⟨ad_1, c_1, e_1, -, hr_3, hc_1⟩ := Sli.at_ (h_11.mono hM_1) hx_1
   obtain ⟨A_13, cap_13, A_14, cap_14, rfl, h_13, h_14⟩ := TC0.opn hr_3
   refine Z f (Y28 e_1 rfl (len := (d0.fChanges.take ((d0.fChanges.length : Nat) : Int).toNat).length) (cap := (d0.fChanges.take ((d0.fChanges.length : Nat) : Int).toNat).length) (k := .i64) (i := s_1.1) (e := 72) (sz := 8) (getI_nn hx_1) (getI_lt hx_1)) fun _ f => Z (v := .agg #[S x_1.fId, .int .i8 x_1.fKind, S x_1.fType, .slice A_13 x_1.fProps.length cap_13, .bool x_1.fRetain, .int .i64 x_1.fNode, .bool x_1.fOld, .slice A_14 x_1.fLeans.length cap_14]) f (Y30 (cs := [S x_1.fId, .int .i8 x_1.fKind, S x_1.fType, .slice A_13 x_1.fProps.length cap_13, .bool x_1.fRetain, .int .i64 x_1.fNode, .bool x_1.fOld, .slice A_14 x_1.fLeans.length cap_14]) rfl (ad := ad_1.add (s_1.1.toNat * 8)) (fun j v h => p_4.cell (hc_1 j v h))) fun _ f => Y11 f p_4 (.cells #[S [], .int .i8 0, S [], .slice none 0 0, .bool false, .int .i64 0, .bool false, .slice none 0 0] 72 (0, 0)) fun b_3 w_4 p_5 _ f => Y26 (vs := [S x_1.fId, .int .i8 x_1.fKind, S x_1.fType, .slice A_13 x_1.fProps.length cap_13, .bool x_1.fRetain, .int .i64 x_1.fNode, .bool x_1.fOld, .slice A_14 x_1.fLeans.length cap_14]) (j := 0) f p_5 rfl rfl (by simp [Value.oneCell', S]) (by simp) (by decide) (cs' := #[S x_1.fId, .int .i8 x_1.fKind, S x_1.fType, .slice A_13 x_1.fProps.length cap_13, .bool x_1.fRetain, .int .i64 x_1.fNode, .bool x_1.fOld, .slice A_14 x_1.fLeans.length cap_14]) fun w_5 p_6 _ f => eT (R_seq (RR (Y f 1 fun _ f => Z f (Y29 (v := .int .i8 x_1.fKind) rfl (ad := ⟨b_3, 1, none⟩) (p_6.ownCell 0 rfl 1)) fun _ f => Y f 1 fun _ f => eT ?_)))
   obtain ⟨j_1, hj_1, hF_5⟩ := bS hF_4
   refine R_mid (fun a_26 w_7 => ∃ y_1 : List (List UInt8), j_1 = y_1 ∧ ∃ M_2 : Mem, M_1.le M_2 ∧ ∃ (A_15 : Option Addr), ∃ (cap_15 : Nat), Sli M_2 1 Dat.str A_15 cap_15 y_1 ∧ Frm 35 [(1, .pointer (some (⟨b_1, 0, none⟩))), (5, .pointer (some (⟨b_3, 0, none⟩))), (16, .slice (cutA A_9 8 0 ((d0.fChanges.length : Nat) : Int).toNat) (d0.fChanges.take ((d0.fChanges.length : Nat) : Int).toNat).length (d0.fChanges.take ((d0.fChanges.length : Nat) : Int).toNat).length), (17, .int .i64 (((d0.fChanges.take ((d0.fChanges.length : Nat) : Int).toNat).length : Nat) : Int)), (18, .int .i64 s_1.1)] a_26 ∧ Hp w0 M_2 ((Ent.obj b_3 (.cells #[S x_1.fId, .int .i8 x_1.fKind, S x_1.fType, .slice A_13 x_1.fProps.length cap_13, .bool x_1.fRetain, .int .i64 x_1.fNode, .bool x_1.fOld, .slice A_15 y_1.length cap_15] 72 (0, 0))) :: (Ent.row 72 8 (.slice A_12 s_1.2.length cap_12) s_1.2.length cs_1) :: (Ent.obj b_1 (.cells #[.int .i8 d0.fKind, .int .i64 d0.fWidth, .slice A_1 d0.fOld.fOwned.length cap_1, .slice A_2 d0.fOld.fPending.length cap_2, .slice A_3 d0.fOld.fRetained.length cap_3, .slice A_4 d0.fOld.fOuts.length cap_4, S d0.fOld.fText, .slice A_5 d0.fOld.fArgs.length cap_5, .int .i64 d0.fOld.fCalls, .int .i8 d0.fOld.fStatus, .slice A_6 d0.fNew.fScopes.length cap_6, .slice A_7 d0.fNew.fNodes.length cap_7, S d0.fText, .slice A_8 d0.fArgs.length cap_8, .slice A_12 s_1.2.length cap_12, .slice A_10 d0.fTasks.length cap_10, .int .i8 d0.fPhase, .int .i8 d0.fStatus] 34 (0, 0))) :: H) w_7) ?_ ?_
   ·refine RcF f hj_1 (fun h_15 hF_6 => ?_) fun h_15 hF_7 => ?_
    ·have k_2 := dI.1 h_15
     refine R_reg (Y f 1 fun _ f => Y25 f p_6 0 rfl rfl (b := b_3) (j := 7) (v := .slice none 0 0) rfl (by exact rfl) (by simp) (by simp) ((Ent.obj b_3 (.cells #[S x_1.fId, .int .i8 x_1.fKind, S x_1.fType, .slice A_13 x_1.fProps.length cap_13, .bool x_1.fRetain, .int .i64 x_1.fNode, .bool x_1.fOld, .slice none 0 0] 72 (0, 0))) :: (Ent.row 72 8 (.slice A_12 s_1.2.length cap_12) s_1.2.length cs_1) :: (Ent.obj b_1 (.cells #[.int .i8 d0.fKind, .int .i64 d0.fWidth, .slice A_1 d0.fOld.fOwned.length cap_1, .slice A_2 d0.fOld.fPending.length cap_2, .slice A_3 d0.fOld.fRetained.length cap_3, .slice A_4 d0.fOld.fOuts.length cap_4, S d0.fOld.fText, .slice A_5 d0.fOld.fArgs.length cap_5, .int .i64 d0.fOld.fCalls, .int .i8 d0.fOld.fStatus, .slice A_6 d0.fNew.fScopes.length cap_6, .slice A_7 d0.fNew.fNodes.length cap_7, S d0.fText, .slice A_8 d0.fArgs.length cap_8, .slice A_12 s_1.2.length cap_12, .slice A_10 d0.fTasks.length cap_10, .int .i8 d0.fPhase, .int .i8 d0.fStatus] 34 (0, 0))) :: H) rfl fun w_6 p_7 _ f => eT ?_)
     exact ⟨([] : List (List UInt8)), (sI hF_6).symm, M_1, (mR _), none, 0, Sli.nil, f.kp, p_7⟩
    ·have k_3 := iff_f dI h_15
     refine wp_skip (T_n ?_)
     exact ⟨x_1.fLeans, (sI hF_7).symm, M_1, (mR _), A_14, cap_14, h_14, f.kp, p_6⟩
   ·rintro a_26 w_7 ⟨y_1, hq_1, M_2, hM_2, A_15, cap_15, h_16, f, p_8⟩
    subst j_1
    refine T_n (R_reg (Y f 1 fun _ f => Z f (Y29 (v := .slice A_12 s_1.2.length cap_12) rfl (ad := ⟨b_1, 14, none⟩) (p_8.ownCell 2 rfl 14)) fun _ f => Z (v := .agg #[S x_1.fId, .int .i8 x_1.fKind, S x_1.fType, .slice A_13 x_1.fProps.length cap_13, .bool x_1.fRetain, .int .i64 x_1.fNode, .bool x_1.fOld, .slice A_15 y_1.length cap_15]) f (Y30 (cs := [S x_1.fId, .int .i8 x_1.fKind, S x_1.fType, .slice A_13 x_1.fProps.length cap_13, .bool x_1.fRetain, .int .i64 x_1.fNode, .bool x_1.fOld, .slice A_15 y_1.length cap_15]) rfl (ad := ⟨b_3, 0, none⟩) (own_cells (p_8.ownCell 0 rfl) 0 rfl)) fun _ f => V_allocS (k := 1) (c := 1) f p_8 (.cells #[S x_1.fId, .int .i8 x_1.fKind, S x_1.fType, .slice A_13 x_1.fProps.length cap_13, .bool x_1.fRetain, .int .i64 x_1.fNode, .bool x_1.fOld, .slice A_15 y_1.length cap_15] 72 (0, 0)) (by kernel_rfl) (fun _ => by kernel_rfl) fun b_4 w_8 p_9 _ f => ?_))
    have p_10 := p_9.pl [2]
    obtain ⟨g_2, hF_8⟩ := nS hF_5
    refine Y20 (z := .agg #[S [], .int .i8 0, S [], .slice none 0 0, .bool false, .int .i64 0, .bool false, .slice none 0 0]) (f := emb_TC0) (xs := s_1.2) (ys := [(⟨x_1.fId, x_1.fKind, x_1.fType, x_1.fProps, (x_1.fRetain), x_1.fNode, (x_1.fOld), y_1⟩ : TC0)]) (news := [S x_1.fId, .int .i8 x_1.fKind, S x_1.fType, .slice A_13 x_1.fProps.length cap_13, .bool x_1.fRetain, .int .i64 x_1.fNode, .bool x_1.fOld, .slice A_15 y_1.length cap_15]) (ad := ⟨b_4, 0, none⟩) (m := 1) (c := 1) f p_10 (RepSeq.mono hM_2 _ _ hr_2) (by exact ⟨_, _, rfl, TC0.shut (h_13.mono hM_2) h_16, rfl⟩) rfl rfl rfl rfl (own_cells (p_10.ownCell 1 rfl) 0 rfl) (by exact g_2) (by have hg_ := g_2; first | omega | (simp only [List.length_cons, List.length_nil] at *; omega)) fun A_16 cap_16 cs_2 w_9 p_11 hr_4 _ f => ?_
    have p_12 := p_11.pl [1]
    have p_13 := p_12.drop
    refine Y f 1 fun _ f => Y25 f p_13 2 rfl rfl (b := b_1) (j := 14) (v := .slice A_16 (s_1.2 ++ [(⟨x_1.fId, x_1.fKind, x_1.fType, x_1.fProps, (x_1.fRetain), x_1.fNode, (x_1.fOld), y_1⟩ : TC0)]).length cap_16) rfl (by exact rfl) (by simp) (by simp) ((Ent.row 72 8 (.slice A_16 (s_1.2 ++ [(⟨x_1.fId, x_1.fKind, x_1.fType, x_1.fProps, (x_1.fRetain), x_1.fNode, (x_1.fOld), y_1⟩ : TC0)]).length cap_16) (s_1.2 ++ [(⟨x_1.fId, x_1.fKind, x_1.fType, x_1.fProps, (x_1.fRetain), x_1.fNode, (x_1.fOld), y_1⟩ : TC0)]).length cs_2) :: (Ent.obj b_3 (.cells #[S x_1.fId, .int .i8 x_1.fKind, S x_1.fType, .slice A_13 x_1.fProps.length cap_13, .bool x_1.fRetain, .int .i64 x_1.fNode, .bool x_1.fOld, .slice A_15 y_1.length cap_15] 72 (0, 0))) :: (Ent.obj b_1 (.cells #[.int .i8 d0.fKind, .int .i64 d0.fWidth, .slice A_1 d0.fOld.fOwned.length cap_1, .slice A_2 d0.fOld.fPending.length cap_2, .slice A_3 d0.fOld.fRetained.length cap_3, .slice A_4 d0.fOld.fOuts.length cap_4, S d0.fOld.fText, .slice A_5 d0.fOld.fArgs.length cap_5, .int .i64 d0.fOld.fCalls, .int .i8 d0.fOld.fStatus, .slice A_6 d0.fNew.fScopes.length cap_6, .slice A_7 d0.fNew.fNodes.length cap_7, S d0.fText, .slice A_8 d0.fArgs.length cap_8, .slice A_16 (s_1.2 ++ [(⟨x_1.fId, x_1.fKind, x_1.fType, x_1.fProps, (x_1.fRetain), x_1.fNode, (x_1.fOld), y_1⟩ : TC0)]).length cap_16, .slice A_10 d0.fTasks.length cap_10, .int .i8 d0.fPhase, .int .i8 d0.fStatus] 34 (0, 0))) :: H) rfl fun w_10 p_14 _ f => W_end rfl (B_n (T_n (R_reg ?_)))
    obtain ⟨g_3, hF_9⟩ := nS hF_8
    refine Y f 1 fun _ f => ?_
    have f := f.st 32 (congrArg (Value.int .i64) (inR_wrap g_3))
    refine Y f 1 fun _ f => W_end rfl ?_
    have p_18 := p_14.pl [2, 1, 2]
    refine T_n ?_
    obtain rfl := sI hF_9
    exact ⟨⟨m_2, (s_1.1 + 1, s_1.2 ++ [(⟨x_1.fId, x_1.fKind, x_1.fType, x_1.fProps, (x_1.fRetain), x_1.fNode, (x_1.fOld), y_1⟩ : TC0)]), A_16, cap_16, cs_2⟩, Nat.lt_succ_self _, M_2, (hM_1.trans hM_2), ⟨hn_1, hr_4⟩, f.kp, (p_18.dropN 1)⟩
  ·have k_4 := iff_f dI h_12
   refine wp_exit (T_x (T_x ?_))
   obtain rfl := sI hF_10
   exact ⟨rfl, s_1.2, (sI hn_1).symm, M_1, hM_1, A_12, cap_12, cs_1, hr_2, f.kp, p_4⟩
 ·rintro _ _ w_12 ⟨rfl, y_2, hq_, M_3, hM_3, A_17, cap_17, cs_3, hr_5, f, p_15⟩
  subst b_2
  refine B_x (T_n (RR (Z (v := .agg #[.int .i8 d0.fKind, .int .i64 d0.fWidth, .slice A_1 d0.fOld.fOwned.length cap_1, .slice A_2 d0.fOld.fPending.length cap_2, .slice A_3 d0.fOld.fRetained.length cap_3, .slice A_4 d0.fOld.fOuts.length cap_4, S d0.fOld.fText, .slice A_5 d0.fOld.fArgs.length cap_5, .int .i64 d0.fOld.fCalls, .int .i8 d0.fOld.fStatus, .slice A_6 d0.fNew.fScopes.length cap_6, .slice A_7 d0.fNew.fNodes.length cap_7, S d0.fText, .slice A_8 d0.fArgs.length cap_8, .slice A_17 y_2.length cap_17, .slice A_10 d0.fTasks.length cap_10, .int .i8 d0.fPhase, .int .i8 d0.fStatus]) f (Y30 (cs := [.int .i8 d0.fKind, .int .i64 d0.fWidth, .slice A_1 d0.fOld.fOwned.length cap_1, .slice A_2 d0.fOld.fPending.length cap_2, .slice A_3 d0.fOld.fRetained.length cap_3, .slice A_4 d0.fOld.fOuts.length cap_4, S d0.fOld.fText, .slice A_5 d0.fOld.fArgs.length cap_5, .int .i64 d0.fOld.fCalls, .int .i8 d0.fOld.fStatus, .slice A_6 d0.fNew.fScopes.length cap_6, .slice A_7 d0.fNew.fNodes.length cap_7, S d0.fText, .slice A_8 d0.fArgs.length cap_8, .slice A_17 y_2.length cap_17, .slice A_10 d0.fTasks.length cap_10, .int .i8 d0.fPhase, .int .i8 d0.fStatus]) rfl (ad := ⟨b_1, 0, none⟩) (own_cells (p_15.ownCell 1 rfl) 0 rfl)) fun _ f => ?_)))
  obtain ⟨A_18, cap_18, M_4, hv_2, hM_4, p_19, h_17⟩ := p_15.rowSli (f := emb_TC0) (xs := y_2) szd_TC0 hr_5
  have f := Frm.set f 33 (v := .agg #[.int .i8 d0.fKind, .int .i64 d0.fWidth, .slice A_1 d0.fOld.fOwned.length cap_1, .slice A_2 d0.fOld.fPending.length cap_2, .slice A_3 d0.fOld.fRetained.length cap_3, .slice A_4 d0.fOld.fOuts.length cap_4, S d0.fOld.fText, .slice A_5 d0.fOld.fArgs.length cap_5, .int .i64 d0.fOld.fCalls, .int .i8 d0.fOld.fStatus, .slice A_6 d0.fNew.fScopes.length cap_6, .slice A_7 d0.fNew.fNodes.length cap_7, S d0.fText, .slice A_8 d0.fArgs.length cap_8, .slice A_17 y_2.length cap_17, .slice A_10 d0.fTasks.length cap_10, .int .i8 d0.fPhase, .int .i8 d0.fStatus]) (v' := .agg #[.int .i8 d0.fKind, .int .i64 d0.fWidth, .slice A_1 d0.fOld.fOwned.length cap_1, .slice A_2 d0.fOld.fPending.length cap_2, .slice A_3 d0.fOld.fRetained.length cap_3, .slice A_4 d0.fOld.fOuts.length cap_4, S d0.fOld.fText, .slice A_5 d0.fOld.fArgs.length cap_5, .int .i64 d0.fOld.fCalls, .int .i8 d0.fOld.fStatus, .slice A_6 d0.fNew.fScopes.length cap_6, .slice A_7 d0.fNew.fNodes.length cap_7, S d0.fText, .slice A_8 d0.fArgs.length cap_8, .slice A_18 y_2.length cap_18, .slice A_10 d0.fTasks.length cap_10, .int .i8 d0.fPhase, .int .i8 d0.fStatus]) (by kernel_rfl) (by rw [hv_2])
  have p_20 : Hp w0 M_4 ((Ent.obj b_1 (.cells #[.int .i8 d0.fKind, .int .i64 d0.fWidth, .slice A_1 d0.fOld.fOwned.length cap_1, .slice A_2 d0.fOld.fPending.length cap_2, .slice A_3 d0.fOld.fRetained.length cap_3, .slice A_4 d0.fOld.fOuts.length cap_4, S d0.fOld.fText, .slice A_5 d0.fOld.fArgs.length cap_5, .int .i64 d0.fOld.fCalls, .int .i8 d0.fOld.fStatus, .slice A_6 d0.fNew.fScopes.length cap_6, .slice A_7 d0.fNew.fNodes.length cap_7, S d0.fText, .slice A_8 d0.fArgs.length cap_8, .slice A_18 y_2.length cap_18, .slice A_10 d0.fTasks.length cap_10, .int .i8 d0.fPhase, .int .i8 d0.fStatus] 34 (0, 0))) :: H) w_12 := by rw [hv_2] at p_19; exact p_19
  obtain ⟨x_2, hx_2, hF_11⟩ := bS hF_2
  refine Y15 f p_20 (change_Leans_ok n _ _ (⟨d0.fKind, d0.fWidth, (⟨d0.fOld.fOwned, d0.fOld.fPending, d0.fOld.fRetained, d0.fOld.fOuts, d0.fOld.fText, d0.fOld.fArgs, d0.fOld.fCalls, d0.fOld.fStatus⟩ : TF0), (⟨d0.fNew.fScopes, d0.fNew.fNodes⟩ : TL0), d0.fText, d0.fArgs, y_2, d0.fTasks, d0.fPhase, d0.fStatus⟩ : TK0) (TK0.shut (h_1.mono (hM_3.trans hM_4)) (h_2.mono (hM_3.trans hM_4)) (h_3.mono (hM_3.trans hM_4)) (h_4.mono (hM_3.trans hM_4)) (h_5.mono (hM_3.trans hM_4)) (h_6.mono (hM_3.trans hM_4)) (h_7.mono (hM_3.trans hM_4)) (h_8.mono (hM_3.trans hM_4)) h_17 (h_10.mono (hM_3.trans hM_4))) (false) x_2 hx_2) fun _ M_5 w_13 hM_5 p_21 q_1 _ f => ?_
  obtain ⟨A_19, cap_19, rfl, h_18⟩ := q_1
  refine Y f 1 fun _ f => eT (wp_ret (E_ret1 f rfl (by kernel_rfl : Vc.look _ 2 = some (.slice A_19 x_2.length cap_19)) ?_))
  obtain rfl := sI hF_11
  exact ⟨_, rfl, M_5, ((hM_3.trans hM_4).trans hM_5), (p_21.dropN 1), ⟨A_19, cap_19, rfl, h_18⟩⟩
def ref22_Live_s1 (n : Nat) (d0 : TF0) (s_1 : List (List UInt8) × Int) : Option (Lp (List (List UInt8) × Int) (List (List UInt8))) :=
    bif (decide (s_1.2 < ((d0.fOwned.length : Nat) : Int))) then
      ((getI d0.fOwned s_1.2).bind fun x_1 =>
      need ((s_1.1.length + 1) * 16 ≤ 140737488355328) <|
      need (inR .i64 (s_1.2 + 1)) <|
      some (.nx (s_1.1 ++ [x_1.fPhys], s_1.2 + 1)))
    else
      some (.br s_1.1)
def ref22_Live_s2 (n : Nat) (d0 : TF0) (s_2 : List (List UInt8) × Int) : Option (Lp (List (List UInt8) × Int) (List (List UInt8))) :=
    bif (decide (s_2.2 < ((d0.fPending.length : Nat) : Int))) then
      ((getI d0.fPending s_2.2).bind fun x_2 =>
      need ((s_2.1.length + 1) * 16 ≤ 140737488355328) <|
      need (inR .i64 (s_2.2 + 1)) <|
      some (.nx (s_2.1 ++ [x_2.fPhys], s_2.2 + 1)))
    else
      some (.br s_2.1)
def ref22_Live_s3 (n : Nat) (d0 : TF0) (s_3 : List (List UInt8) × Int) : Option (Lp (List (List UInt8) × Int) (List (List UInt8))) :=
    bif (decide (s_3.2 < ((d0.fRetained.length : Nat) : Int))) then
      ((getI d0.fRetained s_3.2).bind fun x_3 =>
      need ((s_3.1.length + 1) * 16 ≤ 140737488355328) <|
      need (inR .i64 (s_3.2 + 1)) <|
      some (.nx (s_3.1 ++ [x_3.fPhys], s_3.2 + 1)))
    else
      some (.br s_3.1)
def ref22_Live (n : Nat) (d0 : TF0) : Option (List (List UInt8)) :=
  (loopF (ref22_Live_s1 n d0) n (([] : List (List UInt8)), (0 : Int))).bind fun y_1 =>
  (loopF (ref22_Live_s2 n d0) n (y_1, (0 : Int))).bind fun y_2 =>
  (loopF (ref22_Live_s3 n d0) n (y_2, (0 : Int))).bind fun y_3 =>
  some (y_3)
set_option maxRecDepth 20000 in
theorem ref22_Live_ok (n : Nat) (M : Mem) (c0 : List Value) (d0 : TF0) (h0 : Rep M (emb_TF0 d0) c0) (r : List (List UInt8)) (hF : ref22_Live n d0 = some r) : OkH Tryz.prog M [] 61 [.agg c0.toArray] (fun M' E' v => ∃ (A0 : Option Addr) (k0 : Nat) (s0 : List Value), v = .slice A0 r.length k0 ∧ E' = [.row 9 1 (.slice A0 r.length k0) r.length s0] ∧ RepSeq M' (r.map Dat.str) s0) := by
 unfold ref22_Live at hF
 intro M1 hM0 w0 H w p0
 replace h0 := Rep.mono hM0 _ _ h0
 obtain ⟨A_1, cap_1, A_2, cap_2, A_3, cap_3, A_4, cap_4, A_5, cap_5, rfl, h_1, h_2, h_3, h_4, h_5⟩ := TF0.opn h0
 refine R_enter 56 Tryz.func61 rfl rfl (by simp) fun a0 f0 => RR (Y12 (cs := #[.slice A_1 d0.fOwned.length cap_1, .slice A_2 d0.fPending.length cap_2, .slice A_3 d0.fRetained.length cap_3, .slice A_4 d0.fOuts.length cap_4, S d0.fText, .slice A_5 d0.fArgs.length cap_5, .int .i64 d0.fCalls, .int .i8 d0.fStatus]) (T := 26) f0 p0 fun b_1 M_1 w_1 hM_1 hc_1 p_1 _ f => ?_)
 have hc_2 := fz_box hc_1
 refine Y f 1 fun _ f => eT (RR (Y f 1 fun _ f => eT (R_seq (RR (Y f 1 fun _ f => eT (wp_block ?_))))))
 obtain ⟨A_6, cap_6, hv_1⟩ : ∃ A cap, Value.slice none 0 0 = .slice A ([] : List (List UInt8)).length cap := ⟨none, 0, rfl⟩
 have p_2 : Hp w0 M_1 ((Ent.row 9 1 (.slice A_6 ([] : List (List UInt8)).length cap_6) ([] : List (List UInt8)).length []) :: H) w_1 := by rw [← hv_1]; exact p_1.nilRow 9 1
 have f := f.st 3 (hv_1)
 have hr_1 : RepSeq M_1 (([] : List (List UInt8)).map Dat.str) [] := rfl
 obtain ⟨b_2, hL_1, hF_1⟩ := bS hF
 refine wp_mono (Q := fun e a w => (e = .exit 0 ∧ (∃ y_1 : List (List UInt8), b_2 = y_1 ∧ ∃ M_3 : Mem, M_1.le M_3 ∧ ∃ (A_11 : Option Addr), ∃ (cap_11 : Nat), ∃ (cs_3 : List Value), RepSeq M_3 (y_1.map Dat.str) cs_3 ∧ Frm 56 [(1, .pointer (some (⟨b_1, 0, none⟩))), (3, .slice A_11 y_1.length cap_11)] a ∧ Hp w0 M_3 ((Ent.row 9 1 (.slice A_11 y_1.length cap_11) y_1.length cs_3) :: H) w))) (R_loop (n := 56) (w0 := w0) (M := M_1) (fun (x : Nat × (List (List UInt8) × Int) × (Option Addr) × Nat × (List Value)) => match x with | (m_1, s_1, A_7, cap_7, cs_1) => [(1, .pointer (some (⟨b_1, 0, none⟩))), (3, .slice A_7 s_1.1.length cap_7), (4, .int .i64 s_1.2)]) (fun (x : Nat × (List (List UInt8) × Int) × (Option Addr) × Nat × (List Value)) => match x with | (m_1, s_1, A_7, cap_7, cs_1) => ((Ent.row 9 1 (.slice A_7 s_1.1.length cap_7) s_1.1.length cs_1) :: H)) (fun (x : Nat × (List (List UInt8) × Int) × (Option Addr) × Nat × (List Value)) (MM : Mem) => match x with | (m_1, s_1, A_7, cap_7, cs_1) => loopF (ref22_Live_s1 n d0) m_1 s_1 = some b_2 ∧ RepSeq MM (s_1.1.map Dat.str) cs_1) (fun (x : Nat × (List (List UInt8) × Int) × (Option Addr) × Nat × (List Value)) => match x with | (m_1, s_1, A_7, cap_7, cs_1) => m_1) (n, (([] : List (List UInt8)), (0 : Int)), A_6, cap_6, []) (f.kp) p_2 ⟨hL_1, hr_1⟩ ?_) ?_
 ·rintro ⟨m_1, s_1, A_7, cap_7, cs_1⟩ M_2 _ w_2 hM_2 I_1 f p_3
  obtain ⟨I_1L, hr_2⟩ := I_1
  obtain ⟨m_2, r_1, rfl, hs_1, hn_1⟩ := loop_step I_1L
  unfold ref22_Live_s1 at hs_1
  refine R_seq (RR (Y f 2 fun _ f => Y14 f p_3 (fzu hM_2 hc_2) 0 rfl fun _ f => Y f 2 fun _ f => eT (RcF f hs_1 (fun h_6 hF_2 => ?_) fun h_6 hF_6 => ?_)))
  ·have k_1 := dI.1 h_6
   refine wp_skip (T_n (R_seq (wp_block (R_reg (Y f 2 fun _ f => Y14 f p_3 (fzu hM_2 hc_2) 0 rfl fun _ f => Y f 1 fun _ f => ?_)))))
   obtain ⟨x_1, hx_1, hF_3⟩ := bS hF_2
   obtain ⟨ad_1, c_1, e_1, -, hr_3, hc_3⟩ := Sli.at_ (h_1.mono (hM_1.trans hM_2)) hx_1
   obtain ⟨A_8, cap_8, A_9, cap_9, rfl, h_7, h_8⟩ := TS0.opn hr_3
   refine Z f (Y28 e_1 rfl (len := d0.fOwned.length) (cap := cap_1) (k := .i64) (i := s_1.2) (e := 68) (sz := 6) (getI_nn hx_1) (getI_lt hx_1)) fun _ f => Y f 1 fun _ f => Y14 f p_3 hc_3 2 rfl fun _ f => V_allocS (k := 1) (c := 1) f p_3 (.cells #[S x_1.fPhys] 9 (0, 0)) (by kernel_rfl) (fun _ => by kernel_rfl) fun b_3 w_3 p_4 _ f => ?_
   have p_5 := p_4.pl [1]
   obtain ⟨g_1, hF_4⟩ := nS hF_3
   refine Y20 (z := S []) (f := Dat.str) (xs := s_1.1) (ys := [x_1.fPhys]) (news := [S x_1.fPhys]) (ad := ⟨b_3, 0, none⟩) (m := 1) (c := 1) f p_5 hr_2 (by exact ⟨_, _, rfl, rfl, rfl⟩) rfl rfl rfl rfl (own_cells (p_5.ownCell 1 rfl) 0 rfl) (by exact g_1) (by have hg_ := g_1; first | omega | (simp only [List.length_cons, List.length_nil] at *; omega)) fun A_10 cap_10 cs_2 w_4 p_6 hr_4 _ f => ?_
   have p_7 := p_6.pl [1]
   have p_8 := p_7.drop
   refine Y f 1 fun _ f => W_end rfl (B_n (T_n (R_reg (Y f 1 fun _ f => ?_))))
   obtain ⟨g_2, hF_5⟩ := nS hF_4
   refine Y f 1 fun _ f => ?_
   have f := f.st 13 (congrArg (Value.int .i64) (inR_wrap g_2))
   refine Y f 1 fun _ f => eT ?_
   obtain rfl := sI hF_5
   exact ⟨⟨m_2, (s_1.1 ++ [x_1.fPhys], s_1.2 + 1), A_10, cap_10, cs_2⟩, Nat.lt_succ_self _, M_2, hM_2, ⟨hn_1, hr_4⟩, f.kp, p_8⟩
  ·have k_2 := iff_f dI h_6
   refine wp_exit (T_x (T_x ?_))
   obtain rfl := sI hF_6
   exact ⟨rfl, s_1.1, (sI hn_1).symm, M_2, hM_2, A_7, cap_7, cs_1, hr_2, f.kp, p_3⟩
 ·rintro _ _ w_6 ⟨rfl, y_1, hq_, M_3, hM_3, A_11, cap_11, cs_3, hr_5, f, p_9⟩
  subst b_2
  refine B_x (T_n (R_seq (RR (Y f 1 fun _ f => eT (wp_block ?_)))))
  obtain ⟨b_4, hL_2, hF_7⟩ := bS hF_1
  refine wp_mono (Q := fun e a w => (e = .exit 2 ∧ (∃ y_2 : List (List UInt8), b_4 = y_2 ∧ ∃ M_5 : Mem, M_3.le M_5 ∧ ∃ (A_16 : Option Addr), ∃ (cap_16 : Nat), ∃ (cs_6 : List Value), RepSeq M_5 (y_2.map Dat.str) cs_6 ∧ Frm 56 [(1, .pointer (some (⟨b_1, 0, none⟩))), (3, .slice A_16 y_2.length cap_16)] a ∧ Hp w0 M_5 ((Ent.row 9 1 (.slice A_16 y_2.length cap_16) y_2.length cs_6) :: H) w))) (R_loop (n := 56) (w0 := w0) (M := M_3) (fun (x : Nat × (List (List UInt8) × Int) × (Option Addr) × Nat × (List Value)) => match x with | (m_3, s_2, A_12, cap_12, cs_4) => [(1, .pointer (some (⟨b_1, 0, none⟩))), (3, .slice A_12 s_2.1.length cap_12), (5, .int .i64 s_2.2)]) (fun (x : Nat × (List (List UInt8) × Int) × (Option Addr) × Nat × (List Value)) => match x with | (m_3, s_2, A_12, cap_12, cs_4) => ((Ent.row 9 1 (.slice A_12 s_2.1.length cap_12) s_2.1.length cs_4) :: H)) (fun (x : Nat × (List (List UInt8) × Int) × (Option Addr) × Nat × (List Value)) (MM : Mem) => match x with | (m_3, s_2, A_12, cap_12, cs_4) => loopF (ref22_Live_s2 n d0) m_3 s_2 = some b_4 ∧ RepSeq MM (s_2.1.map Dat.str) cs_4) (fun (x : Nat × (List (List UInt8) × Int) × (Option Addr) × Nat × (List Value)) => match x with | (m_3, s_2, A_12, cap_12, cs_4) => m_3) (n, (y_1, (0 : Int)), A_11, cap_11, cs_3) (f.kp) p_9 ⟨hL_2, hr_5⟩ ?_) ?_
  ·rintro ⟨m_3, s_2, A_12, cap_12, cs_4⟩ M_4 _ w_7 hM_4 I_2 f p_10
   obtain ⟨I_2L, hr_6⟩ := I_2
   obtain ⟨m_4, r_2, rfl, hs_2, hn_2⟩ := loop_step I_2L
   unfold ref22_Live_s2 at hs_2
   refine R_seq (RR (Y f 2 fun _ f => Y14 f p_10 (fzu (hM_3.trans hM_4) hc_2) 1 rfl fun _ f => Y f 2 fun _ f => eT (RcF f hs_2 (fun h_9 hF_8 => ?_) fun h_9 hF_12 => ?_)))
   ·have k_3 := dI.1 h_9
    refine wp_skip (T_n (R_seq (wp_block (R_reg (Y f 2 fun _ f => Y14 f p_10 (fzu (hM_3.trans hM_4) hc_2) 1 rfl fun _ f => Y f 1 fun _ f => ?_)))))
    obtain ⟨x_2, hx_2, hF_9⟩ := bS hF_8
    obtain ⟨ad_2, c_2, e_2, -, hr_7, hc_4⟩ := Sli.at_ (h_2.mono ((hM_1.trans hM_3).trans hM_4)) hx_2
    obtain ⟨A_13, cap_13, A_14, cap_14, rfl, h_10, h_11⟩ := TS0.opn hr_7
    refine Z f (Y28 e_2 rfl (len := d0.fPending.length) (cap := cap_2) (k := .i64) (i := s_2.2) (e := 68) (sz := 6) (getI_nn hx_2) (getI_lt hx_2)) fun _ f => Y f 1 fun _ f => Y14 f p_10 hc_4 2 rfl fun _ f => V_allocS (k := 1) (c := 1) f p_10 (.cells #[S x_2.fPhys] 9 (0, 0)) (by kernel_rfl) (fun _ => by kernel_rfl) fun b_5 w_8 p_11 _ f => ?_
    have p_12 := p_11.pl [1]
    obtain ⟨g_3, hF_10⟩ := nS hF_9
    refine Y20 (z := S []) (f := Dat.str) (xs := s_2.1) (ys := [x_2.fPhys]) (news := [S x_2.fPhys]) (ad := ⟨b_5, 0, none⟩) (m := 1) (c := 1) f p_12 hr_6 (by exact ⟨_, _, rfl, rfl, rfl⟩) rfl rfl rfl rfl (own_cells (p_12.ownCell 1 rfl) 0 rfl) (by exact g_3) (by have hg_ := g_3; first | omega | (simp only [List.length_cons, List.length_nil] at *; omega)) fun A_15 cap_15 cs_5 w_9 p_13 hr_8 _ f => ?_
    have p_14 := p_13.pl [1]
    have p_15 := p_14.drop
    refine Y f 1 fun _ f => W_end rfl (B_n (T_n (R_reg (Y f 1 fun _ f => ?_))))
    obtain ⟨g_4, hF_11⟩ := nS hF_10
    refine Y f 1 fun _ f => ?_
    have f := f.st 29 (congrArg (Value.int .i64) (inR_wrap g_4))
    refine Y f 1 fun _ f => eT ?_
    obtain rfl := sI hF_11
    exact ⟨⟨m_4, (s_2.1 ++ [x_2.fPhys], s_2.2 + 1), A_15, cap_15, cs_5⟩, Nat.lt_succ_self _, M_4, hM_4, ⟨hn_2, hr_8⟩, f.kp, p_15⟩
   ·have k_4 := iff_f dI h_9
    refine wp_exit (T_x (T_x ?_))
    obtain rfl := sI hF_12
    exact ⟨rfl, s_2.1, (sI hn_2).symm, M_4, hM_4, A_12, cap_12, cs_4, hr_6, f.kp, p_10⟩
  ·rintro _ _ w_11 ⟨rfl, y_2, hq_, M_5, hM_5, A_16, cap_16, cs_6, hr_9, f, p_16⟩
   subst b_4
   refine B_x (T_n (R_seq (RR (Y f 1 fun _ f => eT (wp_block ?_)))))
   obtain ⟨b_6, hL_3, hF_13⟩ := bS hF_7
   refine wp_mono (Q := fun e a w => (e = .exit 4 ∧ (∃ y_3 : List (List UInt8), b_6 = y_3 ∧ ∃ M_7 : Mem, M_5.le M_7 ∧ ∃ (A_21 : Option Addr), ∃ (cap_21 : Nat), ∃ (cs_9 : List Value), RepSeq M_7 (y_3.map Dat.str) cs_9 ∧ Frm 56 [(3, .slice A_21 y_3.length cap_21)] a ∧ Hp w0 M_7 ((Ent.row 9 1 (.slice A_21 y_3.length cap_21) y_3.length cs_9) :: H) w))) (R_loop (n := 56) (w0 := w0) (M := M_5) (fun (x : Nat × (List (List UInt8) × Int) × (Option Addr) × Nat × (List Value)) => match x with | (m_5, s_3, A_17, cap_17, cs_7) => [(1, .pointer (some (⟨b_1, 0, none⟩))), (3, .slice A_17 s_3.1.length cap_17), (6, .int .i64 s_3.2)]) (fun (x : Nat × (List (List UInt8) × Int) × (Option Addr) × Nat × (List Value)) => match x with | (m_5, s_3, A_17, cap_17, cs_7) => ((Ent.row 9 1 (.slice A_17 s_3.1.length cap_17) s_3.1.length cs_7) :: H)) (fun (x : Nat × (List (List UInt8) × Int) × (Option Addr) × Nat × (List Value)) (MM : Mem) => match x with | (m_5, s_3, A_17, cap_17, cs_7) => loopF (ref22_Live_s3 n d0) m_5 s_3 = some b_6 ∧ RepSeq MM (s_3.1.map Dat.str) cs_7) (fun (x : Nat × (List (List UInt8) × Int) × (Option Addr) × Nat × (List Value)) => match x with | (m_5, s_3, A_17, cap_17, cs_7) => m_5) (n, (y_2, (0 : Int)), A_16, cap_16, cs_6) (f.kp) p_16 ⟨hL_3, hr_9⟩ ?_) ?_
   ·rintro ⟨m_5, s_3, A_17, cap_17, cs_7⟩ M_6 _ w_12 hM_6 I_3 f p_17
    obtain ⟨I_3L, hr_10⟩ := I_3
    obtain ⟨m_6, r_3, rfl, hs_3, hn_3⟩ := loop_step I_3L
    unfold ref22_Live_s3 at hs_3
    refine R_seq (RR (Y f 2 fun _ f => Y14 f p_17 (fzu ((hM_3.trans hM_5).trans hM_6) hc_2) 2 rfl fun _ f => Y f 2 fun _ f => eT (RcF f hs_3 (fun h_12 hF_14 => ?_) fun h_12 hF_18 => ?_)))
    ·have k_5 := dI.1 h_12
     refine wp_skip (T_n (R_seq (wp_block (R_reg (Y f 2 fun _ f => Y14 f p_17 (fzu ((hM_3.trans hM_5).trans hM_6) hc_2) 2 rfl fun _ f => Y f 1 fun _ f => ?_)))))
     obtain ⟨x_3, hx_3, hF_15⟩ := bS hF_14
     obtain ⟨ad_3, c_3, e_3, -, hr_11, hc_5⟩ := Sli.at_ (h_3.mono (((hM_1.trans hM_3).trans hM_5).trans hM_6)) hx_3
     obtain ⟨A_18, cap_18, A_19, cap_19, rfl, h_13, h_14⟩ := TS0.opn hr_11
     refine Z f (Y28 e_3 rfl (len := d0.fRetained.length) (cap := cap_3) (k := .i64) (i := s_3.2) (e := 68) (sz := 6) (getI_nn hx_3) (getI_lt hx_3)) fun _ f => Y f 1 fun _ f => Y14 f p_17 hc_5 2 rfl fun _ f => V_allocS (k := 1) (c := 1) f p_17 (.cells #[S x_3.fPhys] 9 (0, 0)) (by kernel_rfl) (fun _ => by kernel_rfl) fun b_7 w_13 p_18 _ f => ?_
     have p_19 := p_18.pl [1]
     obtain ⟨g_5, hF_16⟩ := nS hF_15
     refine Y20 (z := S []) (f := Dat.str) (xs := s_3.1) (ys := [x_3.fPhys]) (news := [S x_3.fPhys]) (ad := ⟨b_7, 0, none⟩) (m := 1) (c := 1) f p_19 hr_10 (by exact ⟨_, _, rfl, rfl, rfl⟩) rfl rfl rfl rfl (own_cells (p_19.ownCell 1 rfl) 0 rfl) (by exact g_5) (by have hg_ := g_5; first | omega | (simp only [List.length_cons, List.length_nil] at *; omega)) fun A_20 cap_20 cs_8 w_14 p_20 hr_12 _ f => ?_
     have p_21 := p_20.pl [1]
     have p_22 := p_21.drop
     refine Y f 1 fun _ f => W_end rfl (B_n (T_n (R_reg (Y f 1 fun _ f => ?_))))
     obtain ⟨g_6, hF_17⟩ := nS hF_16
     refine Y f 1 fun _ f => ?_
     have f := f.st 45 (congrArg (Value.int .i64) (inR_wrap g_6))
     refine Y f 1 fun _ f => eT ?_
     obtain rfl := sI hF_17
     exact ⟨⟨m_6, (s_3.1 ++ [x_3.fPhys], s_3.2 + 1), A_20, cap_20, cs_8⟩, Nat.lt_succ_self _, M_6, hM_6, ⟨hn_3, hr_12⟩, f.kp, p_22⟩
    ·have k_6 := iff_f dI h_12
     refine wp_exit (T_x (T_x ?_))
     obtain rfl := sI hF_18
     exact ⟨rfl, s_3.1, (sI hn_3).symm, M_6, hM_6, A_17, cap_17, cs_7, hr_10, f.kp, p_17⟩
   ·rintro _ _ w_16 ⟨rfl, y_3, hq_, M_7, hM_7, A_21, cap_21, cs_9, hr_13, f, p_23⟩
    subst b_6
    refine B_x (T_n (RR (Y f 2 fun _ f => eT (wp_ret (E_ret1 f rfl (by kernel_rfl : Vc.look _ 2 = some (.slice A_21 y_3.length cap_21)) ?_)))))
    obtain rfl := sI hF_13
    exact ⟨_, rfl, M_7, _, (((hM_1.trans hM_3).trans hM_5).trans hM_7), p_23, ⟨A_21, cap_21, cs_9, rfl, rfl, hr_13⟩⟩
def ref22_Check_s1 (n : Nat) (d0 : TF0) (s_1 : Int) : Option (Lp Int (Sum Unit Unit)) :=
    bif (decide (s_1 < ((d0.fOwned.length : Nat) : Int))) then
      (need (inR .i64 (s_1 - 1)) <|
      (getI d0.fOwned (s_1 - 1)).bind fun x_1 =>
      (getI d0.fOwned s_1).bind fun x_2 =>
      bif (!(Op.bytesLess x_1.fId x_2.fId)) then
        (some (.br (.inl ())))
      else
        need (inR .i64 (s_1 + 1)) <|
        some (.nx (s_1 + 1)))
    else
      some (.br (.inr ()))
def ref22_Check_s3 (n : Nat) (s_2 : List (List UInt8) × Int) (s_3 : Int) : Option (Lp Int (Sum Unit Unit)) :=
    bif (decide (s_3 < s_2.2)) then
      ((getI s_2.1 s_3).bind fun x_4 =>
      (getI s_2.1 s_2.2).bind fun x_5 =>
      bif (decide (x_4 = x_5)) then
        (some (.br (.inl ())))
      else
        need (inR .i64 (s_3 + 1)) <|
        some (.nx (s_3 + 1)))
    else
      some (.br (.inr ()))
def ref22_Check_s2 (n : Nat) (s_2 : List (List UInt8) × Int) : Option (Lp (List (List UInt8) × Int) (Sum Unit Unit)) :=
    bif (decide (s_2.2 < ((s_2.1.length : Nat) : Int))) then
      ((loopF (ref22_Check_s3 n s_2) n (0 : Int)).bind fun b_4 =>
      (match b_4 with 
      | .inl y_3 => some (.br (.inl ())) 
      | .inr y_4 => need (inR .i64 (s_2.2 + 1)) <|
        some (.nx (s_2.1, s_2.2 + 1))))
    else
      some (.br (.inr ()))
def ref22_Check (n : Nat) (d0 : TF0) : Option Int :=
  (loopF (ref22_Check_s1 n d0) n (1 : Int)).bind fun b_2 =>
  (match b_2 with 
  | .inl y_1 => some ((2 : Int)) 
  | .inr y_2 => (ref22_Live n d0).bind fun x_3 =>
    (loopF (ref22_Check_s2 n) n (x_3, (0 : Int))).bind fun b_3 =>
    (match b_3 with 
    | .inl y_5 => some ((2 : Int)) 
    | .inr y_6 => bif (decide (d0.fCalls < 0)) then
        (some ((2 : Int)))
      else
        bif (decide ((1099511627776 : Int) < d0.fCalls)) then
          (some ((2 : Int)))
        else
          bif (decide (d0.fStatus < 0)) then
            (some ((2 : Int)))
          else
            bif (decide ((6 : Int) < d0.fStatus)) then
              (some ((2 : Int)))
            else
              some ((0 : Int))))
set_option maxRecDepth 20000 in
theorem ref22_Check_ok (n : Nat) (M : Mem) (c0 : List Value) (d0 : TF0) (h0 : Rep M (emb_TF0 d0) c0) (r : Int) (hF : ref22_Check n d0 = some r) : Ok Tryz.prog M 27 [.agg c0.toArray] (fun _ v => v = .int .i64 r) := by
 unfold ref22_Check at hF
 intro M1 hM0 w0 H w p0
 replace h0 := Rep.mono hM0 _ _ h0
 obtain ⟨A_1, cap_1, A_2, cap_2, A_3, cap_3, A_4, cap_4, A_5, cap_5, rfl, h_1, h_2, h_3, h_4, h_5⟩ := TF0.opn h0
 refine R_enter 68 Tryz.func27 rfl rfl (by simp) fun a0 f0 => RR (Y12 (cs := #[.slice A_1 d0.fOwned.length cap_1, .slice A_2 d0.fPending.length cap_2, .slice A_3 d0.fRetained.length cap_3, .slice A_4 d0.fOuts.length cap_4, S d0.fText, .slice A_5 d0.fArgs.length cap_5, .int .i64 d0.fCalls, .int .i8 d0.fStatus]) (T := 26) f0 p0 fun b_1 M_1 w_1 hM_1 hc_1 p_1 _ f => ?_)
 have hc_2 := fz_box hc_1
 refine Y f 1 fun _ f => eT (R_seq (RR (Y f 1 fun _ f => eT (wp_block ?_))))
 obtain ⟨b_2, hL_1, hF_1⟩ := bS hF
 refine wp_mono (Q := fun e a w => (e = .ret ∧ (∃ y_1 : Unit, b_2 = .inl y_1 ∧ ∃ M_3 : Mem, M_1.le M_3 ∧ Frm 68 [(2, .int .i64 2)] a ∧ Hp w0 M_3 (H) w)) ∨ (e = .exit 0 ∧ (∃ y_2 : Unit, b_2 = .inr y_2 ∧ ∃ M_4 : Mem, M_1.le M_4 ∧ Frm 68 [(1, .pointer (some (⟨b_1, 0, none⟩)))] a ∧ Hp w0 M_4 (H) w))) (R_loop (n := 68) (w0 := w0) (M := M_1) (fun (x : Nat × Int) => match x with | (m_1, s_1) => [(1, .pointer (some (⟨b_1, 0, none⟩))), (3, .int .i64 s_1)]) (fun (x : Nat × Int) => match x with | (m_1, s_1) => (H)) (fun (x : Nat × Int) (MM : Mem) => match x with | (m_1, s_1) => loopF (ref22_Check_s1 n d0) m_1 s_1 = some b_2) (fun (x : Nat × Int) => match x with | (m_1, s_1) => m_1) (n, (1 : Int)) (f.kp) p_1 hL_1 ?_) ?_
 ·rintro ⟨m_1, s_1⟩ M_2 _ w_2 hM_2 I_1 f p_2
  have I_1L := I_1
  obtain ⟨m_2, r_1, rfl, hs_1, hn_1⟩ := loop_step I_1L
  unfold ref22_Check_s1 at hs_1
  refine R_seq (RR (Y f 2 fun _ f => Y14 f p_2 (fzu hM_2 hc_2) 0 rfl fun _ f => Y f 2 fun _ f => eT (RcF f hs_1 (fun h_6 hF_2 => ?_) fun h_6 hF_9 => ?_)))
  ·have k_1 := dI.1 h_6
   refine wp_skip (T_n (R_seq (wp_block (R_seq (R_draw p_2 (by kernel_rfl) (by kernel_rfl) (Y5 default f 1 fun _ f => Y4 f (fzu hM_2 hc_2) 0 rfl fun _ f => Y5 default f 1 fun _ f => ?_))))))
   obtain ⟨g_1, hF_3⟩ := nS hF_2
   refine Y2 (v := .int .i64 (IntKind.wrap .i64 (s_1 - 1))) f (fun _ pq => by kernel_rfl) fun _ f => ?_
   have f := f.st 17 (congrArg (Value.int .i64) (inR_wrap g_1))
   obtain ⟨x_1, hx_1, hF_4⟩ := bS hF_3
   obtain ⟨ad_1, c_1, e_1, -, hr_1, hc_3⟩ := Sli.at_ (h_1.mono (hM_1.trans hM_2)) hx_1
   obtain ⟨A_6, cap_6, A_7, cap_7, rfl, h_7, h_8⟩ := TS0.opn hr_1
   refine Y2 (v := .pointer (some (ad_1.add ((s_1 - 1).toNat * 6)))) f (fun _ pq => Y28 e_1 rfl (len := d0.fOwned.length) (cap := cap_1) (k := .i64) (i := s_1 - 1) (e := 68) (sz := 6) (getI_nn hx_1) (getI_lt hx_1)) fun _ f => Y5 default f 1 fun _ f => Y4 f hc_3 0 rfl fun _ f => Y5 default f 1 fun _ f => Y4 f (fzu hM_2 hc_2) 0 rfl fun _ f => Y5 default f 1 fun _ f => ?_
   obtain ⟨x_2, hx_2, hF_5⟩ := bS hF_4
   obtain ⟨ad_2, c_2, e_2, -, hr_2, hc_4⟩ := Sli.at_ (h_1.mono (hM_1.trans hM_2)) hx_2
   obtain ⟨A_8, cap_8, A_9, cap_9, rfl, h_9, h_10⟩ := TS0.opn hr_2
   refine Y2 (v := .pointer (some (ad_2.add (s_1.toNat * 6)))) f (fun _ pq => Y28 e_2 rfl (len := d0.fOwned.length) (cap := cap_1) (k := .i64) (i := s_1) (e := 68) (sz := 6) (getI_nn hx_2) (getI_lt hx_2)) fun _ f => Y5 default f 1 fun _ f => Y4 f hc_4 0 rfl fun _ f => Y2 (v := .bool (!(Op.bytesLess x_1.fId x_2.fId))) f (fun _ pq => X_strge rfl (l := x_1.fId) (m := x_2.fId) (by kernel_rfl) (by kernel_rfl)) fun _ f => Q_end rfl ?_
   intro w_3 p_3
   refine T_n (RcF f hF_5 (fun h_11 hF_6 => ?_) fun h_11 hF_7 => ?_)
   ·have k_2 : (Op.bytesLess x_1.fId x_2.fId) = false := by simpa using h_11
    refine RR (Y f 1 fun _ f => eT (wp_ret (B_r (T_r (T_r ?_)))))
    obtain rfl := sI hF_6
    exact .inl ⟨rfl, (), (sI hn_1).symm, M_2, hM_2, f.kp, p_3⟩
   ·have k_3 : (Op.bytesLess x_1.fId x_2.fId) = true := by simpa using h_11
    refine wp_skip (B_n (T_n (R_reg (Y f 1 fun _ f => ?_))))
    obtain ⟨g_2, hF_8⟩ := nS hF_7
    refine Y f 1 fun _ f => ?_
    have f := f.st 13 (congrArg (Value.int .i64) (inR_wrap g_2))
    refine Y f 1 fun _ f => eT ?_
    obtain rfl := sI hF_8
    exact ⟨⟨m_2, s_1 + 1⟩, Nat.lt_succ_self _, M_2, hM_2, hn_1, f.kp, p_3⟩
  ·have k_4 := iff_f dI h_6
   refine wp_exit (T_x (T_x ?_))
   obtain rfl := sI hF_9
   exact .inr ⟨rfl, (), (sI hn_1).symm, M_2, hM_2, f.kp, p_2⟩
 ·rintro _ _ w_6 (⟨rfl, y_1, rfl, M_3, hM_3, f, p_4⟩ | ⟨rfl, y_2, rfl, M_4, hM_4, f, p_5⟩)
  ·refine B_r (T_r (E_ret1 f rfl (by kernel_rfl : Vc.look _ 2 = some (.int .i64 2)) ?_))
   obtain rfl := sI hF_1
   exact ⟨_, rfl, M_3, (hM_1.trans hM_3), p_4, rfl⟩
  ·refine B_x (T_n (RR (Z (v := .agg #[.slice A_1 d0.fOwned.length cap_1, .slice A_2 d0.fPending.length cap_2, .slice A_3 d0.fRetained.length cap_3, .slice A_4 d0.fOuts.length cap_4, S d0.fText, .slice A_5 d0.fArgs.length cap_5, .int .i64 d0.fCalls, .int .i8 d0.fStatus]) f (Y30 (cs := [.slice A_1 d0.fOwned.length cap_1, .slice A_2 d0.fPending.length cap_2, .slice A_3 d0.fRetained.length cap_3, .slice A_4 d0.fOuts.length cap_4, S d0.fText, .slice A_5 d0.fArgs.length cap_5, .int .i64 d0.fCalls, .int .i8 d0.fStatus]) rfl (ad := ⟨b_1, 0, none⟩) (fun j v h => p_5.cell ((fzu hM_4 hc_2) j v h))) fun _ f => ?_)))
   obtain ⟨x_3, hx_3, hF_10⟩ := bS hF_1
   refine Y16 (E := []) (H := (H)) f p_5 (ref22_Live_ok n _ _ d0 (TF0.shutx (x := d0) (h_1.mono (hM_1.trans hM_4)) (h_2.mono (hM_1.trans hM_4)) (h_3.mono (hM_1.trans hM_4)) (h_4.mono (hM_1.trans hM_4)) (h_5.mono (hM_1.trans hM_4))) x_3 hx_3) fun _ M_5 E_1 w_7 hM_5 p_6 q_1 _ f => ?_
   obtain ⟨A_10, cap_10, cs_1, rfl, rfl, hr_3⟩ := q_1
   refine Y f 1 fun _ f => eT (R_seq (RR (Y f 1 fun _ f => eT (wp_block ?_))))
   obtain ⟨A_11, cap_11, M_6, hv_1, hM_6, p_7, h_12⟩ := p_6.rowSli (f := Dat.str) (xs := x_3) szd_str hr_3
   have f := f.st 4 (hv_1)
   obtain ⟨b_3, hL_2, hF_11⟩ := bS hF_10
   refine wp_mono (Q := fun e a w => (e = .ret ∧ (∃ y_5 : Unit, b_3 = .inl y_5 ∧ ∃ M_11 : Mem, M_6.le M_11 ∧ Frm 68 [(2, .int .i64 2)] a ∧ Hp w0 M_11 (H) w)) ∨ (e = .exit 2 ∧ (∃ y_6 : Unit, b_3 = .inr y_6 ∧ ∃ M_12 : Mem, M_6.le M_12 ∧ Frm 68 [(1, .pointer (some (⟨b_1, 0, none⟩)))] a ∧ Hp w0 M_12 (H) w))) (R_loop (n := 68) (w0 := w0) (M := M_6) (fun (x : Nat × (List (List UInt8) × Int) × (Option Addr) × Nat) => match x with | (m_3, s_2, A_12, cap_12) => [(1, .pointer (some (⟨b_1, 0, none⟩))), (4, .slice A_12 s_2.1.length cap_12), (5, .int .i64 s_2.2)]) (fun (x : Nat × (List (List UInt8) × Int) × (Option Addr) × Nat) => match x with | (m_3, s_2, A_12, cap_12) => (H)) (fun (x : Nat × (List (List UInt8) × Int) × (Option Addr) × Nat) (MM : Mem) => match x with | (m_3, s_2, A_12, cap_12) => loopF (ref22_Check_s2 n) m_3 s_2 = some b_3 ∧ Sli MM 1 Dat.str A_12 cap_12 s_2.1) (fun (x : Nat × (List (List UInt8) × Int) × (Option Addr) × Nat) => match x with | (m_3, s_2, A_12, cap_12) => m_3) (n, (x_3, (0 : Int)), A_11, cap_11) (f.kp) p_7 ⟨hL_2, h_12⟩ ?_) ?_
   ·rintro ⟨m_3, s_2, A_12, cap_12⟩ M_7 _ w_8 hM_7 I_2 f p_8
    obtain ⟨I_2L, h_13⟩ := I_2
    obtain ⟨m_4, r_2, rfl, hs_2, hn_2⟩ := loop_step I_2L
    unfold ref22_Check_s2 at hs_2
    refine R_seq (RR (Y f 4 fun _ f => eT (RcF f hs_2 (fun h_14 hF_12 => ?_) fun h_14 hF_22 => ?_)))
    ·have k_5 := dI.1 h_14
     refine wp_skip (T_n (R_seq (wp_block (RR (Y f 1 fun _ f => eT (wp_block ?_))))))
     obtain ⟨b_4, hL_3, hF_13⟩ := bS hF_12
     refine wp_mono (Q := fun e a w => (e = .ret ∧ (∃ y_3 : Unit, b_4 = .inl y_3 ∧ ∃ M_9 : Mem, M_7.le M_9 ∧ Frm 68 [(2, .int .i64 2)] a ∧ Hp w0 M_9 (H) w)) ∨ (e = .exit 4 ∧ (∃ y_4 : Unit, b_4 = .inr y_4 ∧ ∃ M_10 : Mem, M_7.le M_10 ∧ Frm 68 [(1, .pointer (some (⟨b_1, 0, none⟩))), (4, .slice A_12 s_2.1.length cap_12), (5, .int .i64 s_2.2)] a ∧ Hp w0 M_10 (H) w))) (R_loop (n := 68) (w0 := w0) (M := M_7) (fun (x : Nat × Int) => match x with | (m_5, s_3) => [(1, .pointer (some (⟨b_1, 0, none⟩))), (4, .slice A_12 s_2.1.length cap_12), (5, .int .i64 s_2.2), (6, .int .i64 s_3)]) (fun (x : Nat × Int) => match x with | (m_5, s_3) => (H)) (fun (x : Nat × Int) (MM : Mem) => match x with | (m_5, s_3) => loopF (ref22_Check_s3 n s_2) m_5 s_3 = some b_4) (fun (x : Nat × Int) => match x with | (m_5, s_3) => m_5) (n, (0 : Int)) (f.kp) p_8 hL_3 ?_) ?_
     ·rintro ⟨m_5, s_3⟩ M_8 _ w_9 hM_8 I_3 f p_9
      have I_3L := I_3
      obtain ⟨m_6, r_3, rfl, hs_3, hn_3⟩ := loop_step I_3L
      unfold ref22_Check_s3 at hs_3
      refine R_seq (RR (Y f 3 fun _ f => eT (RcF f hs_3 (fun h_15 hF_14 => ?_) fun h_15 hF_20 => ?_)))
      ·have k_6 := dI.1 h_15
       refine wp_skip (T_n (R_seq (wp_block (R_seq (R_draw p_9 (by kernel_rfl) (by kernel_rfl) (Y5 default f 2 fun _ f => ?_))))))
       obtain ⟨x_4, hx_4, hF_15⟩ := bS hF_14
       obtain ⟨ad_3, c_3, e_3, -, hr_4, hc_5⟩ := Sli.at_ (h_13.mono hM_8) hx_4
       obtain rfl : c_3 = [S x_4] := hr_4
       refine Y2 (v := .pointer (some (ad_3.add (s_3.toNat * 1)))) f (fun _ pq => Y28 e_3 rfl (len := s_2.1.length) (cap := cap_12) (k := .i64) (i := s_3) (e := 9) (sz := 1) (getI_nn hx_4) (getI_lt hx_4)) fun _ f => Y4 f hc_5 0 rfl fun _ f => Y5 default f 2 fun _ f => ?_
       obtain ⟨x_5, hx_5, hF_16⟩ := bS hF_15
       obtain ⟨ad_4, c_4, e_4, -, hr_5, hc_6⟩ := Sli.at_ (h_13.mono hM_8) hx_5
       obtain rfl : c_4 = [S x_5] := hr_5
       refine Y2 (v := .pointer (some (ad_4.add (s_2.2.toNat * 1)))) f (fun _ pq => Y28 e_4 rfl (len := s_2.1.length) (cap := cap_12) (k := .i64) (i := s_2.2) (e := 9) (sz := 1) (getI_nn hx_5) (getI_lt hx_5)) fun _ f => Y4 f hc_6 0 rfl fun _ f => Y2 (v := .bool (decide (x_4 = x_5))) f (fun _ pq => Y33 rfl (l := x_4) (m := x_5)) fun _ f => Q_end rfl ?_
       intro w_10 p_10
       refine T_n (RcF f hF_16 (fun h_16 hF_17 => ?_) fun h_16 hF_18 => ?_)
       ·have k_7 := dI.1 h_16
        refine RR (Y f 1 fun _ f => eT (wp_ret (B_r (T_r (T_r ?_)))))
        obtain rfl := sI hF_17
        exact .inl ⟨rfl, (), (sI hn_3).symm, M_8, hM_8, f.kp, p_10⟩
       ·have k_8 := iff_f dI h_16
        refine wp_skip (B_n (T_n (R_reg (Y f 1 fun _ f => ?_))))
        obtain ⟨g_3, hF_19⟩ := nS hF_18
        refine Y f 1 fun _ f => ?_
        have f := f.st 40 (congrArg (Value.int .i64) (inR_wrap g_3))
        refine Y f 1 fun _ f => eT ?_
        obtain rfl := sI hF_19
        exact ⟨⟨m_6, s_3 + 1⟩, Nat.lt_succ_self _, M_8, hM_8, hn_3, f.kp, p_10⟩
      ·have k_9 := iff_f dI h_15
       refine wp_exit (T_x (T_x ?_))
       obtain rfl := sI hF_20
       exact .inr ⟨rfl, (), (sI hn_3).symm, M_8, hM_8, f.kp, p_9⟩
     ·rintro _ _ w_13 (⟨rfl, y_3, rfl, M_9, hM_9, f, p_11⟩ | ⟨rfl, y_4, rfl, M_10, hM_10, f, p_12⟩)
      ·refine B_r (B_r (T_r (T_r ?_)))
       obtain rfl := sI hF_13
       exact .inl ⟨rfl, (), (sI hn_2).symm, M_9, (hM_7.trans hM_9), f.kp, p_11⟩
      ·refine B_x (B_n (T_n (R_reg (Y f 1 fun _ f => ?_))))
       obtain ⟨g_4, hF_21⟩ := nS hF_13
       refine Y f 1 fun _ f => ?_
       have f := f.st 35 (congrArg (Value.int .i64) (inR_wrap g_4))
       refine Y f 1 fun _ f => eT ?_
       obtain rfl := sI hF_21
       exact ⟨⟨m_4, (s_2.1, s_2.2 + 1), A_12, cap_12⟩, Nat.lt_succ_self _, M_10, (hM_7.trans hM_10), ⟨hn_2, (h_13.mono hM_10)⟩, f.kp, p_12⟩
    ·have k_10 := iff_f dI h_14
     refine wp_exit (T_x (T_x ?_))
     obtain rfl := sI hF_22
     exact .inr ⟨rfl, (), (sI hn_2).symm, M_7, hM_7, f.kp, p_8⟩
   ·rintro _ _ w_16 (⟨rfl, y_5, rfl, M_11, hM_11, f, p_13⟩ | ⟨rfl, y_6, rfl, M_12, hM_12, f, p_14⟩)
    ·refine B_r (T_r (E_ret1 f rfl (by kernel_rfl : Vc.look _ 2 = some (.int .i64 2)) ?_))
     obtain rfl := sI hF_11
     exact ⟨_, rfl, M_11, ((((hM_1.trans hM_4).trans hM_5).trans hM_6).trans hM_11), p_13, rfl⟩
    ·refine B_x (T_n (R_seq (RR (Y f 1 fun _ f => Y14 f p_14 (fzu (((hM_4.trans hM_5).trans hM_6).trans hM_12) hc_2) 6 rfl fun _ f => Y f 2 fun _ f => ?_))))
     rcases cE hF_11 with ⟨h_17, hF_23⟩ | ⟨h_17, hF_24⟩
     ·have k_11 := dI.1 h_17
      have f := f.st 53 (cB h_17)
      refine Y f 14 fun _ f => eT (Y8 f (RR (Y f 1 fun _ f => eT (wp_ret (T_r (E_ret1 f rfl (by kernel_rfl : Vc.look _ 2 = some (.int .i64 2)) ?_))))))
      obtain rfl := sI hF_23
      exact ⟨_, rfl, M_12, ((((hM_1.trans hM_4).trans hM_5).trans hM_6).trans hM_12), p_14, rfl⟩
     ·have k_12 := iff_f dI h_17
      have f := f.st 53 (cB h_17)
      refine Y f 1 fun _ f => Y14 f p_14 (fzu (((hM_4.trans hM_5).trans hM_6).trans hM_12) hc_2) 6 rfl fun _ f => Y f 3 fun _ f => ?_
      rcases cE hF_24 with ⟨h_18, hF_25⟩ | ⟨h_18, hF_26⟩
      ·have k_13 := dI.1 h_18
       have f := f.st 58 (cB h_18)
       refine Y f 9 fun _ f => eT (Y8 f (RR (Y f 1 fun _ f => eT (wp_ret (T_r (E_ret1 f rfl (by kernel_rfl : Vc.look _ 2 = some (.int .i64 2)) ?_))))))
       obtain rfl := sI hF_25
       exact ⟨_, rfl, M_12, ((((hM_1.trans hM_4).trans hM_5).trans hM_6).trans hM_12), p_14, rfl⟩
      ·have k_14 := iff_f dI h_18
       have f := f.st 58 (cB h_18)
       refine Y f 1 fun _ f => Y14 f p_14 (fzu (((hM_4.trans hM_5).trans hM_6).trans hM_12) hc_2) 7 rfl fun _ f => Y f 3 fun _ f => ?_
       rcases cE hF_26 with ⟨h_19, hF_27⟩ | ⟨h_19, hF_28⟩
       ·have k_15 := dI.1 h_19
        have f := f.st 63 (cB h_19)
        refine Y f 4 fun _ f => eT (Y8 f (RR (Y f 1 fun _ f => eT (wp_ret (T_r (E_ret1 f rfl (by kernel_rfl : Vc.look _ 2 = some (.int .i64 2)) ?_))))))
        obtain rfl := sI hF_27
        exact ⟨_, rfl, M_12, ((((hM_1.trans hM_4).trans hM_5).trans hM_6).trans hM_12), p_14, rfl⟩
       ·have k_16 := iff_f dI h_19
        have f := f.st 63 (cB h_19)
        refine Y f 1 fun _ f => Y14 f p_14 (fzu (((hM_4.trans hM_5).trans hM_6).trans hM_12) hc_2) 7 rfl fun _ f => Y f 2 fun _ f => eT (RcF f hF_28 (fun h_20 hF_29 => ?_) fun h_20 hF_30 => ?_)
        ·have k_17 := dI.1 h_20
         refine RR (Y f 1 fun _ f => eT (wp_ret (T_r (E_ret1 f rfl (by kernel_rfl : Vc.look _ 2 = some (.int .i64 2)) ?_))))
         obtain rfl := sI hF_29
         exact ⟨_, rfl, M_12, ((((hM_1.trans hM_4).trans hM_5).trans hM_6).trans hM_12), p_14, rfl⟩
        ·have k_18 := iff_f dI h_20
         refine wp_skip (T_n (RR (Y f 1 fun _ f => eT (wp_ret (E_ret1 f rfl (by kernel_rfl : Vc.look _ 2 = some (.int .i64 0)) ?_)))))
         obtain rfl := sI hF_30
         exact ⟨_, rfl, M_12, ((((hM_1.trans hM_4).trans hM_5).trans hM_6).trans hM_12), p_14, rfl⟩
end Go.Proofs.YtfdmlionhbeebaaGreat
