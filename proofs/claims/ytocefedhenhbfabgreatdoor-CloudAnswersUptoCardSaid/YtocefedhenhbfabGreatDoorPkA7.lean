/-
  Texts of this claim, packed (what nothing names is left out): LAnswers, CloudP2, CloudLAnswers, Vo2, Op. Own work, partly printed by own programs. No condition.
-/
import Derived.Test.YtocefedhenhbfabGreatDoorPkA6
import Derived.Test.YtocefedhenhbfabGreatDoorPkA1
import Derived.Test.YtocefedhenhbfabGreatDoorPkA2
import Derived.Test.YtocefedhenhbfabGreatDoorRows
set_option linter.unusedVariables false
set_option linter.unusedSimpArgs false
set_option maxHeartbeats 2000000
section
namespace Go.Proofs.YtocefedhenhbfabGreatDoor
open Go Go.Vc Go.RowKit
def cloud_Cloud_Flight_s1 (n : Nat) (d0_4 : List TI0) (s_1 : List Int × Int) : Option (Lp (List Int × Int) (List Int)) :=
    bif (decide (s_1.2 < ((d0_4.length : Nat) : Int))) then
      ((getI d0_4 s_1.2).bind fun x_1 =>
      need ((s_1.1.length + 1) * 8 ≤ 140737488355328) <|
      need (inR .i64 (s_1.2 + 1)) <|
      some (.nx (s_1.1 ++ [x_1.fToken], s_1.2 + 1)))
    else
      some (.br s_1.1)
def cloud_Cloud_Flight (n : Nat) (d0_0 : List TE0) (d0_1 : Int) (d0_2 : List TI0) (d0_3 : List (Int × TD0)) (d0_4 : List TI0) (d0_5 : Int) : Option (List Int × List TE0 × Int × List TI0 × (List (Int × TD0)) × List TI0 × Int) :=
  (loopF (cloud_Cloud_Flight_s1 n d0_4) n (([] : List Int), (0 : Int))).bind fun y_1 =>
  some ((y_1, d0_0, d0_1, d0_2, d0_3, d0_4, d0_5))
theorem cloud_Cloud_Flight_ok (n : Nat) (M : Mem) (hG : GL M) (b0 : Nat) (d0_0 : List TE0) (A_1 : Option Addr) (cap_1 : Nat) (h_1 : Sli M 3 emb_TE0 A_1 cap_1 d0_0) (d0_1 : Int) (d0_2 : List TI0) (A_2 : Option Addr) (cap_2 : Nat) (cs_1 : List Value) (hr_1 : RepSeq M (d0_2.map emb_TI0) cs_1) (m0_3 : Nat) (d0_3 : List (Int × TD0)) (d0_4 : List TI0) (A_3 : Option Addr) (cap_3 : Nat) (cs_2 : List Value) (hr_2 : RepSeq M (d0_4.map emb_TI0) cs_2) (d0_5 : Int) (r : List Int × List TE0 × Int × List TI0 × (List (Int × TD0)) × List TI0 × Int) (hF : cloud_Cloud_Flight n d0_0 d0_1 d0_2 d0_3 d0_4 d0_5 = some r) : OkH Tryz.prog M [Ent.obj b0 (.cells #[.slice A_1 d0_0.length cap_1, .int .i64 d0_1, .slice A_2 d0_2.length cap_2, .map (some m0_3), .slice A_3 d0_4.length cap_3, .int .i64 d0_5] 64 (0, 0)), Ent.row 31 5 (.slice A_2 d0_2.length cap_2) d0_2.length cs_1, Ent.obj m0_3 (mapO (Value.int .i64) (fun x : TD0 => Value.agg #[.bool x.fEnded, .bool x.fOk, S x.fPhys]) d0_3), Ent.row 31 5 (.slice A_3 d0_4.length cap_3) d0_4.length cs_2] 11 [.pointer (some (⟨b0, 0, none⟩))] (fun M' E' v => ∃ (A0 : Option Addr) (k0 : Nat) (s0 : List Value) (A_9 : Option Addr) (cap_10 : Nat) (A_10 : Option Addr) (cap_11 : Nat) (cs_6 : List Value) (A_11 : Option Addr) (cap_12 : Nat) (cs_7 : List Value), v = .slice A0 r.1.length k0 ∧ E' = [.row 3 1 (.slice A0 r.1.length k0) r.1.length s0, Ent.obj b0 (.cells #[.slice A_9 r.2.1.length cap_10, .int .i64 r.2.2.1, .slice A_10 r.2.2.2.1.length cap_11, .map (some m0_3), .slice A_11 r.2.2.2.2.2.1.length cap_12, .int .i64 r.2.2.2.2.2.2] 64 (0, 0)), Ent.row 31 5 (.slice A_10 r.2.2.2.1.length cap_11) r.2.2.2.1.length cs_6, Ent.obj m0_3 (mapO (Value.int .i64) (fun x : TD0 => Value.agg #[.bool x.fEnded, .bool x.fOk, S x.fPhys]) r.2.2.2.2.1), Ent.row 31 5 (.slice A_11 r.2.2.2.2.2.1.length cap_12) r.2.2.2.2.2.1.length cs_7] ∧ RepSeq M' (r.1.map (Dat.int .i64)) s0 ∧ Sli M' 3 emb_TE0 A_9 cap_10 r.2.1 ∧ RepSeq M' (r.2.2.2.1.map emb_TI0) cs_6 ∧ RepSeq M' (r.2.2.2.2.2.1.map emb_TI0) cs_7) := by
 unfold cloud_Cloud_Flight at hF
 intro M1 hM0 w0 H w p0
 replace hG := GL.mono hM0 hG
 replace h_1 := h_1.mono hM0
 replace hr_1 := RepSeq.mono hM0 _ _ hr_1
 replace hr_2 := RepSeq.mono hM0 _ _ hr_2
 refine R_enter 23 Tryz.func11 rfl rfl (by simp) fun a0 f0 => RR (Y f0 1 fun _ f => eT (R_seq (RR (Y f 1 fun _ f => Z (v := .bool false) f (X_ptrNil (q := some (⟨b0, 0, none⟩)) (e := 64) rfl (by kernel_rfl) (by kernel_rfl) (by kernel_rfl) _) fun _ f => eT (Y7 f (wp_skip (T_n (R_seq (RR (Y f 3 fun _ f => Z f (Y34 (v := .slice A_3 d0_4.length cap_3) rfl (ad := ⟨b0, 4, none⟩) (p0.ownCell 0 rfl 4)) fun _ f => ?_))))))))))
 refine Y f 2 fun _ f => eT (wp_block ?_)
 obtain ⟨A_4, cap_4, hv_1⟩ : ∃ A cap, Value.slice none 0 0 = .slice A ([] : List Int).length cap := ⟨none, 0, rfl⟩
 have p_1 : Hp w0 M1 ((Ent.row 3 1 (.slice A_4 ([] : List Int).length cap_4) ([] : List Int).length []) :: (Ent.obj b0 (.cells #[.slice A_1 d0_0.length cap_1, .int .i64 d0_1, .slice A_2 d0_2.length cap_2, .map (some m0_3), .slice A_3 d0_4.length cap_3, .int .i64 d0_5] 64 (0, 0))) :: (Ent.row 31 5 (.slice A_2 d0_2.length cap_2) d0_2.length cs_1) :: (Ent.obj m0_3 (mapO (Value.int .i64) (fun x : TD0 => Value.agg #[.bool x.fEnded, .bool x.fOk, S x.fPhys]) d0_3)) :: (Ent.row 31 5 (.slice A_3 d0_4.length cap_3) d0_4.length cs_2) :: H) w := by rw [← hv_1]; exact p0.nilRow 3 1
 have f := f.st 2 (hv_1)
 have hr_3 : RepSeq M1 (([] : List Int).map (Dat.int .i64)) [] := rfl
 obtain ⟨b_1, hL_1, hF_1⟩ := bS hF
 refine wp_mono (Q := fun e a w => (e = .exit 0 ∧ (∃ y_1 : List Int, b_1 = y_1 ∧ ∃ M_2 : Mem, M1.le M_2 ∧ ∃ (A_8 : Option Addr), ∃ (cap_9 : Nat), ∃ (cs_5 : List Value), RepSeq M_2 (y_1.map (Dat.int .i64)) cs_5 ∧ Frm 23 [(2, .slice A_8 y_1.length cap_9)] a ∧ Hp w0 M_2 ((Ent.row 3 1 (.slice A_8 y_1.length cap_9) y_1.length cs_5) :: (Ent.obj b0 (.cells #[.slice A_1 d0_0.length cap_1, .int .i64 d0_1, .slice A_2 d0_2.length cap_2, .map (some m0_3), .slice A_3 d0_4.length cap_3, .int .i64 d0_5] 64 (0, 0))) :: (Ent.row 31 5 (.slice A_2 d0_2.length cap_2) d0_2.length cs_1) :: (Ent.obj m0_3 (mapO (Value.int .i64) (fun x : TD0 => Value.agg #[.bool x.fEnded, .bool x.fOk, S x.fPhys]) d0_3)) :: (Ent.row 31 5 (.slice A_3 d0_4.length cap_3) d0_4.length cs_2) :: H) w))) (R_loop (n := 23) (w0 := w0) (M := M1) (fun (x : Nat × (List Int × Int) × (Option Addr) × Nat × (List Value)) => match x with | (m_1, s_1, A_5, cap_5, cs_3) => [(2, .slice A_5 s_1.1.length cap_5), (10, .slice A_3 d0_4.length cap_3), (11, .int .i64 ((d0_4.length : Nat) : Int)), (12, .int .i64 s_1.2)]) (fun (x : Nat × (List Int × Int) × (Option Addr) × Nat × (List Value)) => match x with | (m_1, s_1, A_5, cap_5, cs_3) => ((Ent.row 3 1 (.slice A_5 s_1.1.length cap_5) s_1.1.length cs_3) :: (Ent.obj b0 (.cells #[.slice A_1 d0_0.length cap_1, .int .i64 d0_1, .slice A_2 d0_2.length cap_2, .map (some m0_3), .slice A_3 d0_4.length cap_3, .int .i64 d0_5] 64 (0, 0))) :: (Ent.row 31 5 (.slice A_2 d0_2.length cap_2) d0_2.length cs_1) :: (Ent.obj m0_3 (mapO (Value.int .i64) (fun x : TD0 => Value.agg #[.bool x.fEnded, .bool x.fOk, S x.fPhys]) d0_3)) :: (Ent.row 31 5 (.slice A_3 d0_4.length cap_3) d0_4.length cs_2) :: H)) (fun (x : Nat × (List Int × Int) × (Option Addr) × Nat × (List Value)) (MM : Mem) => match x with | (m_1, s_1, A_5, cap_5, cs_3) => loopF (cloud_Cloud_Flight_s1 n d0_4) m_1 s_1 = some b_1 ∧ RepSeq MM (s_1.1.map (Dat.int .i64)) cs_3) (fun (x : Nat × (List Int × Int) × (Option Addr) × Nat × (List Value)) => match x with | (m_1, s_1, A_5, cap_5, cs_3) => m_1) (n, (([] : List Int), (0 : Int)), A_4, cap_4, []) (f.kp) p_1 ⟨hL_1, hr_3⟩ ?_) ?_
 ·rintro ⟨m_1, s_1, A_5, cap_5, cs_3⟩ M_1 _ w_1 hM_1 I_1 f p_2
  obtain ⟨I_1L, hr_4⟩ := I_1
  obtain ⟨m_2, r_1, rfl, hs_1, hn_1⟩ := loop_step I_1L
  unfold cloud_Cloud_Flight_s1 at hs_1
  refine RR (Y f 1 fun _ f => eT (R_seq (RcF f hs_1 (fun h_2 hF_2 => ?_) fun h_2 hF_6 => ?_)))
  ·have k_1 := dI.1 h_2
   refine wp_skip (T_n (R_seq (wp_block (RR ?_))))
   obtain ⟨x_1, hx_1, hF_3⟩ := bS hF_2
   obtain ⟨b_2, cap_6, hv_2, hcap_1⟩ := p_2.rowAddr 4 rfl (getI_pos hx_1)
   have f := f.st 10 (hv_2)
   refine Z f (Y32 rfl (ad := ⟨b_2, 0, none⟩) (len := d0_4.length) (cap := cap_6) (k := .i64) (i := s_1.2) (e := 31) (sz := 5) (getI_nn hx_1) (getI_lt hx_1)) fun _ f => ?_
   have f := f.st 10 (hv_2.symm)
   obtain ⟨c_1, -, hr_5, hc_1⟩ := RepSeq.get s_1.2.toNat (szd_all szd_TI0) (RepSeq.mono hM_1 _ _ hr_2) (getI_map hx_1)
   obtain ⟨A_6, cap_7, rfl, h_3⟩ := TI0.opn hr_5
   refine Z (v := .agg #[.int .i64 x_1.fToken, .int .i8 x_1.fKind, S x_1.fPhys, S x_1.fType, .slice A_6 x_1.fProps.length cap_7]) f (Y35 (cs := [.int .i64 x_1.fToken, .int .i8 x_1.fKind, S x_1.fPhys, S x_1.fType, .slice A_6 x_1.fProps.length cap_7]) rfl (ad := (⟨b_2, 0, none⟩ : Addr).add (s_1.2.toNat * 5)) (fun j v h => row_at (p_2.rowCell 4 rfl hv_2) hc_1 j v h)) fun _ f => Y12 f p_2 (.cells #[.int .i64 0, .int .i8 0, S [], S [], .slice none 0 0] 31 (0, 0)) fun b_3 w_2 p_3 _ f => Y28 (vs := [.int .i64 x_1.fToken, .int .i8 x_1.fKind, S x_1.fPhys, S x_1.fType, .slice A_6 x_1.fProps.length cap_7]) (j := 0) f p_3 rfl rfl (by simp [Value.oneCell', S]) (by simp) (by decide) (cs' := #[.int .i64 x_1.fToken, .int .i8 x_1.fKind, S x_1.fPhys, S x_1.fType, .slice A_6 x_1.fProps.length cap_7]) (by kernel_rfl) fun w_3 p_4 _ f => eT (R_reg (Y f 2 fun _ f => Z f (Y34 (v := .int .i64 x_1.fToken) rfl (ad := ⟨b_3, 0, none⟩) (p_4.ownCell 0 rfl 0)) fun _ f => V_allocS (k := 1) (c := 1) f p_4 (.cells #[.int .i64 x_1.fToken] 3 (0, 0)) (by kernel_rfl) (fun _ => by kernel_rfl) fun b_4 w_4 p_5 _ f => ?_))
   have p_6 := p_5.pl [2]
   obtain ⟨g_1, hF_4⟩ := nS hF_3
   refine Y22 (z := .int .i64 0) (f := (Dat.int .i64)) (xs := s_1.1) (ys := [x_1.fToken]) (news := [.int .i64 x_1.fToken]) (ad := ⟨b_4, 0, none⟩) (m := 1) (c := 1) f p_6 hr_4 (by exact ⟨_, _, rfl, rfl, rfl⟩) rfl rfl rfl rfl (own_cells (p_6.ownCell 1 rfl) 0 rfl) (by exact g_1) (by have hg_ := g_1; first | omega | (simp only [List.length_cons, List.length_nil] at *; omega)) fun A_7 cap_8 cs_4 w_5 p_7 hr_6 _ f => ?_
   have p_8 := p_7.pl [1]
   have p_9 := p_8.drop
   refine Y f 1 fun _ f => W_end rfl (B_n (T_n (R_reg ?_)))
   obtain ⟨g_2, hF_5⟩ := nS hF_4
   refine Y f 1 fun _ f => ?_
   have f := f.st 21 (congrArg (Value.int .i64) (inR_wrap g_2))
   refine Y f 1 fun _ f => W_end rfl ?_
   have p_16 := p_9.pl [5, 5, 5, 5, 4, 5]
   refine T_n ?_
   obtain rfl := sI hF_5
   exact ⟨⟨m_2, (s_1.1 ++ [x_1.fToken], s_1.2 + 1), A_7, cap_8, cs_4⟩, Nat.lt_succ_self _, M_1, hM_1, ⟨hn_1, hr_6⟩, f.kp, (p_16.dropN 1)⟩
  ·have k_2 := iff_f dI h_2
   refine wp_exit (T_x (T_x ?_))
   obtain rfl := sI hF_6
   exact ⟨rfl, s_1.1, (sI hn_1).symm, M_1, hM_1, A_5, cap_5, cs_3, hr_4, f.kp, p_2⟩
 ·rintro _ _ w_7 ⟨rfl, y_1, hq_, M_2, hM_2, A_8, cap_9, cs_5, hr_7, f, p_10⟩
  subst b_1
  refine B_x (T_n (RR (Y f 2 fun _ f => eT (wp_ret (E_ret1 f rfl (by kernel_rfl : Vc.look _ 2 = some (.slice A_8 y_1.length cap_9)) ?_)))))
  obtain rfl := sI hF_1
  exact ⟨_, rfl, M_2, _, hM_2, p_10, ⟨A_8, cap_9, cs_5, A_1, cap_1, A_2, cap_2, cs_1, A_3, cap_3, cs_2, rfl, rfl, hr_7, (h_1.mono hM_2), (RepSeq.mono hM_2 _ _ hr_1), (RepSeq.mono hM_2 _ _ hr_2)⟩⟩
theorem slices_Cloneapi_Call_api_Call_row_ok (n : Nat) (M : Mem) (A0 : Option Addr) (cap0 : Nat) (d0 : List TI0) (cs0 : List Value) (h0 : RepSeq M (d0.map emb_TI0) cs0) (hn : d0.length * 72 ≤ 140737488355328) : OkH Tryz.prog M [.row 31 5 (.slice A0 d0.length cap0) d0.length cs0] 33 [.slice A0 d0.length cap0] (fun M' E' v => ∃ (A : Option Addr) (k : Nat), v = .slice A d0.length k ∧ E' = [.row 31 5 (.slice A d0.length k) d0.length cs0, .row 31 5 (.slice A0 d0.length cap0) d0.length cs0]) := by
 intro M1 hM0 w0 H w p0
 have h1 := RepSeq.mono hM0 _ _ h0
 replace p0 : Hp w0 M1 (Ent.row 31 5 (.slice A0 d0.length cap0) d0.length cs0 :: H) w := p0
 refine R_enter 8 Tryz.func33 rfl rfl (by simp) fun a0 f0 => ?_
 replace f0 : Frm 8 [(0, .slice A0 d0.length cap0)] a0 := f0
 refine RR (Y f0 1 fun _ f => eT (R_seq (RR (Y f 1 fun _ f => Z (v := .bool A0.isNone) f (X_slicenil (A := A0) (n := d0.length) (c := cap0) (e := 31) rfl (by kernel_rfl) (by kernel_rfl) (by kernel_rfl) _) fun _ f => eT (Y6 f (b := A0.isNone) (fun h_1 => ?_) fun h_1 => ?_)))))
 ·obtain ⟨A, cap, e1, e2, e3⟩ := p0.rowShape 0 rfl
  have e4 := Value.slice.inj e1
  have hz : d0.length = 0 := by have := e3 (by rw [← e4.1]; simpa using h_1); omega
  have hc : cs0 = [] := List.eq_nil_of_length_eq_zero (by have := RepSeq.len (szd_all szd_TI0) h1; rw [this, List.length_map, hz, Nat.zero_mul])
  refine RR (Y f 1 fun _ f => eT (wp_ret (T_r (E_ret1 f rfl (by kernel_rfl : Vc.look _ 2 = some (.slice none 0 0)) (⟨_, rfl, M1, [.row 31 5 (.slice none 0 0) 0 [], .row 31 5 (.slice A0 d0.length cap0) d0.length cs0], (mR _), p0.nilRow _ _, none, 0, by rw [hz], ?_⟩)))))
  subst hc; rw [hz]
 ·refine wp_skip (T_n (RR (V_allocS (k := 0) (c := 0) f p0 (.cells #[] 31 (0, 0)) (by kernel_rfl) (fun _ => by kernel_rfl) fun b_1 w_1 p_2 _ f => Y f 1 fun _ f => ?_)))
  have p_3 : Hp w0 M1 (Ent.row 31 5 (.slice (some ⟨b_1, 0, none⟩) 0 0) 0 [] :: Ent.row 31 5 (.slice A0 d0.length cap0) d0.length cs0 :: H) w_1 := p_2.objRow (n := 0) (cap := 0) (size := 5) (by decide) (by decide) (blk_eq (by decide) rfl) rfl rfl
  refine W_cloneRow (z := .agg #[.int .i64 0, .int .i8 0, S [], S [], .slice none 0 0]) (f := emb_TI0) (xs := d0) f p_3 szd_TI0 h1 rfl h_1 (by kernel_rfl) (by kernel_rfl) rfl rfl rfl (by kernel_rfl) (by kernel_rfl) (by kernel_rfl) (by kernel_rfl) hn (by omega) fun A_2 cap_2 w_2 p_4 _ f => Y f 1 fun _ f => eT (wp_ret (E_ret1 f rfl (by kernel_rfl : Vc.look _ 2 = some (.slice A_2 d0.length cap_2)) ?_))
  exact ⟨_, rfl, M1, _, (mR _), p_4, A_2, cap_2, rfl, rfl⟩
def cloud_Cloud_Calls (n : Nat) (d0_0 : List TE0) (d0_1 : Int) (d0_2 : List TI0) (d0_3 : List (Int × TD0)) (d0_4 : List TI0) (d0_5 : Int) : Option (List TI0 × List TE0 × Int × List TI0 × (List (Int × TD0)) × List TI0 × Int) :=
  need (d0_2.length * 72 ≤ 140737488355328) <|
  some ((d0_2, d0_0, d0_1, d0_2, d0_3, d0_4, d0_5))
theorem cloud_Cloud_Calls_ok (n : Nat) (M : Mem) (hG : GL M) (b0 : Nat) (d0_0 : List TE0) (A_1 : Option Addr) (cap_1 : Nat) (h_1 : Sli M 3 emb_TE0 A_1 cap_1 d0_0) (d0_1 : Int) (d0_2 : List TI0) (A_2 : Option Addr) (cap_2 : Nat) (cs_1 : List Value) (hr_1 : RepSeq M (d0_2.map emb_TI0) cs_1) (m0_3 : Nat) (d0_3 : List (Int × TD0)) (d0_4 : List TI0) (A_3 : Option Addr) (cap_3 : Nat) (cs_2 : List Value) (hr_2 : RepSeq M (d0_4.map emb_TI0) cs_2) (d0_5 : Int) (r : List TI0 × List TE0 × Int × List TI0 × (List (Int × TD0)) × List TI0 × Int) (hF : cloud_Cloud_Calls n d0_0 d0_1 d0_2 d0_3 d0_4 d0_5 = some r) : OkH Tryz.prog M [Ent.obj b0 (.cells #[.slice A_1 d0_0.length cap_1, .int .i64 d0_1, .slice A_2 d0_2.length cap_2, .map (some m0_3), .slice A_3 d0_4.length cap_3, .int .i64 d0_5] 64 (0, 0)), Ent.row 31 5 (.slice A_2 d0_2.length cap_2) d0_2.length cs_1, Ent.obj m0_3 (mapO (Value.int .i64) (fun x : TD0 => Value.agg #[.bool x.fEnded, .bool x.fOk, S x.fPhys]) d0_3), Ent.row 31 5 (.slice A_3 d0_4.length cap_3) d0_4.length cs_2] 12 [.pointer (some (⟨b0, 0, none⟩))] (fun M' E' v => ∃ (A0 : Option Addr) (k0 : Nat) (s0 : List Value) (A_5 : Option Addr) (cap_5 : Nat) (A_6 : Option Addr) (cap_6 : Nat) (cs_3 : List Value) (A_7 : Option Addr) (cap_7 : Nat) (cs_4 : List Value), v = .slice A0 r.1.length k0 ∧ E' = [.row 31 5 (.slice A0 r.1.length k0) r.1.length s0, Ent.obj b0 (.cells #[.slice A_5 r.2.1.length cap_5, .int .i64 r.2.2.1, .slice A_6 r.2.2.2.1.length cap_6, .map (some m0_3), .slice A_7 r.2.2.2.2.2.1.length cap_7, .int .i64 r.2.2.2.2.2.2] 64 (0, 0)), Ent.row 31 5 (.slice A_6 r.2.2.2.1.length cap_6) r.2.2.2.1.length cs_3, Ent.obj m0_3 (mapO (Value.int .i64) (fun x : TD0 => Value.agg #[.bool x.fEnded, .bool x.fOk, S x.fPhys]) r.2.2.2.2.1), Ent.row 31 5 (.slice A_7 r.2.2.2.2.2.1.length cap_7) r.2.2.2.2.2.1.length cs_4] ∧ RepSeq M' (r.1.map emb_TI0) s0 ∧ Sli M' 3 emb_TE0 A_5 cap_5 r.2.1 ∧ RepSeq M' (r.2.2.2.1.map emb_TI0) cs_3 ∧ RepSeq M' (r.2.2.2.2.2.1.map emb_TI0) cs_4) := by
 unfold cloud_Cloud_Calls at hF
 intro M1 hM0 w0 H w p0
 replace hG := GL.mono hM0 hG
 replace h_1 := h_1.mono hM0
 replace hr_1 := RepSeq.mono hM0 _ _ hr_1
 replace hr_2 := RepSeq.mono hM0 _ _ hr_2
 refine R_enter 10 Tryz.func12 rfl rfl (by simp) fun a0 f0 => RR (Y f0 1 fun _ f => eT (R_seq (RR (Y f 1 fun _ f => Z (v := .bool false) f (X_ptrNil (q := some (⟨b0, 0, none⟩)) (e := 64) rfl (by kernel_rfl) (by kernel_rfl) (by kernel_rfl) _) fun _ f => eT (Y7 f (wp_skip (T_n (RR (Y f 3 fun _ f => Z f (Y34 (v := .slice A_2 d0_2.length cap_2) rfl (ad := ⟨b0, 2, none⟩) (p0.ownCell 0 rfl 2)) fun _ f => ?_)))))))))
 have p_1 := p0.pl [1]
 obtain ⟨g_1, hF_1⟩ := nS hF
 refine Y17 (E := [Ent.row 31 5 (.slice A_2 d0_2.length cap_2) d0_2.length cs_1]) (H := ((Ent.obj b0 (.cells #[.slice A_1 d0_0.length cap_1, .int .i64 d0_1, .slice A_2 d0_2.length cap_2, .map (some m0_3), .slice A_3 d0_4.length cap_3, .int .i64 d0_5] 64 (0, 0))) :: (Ent.obj m0_3 (mapO (Value.int .i64) (fun x : TD0 => Value.agg #[.bool x.fEnded, .bool x.fOk, S x.fPhys]) d0_3)) :: (Ent.row 31 5 (.slice A_3 d0_4.length cap_3) d0_4.length cs_2) :: H)) f p_1 (slices_Cloneapi_Call_api_Call_row_ok n _ A_2 cap_2 d0_2 cs_1 hr_1 g_1) fun _ M_1 E_1 w_1 hM_1 p_2 q_1 _ f => ?_
 obtain ⟨A_4, cap_4, rfl, rfl⟩ := q_1
 have hr_3 := (RepSeq.mono hM_1 _ _ hr_1)
 refine Y f 1 fun _ f => eT (wp_ret (E_ret1 f rfl (by kernel_rfl : Vc.look _ 2 = some (.slice A_4 d0_2.length cap_4)) ?_))
 obtain rfl := sI hF_1
 have p_7 := p_2.pl [4, 4, 3, 4, 4]
 exact ⟨_, rfl, M_1, _, hM_1, p_7, ⟨A_4, cap_4, cs_1, A_1, cap_1, A_2, cap_2, cs_1, A_3, cap_3, cs_2, rfl, rfl, hr_3, (h_1.mono hM_1), (RepSeq.mono hM_1 _ _ hr_1), (RepSeq.mono hM_1 _ _ hr_2)⟩⟩
def cloud_Cloud_Ask (n : Nat) (d0_0 : List TE0) (d0_1 : Int) (d0_2 : List TI0) (d0_3 : List (Int × TD0)) (d0_4 : List TI0) (d0_5 : Int) (d1 : Int) : Option (TD0 × Bool × List TE0 × Int × List TI0 × (List (Int × TD0)) × List TI0 × Int) :=
  some ((((mget d0_3 d1).getD z_TD0), ((mget d0_3 d1).isSome), d0_0, d0_1, d0_2, d0_3, d0_4, d0_5))
theorem cloud_Cloud_Ask_ok (n : Nat) (M : Mem) (hG : GL M) (b0 : Nat) (d0_0 : List TE0) (A_1 : Option Addr) (cap_1 : Nat) (h_1 : Sli M 3 emb_TE0 A_1 cap_1 d0_0) (d0_1 : Int) (d0_2 : List TI0) (A_2 : Option Addr) (cap_2 : Nat) (cs_1 : List Value) (hr_1 : RepSeq M (d0_2.map emb_TI0) cs_1) (m0_3 : Nat) (d0_3 : List (Int × TD0)) (d0_4 : List TI0) (A_3 : Option Addr) (cap_3 : Nat) (cs_2 : List Value) (hr_2 : RepSeq M (d0_4.map emb_TI0) cs_2) (d0_5 : Int) (d1 : Int) (r : TD0 × Bool × List TE0 × Int × List TI0 × (List (Int × TD0)) × List TI0 × Int) (hF : cloud_Cloud_Ask n d0_0 d0_1 d0_2 d0_3 d0_4 d0_5 d1 = some r) : OkH Tryz.prog M [Ent.obj b0 (.cells #[.slice A_1 d0_0.length cap_1, .int .i64 d0_1, .slice A_2 d0_2.length cap_2, .map (some m0_3), .slice A_3 d0_4.length cap_3, .int .i64 d0_5] 64 (0, 0)), Ent.row 31 5 (.slice A_2 d0_2.length cap_2) d0_2.length cs_1, Ent.obj m0_3 (mapO (Value.int .i64) (fun x : TD0 => Value.agg #[.bool x.fEnded, .bool x.fOk, S x.fPhys]) d0_3), Ent.row 31 5 (.slice A_3 d0_4.length cap_3) d0_4.length cs_2] 13 [.pointer (some (⟨b0, 0, none⟩)), .int .i64 d1] (fun M' E' v => ∃ (c0 : List Value) (A_4 : Option Addr) (cap_4 : Nat) (A_5 : Option Addr) (cap_5 : Nat) (cs_3 : List Value) (A_6 : Option Addr) (cap_6 : Nat) (cs_4 : List Value), v = .tuple #[.agg c0.toArray, .bool r.2.1] ∧ E' = [Ent.obj b0 (.cells #[.slice A_4 r.2.2.1.length cap_4, .int .i64 r.2.2.2.1, .slice A_5 r.2.2.2.2.1.length cap_5, .map (some m0_3), .slice A_6 r.2.2.2.2.2.2.1.length cap_6, .int .i64 r.2.2.2.2.2.2.2] 64 (0, 0)), Ent.row 31 5 (.slice A_5 r.2.2.2.2.1.length cap_5) r.2.2.2.2.1.length cs_3, Ent.obj m0_3 (mapO (Value.int .i64) (fun x : TD0 => Value.agg #[.bool x.fEnded, .bool x.fOk, S x.fPhys]) r.2.2.2.2.2.1), Ent.row 31 5 (.slice A_6 r.2.2.2.2.2.2.1.length cap_6) r.2.2.2.2.2.2.1.length cs_4] ∧ Rep M' (emb_TD0 r.1) c0 ∧ Sli M' 3 emb_TE0 A_4 cap_4 r.2.2.1 ∧ RepSeq M' (r.2.2.2.2.1.map emb_TI0) cs_3 ∧ RepSeq M' (r.2.2.2.2.2.2.1.map emb_TI0) cs_4) := by
 unfold cloud_Cloud_Ask at hF
 intro M1 hM0 w0 H w p0
 replace hG := GL.mono hM0 hG
 replace h_1 := h_1.mono hM0
 replace hr_1 := RepSeq.mono hM0 _ _ hr_1
 replace hr_2 := RepSeq.mono hM0 _ _ hr_2
 refine R_enter 22 Tryz.func13 rfl rfl (by simp) fun a0 f0 => RR (Y12 f0 p0 (.cells #[.bool false, .bool false, S []] 37 (0, 0)) fun b_1 w_1 p_1 _ f => Y f 1 fun _ f => eT (R_seq (RR (Y f 1 fun _ f => Z (v := .bool false) f (X_ptrNil (q := some (⟨b0, 0, none⟩)) (e := 64) rfl (by kernel_rfl) (by kernel_rfl) (by kernel_rfl) _) fun _ f => eT (Y7 f (wp_skip (T_n (RR (Y f 3 fun _ f => ?_)))))))))
 refine Z f (Y34 (v := .map (some m0_3)) rfl (ad := ⟨b0, 3, none⟩) (p_1.ownCell 1 rfl 3)) fun _ f => Y f 1 fun _ f => Z (v := .tuple #[.agg #[.bool ((mget d0_3 d1).getD z_TD0).fEnded, .bool ((mget d0_3 d1).getD z_TD0).fOk, S ((mget d0_3 d1).getD z_TD0).fPhys], .bool (mget d0_3 d1).isSome]) f (Y36 (ek := (Value.int .i64)) (ev := (fun x : TD0 => Value.agg #[.bool x.fEnded, .bool x.fOk, S x.fPhys])) (m := d0_3) (k := d1) (z := z_TD0) (kt := 3) (et := 37) rfl (intKey (by kernel_rfl)) (p_1.ownObj 3 rfl)) fun _ f => Y f 3 fun _ f => Y12 f p_1 (.cells #[.bool false, .bool false, S []] 37 (0, 0)) fun b_2 w_2 p_2 _ f => Y28 (vs := [.bool ((mget d0_3 d1).getD z_TD0).fEnded, .bool ((mget d0_3 d1).getD z_TD0).fOk, S ((mget d0_3 d1).getD z_TD0).fPhys]) (j := 0) f p_2 rfl rfl (by simp [Value.oneCell', S]) (by simp) (by decide) (cs' := #[.bool ((mget d0_3 d1).getD z_TD0).fEnded, .bool ((mget d0_3 d1).getD z_TD0).fOk, S ((mget d0_3 d1).getD z_TD0).fPhys]) (by kernel_rfl) fun w_3 p_3 _ f => Y f 1 fun _ f => eT (RR (Z (v := .agg #[.bool ((mget d0_3 d1).getD z_TD0).fEnded, .bool ((mget d0_3 d1).getD z_TD0).fOk, S ((mget d0_3 d1).getD z_TD0).fPhys]) f (Y35 (cs := [.bool ((mget d0_3 d1).getD z_TD0).fEnded, .bool ((mget d0_3 d1).getD z_TD0).fOk, S ((mget d0_3 d1).getD z_TD0).fPhys]) rfl (ad := ⟨b_2, 0, none⟩) (own_cells (p_3.ownCell 0 rfl) 0 rfl)) fun _ f => Y f 1 fun _ f => ?_))
 have p_4 := p_3.pl [1]
 refine Y28 (vs := [.bool ((mget d0_3 d1).getD z_TD0).fEnded, .bool ((mget d0_3 d1).getD z_TD0).fOk, S ((mget d0_3 d1).getD z_TD0).fPhys]) (j := 0) f p_4 rfl rfl (by simp [Value.oneCell', S]) (by simp) (by decide) (cs' := #[.bool ((mget d0_3 d1).getD z_TD0).fEnded, .bool ((mget d0_3 d1).getD z_TD0).fOk, S ((mget d0_3 d1).getD z_TD0).fPhys]) (by kernel_rfl) fun w_4 p_5 _ f => Y f 1 fun _ f => eT (wp_ret (E_rv2 f rfl (Y10 (cs := [.bool ((mget d0_3 d1).getD z_TD0).fEnded, .bool ((mget d0_3 d1).getD z_TD0).fOk, S ((mget d0_3 d1).getD z_TD0).fPhys]) (ad := ⟨b_1, 0, none⟩) f (own_cells (p_5.ownCell 0 rfl) 0 rfl)) (Y11 (v := .bool (mget d0_3 d1).isSome) f) ?_))
 obtain rfl := sI hF
 exact ⟨_, rfl, M1, _, (mR _), (p_5.dropN 2), ⟨[.bool ((mget d0_3 d1).getD z_TD0).fEnded, .bool ((mget d0_3 d1).getD z_TD0).fOk, S ((mget d0_3 d1).getD z_TD0).fPhys], A_1, cap_1, A_2, cap_2, cs_1, A_3, cap_3, cs_2, rfl, rfl, (TD0.shutx (x := ((mget d0_3 d1).getD z_TD0)) ), h_1, hr_1, hr_2⟩⟩
def law11_CloudAnswers_s1 (n : Nat) (d0 : List TB0) (s_1 : Int × (List (Int × TD0)) × List TE0 × Int × List TI0 × List TI0 × Int × (List (Int × TD0))) : Option (Lp (Int × (List (Int × TD0)) × List TE0 × Int × List TI0 × List TI0 × Int × (List (Int × TD0))) (Sum (List TE0 × Int × List TI0 × List TI0 × Int × (List (Int × TD0)) × (List (Int × TD0))) (List TE0 × Int × List TI0 × List TI0 × Int × (List (Int × TD0)) × (List (Int × TD0))))) :=
    bif (decide (s_1.1 < ((d0.length : Nat) : Int))) then
      ((getI d0 s_1.1).bind fun x_4 =>
      bif (decide (x_4.fDo = 0)) then
        ((cloud_Cloud_Submit n s_1.2.2.1 s_1.2.2.2.1 s_1.2.2.2.2.1 s_1.2.2.2.2.2.2.2 s_1.2.2.2.2.2.1 s_1.2.2.2.2.2.2.1 (⟨x_4.fX.fToken, x_4.fX.fKind, x_4.fX.fPhys, x_4.fX.fType, x_4.fX.fProps⟩ : TI0)).bind fun x_5 =>
        need (inR .i64 (s_1.1 + 1)) <|
        some (.nx (s_1.1 + 1, s_1.2.1, x_5.2.1, x_5.2.2.1, x_5.2.2.2.1, x_5.2.2.2.2.2.1, x_5.2.2.2.2.2.2, x_5.2.2.2.2.1)))
      else
        ((bif (decide (x_4.fDo = 1)) then
            (some ((decide (x_4.fDo = 1))))
          else
            some ((decide (x_4.fDo = 2))) : Option Bool)).bind fun y_1 =>
        bif y_1 then
          ((cloud_Cloud_End n s_1.2.2.1 s_1.2.2.2.1 s_1.2.2.2.2.1 s_1.2.2.2.2.2.2.2 s_1.2.2.2.2.2.1 s_1.2.2.2.2.2.2.1 x_4.fN (decide (x_4.fDo = 1))).bind fun x_6 =>
          bif (decide (x_6.2.2.1 = 0)) then
            (((bif (mget s_1.2.1 x_6.1).isSome then
                (some ((true)))
              else
                bif !x_6.2.1.fEnded then
                  (some ((true)))
                else
                  bif (decide (x_4.fDo = 2)) then
                    (some ((x_6.2.1.fOk)))
                  else
                    some ((false)) : Option Bool)).bind fun y_2 =>
            bif y_2 then
              (some (.br (.inl (x_6.2.2.2.1, x_6.2.2.2.2.1, x_6.2.2.2.2.2.1, x_6.2.2.2.2.2.2.2.1, x_6.2.2.2.2.2.2.2.2, x_6.2.2.2.2.2.2.1, s_1.2.1))))
            else
              need (inR .i64 (s_1.1 + 1)) <|
              some (.nx (s_1.1 + 1, mput s_1.2.1 x_6.1 (⟨(x_6.2.1.fEnded), (x_6.2.1.fOk), x_6.2.1.fPhys⟩ : TD0), x_6.2.2.2.1, x_6.2.2.2.2.1, x_6.2.2.2.2.2.1, x_6.2.2.2.2.2.2.2.1, x_6.2.2.2.2.2.2.2.2, x_6.2.2.2.2.2.2.1)))
          else
            need (inR .i64 (s_1.1 + 1)) <|
            some (.nx (s_1.1 + 1, s_1.2.1, x_6.2.2.2.1, x_6.2.2.2.2.1, x_6.2.2.2.2.2.1, x_6.2.2.2.2.2.2.2.1, x_6.2.2.2.2.2.2.2.2, x_6.2.2.2.2.2.2.1)))
        else
          need (inR .i64 (s_1.1 + 1)) <|
          some (.nx (s_1.1 + 1, s_1.2.1, s_1.2.2.1, s_1.2.2.2.1, s_1.2.2.2.2.1, s_1.2.2.2.2.2.1, s_1.2.2.2.2.2.2.1, s_1.2.2.2.2.2.2.2)))
    else
      some (.br (.inr (s_1.2.2.1, s_1.2.2.2.1, s_1.2.2.2.2.1, s_1.2.2.2.2.2.1, s_1.2.2.2.2.2.2.1, s_1.2.1, s_1.2.2.2.2.2.2.2)))
def law11_CloudAnswers_s2 (n : Nat) (x_7 : List Int × List TE0 × Int × List TI0 × (List (Int × TD0)) × List TI0 × Int) (s_2 : Int × (List (Int × Bool))) : Option (Lp (Int × (List (Int × Bool))) (List (Int × Bool))) :=
    bif (decide (s_2.1 < ((x_7.1.length : Nat) : Int))) then
      ((getI x_7.1 s_2.1).bind fun x_8 =>
      need (inR .i64 (s_2.1 + 1)) <|
      some (.nx (s_2.1 + 1, mput s_2.2 x_8 (true))))
    else
      some (.br s_2.2)
def law11_CloudAnswers_s3 (n : Nat) (y_4 : List TE0 × Int × List TI0 × List TI0 × Int × (List (Int × TD0)) × (List (Int × TD0))) (y_5 : (List (Int × Bool))) (x_9 : List TI0 × List TE0 × Int × List TI0 × (List (Int × TD0)) × List TI0 × Int) (s_3 : Int × List TE0 × Int × List TI0 × List TI0 × Int × (List (Int × TD0))) : Option (Lp (Int × List TE0 × Int × List TI0 × List TI0 × Int × (List (Int × TD0))) (Sum (List TE0 × Int × List TI0 × List TI0 × Int × (List (Int × TD0))) (List TE0 × Int × List TI0 × List TI0 × Int × (List (Int × TD0))))) :=
    bif (decide (s_3.1 < ((x_9.1.length : Nat) : Int))) then
      ((getI x_9.1 s_3.1).bind fun x_10 =>
      (cloud_Cloud_Ask n s_3.2.1 s_3.2.2.1 s_3.2.2.2.1 s_3.2.2.2.2.2.2 s_3.2.2.2.2.1 s_3.2.2.2.2.2.1 x_10.fToken).bind fun x_11 =>
      bif !x_11.2.1 then
        (some (.br (.inl (x_11.2.2.1, x_11.2.2.2.1, x_11.2.2.2.2.1, x_11.2.2.2.2.2.2.1, x_11.2.2.2.2.2.2.2, x_11.2.2.2.2.2.1))))
      else
        bif (!(andL [(x_11.1.fEnded == ((mget y_4.2.2.2.2.2.1 x_10.fToken).getD z_TD0).fEnded), (x_11.1.fOk == ((mget y_4.2.2.2.2.2.1 x_10.fToken).getD z_TD0).fOk), decide (x_11.1.fPhys = ((mget y_4.2.2.2.2.2.1 x_10.fToken).getD z_TD0).fPhys)])) then
          (some (.br (.inl (x_11.2.2.1, x_11.2.2.2.1, x_11.2.2.2.2.1, x_11.2.2.2.2.2.2.1, x_11.2.2.2.2.2.2.2, x_11.2.2.2.2.2.1))))
        else
          bif ((mget y_4.2.2.2.2.2.1 x_10.fToken).isSome == ((mget y_5 x_10.fToken).getD false)) then
            (some (.br (.inl (x_11.2.2.1, x_11.2.2.2.1, x_11.2.2.2.2.1, x_11.2.2.2.2.2.2.1, x_11.2.2.2.2.2.2.2, x_11.2.2.2.2.2.1))))
          else
            bif (!(x_11.1.fEnded == (mget y_4.2.2.2.2.2.1 x_10.fToken).isSome)) then
              (some (.br (.inl (x_11.2.2.1, x_11.2.2.2.1, x_11.2.2.2.2.1, x_11.2.2.2.2.2.2.1, x_11.2.2.2.2.2.2.2, x_11.2.2.2.2.2.1))))
            else
              need (inR .i64 (s_3.1 + 1)) <|
              some (.nx (s_3.1 + 1, x_11.2.2.1, x_11.2.2.2.1, x_11.2.2.2.2.1, x_11.2.2.2.2.2.2.1, x_11.2.2.2.2.2.2.2, x_11.2.2.2.2.2.1)))
    else
      some (.br (.inr (s_3.2.1, s_3.2.2.1, s_3.2.2.2.1, s_3.2.2.2.2.1, s_3.2.2.2.2.2.1, s_3.2.2.2.2.2.2)))
def law11_CloudAnswers (n : Nat) (d0 : List TB0) : Option Bool :=
  (law11_great n d0).bind fun x_1 =>
  bif x_1 then
    ((law11_wakes n).bind fun x_2 =>
    some ((x_2)))
  else
    (cloud_New n).bind fun x_3 =>
    (loopF (law11_CloudAnswers_s1 n d0) n ((0 : Int), ([] : List (Int × TD0)), ([] : List TE0), (0 : Int), ([] : List TI0), ([] : List TI0), (0 : Int), ([] : List (Int × TD0)))).bind fun b_1 =>
    (match b_1 with 
    | .inl y_3 => some ((false)) 
    | .inr y_4 => (cloud_Cloud_Flight n y_4.1 y_4.2.1 y_4.2.2.1 y_4.2.2.2.2.2.2 y_4.2.2.2.1 y_4.2.2.2.2.1).bind fun x_7 =>
      (loopF (law11_CloudAnswers_s2 n x_7) n ((0 : Int), ([] : List (Int × Bool)))).bind fun y_5 =>
      (cloud_Cloud_Calls n x_7.2.1 x_7.2.2.1 x_7.2.2.2.1 x_7.2.2.2.2.1 x_7.2.2.2.2.2.1 x_7.2.2.2.2.2.2).bind fun x_9 =>
      (loopF (law11_CloudAnswers_s3 n y_4 y_5 x_9) n ((0 : Int), x_9.2.1, x_9.2.2.1, x_9.2.2.2.1, x_9.2.2.2.2.2.1, x_9.2.2.2.2.2.2, x_9.2.2.2.2.1)).bind fun b_7 =>
      (match b_7 with 
      | .inl y_6 => some ((false)) 
      | .inr y_7 => need (inR .i64 (((y_5.length : Nat) : Int) + ((y_4.2.2.2.2.2.1.length : Nat) : Int))) <|
        (cloud_Cloud_Calls n y_7.1 y_7.2.1 y_7.2.2.1 y_7.2.2.2.2.2 y_7.2.2.2.1 y_7.2.2.2.2.1).bind fun x_12 =>
        bif (decide ((((y_5.length : Nat) : Int) + ((y_4.2.2.2.2.2.1.length : Nat) : Int)) = ((x_12.1.length : Nat) : Int))) then
          ((law11_wakes n).bind fun x_13 =>
          some ((x_13)))
        else
          some ((false))))
set_option maxRecDepth 20000 in
theorem law11_CloudAnswers_ok (n : Nat) (M : Mem) (hG : GL M) (A0 : Option Addr) (cap0 : Nat) (d0 : List TB0) (h0 : Sli M 7 emb_TB0 A0 cap0 d0) (r : Bool) (hF : law11_CloudAnswers n d0 = some r) : Ok Tryz.prog M 3 [.slice A0 d0.length cap0] (fun _ v => v = .bool r) := by
 unfold law11_CloudAnswers at hF
 intro M1 hM0 w0 H w p0
 replace hG := GL.mono hM0 hG
 replace h0 := h0.mono hM0
 refine R_enter 147 Tryz.func3 rfl rfl (by simp) fun a0 f0 => RR (Y f0 1 fun _ f => eT (R_seq (RR (Y f 1 fun _ f => ?_))))
 obtain ⟨x_1, hx_1, hF_1⟩ := bS hF
 refine Y18 f p0 (law11_great_ok n _ hG A0 cap0 d0 h0 x_1 hx_1) fun w_1 p_1 _ f => eT (RcF f hF_1 (fun h_1 hF_2 => ?_) fun h_1 hF_4 => ?_)
 ·refine RR ?_
  obtain ⟨x_2, hx_2, hF_3⟩ := bS hF_2
  refine Y18 f p_1 (law11_wakes_ok n _ hG x_2 hx_2) fun w_2 p_2 _ f => Y f 1 fun _ f => eT (wp_ret (T_r (E_ret1 f rfl (by kernel_rfl : Vc.look _ 2 = some (.bool x_2)) ?_)))
  obtain rfl := sI hF_3
  exact ⟨_, rfl, M1, (mR _), p_2, rfl⟩
 ·refine wp_skip (T_n (RR ?_))
  obtain ⟨x_3, hx_3, hF_5⟩ := bS hF_4
  refine Y17 (E := []) (H := (H)) f p_1 (cloud_New_ok n _ hG x_3 hx_3) fun _ M_1 E_1 w_3 hM_1 p_3 q_1 _ f => ?_
  obtain ⟨nb_1, nb_1m0, rfl, rfl⟩ := q_1
  refine Y f 1 fun _ f => eT (RR (W_newmap (Value.int .i64) (fun x : TD0 => Value.agg #[.bool x.fEnded, .bool x.fOk, S x.fPhys]) f p_3 (by kernel_rfl) (by kernel_rfl) rfl rfl rfl fun bm_1 w_4 p_4 _ f => Y f 1 fun _ f => eT (R_seq (RR (Y f 3 fun _ f => eT (wp_block ?_))))))
  obtain ⟨A_1, cap_1, hv_1⟩ : ∃ A cap, Value.slice none 0 0 = .slice A ([] : List TI0).length cap := ⟨none, 0, rfl⟩
  have p_5 : Hp w0 M_1 ((Ent.row 31 5 (.slice A_1 ([] : List TI0).length cap_1) ([] : List TI0).length []) :: (Ent.obj bm_1 (mapO (Value.int .i64) (fun x : TD0 => Value.agg #[.bool x.fEnded, .bool x.fOk, S x.fPhys]) ([] : List (Int × TD0)))) :: (Ent.obj nb_1 (.cells #[.slice none 0 0, .int .i64 0, .slice A_1 ([] : List TI0).length cap_1, .map (some nb_1m0), .slice none 0 0, .int .i64 0] 64 (0, 0))) :: (Ent.obj nb_1m0 (mapO (Value.int .i64) (fun x : TD0 => Value.agg #[.bool x.fEnded, .bool x.fOk, S x.fPhys]) ([] : List (Int × TD0)))) :: H) w_4 := by rw [← hv_1]; exact p_4.nilRow 31 5
  have hr_1 : RepSeq M_1 (([] : List TI0).map emb_TI0) [] := rfl
  obtain ⟨A_2, cap_2, hv_2⟩ : ∃ A cap, Value.slice none 0 0 = .slice A ([] : List TI0).length cap := ⟨none, 0, rfl⟩
  have p_6 : Hp w0 M_1 ((Ent.row 31 5 (.slice A_2 ([] : List TI0).length cap_2) ([] : List TI0).length []) :: (Ent.row 31 5 (.slice A_1 ([] : List TI0).length cap_1) ([] : List TI0).length []) :: (Ent.obj bm_1 (mapO (Value.int .i64) (fun x : TD0 => Value.agg #[.bool x.fEnded, .bool x.fOk, S x.fPhys]) ([] : List (Int × TD0)))) :: (Ent.obj nb_1 (.cells #[.slice none 0 0, .int .i64 0, .slice A_1 ([] : List TI0).length cap_1, .map (some nb_1m0), .slice A_2 ([] : List TI0).length cap_2, .int .i64 0] 64 (0, 0))) :: (Ent.obj nb_1m0 (mapO (Value.int .i64) (fun x : TD0 => Value.agg #[.bool x.fEnded, .bool x.fOk, S x.fPhys]) ([] : List (Int × TD0)))) :: H) w_4 := by rw [← hv_2]; exact p_5.nilRow 31 5
  have hr_2 : RepSeq M_1 (([] : List TI0).map emb_TI0) [] := rfl
  have p_11 := p_6.pl [3, 4, 2, 3, 4]
  obtain ⟨b_1, hL_1, hF_6⟩ := bS hF_5
  refine wp_mono (Q := fun e a w => (e = .ret ∧ (∃ y_3 : List TE0 × Int × List TI0 × List TI0 × Int × (List (Int × TD0)) × (List (Int × TD0)), b_1 = .inl y_3 ∧ ∃ M_7 : Mem, M_1.le M_7 ∧ ∃ (A_13 : Option Addr), ∃ (cap_13 : Nat), ∃ (A_14 : Option Addr), ∃ (cap_14 : Nat), ∃ (cs_7 : List Value), ∃ (A_15 : Option Addr), ∃ (cap_15 : Nat), ∃ (cs_8 : List Value), Sli M_7 3 emb_TE0 A_13 cap_13 y_3.1 ∧ RepSeq M_7 (y_3.2.2.1.map emb_TI0) cs_7 ∧ RepSeq M_7 (y_3.2.2.2.1.map emb_TI0) cs_8 ∧ Frm 147 [(2, .bool false)] a ∧ Hp w0 M_7 ((Ent.row 31 5 (.slice A_14 y_3.2.2.1.length cap_14) y_3.2.2.1.length cs_7) :: (Ent.row 31 5 (.slice A_15 y_3.2.2.2.1.length cap_15) y_3.2.2.2.1.length cs_8) :: (Ent.obj nb_1m0 (mapO (Value.int .i64) (fun x : TD0 => Value.agg #[.bool x.fEnded, .bool x.fOk, S x.fPhys]) y_3.2.2.2.2.2.1)) :: (Ent.obj bm_1 (mapO (Value.int .i64) (fun x : TD0 => Value.agg #[.bool x.fEnded, .bool x.fOk, S x.fPhys]) y_3.2.2.2.2.2.2)) :: (Ent.obj nb_1 (.cells #[.slice A_13 y_3.1.length cap_13, .int .i64 y_3.2.1, .slice A_14 y_3.2.2.1.length cap_14, .map (some nb_1m0), .slice A_15 y_3.2.2.2.1.length cap_15, .int .i64 y_3.2.2.2.2.1] 64 (0, 0))) :: H) w)) ∨ (e = .exit 0 ∧ (∃ y_4 : List TE0 × Int × List TI0 × List TI0 × Int × (List (Int × TD0)) × (List (Int × TD0)), b_1 = .inr y_4 ∧ ∃ M_8 : Mem, M_1.le M_8 ∧ ∃ (A_16 : Option Addr), ∃ (cap_16 : Nat), ∃ (A_17 : Option Addr), ∃ (cap_17 : Nat), ∃ (cs_9 : List Value), ∃ (A_18 : Option Addr), ∃ (cap_18 : Nat), ∃ (cs_10 : List Value), Sli M_8 3 emb_TE0 A_16 cap_16 y_4.1 ∧ RepSeq M_8 (y_4.2.2.1.map emb_TI0) cs_9 ∧ RepSeq M_8 (y_4.2.2.2.1.map emb_TI0) cs_10 ∧ Frm 147 [(3, .pointer (some (⟨nb_1, 0, none⟩))), (4, .map (some bm_1))] a ∧ Hp w0 M_8 ((Ent.row 31 5 (.slice A_17 y_4.2.2.1.length cap_17) y_4.2.2.1.length cs_9) :: (Ent.row 31 5 (.slice A_18 y_4.2.2.2.1.length cap_18) y_4.2.2.2.1.length cs_10) :: (Ent.obj bm_1 (mapO (Value.int .i64) (fun x : TD0 => Value.agg #[.bool x.fEnded, .bool x.fOk, S x.fPhys]) y_4.2.2.2.2.2.1)) :: (Ent.obj nb_1m0 (mapO (Value.int .i64) (fun x : TD0 => Value.agg #[.bool x.fEnded, .bool x.fOk, S x.fPhys]) y_4.2.2.2.2.2.2)) :: (Ent.obj nb_1 (.cells #[.slice A_16 y_4.1.length cap_16, .int .i64 y_4.2.1, .slice A_17 y_4.2.2.1.length cap_17, .map (some nb_1m0), .slice A_18 y_4.2.2.2.1.length cap_18, .int .i64 y_4.2.2.2.2.1] 64 (0, 0))) :: H) w))) (R_loop (n := 147) (w0 := w0) (M := M_1) (fun (x : Nat × (Int × (List (Int × TD0)) × List TE0 × Int × List TI0 × List TI0 × Int × (List (Int × TD0))) × (Option Addr) × Nat × (Option Addr) × Nat × (List Value) × (Option Addr) × Nat × (List Value)) => match x with | (m_1, s_1, A_3, cap_3, A_4, cap_4, cs_1, A_5, cap_5, cs_2) => [(3, .pointer (some (⟨nb_1, 0, none⟩))), (4, .map (some bm_1)), (26, .slice A0 d0.length cap0), (27, .int .i64 ((d0.length : Nat) : Int)), (28, .int .i64 s_1.1)]) (fun (x : Nat × (Int × (List (Int × TD0)) × List TE0 × Int × List TI0 × List TI0 × Int × (List (Int × TD0))) × (Option Addr) × Nat × (Option Addr) × Nat × (List Value) × (Option Addr) × Nat × (List Value)) => match x with | (m_1, s_1, A_3, cap_3, A_4, cap_4, cs_1, A_5, cap_5, cs_2) => ((Ent.obj bm_1 (mapO (Value.int .i64) (fun x : TD0 => Value.agg #[.bool x.fEnded, .bool x.fOk, S x.fPhys]) s_1.2.1)) :: (Ent.row 31 5 (.slice A_4 s_1.2.2.2.2.1.length cap_4) s_1.2.2.2.2.1.length cs_1) :: (Ent.row 31 5 (.slice A_5 s_1.2.2.2.2.2.1.length cap_5) s_1.2.2.2.2.2.1.length cs_2) :: (Ent.obj nb_1m0 (mapO (Value.int .i64) (fun x : TD0 => Value.agg #[.bool x.fEnded, .bool x.fOk, S x.fPhys]) s_1.2.2.2.2.2.2.2)) :: (Ent.obj nb_1 (.cells #[.slice A_3 s_1.2.2.1.length cap_3, .int .i64 s_1.2.2.2.1, .slice A_4 s_1.2.2.2.2.1.length cap_4, .map (some nb_1m0), .slice A_5 s_1.2.2.2.2.2.1.length cap_5, .int .i64 s_1.2.2.2.2.2.2.1] 64 (0, 0))) :: H)) (fun (x : Nat × (Int × (List (Int × TD0)) × List TE0 × Int × List TI0 × List TI0 × Int × (List (Int × TD0))) × (Option Addr) × Nat × (Option Addr) × Nat × (List Value) × (Option Addr) × Nat × (List Value)) (MM : Mem) => match x with | (m_1, s_1, A_3, cap_3, A_4, cap_4, cs_1, A_5, cap_5, cs_2) => loopF (law11_CloudAnswers_s1 n d0) m_1 s_1 = some b_1 ∧ Sli MM 3 emb_TE0 A_3 cap_3 s_1.2.2.1 ∧ RepSeq MM (s_1.2.2.2.2.1.map emb_TI0) cs_1 ∧ RepSeq MM (s_1.2.2.2.2.2.1.map emb_TI0) cs_2) (fun (x : Nat × (Int × (List (Int × TD0)) × List TE0 × Int × List TI0 × List TI0 × Int × (List (Int × TD0))) × (Option Addr) × Nat × (Option Addr) × Nat × (List Value) × (Option Addr) × Nat × (List Value)) => match x with | (m_1, s_1, A_3, cap_3, A_4, cap_4, cs_1, A_5, cap_5, cs_2) => m_1) (n, ((0 : Int), ([] : List (Int × TD0)), ([] : List TE0), (0 : Int), ([] : List TI0), ([] : List TI0), (0 : Int), ([] : List (Int × TD0))), none, 0, A_1, cap_1, [], A_2, cap_2, []) (f.kp) p_11 ⟨hL_1, Sli.nil, hr_1, hr_2⟩ ?_) ?_
  ·rintro ⟨m_1, s_1, A_3, cap_3, A_4, cap_4, cs_1, A_5, cap_5, cs_2⟩ M_2 _ w_5 hM_2 I_1 f p_12
   obtain ⟨I_1L, h_2, hr_3, hr_4⟩ := I_1
   obtain ⟨m_2, r_1, rfl, hs_1, hn_1⟩ := loop_step I_1L
   unfold law11_CloudAnswers_s1 at hs_1
   refine RR (Y f 1 fun _ f => eT (R_seq (RcF f hs_1 (fun h_3 hF_7 => ?_) fun h_3 hF_33 => ?_)))
   ·have k_3 := dI.1 h_3
    refine wp_skip (T_n (R_seq (wp_block (RR ?_))))
    obtain ⟨x_4, hx_4, hF_8⟩ := bS hF_7
    obtain ⟨ad_1, c_1, e_1, -, hr_5, hc_1⟩ := Sli.at_ (h0.mono (hM_1.trans hM_2)) hx_4
    obtain ⟨A_6, cap_6, rfl, h_4⟩ := TB0.opn hr_5
    refine Z f (Y33 e_1 rfl (len := d0.length) (cap := cap0) (k := .i64) (i := s_1.1) (e := 33) (sz := 7) (getI_nn hx_4) (getI_lt hx_4)) fun _ f => Z (v := .agg #[.int .i64 x_4.fDo, .int .i64 x_4.fN, .int .i64 x_4.fX.fToken, .int .i8 x_4.fX.fKind, S x_4.fX.fPhys, S x_4.fX.fType, .slice A_6 x_4.fX.fProps.length cap_6]) f (Y35 (cs := [.int .i64 x_4.fDo, .int .i64 x_4.fN, .int .i64 x_4.fX.fToken, .int .i8 x_4.fX.fKind, S x_4.fX.fPhys, S x_4.fX.fType, .slice A_6 x_4.fX.fProps.length cap_6]) rfl (ad := ad_1.add (s_1.1.toNat * 7)) (fun j v h => p_12.cell (hc_1 j v h))) fun _ f => Y12 f p_12 (.cells #[.int .i64 0, .int .i64 0, .int .i64 0, .int .i8 0, S [], S [], .slice none 0 0] 33 (0, 0)) fun b_2 w_6 p_13 _ f => Y28 (vs := [.int .i64 x_4.fDo, .int .i64 x_4.fN, .int .i64 x_4.fX.fToken, .int .i8 x_4.fX.fKind, S x_4.fX.fPhys, S x_4.fX.fType, .slice A_6 x_4.fX.fProps.length cap_6]) (j := 0) f p_13 rfl rfl (by simp [Value.oneCell', S]) (by simp) (by decide) (cs' := #[.int .i64 x_4.fDo, .int .i64 x_4.fN, .int .i64 x_4.fX.fToken, .int .i8 x_4.fX.fKind, S x_4.fX.fPhys, S x_4.fX.fType, .slice A_6 x_4.fX.fProps.length cap_6]) (by kernel_rfl) fun w_7 p_14 _ f => eT (RR (Y f 1 fun _ f => Z f (Y34 (v := .int .i64 x_4.fDo) rfl (ad := ⟨b_2, 0, none⟩) (p_14.ownCell 0 rfl 0)) fun _ f => eT (wp_block (RR (Y f 2 fun _ f => eT (RcF f hF_8 (fun h_5 hF_9 => ?_) fun h_5 hF_12 => ?_))))))
    ·have k_4 := dI.1 h_5
     refine R_reg (Y f 2 fun _ f => Z (v := .agg #[.int .i64 x_4.fX.fToken, .int .i8 x_4.fX.fKind, S x_4.fX.fPhys, S x_4.fX.fType, .slice A_6 x_4.fX.fProps.length cap_6]) f (Y35 (cs := [.int .i64 x_4.fX.fToken, .int .i8 x_4.fX.fKind, S x_4.fX.fPhys, S x_4.fX.fType, .slice A_6 x_4.fX.fProps.length cap_6]) rfl (ad := ⟨b_2, 2, none⟩) (own_cells (p_14.ownCell 0 rfl) 2 rfl)) fun _ f => ?_)
     obtain ⟨x_5, hx_5, hF_10⟩ := bS hF_9
     have p_19 := p_14.pl [3, 4, 4, 5]
     refine Y17 (E := [Ent.obj nb_1 (.cells #[.slice A_3 s_1.2.2.1.length cap_3, .int .i64 s_1.2.2.2.1, .slice A_4 s_1.2.2.2.2.1.length cap_4, .map (some nb_1m0), .slice A_5 s_1.2.2.2.2.2.1.length cap_5, .int .i64 s_1.2.2.2.2.2.2.1] 64 (0, 0)), Ent.row 31 5 (.slice A_4 s_1.2.2.2.2.1.length cap_4) s_1.2.2.2.2.1.length cs_1, Ent.obj nb_1m0 (mapO (Value.int .i64) (fun x : TD0 => Value.agg #[.bool x.fEnded, .bool x.fOk, S x.fPhys]) s_1.2.2.2.2.2.2.2), Ent.row 31 5 (.slice A_5 s_1.2.2.2.2.2.1.length cap_5) s_1.2.2.2.2.2.1.length cs_2]) (H := ((Ent.obj b_2 (.cells #[.int .i64 x_4.fDo, .int .i64 x_4.fN, .int .i64 x_4.fX.fToken, .int .i8 x_4.fX.fKind, S x_4.fX.fPhys, S x_4.fX.fType, .slice A_6 x_4.fX.fProps.length cap_6] 33 (0, 0))) :: (Ent.obj bm_1 (mapO (Value.int .i64) (fun x : TD0 => Value.agg #[.bool x.fEnded, .bool x.fOk, S x.fPhys]) s_1.2.1)) :: H)) f p_19 (cloud_Cloud_Submit_ok n _ (GL.mono (hM_1.trans hM_2) hG) nb_1 s_1.2.2.1 A_3 cap_3 h_2 s_1.2.2.2.1 s_1.2.2.2.2.1 A_4 cap_4 cs_1 hr_3 nb_1m0 s_1.2.2.2.2.2.2.2 s_1.2.2.2.2.2.1 A_5 cap_5 cs_2 hr_4 s_1.2.2.2.2.2.2.1 _ (⟨x_4.fX.fToken, x_4.fX.fKind, x_4.fX.fPhys, x_4.fX.fType, x_4.fX.fProps⟩ : TI0) (TI0.shut h_4) x_5 hx_5) fun _ M_3 E_2 w_8 hM_3 p_15 q_2 _ f => ?_
     obtain ⟨A_7, cap_7, A_8, cap_8, cs_3, A_9, cap_9, cs_4, rfl, rfl, h_6, hr_6, hr_7⟩ := q_2
     refine W_end rfl (B_n (B_n (T_n (R_reg ?_))))
     obtain ⟨g_1, hF_11⟩ := nS hF_10
     refine Y f 1 fun _ f => ?_
     have f := f.st 80 (congrArg (Value.int .i64) (inR_wrap g_1))
     refine Y f 1 fun _ f => W_end rfl ?_
     have p_39 := p_15.pl [2, 3, 3, 5, 5]
     refine T_n ?_
     obtain rfl := sI hF_11
     exact ⟨⟨m_2, (s_1.1 + 1, s_1.2.1, x_5.2.1, x_5.2.2.1, x_5.2.2.2.1, x_5.2.2.2.2.2.1, x_5.2.2.2.2.2.2, x_5.2.2.2.2.1), A_7, cap_7, A_8, cap_8, cs_3, A_9, cap_9, cs_4⟩, Nat.lt_succ_self _, M_3, (hM_2.trans hM_3), ⟨hn_1, h_6, hr_6, hr_7⟩, f.kp, (p_39.dropN 1)⟩
    ·have k_5 := iff_f dI h_5
     refine R_seq (RR (Y f 2 fun _ f => eT ?_))
     obtain ⟨j_1, hj_1, hF_13⟩ := bS hF_12
     refine R_mid (fun a_27 w_9 => ∃ y_1 : Bool, j_1 = y_1 ∧ ∃ M_4 : Mem, M_2.le M_4 ∧ Frm 147 [(3, .pointer (some (⟨nb_1, 0, none⟩))), (4, .map (some bm_1)), (6, .pointer (some (⟨b_2, 0, none⟩))), (26, .slice A0 d0.length cap0), (27, .int .i64 ((d0.length : Nat) : Int)), (28, .int .i64 s_1.1), (40, .bool y_1)] a_27 ∧ Hp w0 M_4 ((Ent.obj b_2 (.cells #[.int .i64 x_4.fDo, .int .i64 x_4.fN, .int .i64 x_4.fX.fToken, .int .i8 x_4.fX.fKind, S x_4.fX.fPhys, S x_4.fX.fType, .slice A_6 x_4.fX.fProps.length cap_6] 33 (0, 0))) :: (Ent.obj bm_1 (mapO (Value.int .i64) (fun x : TD0 => Value.agg #[.bool x.fEnded, .bool x.fOk, S x.fPhys]) s_1.2.1)) :: (Ent.row 31 5 (.slice A_4 s_1.2.2.2.2.1.length cap_4) s_1.2.2.2.2.1.length cs_1) :: (Ent.row 31 5 (.slice A_5 s_1.2.2.2.2.2.1.length cap_5) s_1.2.2.2.2.2.1.length cs_2) :: (Ent.obj nb_1m0 (mapO (Value.int .i64) (fun x : TD0 => Value.agg #[.bool x.fEnded, .bool x.fOk, S x.fPhys]) s_1.2.2.2.2.2.2.2)) :: (Ent.obj nb_1 (.cells #[.slice A_3 s_1.2.2.1.length cap_3, .int .i64 s_1.2.2.2.1, .slice A_4 s_1.2.2.2.2.1.length cap_4, .map (some nb_1m0), .slice A_5 s_1.2.2.2.2.2.1.length cap_5, .int .i64 s_1.2.2.2.2.2.2.1] 64 (0, 0))) :: H) w_9) ?_ ?_
     ·refine RcF f hj_1 (fun h_7 hF_14 => ?_) fun h_7 hF_15 => ?_
      ·have k_6 := dI.1 h_7
       refine wp_skip (T_n ?_)
       exact ⟨(decide (x_4.fDo = 1)), (sI hF_14).symm, M_2, (mR _), f.kp, p_14⟩
      ·have k_7 := iff_f dI h_7
       refine R_reg (Y f 2 fun _ f => eT ?_)
       exact ⟨(decide (x_4.fDo = 2)), (sI hF_15).symm, M_2, (mR _), f.kp, p_14⟩
     ·rintro a_27 w_9 ⟨y_1, hq_1, M_4, hM_4, f, p_20⟩
      subst j_1
      refine T_n (RcF f hF_13 (fun h_8 hF_16 => ?_) fun h_8 hF_31 => ?_)
      ·refine RR (Y f 2 fun _ f => Z f (Y34 (v := .int .i64 x_4.fN) rfl (ad := ⟨b_2, 1, none⟩) (p_20.ownCell 0 rfl 1)) fun _ f => Y f 1 fun _ f => Z f (Y34 (v := .int .i64 x_4.fDo) rfl (ad := ⟨b_2, 0, none⟩) (p_20.ownCell 0 rfl 0)) fun _ f => Y f 1 fun _ f => ?_)
       obtain ⟨x_6, hx_6, hF_17⟩ := bS hF_16
       have p_25 := p_20.pl [3, 4, 4, 5]
       refine Y17 (E := [Ent.obj nb_1 (.cells #[.slice A_3 s_1.2.2.1.length cap_3, .int .i64 s_1.2.2.2.1, .slice A_4 s_1.2.2.2.2.1.length cap_4, .map (some nb_1m0), .slice A_5 s_1.2.2.2.2.2.1.length cap_5, .int .i64 s_1.2.2.2.2.2.2.1] 64 (0, 0)), Ent.row 31 5 (.slice A_4 s_1.2.2.2.2.1.length cap_4) s_1.2.2.2.2.1.length cs_1, Ent.obj nb_1m0 (mapO (Value.int .i64) (fun x : TD0 => Value.agg #[.bool x.fEnded, .bool x.fOk, S x.fPhys]) s_1.2.2.2.2.2.2.2), Ent.row 31 5 (.slice A_5 s_1.2.2.2.2.2.1.length cap_5) s_1.2.2.2.2.2.1.length cs_2]) (H := ((Ent.obj b_2 (.cells #[.int .i64 x_4.fDo, .int .i64 x_4.fN, .int .i64 x_4.fX.fToken, .int .i8 x_4.fX.fKind, S x_4.fX.fPhys, S x_4.fX.fType, .slice A_6 x_4.fX.fProps.length cap_6] 33 (0, 0))) :: (Ent.obj bm_1 (mapO (Value.int .i64) (fun x : TD0 => Value.agg #[.bool x.fEnded, .bool x.fOk, S x.fPhys]) s_1.2.1)) :: H)) f p_25 (cloud_Cloud_End_ok n _ (GL.mono ((hM_1.trans hM_2).trans hM_4) hG) nb_1 s_1.2.2.1 A_3 cap_3 (h_2.mono hM_4) s_1.2.2.2.1 s_1.2.2.2.2.1 A_4 cap_4 cs_1 (RepSeq.mono hM_4 _ _ hr_3) nb_1m0 s_1.2.2.2.2.2.2.2 s_1.2.2.2.2.2.1 A_5 cap_5 cs_2 (RepSeq.mono hM_4 _ _ hr_4) s_1.2.2.2.2.2.2.1 x_4.fN (decide (x_4.fDo = 1)) x_6 hx_6) fun _ M_5 E_3 w_10 hM_5 p_21 q_3 _ f => ?_
       obtain ⟨c_2, A_10, cap_10, A_11, cap_11, cs_5, A_12, cap_12, cs_6, rfl, rfl, hr_8, h_9, hr_9, hr_10⟩ := q_3
       obtain rfl := TD0.opn hr_8
       refine Y f 4 fun _ f => Y12 f p_21 (.cells #[.bool false, .bool false, S []] 37 (0, 0)) fun b_3 w_11 p_26 _ f => Y f 1 fun _ f => Y28 (vs := [.bool x_6.2.1.fEnded, .bool x_6.2.1.fOk, S x_6.2.1.fPhys]) (j := 0) f p_26 rfl rfl (by simp [Value.oneCell', S]) (by simp) (by decide) (cs' := #[.bool x_6.2.1.fEnded, .bool x_6.2.1.fOk, S x_6.2.1.fPhys]) (by kernel_rfl) fun w_12 p_27 _ f => Y f 1 fun _ f => eT (RR (Y f 2 fun _ f => eT (RcF f hF_17 (fun h_10 hF_18 => ?_) fun h_10 hF_29 => ?_)))
       ·have k_9 := dI.1 h_10
        refine RR (Y f 2 fun _ f => Z (v := .tuple #[.agg #[.bool ((mget s_1.2.1 x_6.1).getD z_TD0).fEnded, .bool ((mget s_1.2.1 x_6.1).getD z_TD0).fOk, S ((mget s_1.2.1 x_6.1).getD z_TD0).fPhys], .bool (mget s_1.2.1 x_6.1).isSome]) f (Y36 (ek := (Value.int .i64)) (ev := (fun x : TD0 => Value.agg #[.bool x.fEnded, .bool x.fOk, S x.fPhys])) (m := s_1.2.1) (k := x_6.1) (z := z_TD0) (kt := 3) (et := 37) rfl (intKey (by kernel_rfl)) (p_27.ownObj 6 rfl)) fun _ f => Y f 3 fun _ f => Y12 f p_27 (.cells #[.bool false, .bool false, S []] 37 (0, 0)) fun b_4 w_13 p_28 _ f => Y28 (vs := [.bool ((mget s_1.2.1 x_6.1).getD z_TD0).fEnded, .bool ((mget s_1.2.1 x_6.1).getD z_TD0).fOk, S ((mget s_1.2.1 x_6.1).getD z_TD0).fPhys]) (j := 0) f p_28 rfl rfl (by simp [Value.oneCell', S]) (by simp) (by decide) (cs' := #[.bool ((mget s_1.2.1 x_6.1).getD z_TD0).fEnded, .bool ((mget s_1.2.1 x_6.1).getD z_TD0).fOk, S ((mget s_1.2.1 x_6.1).getD z_TD0).fPhys]) (by kernel_rfl) fun w_14 p_29 _ f => Y f 1 fun _ f => eT (R_seq (R_seq ?_)))
        obtain ⟨j_2, hj_2, hF_19⟩ := bS hF_18
        refine R_mid (fun a_59 w_15 => ∃ y_2 : Bool, j_2 = y_2 ∧ ∃ M_6 : Mem, M_5.le M_6 ∧ Frm 147 [(3, .pointer (some (⟨nb_1, 0, none⟩))), (4, .map (some bm_1)), (7, .int .i64 x_6.1), (8, .pointer (some (⟨b_3, 0, none⟩))), (26, .slice A0 d0.length cap0), (27, .int .i64 ((d0.length : Nat) : Int)), (28, .int .i64 s_1.1), (76, .bool y_2)] a_59 ∧ Hp w0 M_6 ((Ent.obj b_4 (.cells #[.bool ((mget s_1.2.1 x_6.1).getD z_TD0).fEnded, .bool ((mget s_1.2.1 x_6.1).getD z_TD0).fOk, S ((mget s_1.2.1 x_6.1).getD z_TD0).fPhys] 37 (0, 0))) :: (Ent.obj b_3 (.cells #[.bool x_6.2.1.fEnded, .bool x_6.2.1.fOk, S x_6.2.1.fPhys] 37 (0, 0))) :: (Ent.obj nb_1 (.cells #[.slice A_10 x_6.2.2.2.1.length cap_10, .int .i64 x_6.2.2.2.2.1, .slice A_11 x_6.2.2.2.2.2.1.length cap_11, .map (some nb_1m0), .slice A_12 x_6.2.2.2.2.2.2.2.1.length cap_12, .int .i64 x_6.2.2.2.2.2.2.2.2] 64 (0, 0))) :: (Ent.row 31 5 (.slice A_11 x_6.2.2.2.2.2.1.length cap_11) x_6.2.2.2.2.2.1.length cs_5) :: (Ent.obj nb_1m0 (mapO (Value.int .i64) (fun x : TD0 => Value.agg #[.bool x.fEnded, .bool x.fOk, S x.fPhys]) x_6.2.2.2.2.2.2.1)) :: (Ent.row 31 5 (.slice A_12 x_6.2.2.2.2.2.2.2.1.length cap_12) x_6.2.2.2.2.2.2.2.1.length cs_6) :: (Ent.obj b_2 (.cells #[.int .i64 x_4.fDo, .int .i64 x_4.fN, .int .i64 x_4.fX.fToken, .int .i8 x_4.fX.fKind, S x_4.fX.fPhys, S x_4.fX.fType, .slice A_6 x_4.fX.fProps.length cap_6] 33 (0, 0))) :: (Ent.obj bm_1 (mapO (Value.int .i64) (fun x : TD0 => Value.agg #[.bool x.fEnded, .bool x.fOk, S x.fPhys]) s_1.2.1)) :: H) w_15) ?_ ?_
        ·refine R_reg (Y f 2 fun _ f => ?_)
         rcases cE hj_2 with ⟨h_11, hF_20⟩ | ⟨h_11, hF_21⟩
         ·have f := f.st 63 (cB h_11)
          refine Y f 13 fun _ f => eT ?_
          exact ⟨(true), (sI hF_20).symm, M_5, (mR _), f.kp, p_29⟩
         ·have f := f.st 63 (cB h_11)
          refine Y f 1 fun _ f => Z f (Y34 (v := .bool x_6.2.1.fEnded) rfl (ad := ⟨b_3, 0, none⟩) (p_29.ownCell 1 rfl 0)) fun _ f => Y f 3 fun _ f => ?_
          rcases cE hF_21 with ⟨h_12, hF_22⟩ | ⟨h_12, hF_23⟩
          ·have k_12 : (x_6.2.1.fEnded) = false := by simpa using h_12
           have f := f.st 68 (cB h_12)
           refine Y f 8 fun _ f => eT ?_
           exact ⟨(true), (sI hF_22).symm, M_5, (mR _), f.kp, p_29⟩
          ·have k_13 : (x_6.2.1.fEnded) = true := by simpa using h_12
           have f := f.st 68 (cB h_12)
           refine Y f 1 fun _ f => Z f (Y34 (v := .int .i64 x_4.fDo) rfl (ad := ⟨b_2, 0, none⟩) (p_29.ownCell 6 rfl 0)) fun _ f => Y f 2 fun _ f => ?_
           rcases cE hF_23 with ⟨h_13, hF_24⟩ | ⟨h_13, hF_25⟩
           ·have k_14 := dI.1 h_13
            have f := f.st 72 (cB h_13)
            refine Y f 1 fun _ f => Z f (Y34 (v := .bool x_6.2.1.fOk) rfl (ad := ⟨b_3, 1, none⟩) (p_29.ownCell 1 rfl 1)) fun _ f => Y f 2 fun _ f => eT ?_
            exact ⟨(x_6.2.1.fOk), (sI hF_24).symm, M_5, (mR _), f.kp, p_29⟩
           ·have k_15 := iff_f dI h_13
            have f := f.st 72 (cB h_13)
            refine Y f 4 fun _ f => eT ?_
            exact ⟨(false), (sI hF_25).symm, M_5, (mR _), f.kp, p_29⟩
        ·rintro a_59 w_15 ⟨y_2, hq_2, M_6, hM_6, f, p_30⟩
         subst j_2
         refine T_n (RcF f hF_19 (fun h_14 hF_26 => ?_) fun h_14 hF_27 => ?_)
         ·refine RR (Y f 1 fun _ f => eT (wp_ret (T_r (B_r (B_r (T_r ?_))))))
          have p_47 := p_30.pl [2, 7, 5, 6, 6, 7, 7, 7]
          refine T_r ?_
          obtain rfl := sI hF_26
          exact .inl ⟨rfl, (x_6.2.2.2.1, x_6.2.2.2.2.1, x_6.2.2.2.2.2.1, x_6.2.2.2.2.2.2.2.1, x_6.2.2.2.2.2.2.2.2, x_6.2.2.2.2.2.2.1, s_1.2.1), (sI hn_1).symm, M_6, (((hM_2.trans hM_4).trans hM_5).trans hM_6), A_10, cap_10, A_11, cap_11, cs_5, A_12, cap_12, cs_6, (h_9.mono hM_6), (RepSeq.mono hM_6 _ _ hr_9), (RepSeq.mono hM_6 _ _ hr_10), f.kp, (p_47.dropN 3)⟩
         ·refine wp_skip (T_n (R_reg (Y f 2 fun _ f => Z (v := .agg #[.bool x_6.2.1.fEnded, .bool x_6.2.1.fOk, S x_6.2.1.fPhys]) f (Y35 (cs := [.bool x_6.2.1.fEnded, .bool x_6.2.1.fOk, S x_6.2.1.fPhys]) rfl (ad := ⟨b_3, 0, none⟩) (own_cells (p_30.ownCell 1 rfl) 0 rfl)) fun _ f => ?_)))
          have p_31 := p_30.pl [7]
          refine W_mapput (ek := (Value.int .i64)) (ev := (fun x : TD0 => Value.agg #[.bool x.fEnded, .bool x.fOk, S x.fPhys])) (m := s_1.2.1) (k := x_6.1) (v := (⟨(x_6.2.1.fEnded), (x_6.2.1.fOk), x_6.2.1.fPhys⟩ : TD0)) (kt := 3) (et := 37) f p_31 (by kernel_rfl) (by kernel_rfl) rfl (.inl rfl) (by kernel_rfl) (by kernel_rfl) (by kernel_rfl) (by kernel_rfl) (intKey (by kernel_rfl)) fun w_16 p_32 _ f => W_end rfl (B_n (B_n (T_n (R_reg ?_))))
          obtain ⟨g_2, hF_28⟩ := nS hF_27
          refine Y f 1 fun _ f => ?_
          have f := f.st 80 (congrArg (Value.int .i64) (inR_wrap g_2))
          refine Y f 1 fun _ f => W_end rfl ?_
          have p_55 := p_32.pl [3, 5, 6, 6, 4, 7, 7, 7]
          refine T_n ?_
          obtain rfl := sI hF_28
          exact ⟨⟨m_2, (s_1.1 + 1, mput s_1.2.1 x_6.1 (⟨(x_6.2.1.fEnded), (x_6.2.1.fOk), x_6.2.1.fPhys⟩ : TD0), x_6.2.2.2.1, x_6.2.2.2.2.1, x_6.2.2.2.2.2.1, x_6.2.2.2.2.2.2.2.1, x_6.2.2.2.2.2.2.2.2, x_6.2.2.2.2.2.2.1), A_10, cap_10, A_11, cap_11, cs_5, A_12, cap_12, cs_6⟩, Nat.lt_succ_self _, M_6, (((hM_2.trans hM_4).trans hM_5).trans hM_6), ⟨hn_1, (h_9.mono hM_6), (RepSeq.mono hM_6 _ _ hr_9), (RepSeq.mono hM_6 _ _ hr_10)⟩, f.kp, (p_55.dropN 3)⟩
       ·have k_18 := iff_f dI h_10
        refine wp_skip (B_n (B_n (T_n (R_reg ?_))))
        obtain ⟨g_3, hF_30⟩ := nS hF_29
        refine Y f 1 fun _ f => ?_
        have f := f.st 80 (congrArg (Value.int .i64) (inR_wrap g_3))
        refine Y f 1 fun _ f => W_end rfl ?_
        have p_62 := p_27.pl [1, 3, 4, 4, 6, 6, 6]
        refine T_n ?_
        obtain rfl := sI hF_30
        exact ⟨⟨m_2, (s_1.1 + 1, s_1.2.1, x_6.2.2.2.1, x_6.2.2.2.2.1, x_6.2.2.2.2.2.1, x_6.2.2.2.2.2.2.2.1, x_6.2.2.2.2.2.2.2.2, x_6.2.2.2.2.2.2.1), A_10, cap_10, A_11, cap_11, cs_5, A_12, cap_12, cs_6⟩, Nat.lt_succ_self _, M_5, ((hM_2.trans hM_4).trans hM_5), ⟨hn_1, h_9, hr_9, hr_10⟩, f.kp, (p_62.dropN 2)⟩
      ·refine wp_skip (B_n (B_n (T_n (R_reg ?_))))
       obtain ⟨g_4, hF_32⟩ := nS hF_31
       refine Y f 1 fun _ f => ?_
       have f := f.st 80 (congrArg (Value.int .i64) (inR_wrap g_4))
       refine Y f 1 fun _ f => eT ?_
       obtain rfl := sI hF_32
       exact ⟨⟨m_2, (s_1.1 + 1, s_1.2.1, s_1.2.2.1, s_1.2.2.2.1, s_1.2.2.2.2.1, s_1.2.2.2.2.2.1, s_1.2.2.2.2.2.2.1, s_1.2.2.2.2.2.2.2), A_3, cap_3, A_4, cap_4, cs_1, A_5, cap_5, cs_2⟩, Nat.lt_succ_self _, M_4, (hM_2.trans hM_4), ⟨hn_1, (h_2.mono hM_4), (RepSeq.mono hM_4 _ _ hr_3), (RepSeq.mono hM_4 _ _ hr_4)⟩, f.kp, (p_20.dropN 1)⟩
   ·have k_20 := iff_f dI h_3
    refine wp_exit (T_x ?_)
    have p_67 := p_12.pl [4, 4, 2, 4, 4]
    refine T_x ?_
    obtain rfl := sI hF_33
    exact .inr ⟨rfl, (s_1.2.2.1, s_1.2.2.2.1, s_1.2.2.2.2.1, s_1.2.2.2.2.2.1, s_1.2.2.2.2.2.2.1, s_1.2.1, s_1.2.2.2.2.2.2.2), (sI hn_1).symm, M_2, hM_2, A_3, cap_3, A_4, cap_4, cs_1, A_5, cap_5, cs_2, h_2, hr_3, hr_4, f.kp, p_67⟩
  ·rintro _ _ w_19 (⟨rfl, y_3, rfl, M_7, hM_7, A_13, cap_13, A_14, cap_14, cs_7, A_15, cap_15, cs_8, h_15, hr_11, hr_12, f, p_33⟩ | ⟨rfl, y_4, rfl, M_8, hM_8, A_16, cap_16, A_17, cap_17, cs_9, A_18, cap_18, cs_10, h_16, hr_13, hr_14, f, p_34⟩)
   ·refine B_r (T_r (E_ret1 f rfl (by kernel_rfl : Vc.look _ 2 = some (.bool false)) ?_))
    obtain rfl := sI hF_6
    exact ⟨_, rfl, M_7, (hM_1.trans hM_7), (p_33.dropN 5), rfl⟩
   ·refine B_x (T_n (RR (W_newmap (Value.int .i64) Value.bool f p_34 (by kernel_rfl) (by kernel_rfl) rfl rfl rfl fun bm_2 w_20 p_68 _ f => Y f 1 fun _ f => eT (R_seq (RR (Y f 1 fun _ f => ?_))))))
    obtain ⟨x_7, hx_7, hF_34⟩ := bS hF_6
    have p_73 := p_68.pl [2, 4, 3, 5]
    refine Y17 (E := [Ent.obj nb_1 (.cells #[.slice A_16 y_4.1.length cap_16, .int .i64 y_4.2.1, .slice A_17 y_4.2.2.1.length cap_17, .map (some nb_1m0), .slice A_18 y_4.2.2.2.1.length cap_18, .int .i64 y_4.2.2.2.2.1] 64 (0, 0)), Ent.row 31 5 (.slice A_17 y_4.2.2.1.length cap_17) y_4.2.2.1.length cs_9, Ent.obj nb_1m0 (mapO (Value.int .i64) (fun x : TD0 => Value.agg #[.bool x.fEnded, .bool x.fOk, S x.fPhys]) y_4.2.2.2.2.2.2), Ent.row 31 5 (.slice A_18 y_4.2.2.2.1.length cap_18) y_4.2.2.2.1.length cs_10]) (H := ((Ent.obj bm_2 (mapO (Value.int .i64) Value.bool ([] : List (Int × Bool)))) :: (Ent.obj bm_1 (mapO (Value.int .i64) (fun x : TD0 => Value.agg #[.bool x.fEnded, .bool x.fOk, S x.fPhys]) y_4.2.2.2.2.2.1)) :: H)) f p_73 (cloud_Cloud_Flight_ok n _ (GL.mono (hM_1.trans hM_8) hG) nb_1 y_4.1 A_16 cap_16 h_16 y_4.2.1 y_4.2.2.1 A_17 cap_17 cs_9 hr_13 nb_1m0 y_4.2.2.2.2.2.2 y_4.2.2.2.1 A_18 cap_18 cs_10 hr_14 y_4.2.2.2.2.1 x_7 hx_7) fun _ M_9 E_4 w_21 hM_9 p_69 q_4 _ f => ?_
    obtain ⟨A_19, cap_19, cs_11, A_20, cap_20, A_21, cap_21, cs_12, A_22, cap_22, cs_13, rfl, rfl, hr_15, h_17, hr_16, hr_17⟩ := q_4
    refine Y f 2 fun _ f => eT (wp_block ?_)
    have p_80 := p_69.pl [6, 5, 5, 5, 5, 5, 6]
    obtain ⟨b_5, hL_2, hF_35⟩ := bS hF_34
    refine wp_mono (Q := fun e a w => (e = .exit 3 ∧ (∃ y_5 : (List (Int × Bool)), b_5 = y_5 ∧ ∃ M_11 : Mem, M_9.le M_11 ∧ Frm 147 [(3, .pointer (some (⟨nb_1, 0, none⟩))), (4, .map (some bm_1)), (12, .map (some bm_2))] a ∧ Hp w0 M_11 ((Ent.obj bm_2 (mapO (Value.int .i64) Value.bool y_5)) :: (Ent.row 3 1 (.slice A_19 x_7.1.length cap_19) x_7.1.length cs_11) :: (Ent.obj nb_1 (.cells #[.slice A_20 x_7.2.1.length cap_20, .int .i64 x_7.2.2.1, .slice A_21 x_7.2.2.2.1.length cap_21, .map (some nb_1m0), .slice A_22 x_7.2.2.2.2.2.1.length cap_22, .int .i64 x_7.2.2.2.2.2.2] 64 (0, 0))) :: (Ent.row 31 5 (.slice A_21 x_7.2.2.2.1.length cap_21) x_7.2.2.2.1.length cs_12) :: (Ent.obj nb_1m0 (mapO (Value.int .i64) (fun x : TD0 => Value.agg #[.bool x.fEnded, .bool x.fOk, S x.fPhys]) x_7.2.2.2.2.1)) :: (Ent.row 31 5 (.slice A_22 x_7.2.2.2.2.2.1.length cap_22) x_7.2.2.2.2.2.1.length cs_13) :: (Ent.obj bm_1 (mapO (Value.int .i64) (fun x : TD0 => Value.agg #[.bool x.fEnded, .bool x.fOk, S x.fPhys]) y_4.2.2.2.2.2.1)) :: H) w))) (R_loop (n := 147) (w0 := w0) (M := M_9) (fun (x : Nat × (Int × (List (Int × Bool)))) => match x with | (m_3, s_2) => [(3, .pointer (some (⟨nb_1, 0, none⟩))), (4, .map (some bm_1)), (12, .map (some bm_2)), (83, .slice A_19 x_7.1.length cap_19), (84, .int .i64 ((x_7.1.length : Nat) : Int)), (85, .int .i64 s_2.1)]) (fun (x : Nat × (Int × (List (Int × Bool)))) => match x with | (m_3, s_2) => ((Ent.obj bm_2 (mapO (Value.int .i64) Value.bool s_2.2)) :: (Ent.row 3 1 (.slice A_19 x_7.1.length cap_19) x_7.1.length cs_11) :: (Ent.obj nb_1 (.cells #[.slice A_20 x_7.2.1.length cap_20, .int .i64 x_7.2.2.1, .slice A_21 x_7.2.2.2.1.length cap_21, .map (some nb_1m0), .slice A_22 x_7.2.2.2.2.2.1.length cap_22, .int .i64 x_7.2.2.2.2.2.2] 64 (0, 0))) :: (Ent.row 31 5 (.slice A_21 x_7.2.2.2.1.length cap_21) x_7.2.2.2.1.length cs_12) :: (Ent.obj nb_1m0 (mapO (Value.int .i64) (fun x : TD0 => Value.agg #[.bool x.fEnded, .bool x.fOk, S x.fPhys]) x_7.2.2.2.2.1)) :: (Ent.row 31 5 (.slice A_22 x_7.2.2.2.2.2.1.length cap_22) x_7.2.2.2.2.2.1.length cs_13) :: (Ent.obj bm_1 (mapO (Value.int .i64) (fun x : TD0 => Value.agg #[.bool x.fEnded, .bool x.fOk, S x.fPhys]) y_4.2.2.2.2.2.1)) :: H)) (fun (x : Nat × (Int × (List (Int × Bool)))) (MM : Mem) => match x with | (m_3, s_2) => loopF (law11_CloudAnswers_s2 n x_7) m_3 s_2 = some b_5) (fun (x : Nat × (Int × (List (Int × Bool)))) => match x with | (m_3, s_2) => m_3) (n, ((0 : Int), ([] : List (Int × Bool)))) (f.kp) p_80 hL_2 ?_) ?_
    ·rintro ⟨m_3, s_2⟩ M_10 _ w_22 hM_10 I_2 f p_81
     have I_2L := I_2
     obtain ⟨m_4, r_2, rfl, hs_2, hn_2⟩ := loop_step I_2L
     unfold law11_CloudAnswers_s2 at hs_2
     refine RR (Y f 1 fun _ f => eT (R_seq (RcF f hs_2 (fun h_18 hF_36 => ?_) fun h_18 hF_39 => ?_)))
     ·have k_21 := dI.1 h_18
      refine wp_skip (T_n (R_seq (wp_block (RR ?_))))
      obtain ⟨x_8, hx_8, hF_37⟩ := bS hF_36
      obtain ⟨b_6, cap_23, hv_3, hcap_1⟩ := p_81.rowAddr 1 rfl (getI_pos hx_8)
      have f := f.st 83 (hv_3)
      refine Z f (Y32 rfl (ad := ⟨b_6, 0, none⟩) (len := x_7.1.length) (cap := cap_23) (k := .i64) (i := s_2.1) (e := 3) (sz := 1) (getI_nn hx_8) (getI_lt hx_8)) fun _ f => ?_
      have f := f.st 83 (hv_3.symm)
      obtain ⟨c_3, -, hr_18, hc_2⟩ := RepSeq.get s_2.1.toNat (szd_all (szd_int .i64)) (RepSeq.mono hM_10 _ _ hr_15) (getI_map hx_8)
      obtain rfl : c_3 = [.int .i64 x_8] := hr_18
      refine Z f (Y34 (v := .int .i64 x_8) rfl (ad := (⟨b_6, 0, none⟩ : Addr).add (s_2.1.toNat * 1)) (by simpa [Addr.add] using (fun j v h => row_at (p_81.rowCell 1 rfl hv_3) hc_2 j v h) 0 _ rfl)) fun _ f => Y f 1 fun _ f => eT (R_reg (Y f 2 fun _ f => W_mapput (ek := (Value.int .i64)) (ev := Value.bool) (m := s_2.2) (k := x_8) (v := (true)) (kt := 3) (et := 4) f p_81 (by kernel_rfl) (by kernel_rfl) rfl (.inl rfl) (by kernel_rfl) (by kernel_rfl) (by kernel_rfl) (by kernel_rfl) (intKey (by kernel_rfl)) fun w_23 p_82 _ f => W_end rfl (B_n (T_n (R_reg ?_)))))
      obtain ⟨g_5, hF_38⟩ := nS hF_37
      refine Y f 1 fun _ f => ?_
      have f := f.st 91 (congrArg (Value.int .i64) (inR_wrap g_5))
      refine Y f 1 fun _ f => eT ?_
      obtain rfl := sI hF_38
      exact ⟨⟨m_4, (s_2.1 + 1, mput s_2.2 x_8 (true))⟩, Nat.lt_succ_self _, M_10, hM_10, hn_2, f.kp, p_82⟩
     ·have k_22 := iff_f dI h_18
      refine wp_exit (T_x (T_x ?_))
      obtain rfl := sI hF_39
      exact ⟨rfl, s_2.2, (sI hn_2).symm, M_10, hM_10, f.kp, p_81⟩
    ·rintro _ _ w_25 ⟨rfl, y_5, hq_, M_11, hM_11, f, p_83⟩
     subst b_5
     refine B_x (T_n (R_seq (RR (Y f 1 fun _ f => ?_))))
     obtain ⟨x_9, hx_9, hF_40⟩ := bS hF_35
     have p_88 := p_83.pl [5, 5, 5, 5]
     refine Y17 (E := [Ent.obj nb_1 (.cells #[.slice A_20 x_7.2.1.length cap_20, .int .i64 x_7.2.2.1, .slice A_21 x_7.2.2.2.1.length cap_21, .map (some nb_1m0), .slice A_22 x_7.2.2.2.2.2.1.length cap_22, .int .i64 x_7.2.2.2.2.2.2] 64 (0, 0)), Ent.row 31 5 (.slice A_21 x_7.2.2.2.1.length cap_21) x_7.2.2.2.1.length cs_12, Ent.obj nb_1m0 (mapO (Value.int .i64) (fun x : TD0 => Value.agg #[.bool x.fEnded, .bool x.fOk, S x.fPhys]) x_7.2.2.2.2.1), Ent.row 31 5 (.slice A_22 x_7.2.2.2.2.2.1.length cap_22) x_7.2.2.2.2.2.1.length cs_13]) (H := ((Ent.obj bm_2 (mapO (Value.int .i64) Value.bool y_5)) :: (Ent.row 3 1 (.slice A_19 x_7.1.length cap_19) x_7.1.length cs_11) :: (Ent.obj bm_1 (mapO (Value.int .i64) (fun x : TD0 => Value.agg #[.bool x.fEnded, .bool x.fOk, S x.fPhys]) y_4.2.2.2.2.2.1)) :: H)) f p_88 (cloud_Cloud_Calls_ok n _ (GL.mono (((hM_1.trans hM_8).trans hM_9).trans hM_11) hG) nb_1 x_7.2.1 A_20 cap_20 (h_17.mono hM_11) x_7.2.2.1 x_7.2.2.2.1 A_21 cap_21 cs_12 (RepSeq.mono hM_11 _ _ hr_16) nb_1m0 x_7.2.2.2.2.1 x_7.2.2.2.2.2.1 A_22 cap_22 cs_13 (RepSeq.mono hM_11 _ _ hr_17) x_7.2.2.2.2.2.2 x_9 hx_9) fun _ M_12 E_5 w_26 hM_12 p_84 q_5 _ f => ?_
     obtain ⟨A_23, cap_24, cs_14, A_24, cap_25, A_25, cap_26, cs_15, A_26, cap_27, cs_16, rfl, rfl, hr_19, h_19, hr_20, hr_21⟩ := q_5
     refine Y f 2 fun _ f => eT (wp_block ?_)
     have p_96 := p_84.pl [7, 7, 7, 4, 4, 6, 7, 7]
     obtain ⟨b_7, hL_3, hF_41⟩ := bS hF_40
     refine wp_mono (Q := fun e a w => (e = .ret ∧ (∃ y_6 : List TE0 × Int × List TI0 × List TI0 × Int × (List (Int × TD0)), b_7 = .inl y_6 ∧ ∃ M_15 : Mem, M_12.le M_15 ∧ ∃ (A_34 : Option Addr), ∃ (cap_36 : Nat), ∃ (A_35 : Option Addr), ∃ (cap_37 : Nat), ∃ (cs_21 : List Value), ∃ (A_36 : Option Addr), ∃ (cap_38 : Nat), ∃ (cs_22 : List Value), Sli M_15 3 emb_TE0 A_34 cap_36 y_6.1 ∧ RepSeq M_15 (y_6.2.2.1.map emb_TI0) cs_21 ∧ RepSeq M_15 (y_6.2.2.2.1.map emb_TI0) cs_22 ∧ Frm 147 [(2, .bool false)] a ∧ Hp w0 M_15 ((Ent.row 31 5 (.slice A_35 y_6.2.2.1.length cap_37) y_6.2.2.1.length cs_21) :: (Ent.row 31 5 (.slice A_36 y_6.2.2.2.1.length cap_38) y_6.2.2.2.1.length cs_22) :: (Ent.obj nb_1m0 (mapO (Value.int .i64) (fun x : TD0 => Value.agg #[.bool x.fEnded, .bool x.fOk, S x.fPhys]) y_6.2.2.2.2.2)) :: (Ent.obj nb_1 (.cells #[.slice A_34 y_6.1.length cap_36, .int .i64 y_6.2.1, .slice A_35 y_6.2.2.1.length cap_37, .map (some nb_1m0), .slice A_36 y_6.2.2.2.1.length cap_38, .int .i64 y_6.2.2.2.2.1] 64 (0, 0))) :: (Ent.row 31 5 (.slice A_23 x_9.1.length cap_24) x_9.1.length cs_14) :: (Ent.obj bm_2 (mapO (Value.int .i64) Value.bool y_5)) :: (Ent.row 3 1 (.slice A_19 x_7.1.length cap_19) x_7.1.length cs_11) :: (Ent.obj bm_1 (mapO (Value.int .i64) (fun x : TD0 => Value.agg #[.bool x.fEnded, .bool x.fOk, S x.fPhys]) y_4.2.2.2.2.2.1)) :: H) w)) ∨ (e = .exit 5 ∧ (∃ y_7 : List TE0 × Int × List TI0 × List TI0 × Int × (List (Int × TD0)), b_7 = .inr y_7 ∧ ∃ M_16 : Mem, M_12.le M_16 ∧ ∃ (A_37 : Option Addr), ∃ (cap_39 : Nat), ∃ (A_38 : Option Addr), ∃ (cap_40 : Nat), ∃ (cs_23 : List Value), ∃ (A_39 : Option Addr), ∃ (cap_41 : Nat), ∃ (cs_24 : List Value), Sli M_16 3 emb_TE0 A_37 cap_39 y_7.1 ∧ RepSeq M_16 (y_7.2.2.1.map emb_TI0) cs_23 ∧ RepSeq M_16 (y_7.2.2.2.1.map emb_TI0) cs_24 ∧ Frm 147 [(3, .pointer (some (⟨nb_1, 0, none⟩))), (4, .map (some bm_1)), (12, .map (some bm_2))] a ∧ Hp w0 M_16 ((Ent.row 31 5 (.slice A_38 y_7.2.2.1.length cap_40) y_7.2.2.1.length cs_23) :: (Ent.row 31 5 (.slice A_39 y_7.2.2.2.1.length cap_41) y_7.2.2.2.1.length cs_24) :: (Ent.obj nb_1m0 (mapO (Value.int .i64) (fun x : TD0 => Value.agg #[.bool x.fEnded, .bool x.fOk, S x.fPhys]) y_7.2.2.2.2.2)) :: (Ent.row 31 5 (.slice A_23 x_9.1.length cap_24) x_9.1.length cs_14) :: (Ent.obj nb_1 (.cells #[.slice A_37 y_7.1.length cap_39, .int .i64 y_7.2.1, .slice A_38 y_7.2.2.1.length cap_40, .map (some nb_1m0), .slice A_39 y_7.2.2.2.1.length cap_41, .int .i64 y_7.2.2.2.2.1] 64 (0, 0))) :: (Ent.obj bm_2 (mapO (Value.int .i64) Value.bool y_5)) :: (Ent.row 3 1 (.slice A_19 x_7.1.length cap_19) x_7.1.length cs_11) :: (Ent.obj bm_1 (mapO (Value.int .i64) (fun x : TD0 => Value.agg #[.bool x.fEnded, .bool x.fOk, S x.fPhys]) y_4.2.2.2.2.2.1)) :: H) w))) (R_loop (n := 147) (w0 := w0) (M := M_12) (fun (x : Nat × (Int × List TE0 × Int × List TI0 × List TI0 × Int × (List (Int × TD0))) × (Option Addr) × Nat × (Option Addr) × Nat × (List Value) × (Option Addr) × Nat × (List Value)) => match x with | (m_5, s_3, A_27, cap_28, A_28, cap_29, cs_17, A_29, cap_30, cs_18) => [(3, .pointer (some (⟨nb_1, 0, none⟩))), (4, .map (some bm_1)), (12, .map (some bm_2)), (93, .slice A_23 x_9.1.length cap_24), (94, .int .i64 ((x_9.1.length : Nat) : Int)), (95, .int .i64 s_3.1)]) (fun (x : Nat × (Int × List TE0 × Int × List TI0 × List TI0 × Int × (List (Int × TD0))) × (Option Addr) × Nat × (Option Addr) × Nat × (List Value) × (Option Addr) × Nat × (List Value)) => match x with | (m_5, s_3, A_27, cap_28, A_28, cap_29, cs_17, A_29, cap_30, cs_18) => ((Ent.row 31 5 (.slice A_28 s_3.2.2.2.1.length cap_29) s_3.2.2.2.1.length cs_17) :: (Ent.row 31 5 (.slice A_29 s_3.2.2.2.2.1.length cap_30) s_3.2.2.2.2.1.length cs_18) :: (Ent.obj nb_1m0 (mapO (Value.int .i64) (fun x : TD0 => Value.agg #[.bool x.fEnded, .bool x.fOk, S x.fPhys]) s_3.2.2.2.2.2.2)) :: (Ent.row 31 5 (.slice A_23 x_9.1.length cap_24) x_9.1.length cs_14) :: (Ent.obj nb_1 (.cells #[.slice A_27 s_3.2.1.length cap_28, .int .i64 s_3.2.2.1, .slice A_28 s_3.2.2.2.1.length cap_29, .map (some nb_1m0), .slice A_29 s_3.2.2.2.2.1.length cap_30, .int .i64 s_3.2.2.2.2.2.1] 64 (0, 0))) :: (Ent.obj bm_2 (mapO (Value.int .i64) Value.bool y_5)) :: (Ent.row 3 1 (.slice A_19 x_7.1.length cap_19) x_7.1.length cs_11) :: (Ent.obj bm_1 (mapO (Value.int .i64) (fun x : TD0 => Value.agg #[.bool x.fEnded, .bool x.fOk, S x.fPhys]) y_4.2.2.2.2.2.1)) :: H)) (fun (x : Nat × (Int × List TE0 × Int × List TI0 × List TI0 × Int × (List (Int × TD0))) × (Option Addr) × Nat × (Option Addr) × Nat × (List Value) × (Option Addr) × Nat × (List Value)) (MM : Mem) => match x with | (m_5, s_3, A_27, cap_28, A_28, cap_29, cs_17, A_29, cap_30, cs_18) => loopF (law11_CloudAnswers_s3 n y_4 y_5 x_9) m_5 s_3 = some b_7 ∧ Sli MM 3 emb_TE0 A_27 cap_28 s_3.2.1 ∧ RepSeq MM (s_3.2.2.2.1.map emb_TI0) cs_17 ∧ RepSeq MM (s_3.2.2.2.2.1.map emb_TI0) cs_18) (fun (x : Nat × (Int × List TE0 × Int × List TI0 × List TI0 × Int × (List (Int × TD0))) × (Option Addr) × Nat × (Option Addr) × Nat × (List Value) × (Option Addr) × Nat × (List Value)) => match x with | (m_5, s_3, A_27, cap_28, A_28, cap_29, cs_17, A_29, cap_30, cs_18) => m_5) (n, ((0 : Int), x_9.2.1, x_9.2.2.1, x_9.2.2.2.1, x_9.2.2.2.2.2.1, x_9.2.2.2.2.2.2, x_9.2.2.2.2.1), A_24, cap_25, A_25, cap_26, cs_15, A_26, cap_27, cs_16) (f.kp) p_96 ⟨hL_3, h_19, hr_20, hr_21⟩ ?_) ?_
     ·rintro ⟨m_5, s_3, A_27, cap_28, A_28, cap_29, cs_17, A_29, cap_30, cs_18⟩ M_13 _ w_27 hM_13 I_3 f p_97
      obtain ⟨I_3L, h_20, hr_22, hr_23⟩ := I_3
      obtain ⟨m_6, r_3, rfl, hs_3, hn_3⟩ := loop_step I_3L
      unfold law11_CloudAnswers_s3 at hs_3
      refine RR (Y f 1 fun _ f => eT (R_seq (RcF f hs_3 (fun h_21 hF_42 => ?_) fun h_21 hF_54 => ?_)))
      ·have k_23 := dI.1 h_21
       refine wp_skip (T_n (R_seq (wp_block (RR ?_))))
       obtain ⟨x_10, hx_10, hF_43⟩ := bS hF_42
       obtain ⟨b_8, cap_31, hv_4, hcap_2⟩ := p_97.rowAddr 3 rfl (getI_pos hx_10)
       have f := f.st 93 (hv_4)
       refine Z f (Y32 rfl (ad := ⟨b_8, 0, none⟩) (len := x_9.1.length) (cap := cap_31) (k := .i64) (i := s_3.1) (e := 31) (sz := 5) (getI_nn hx_10) (getI_lt hx_10)) fun _ f => ?_
       have f := f.st 93 (hv_4.symm)
       obtain ⟨c_4, -, hr_24, hc_3⟩ := RepSeq.get s_3.1.toNat (szd_all szd_TI0) (RepSeq.mono hM_13 _ _ hr_19) (getI_map hx_10)
       obtain ⟨A_30, cap_32, rfl, h_22⟩ := TI0.opn hr_24
       refine Z (v := .agg #[.int .i64 x_10.fToken, .int .i8 x_10.fKind, S x_10.fPhys, S x_10.fType, .slice A_30 x_10.fProps.length cap_32]) f (Y35 (cs := [.int .i64 x_10.fToken, .int .i8 x_10.fKind, S x_10.fPhys, S x_10.fType, .slice A_30 x_10.fProps.length cap_32]) rfl (ad := (⟨b_8, 0, none⟩ : Addr).add (s_3.1.toNat * 5)) (fun j v h => row_at (p_97.rowCell 3 rfl hv_4) hc_3 j v h)) fun _ f => Y12 f p_97 (.cells #[.int .i64 0, .int .i8 0, S [], S [], .slice none 0 0] 31 (0, 0)) fun b_9 w_28 p_98 _ f => Y28 (vs := [.int .i64 x_10.fToken, .int .i8 x_10.fKind, S x_10.fPhys, S x_10.fType, .slice A_30 x_10.fProps.length cap_32]) (j := 0) f p_98 rfl rfl (by simp [Value.oneCell', S]) (by simp) (by decide) (cs' := #[.int .i64 x_10.fToken, .int .i8 x_10.fKind, S x_10.fPhys, S x_10.fType, .slice A_30 x_10.fProps.length cap_32]) (by kernel_rfl) fun w_29 p_99 _ f => eT (RR (Y f 2 fun _ f => Z f (Y34 (v := .int .i64 x_10.fToken) rfl (ad := ⟨b_9, 0, none⟩) (p_99.ownCell 0 rfl 0)) fun _ f => ?_))
       obtain ⟨x_11, hx_11, hF_44⟩ := bS hF_43
       have p_104 := p_99.pl [2, 3, 3, 5]
       refine Y17 (E := [Ent.obj nb_1 (.cells #[.slice A_27 s_3.2.1.length cap_28, .int .i64 s_3.2.2.1, .slice A_28 s_3.2.2.2.1.length cap_29, .map (some nb_1m0), .slice A_29 s_3.2.2.2.2.1.length cap_30, .int .i64 s_3.2.2.2.2.2.1] 64 (0, 0)), Ent.row 31 5 (.slice A_28 s_3.2.2.2.1.length cap_29) s_3.2.2.2.1.length cs_17, Ent.obj nb_1m0 (mapO (Value.int .i64) (fun x : TD0 => Value.agg #[.bool x.fEnded, .bool x.fOk, S x.fPhys]) s_3.2.2.2.2.2.2), Ent.row 31 5 (.slice A_29 s_3.2.2.2.2.1.length cap_30) s_3.2.2.2.2.1.length cs_18]) (H := ((Ent.obj b_9 (.cells #[.int .i64 x_10.fToken, .int .i8 x_10.fKind, S x_10.fPhys, S x_10.fType, .slice A_30 x_10.fProps.length cap_32] 31 (0, 0))) :: (Ent.row 31 5 (.slice A_23 x_9.1.length cap_24) x_9.1.length cs_14) :: (Ent.obj bm_2 (mapO (Value.int .i64) Value.bool y_5)) :: (Ent.row 3 1 (.slice A_19 x_7.1.length cap_19) x_7.1.length cs_11) :: (Ent.obj bm_1 (mapO (Value.int .i64) (fun x : TD0 => Value.agg #[.bool x.fEnded, .bool x.fOk, S x.fPhys]) y_4.2.2.2.2.2.1)) :: H)) f p_104 (cloud_Cloud_Ask_ok n _ (GL.mono (((((hM_1.trans hM_8).trans hM_9).trans hM_11).trans hM_12).trans hM_13) hG) nb_1 s_3.2.1 A_27 cap_28 h_20 s_3.2.2.1 s_3.2.2.2.1 A_28 cap_29 cs_17 hr_22 nb_1m0 s_3.2.2.2.2.2.2 s_3.2.2.2.2.1 A_29 cap_30 cs_18 hr_23 s_3.2.2.2.2.2.1 x_10.fToken x_11 hx_11) fun _ M_14 E_6 w_30 hM_14 p_100 q_6 _ f => ?_
       obtain ⟨c_5, A_31, cap_33, A_32, cap_34, cs_19, A_33, cap_35, cs_20, rfl, rfl, hr_25, h_23, hr_26, hr_27⟩ := q_6
       obtain rfl := TD0.opn hr_25
       refine Y f 3 fun _ f => Y12 f p_100 (.cells #[.bool false, .bool false, S []] 37 (0, 0)) fun b_10 w_31 p_105 _ f => Y28 (vs := [.bool x_11.1.fEnded, .bool x_11.1.fOk, S x_11.1.fPhys]) (j := 0) f p_105 rfl rfl (by simp [Value.oneCell', S]) (by simp) (by decide) (cs' := #[.bool x_11.1.fEnded, .bool x_11.1.fOk, S x_11.1.fPhys]) (by kernel_rfl) fun w_32 p_106 _ f => Y f 1 fun _ f => eT (RR (Y f 2 fun _ f => Z f (Y34 (v := .int .i64 x_10.fToken) rfl (ad := ⟨b_9, 0, none⟩) (p_106.ownCell 5 rfl 0)) fun _ f => Z (v := .tuple #[.agg #[.bool ((mget y_4.2.2.2.2.2.1 x_10.fToken).getD z_TD0).fEnded, .bool ((mget y_4.2.2.2.2.2.1 x_10.fToken).getD z_TD0).fOk, S ((mget y_4.2.2.2.2.2.1 x_10.fToken).getD z_TD0).fPhys], .bool (mget y_4.2.2.2.2.2.1 x_10.fToken).isSome]) f (Y36 (ek := (Value.int .i64)) (ev := (fun x : TD0 => Value.agg #[.bool x.fEnded, .bool x.fOk, S x.fPhys])) (m := y_4.2.2.2.2.2.1) (k := x_10.fToken) (z := z_TD0) (kt := 3) (et := 37) rfl (intKey (by kernel_rfl)) (p_106.ownObj 9 rfl)) fun _ f => Y f 3 fun _ f => Y12 f p_106 (.cells #[.bool false, .bool false, S []] 37 (0, 0)) fun b_11 w_33 p_107 _ f => Y28 (vs := [.bool ((mget y_4.2.2.2.2.2.1 x_10.fToken).getD z_TD0).fEnded, .bool ((mget y_4.2.2.2.2.2.1 x_10.fToken).getD z_TD0).fOk, S ((mget y_4.2.2.2.2.2.1 x_10.fToken).getD z_TD0).fPhys]) (j := 0) f p_107 rfl rfl (by simp [Value.oneCell', S]) (by simp) (by decide) (cs' := #[.bool ((mget y_4.2.2.2.2.2.1 x_10.fToken).getD z_TD0).fEnded, .bool ((mget y_4.2.2.2.2.2.1 x_10.fToken).getD z_TD0).fOk, S ((mget y_4.2.2.2.2.2.1 x_10.fToken).getD z_TD0).fPhys]) (by kernel_rfl) fun w_34 p_108 _ f => ?_))
       refine Y f 1 fun _ f => eT (RR (Y f 3 fun _ f => ?_))
       rcases cE hF_44 with ⟨h_24, hF_45⟩ | ⟨h_24, hF_46⟩
       ·have k_24 : (x_11.2.1) = false := by simpa using h_24
        have f := f.st 115 (cB h_24)
        refine Y f 18 fun _ f => eT (Y8 f (RR (Y f 1 fun _ f => eT (wp_ret (B_r (T_r ?_))))))
        have p_121 := p_108.pl [10, 10, 10, 10, 6, 8, 9, 9, 10, 10, 10]
        refine T_r ?_
        obtain rfl := sI hF_45
        exact .inl ⟨rfl, (x_11.2.2.1, x_11.2.2.2.1, x_11.2.2.2.2.1, x_11.2.2.2.2.2.2.1, x_11.2.2.2.2.2.2.2, x_11.2.2.2.2.2.1), (sI hn_3).symm, M_14, (hM_13.trans hM_14), A_31, cap_33, A_32, cap_34, cs_19, A_33, cap_35, cs_20, h_23, hr_26, hr_27, f.kp, (p_121.dropN 3)⟩
       ·have k_25 : (x_11.2.1) = true := by simpa using h_24
        have f := f.st 115 (cB h_24)
        refine Z (v := .agg #[.bool x_11.1.fEnded, .bool x_11.1.fOk, S x_11.1.fPhys]) f (Y35 (cs := [.bool x_11.1.fEnded, .bool x_11.1.fOk, S x_11.1.fPhys]) rfl (ad := ⟨b_10, 0, none⟩) (own_cells (p_108.ownCell 1 rfl) 0 rfl)) fun _ f => Z (v := .agg #[.bool ((mget y_4.2.2.2.2.2.1 x_10.fToken).getD z_TD0).fEnded, .bool ((mget y_4.2.2.2.2.2.1 x_10.fToken).getD z_TD0).fOk, S ((mget y_4.2.2.2.2.2.1 x_10.fToken).getD z_TD0).fPhys]) f (Y35 (cs := [.bool ((mget y_4.2.2.2.2.2.1 x_10.fToken).getD z_TD0).fEnded, .bool ((mget y_4.2.2.2.2.2.1 x_10.fToken).getD z_TD0).fOk, S ((mget y_4.2.2.2.2.2.1 x_10.fToken).getD z_TD0).fPhys]) rfl (ad := ⟨b_11, 0, none⟩) (own_cells (p_108.ownCell 0 rfl) 0 rfl)) fun _ f => Z (v := .bool (!(andL [(x_11.1.fEnded == ((mget y_4.2.2.2.2.2.1 x_10.fToken).getD z_TD0).fEnded), (x_11.1.fOk == ((mget y_4.2.2.2.2.2.1 x_10.fToken).getD z_TD0).fOk), decide (x_11.1.fPhys = ((mget y_4.2.2.2.2.2.1 x_10.fToken).getD z_TD0).fPhys)]))) f (Y30 rfl (xs := #[.bool x_11.1.fEnded, .bool x_11.1.fOk, S x_11.1.fPhys]) (ys := #[.bool ((mget y_4.2.2.2.2.2.1 x_10.fToken).getD z_TD0).fEnded, .bool ((mget y_4.2.2.2.2.2.1 x_10.fToken).getD z_TD0).fOk, S ((mget y_4.2.2.2.2.2.1 x_10.fToken).getD z_TD0).fPhys]) (s := [(4, 0), (4, 1), (9, 2)]) (rs := [(x_11.1.fEnded == ((mget y_4.2.2.2.2.2.1 x_10.fToken).getD z_TD0).fEnded), (x_11.1.fOk == ((mget y_4.2.2.2.2.2.1 x_10.fToken).getD z_TD0).fOk), decide (x_11.1.fPhys = ((mget y_4.2.2.2.2.2.1 x_10.fToken).getD z_TD0).fPhys)]) (fun w => ⟨⟨.bool x_11.1.fEnded, .bool ((mget y_4.2.2.2.2.2.1 x_10.fToken).getD z_TD0).fEnded, by kernel_rfl, by kernel_rfl, EqB (by kernel_rfl)⟩, ⟨.bool x_11.1.fOk, .bool ((mget y_4.2.2.2.2.2.1 x_10.fToken).getD z_TD0).fOk, by kernel_rfl, by kernel_rfl, EqB (by kernel_rfl)⟩, ⟨S x_11.1.fPhys, S ((mget y_4.2.2.2.2.2.1 x_10.fToken).getD z_TD0).fPhys, by kernel_rfl, by kernel_rfl, EqS (by kernel_rfl)⟩, trivial⟩) _) fun _ f => Y f 2 fun _ f => ?_
        rcases cE hF_46 with ⟨h_25, hF_47⟩ | ⟨h_25, hF_48⟩
        ·have k_26 : (andL [(x_11.1.fEnded == ((mget y_4.2.2.2.2.2.1 x_10.fToken).getD z_TD0).fEnded), (x_11.1.fOk == ((mget y_4.2.2.2.2.2.1 x_10.fToken).getD z_TD0).fOk), decide (x_11.1.fPhys = ((mget y_4.2.2.2.2.2.1 x_10.fToken).getD z_TD0).fPhys)]) = false := by simpa using h_25
         have f := f.st 120 (cB h_25)
         refine Y f 13 fun _ f => eT (Y8 f (RR (Y f 1 fun _ f => eT (wp_ret (B_r (T_r ?_))))))
         have p_132 := p_108.pl [10, 10, 10, 10, 6, 8, 9, 9, 10, 10, 10]
         refine T_r ?_
         obtain rfl := sI hF_47
         exact .inl ⟨rfl, (x_11.2.2.1, x_11.2.2.2.1, x_11.2.2.2.2.1, x_11.2.2.2.2.2.2.1, x_11.2.2.2.2.2.2.2, x_11.2.2.2.2.2.1), (sI hn_3).symm, M_14, (hM_13.trans hM_14), A_31, cap_33, A_32, cap_34, cs_19, A_33, cap_35, cs_20, h_23, hr_26, hr_27, f.kp, (p_132.dropN 3)⟩
        ·have k_27 : (andL [(x_11.1.fEnded == ((mget y_4.2.2.2.2.2.1 x_10.fToken).getD z_TD0).fEnded), (x_11.1.fOk == ((mget y_4.2.2.2.2.2.1 x_10.fToken).getD z_TD0).fOk), decide (x_11.1.fPhys = ((mget y_4.2.2.2.2.2.1 x_10.fToken).getD z_TD0).fPhys)]) = true := by simpa using h_25
         have f := f.st 120 (cB h_25)
         refine Y f 3 fun _ f => Z f (Y34 (v := .int .i64 x_10.fToken) rfl (ad := ⟨b_9, 0, none⟩) (p_108.ownCell 6 rfl 0)) fun _ f => Z (v := .bool ((mget y_5 x_10.fToken).getD false)) f (X_lookup1 (ek := (Value.int .i64)) (ev := Value.bool) (m := y_5) (k := x_10.fToken) (z := false) (kt := 3) (et := 4) rfl (by kernel_rfl) (by kernel_rfl) (by kernel_rfl) (intKey (by kernel_rfl)) (by kernel_rfl) (p_108.ownObj 8 rfl)) fun _ f => Y f 3 fun _ f => ?_
         rcases cE hF_48 with ⟨h_26, hF_49⟩ | ⟨h_26, hF_50⟩
         ·have f := f.st 128 (cB h_26)
          refine Y f 5 fun _ f => eT (Y8 f (RR (Y f 1 fun _ f => eT (wp_ret (B_r (T_r ?_))))))
          have p_143 := p_108.pl [10, 10, 10, 10, 6, 8, 9, 9, 10, 10, 10]
          refine T_r ?_
          obtain rfl := sI hF_49
          exact .inl ⟨rfl, (x_11.2.2.1, x_11.2.2.2.1, x_11.2.2.2.2.1, x_11.2.2.2.2.2.2.1, x_11.2.2.2.2.2.2.2, x_11.2.2.2.2.2.1), (sI hn_3).symm, M_14, (hM_13.trans hM_14), A_31, cap_33, A_32, cap_34, cs_19, A_33, cap_35, cs_20, h_23, hr_26, hr_27, f.kp, (p_143.dropN 3)⟩
         ·have f := f.st 128 (cB h_26)
          refine Y f 1 fun _ f => Z f (Y34 (v := .bool x_11.1.fEnded) rfl (ad := ⟨b_10, 0, none⟩) (p_108.ownCell 1 rfl 0)) fun _ f => Y f 3 fun _ f => eT (RcF f hF_50 (fun h_27 hF_51 => ?_) fun h_27 hF_52 => ?_)
          ·have k_30 : (x_11.1.fEnded == (mget y_4.2.2.2.2.2.1 x_10.fToken).isSome) = false := by simpa using h_27
           refine RR (Y f 1 fun _ f => eT (wp_ret (B_r (T_r ?_))))
           have p_154 := p_108.pl [10, 10, 10, 10, 6, 8, 9, 9, 10, 10, 10]
           refine T_r ?_
           obtain rfl := sI hF_51
           exact .inl ⟨rfl, (x_11.2.2.1, x_11.2.2.2.1, x_11.2.2.2.2.1, x_11.2.2.2.2.2.2.1, x_11.2.2.2.2.2.2.2, x_11.2.2.2.2.2.1), (sI hn_3).symm, M_14, (hM_13.trans hM_14), A_31, cap_33, A_32, cap_34, cs_19, A_33, cap_35, cs_20, h_23, hr_26, hr_27, f.kp, (p_154.dropN 3)⟩
          ·have k_31 : (x_11.1.fEnded == (mget y_4.2.2.2.2.2.1 x_10.fToken).isSome) = true := by simpa using h_27
           refine wp_skip (B_n (T_n (R_reg ?_)))
           obtain ⟨g_6, hF_53⟩ := nS hF_52
           refine Y f 1 fun _ f => ?_
           have f := f.st 134 (congrArg (Value.int .i64) (inR_wrap g_6))
           refine Y f 1 fun _ f => W_end rfl ?_
           have p_165 := p_108.pl [10, 10, 10, 5, 10, 8, 9, 9, 10, 10, 10]
           refine T_n ?_
           obtain rfl := sI hF_53
           exact ⟨⟨m_6, (s_3.1 + 1, x_11.2.2.1, x_11.2.2.2.1, x_11.2.2.2.2.1, x_11.2.2.2.2.2.2.1, x_11.2.2.2.2.2.2.2, x_11.2.2.2.2.2.1), A_31, cap_33, A_32, cap_34, cs_19, A_33, cap_35, cs_20⟩, Nat.lt_succ_self _, M_14, (hM_13.trans hM_14), ⟨hn_3, h_23, hr_26, hr_27⟩, f.kp, (p_165.dropN 3)⟩
      ·have k_32 := iff_f dI h_21
       refine wp_exit (T_x (T_x ?_))
       obtain rfl := sI hF_54
       exact .inr ⟨rfl, (s_3.2.1, s_3.2.2.1, s_3.2.2.2.1, s_3.2.2.2.2.1, s_3.2.2.2.2.2.1, s_3.2.2.2.2.2.2), (sI hn_3).symm, M_13, hM_13, A_27, cap_28, A_28, cap_29, cs_17, A_29, cap_30, cs_18, h_20, hr_22, hr_23, f.kp, p_97⟩
     ·rintro _ _ w_37 (⟨rfl, y_6, rfl, M_15, hM_15, A_34, cap_36, A_35, cap_37, cs_21, A_36, cap_38, cs_22, h_28, hr_28, hr_29, f, p_109⟩ | ⟨rfl, y_7, rfl, M_16, hM_16, A_37, cap_39, A_38, cap_40, cs_23, A_39, cap_41, cs_24, h_29, hr_30, hr_31, f, p_110⟩)
      ·refine B_r (T_r (E_ret1 f rfl (by kernel_rfl : Vc.look _ 2 = some (.bool false)) ?_))
       obtain rfl := sI hF_41
       exact ⟨_, rfl, M_15, (((((hM_1.trans hM_8).trans hM_9).trans hM_11).trans hM_12).trans hM_15), (p_109.dropN 8), rfl⟩
      ·refine B_x (T_n (RR (Y f 1 fun _ f => Z (v := .int .i64 ((y_5.length : Nat) : Int)) f (X_lenMap (ek := (Value.int .i64)) (ev := Value.bool) (m := y_5) (kt := 3) (et := 4) rfl (by kernel_rfl) (by kernel_rfl) (p_110.ownObj 5 rfl)) fun _ f => Y f 1 fun _ f => Z (v := .int .i64 ((y_4.2.2.2.2.2.1.length : Nat) : Int)) f (X_lenMap (ek := (Value.int .i64)) (ev := (fun x : TD0 => Value.agg #[.bool x.fEnded, .bool x.fOk, S x.fPhys])) (m := y_4.2.2.2.2.2.1) (kt := 3) (et := 37) rfl (by kernel_rfl) (by kernel_rfl) (p_110.ownObj 7 rfl)) fun _ f => ?_)))
       obtain ⟨g_7, hF_55⟩ := nS hF_41
       refine Y f 1 fun _ f => ?_
       have f := f.st 139 (congrArg (Value.int .i64) (inR_wrap g_7))
       refine Y f 1 fun _ f => ?_
       obtain ⟨x_12, hx_12, hF_56⟩ := bS hF_55
       have p_170 := p_110.pl [1, 2, 2, 4]
       refine Y17 (E := [Ent.obj nb_1 (.cells #[.slice A_37 y_7.1.length cap_39, .int .i64 y_7.2.1, .slice A_38 y_7.2.2.1.length cap_40, .map (some nb_1m0), .slice A_39 y_7.2.2.2.1.length cap_41, .int .i64 y_7.2.2.2.2.1] 64 (0, 0)), Ent.row 31 5 (.slice A_38 y_7.2.2.1.length cap_40) y_7.2.2.1.length cs_23, Ent.obj nb_1m0 (mapO (Value.int .i64) (fun x : TD0 => Value.agg #[.bool x.fEnded, .bool x.fOk, S x.fPhys]) y_7.2.2.2.2.2), Ent.row 31 5 (.slice A_39 y_7.2.2.2.1.length cap_41) y_7.2.2.2.1.length cs_24]) (H := ((Ent.row 31 5 (.slice A_23 x_9.1.length cap_24) x_9.1.length cs_14) :: (Ent.obj bm_2 (mapO (Value.int .i64) Value.bool y_5)) :: (Ent.row 3 1 (.slice A_19 x_7.1.length cap_19) x_7.1.length cs_11) :: (Ent.obj bm_1 (mapO (Value.int .i64) (fun x : TD0 => Value.agg #[.bool x.fEnded, .bool x.fOk, S x.fPhys]) y_4.2.2.2.2.2.1)) :: H)) f p_170 (cloud_Cloud_Calls_ok n _ (GL.mono (((((hM_1.trans hM_8).trans hM_9).trans hM_11).trans hM_12).trans hM_16) hG) nb_1 y_7.1 A_37 cap_39 h_29 y_7.2.1 y_7.2.2.1 A_38 cap_40 cs_23 hr_30 nb_1m0 y_7.2.2.2.2.2 y_7.2.2.2.1 A_39 cap_41 cs_24 hr_31 y_7.2.2.2.2.1 x_12 hx_12) fun _ M_17 E_7 w_38 hM_17 p_166 q_7 _ f => ?_
       obtain ⟨A_40, cap_42, cs_25, A_41, cap_43, A_42, cap_44, cs_26, A_43, cap_45, cs_27, rfl, rfl, hr_32, h_30, hr_33, hr_34⟩ := q_7
       refine Y f 3 fun _ f => ?_
       rcases cE hF_56 with ⟨h_31, hF_57⟩ | ⟨h_31, hF_59⟩
       ·have k_33 := dI.1 h_31
        have f := f.st 144 (cB h_31)
        obtain ⟨x_13, hx_13, hF_58⟩ := bS hF_57
        refine Y18 f p_166 (law11_wakes_ok n _ (GL.mono ((((((hM_1.trans hM_8).trans hM_9).trans hM_11).trans hM_12).trans hM_16).trans hM_17) hG) x_13 hx_13) fun w_39 p_171 _ f => Y f 2 fun _ f => eT (wp_ret (E_ret1 f rfl (by kernel_rfl : Vc.look _ 2 = some (.bool x_13)) ?_))
        obtain rfl := sI hF_58
        exact ⟨_, rfl, M_17, ((((((hM_1.trans hM_8).trans hM_9).trans hM_11).trans hM_12).trans hM_16).trans hM_17), (p_171.dropN 9), rfl⟩
       ·have k_34 := iff_f dI h_31
        have f := f.st 144 (cB h_31)
        refine Y f 3 fun _ f => eT (wp_ret (E_ret1 f rfl (by kernel_rfl : Vc.look _ 2 = some (.bool false)) ?_))
        obtain rfl := sI hF_59
        exact ⟨_, rfl, M_17, ((((((hM_1.trans hM_8).trans hM_9).trans hM_11).trans hM_12).trans hM_16).trans hM_17), (p_166.dropN 9), rfl⟩
theorem flight_run {n : Nat} (hn : 6000 < n) {c : CS} (hi : c.inn.length ≤ 1000) : cloud_Cloud_Flight n c.L c.made c.calls c.ans c.inn c.good = some (tokens c.inn, c.tup) := by
 unfold cloud_Cloud_Flight
 have l1 := loop_all (step := cloud_Cloud_Flight_s1 n c.inn) (n := n) (fun k => (tokens (c.inn.take k), (k : Int))) c.inn.length (tokens c.inn) (fun k hk => by
  unfold cloud_Cloud_Flight_s1
  dsimp only
  have hl : (tokens (c.inn.take k)).length ≤ 1000 := by unfold tokens; simp; omega
  have e : c.inn.getD k z_TI0 = c.inn[k] := by simp [List.getD, hk]
  rw [decide_eq_true (by omega), cT, getI_at z_TI0 hk, bnd, need_t (by omega), need_i (by omega) (by omega), e]
  unfold tokens
  rw [List.take_add_one, List.getElem?_eq_getElem hk, List.map_append]
  rfl) (by
  unfold cloud_Cloud_Flight_s1
  dsimp only
  rw [decide_eq_false (by omega), cF, List.take_length]) (by omega)
 have e0 : ((0 : Nat) : Int) = 0 := rfl
 simp only [e0, List.take_zero] at l1
 have e1 : tokens [] = [] := rfl
 rw [e1] at l1
 rw [l1, bnd]; rfl
theorem ask_run {n : Nat} {c : CS} {t : Int} : cloud_Cloud_Ask n c.L c.made c.calls c.ans c.inn c.good t = some ((mget c.ans t).getD z_TD0, (mget c.ans t).isSome, c.tup) := rfl
theorem calls_run {n : Nat} {c : CS} (hc : c.calls.length ≤ 1000) : cloud_Cloud_Calls n c.L c.made c.calls c.ans c.inn c.good = some (c.calls, c.tup) := by
 unfold cloud_Cloud_Calls
 rw [need_t (by omega)]; rfl
theorem tupE {c : CS} : c.tup = (c.L, c.made, c.calls, c.ans, c.inn, c.good) := rfl
structure Told (c : CS) (m : List (Int × TD0)) : Prop where
  tell : ∀ t, mget m t = if t ∈ tokens c.calls ∧ t ∉ tokens c.inn then mget c.ans t else none
  len : m.length + c.inn.length = c.calls.length
theorem Told.submit {c : CS} {m : List (Int × TD0)} (b : Bk c) (h : Told c m) (x : TI0) : Told (submitC c x).2 m := by
 unfold submitC
 split
 ·exact h
 ·split
  ·exact h
  ·rename_i hm
   have hk := b.fresh hm
   have e1 : tokens (c.calls ++ [x]) = tokens c.calls ++ [x.fToken] := tokens_app
   have e2 : tokens (c.inn ++ [x]) = tokens c.inn ++ [x.fToken] := tokens_app
   refine ⟨fun t => ?_, ?_⟩
   ·show mget m t = if t ∈ tokens (c.calls ++ [x]) ∧ t ∉ tokens (c.inn ++ [x]) then mget (mput c.ans x.fToken z_TD0) t else none
    rw [h.tell t, e1, e2, mget_mput]
    by_cases e : x.fToken = t
    ·subst e
     rw [if_neg (fun h2 => hk h2.1), if_neg (fun h2 => h2.2 (List.mem_append_right _ (by simp)))]
    ·have i1 : t ∈ tokens c.calls ++ [x.fToken] ↔ t ∈ tokens c.calls := by
      rw [List.mem_append, List.mem_singleton]
      exact ⟨fun h2 => h2.resolve_right (fun e2 => e e2.symm), .inl⟩
     have i2 : t ∈ tokens c.inn ++ [x.fToken] ↔ t ∈ tokens c.inn := by
      rw [List.mem_append, List.mem_singleton]
      exact ⟨fun h2 => h2.resolve_right (fun e2 => e e2.symm), .inl⟩
     simp only [i1, i2]
     rw [if_neg e]
   ·show m.length + (c.inn ++ [x]).length = (c.calls ++ [x]).length
    have := h.len
    simp; omega
theorem Told.end_ {c : CS} {m : List (Int × TD0)} (b : Bk c) (h : Told c m) {k : Nat} (hk : k < c.inn.length) (well : Bool) :
  mget m (c.inn[k]).fToken = none ∧ Told (tellC (outC c k well) (c.inn[k]).fToken) (mput m (c.inn[k]).fToken (outC c k well).1) := by
 obtain ⟨k1, k2, k3, k4⟩ := out_keep c k well
 have htl : k < (tokens c.inn).length := by unfold tokens; simpa using hk
 have htx : (tokens c.inn)[k] = (c.inn[k]).fToken := List.getElem_map _
 have hcut : ∀ t, t ∈ tokens (c.inn.take k ++ c.inn.drop (k + 1)) ↔ t ∈ tokens c.inn ∧ t ≠ (c.inn[k]).fToken := fun t => by
  rw [tokens_cut, mem_cutN b.ind htl, htx]
 have hi : (c.inn[k]).fToken ∈ tokens c.inn := tok_mem (List.getElem_mem hk)
 have hn : mget m (c.inn[k]).fToken = none := by rw [h.tell, if_neg (fun h2 => h2.2 hi)]
 refine ⟨hn, fun t => ?_, ?_⟩
 ·show mget (mput m _ _) t = if t ∈ tokens (outC c k well).2.calls ∧ t ∉ tokens (outC c k well).2.inn then mget (mput (outC c k well).2.ans (c.inn[k]).fToken (outC c k well).1) t else none
  rw [k1, k2, k3, mget_mput, mget_mput]
  simp only [hcut]
  by_cases e : (c.inn[k]).fToken = t
  ·rw [if_pos e, if_pos e, if_pos ⟨by rw [← e]; exact b.inn_calls hi, fun h2 => h2.2 e.symm⟩]
  ·rw [if_neg e, if_neg e, h.tell t]
   have : (t ∈ tokens c.inn ∧ t ≠ (c.inn[k]).fToken) ↔ t ∈ tokens c.inn := ⟨fun h2 => h2.1, fun h2 => ⟨h2, fun e2 => e e2.symm⟩⟩
   simp only [this]
 ·show (mput m _ _).length + (outC c k well).2.inn.length = (outC c k well).2.calls.length
  rw [mput_len11 hn, k1, k3]
  have := h.len
  simp; omega
theorem ans_eta {a : TD0} (h : a.fEnded = true) : (⟨true, a.fOk, a.fPhys⟩ : TD0) = a := by
 cases a
 cases h
 rfl
theorem told_loop {l : List TB0} (hl : l.length ≤ 100) (hp : ∀ x ∈ l, GoodP x.fX.fProps) :
  ∃ (c : CS) (m : List (Int × TD0)), loopF (law11_CloudAnswers_s1 10000 l) 10000 ((0 : Int), ([] : List (Int × TD0)), ([] : List TE0), (0 : Int), ([] : List TI0), ([] : List TI0), (0 : Int), ([] : List (Int × TD0))) = some (.inr (c.L, c.made, c.calls, c.inn, c.good, m, c.ans)) ∧ OkC l.length c ∧ Bk c ∧ Told c m := by
 have h := loop_inv (step := law11_CloudAnswers_s1 10000 l) (n := 10000) (s0 := ((0 : Int), ([] : List (Int × TD0)), ([] : List TE0), (0 : Int), ([] : List TI0), ([] : List TI0), (0 : Int), ([] : List (Int × TD0))))
  (fun k s => ∃ (c : CS) (m : List (Int × TD0)), s = ((k : Int), m, c.L, c.made, c.calls, c.inn, c.good, c.ans) ∧ OkC k c ∧ Bk c ∧ Told c m)
  (fun b => ∃ (c : CS) (m : List (Int × TD0)), b = .inr (c.L, c.made, c.calls, c.inn, c.good, m, c.ans) ∧ OkC l.length c ∧ Bk c ∧ Told c m) l.length
  ⟨new11, [], rfl, OkC.new, Bk.new, fun t => by simp [new11, tokens, mget], rfl⟩
  (fun k s hk hI => by
   obtain ⟨c, m, rfl, ok, bk, td⟩ := hI
   have hg : l.getD k z_TB0 = l[k] := by simp [List.getD, hk]
   have hpk := hp _ (List.getElem_mem hk)
   have g1 := ok.g1
   have f1 := ok.calls
   have f2 := ok.inn
   unfold law11_CloudAnswers_s1
   dsimp only
   rw [decide_eq_true (by omega), cT, getI_at z_TB0 hk, bnd, hg, evC]
   generalize l[k] = x at hpk
   by_cases d0 : x.fDo = 0
   ·rw [decide_eq_true d0, cT, submit_run (by omega) hpk (by omega) (by omega), bnd, need_i (by omega) (by omega)]
    exact .inl ⟨_, rfl, (submitC c x.fX).2, m, rfl, ok.submit hpk, bk.submit _, td.submit bk _⟩
   ·rw [decide_eq_false d0, cF]
    have e : (bif decide (x.fDo = 1) then some (decide (x.fDo = 1)) else some (decide (x.fDo = 2)) : Option Bool) = some (decide (x.fDo = 1 ∨ x.fDo = 2)) := by
     by_cases h1 : x.fDo = 1
     ·rw [decide_eq_true h1, cT, decide_eq_true (.inl h1)]
     ·rw [decide_eq_false h1, cF]
      congr 1
      exact decide_eq_decide.2 ⟨.inr, fun h => h.resolve_left h1⟩
    rw [e, bnd]
    by_cases d1 : x.fDo = 1 ∨ x.fDo = 2
    ·rw [decide_eq_true d1, cT, end_run (by omega) _ _ ok.props ok.good (by omega) ok.g0 (by omega), bnd]
     have ok2 := ok.end_ (by omega) x.fN (decide (x.fDo = 1))
     have bk2 := bk.end_ x.fN (decide (x.fDo = 1))
     by_cases hkn : 0 ≤ x.fN ∧ x.fN < c.inn.length
     ·obtain ⟨q, hq⟩ := Int.eq_ofNat_of_zero_le hkn.1
      have hq1 : q < c.inn.length := by omega
      have e2 : endC c x.fN (decide (x.fDo = 1)) = ((c.inn[q]).fToken, (outC c q (decide (x.fDo = 1))).1, 0, tellC (outC c q (decide (x.fDo = 1))) (c.inn[q]).fToken) := by
       unfold endC
       have hx : c.inn.getD q z_TI0 = c.inn[q] := by simp [List.getD, hq1]
       rw [if_pos hkn, hq]
       have em : ((q : Nat) : Int).toNat = q := by omega
       rw [em, hx]
      obtain ⟨t1, t2⟩ := td.end_ bk hq1 (decide (x.fDo = 1))
      obtain ⟨k1, k2, k3, k4⟩ := out_keep c q (decide (x.fDo = 1))
      rw [e2] at ok2 bk2 ⊢
      dsimp only
      rw [decide_eq_true rfl, cT, t1, k4]
      have e3 : (bif decide (x.fDo = 2) then some ((outC c q (decide (x.fDo = 1))).1.fOk) else some false : Option Bool) = some false := by
       by_cases h2 : x.fDo = 2
       ·rw [decide_eq_true h2, cT, decide_eq_false (by omega)]; rfl
       ·rw [decide_eq_false h2, cF]
      have e4 : (none : Option TD0).isSome = false := rfl
      rw [e4, cF, Bool.not_true, cF, e3, bnd, cF, need_i (by omega) (by omega), ans_eta k4]
      exact .inl ⟨_, rfl, _, _, rfl, ok2, bk2, t2⟩
     ·have e2 : endC c x.fN (decide (x.fDo = 1)) = (0, z_TD0, 4, c) := by unfold endC; rw [if_neg hkn]
      rw [e2]
      dsimp only
      rw [decide_eq_false (by decide), cF, need_i (by omega) (by omega)]
      exact .inl ⟨_, rfl, c, m, rfl, ok.le (by omega), bk, td⟩
    ·rw [decide_eq_false d1, cF, need_i (by omega) (by omega)]
     exact .inl ⟨_, rfl, c, m, rfl, ok.le (by omega), bk, td⟩)
  (fun s hI => by
   obtain ⟨c, m, rfl, r⟩ := hI
   unfold law11_CloudAnswers_s1
   dsimp only
   rw [decide_eq_false (by omega), cF]
   exact ⟨_, rfl, c, m, rfl, r⟩) (by omega)
 obtain ⟨b, hb, c, m, rfl, r⟩ := h
 exact ⟨c, m, hb, r⟩
theorem in_loop {l : List Int} (hl : l.length ≤ 1000) (hn : l.Nodup) (q : List TE0 × Int × List TI0 × List (Int × TD0) × List TI0 × Int) :
  ∃ m : List (Int × Bool), loopF (law11_CloudAnswers_s2 10000 (l, q)) 10000 ((0 : Int), ([] : List (Int × Bool))) = some m ∧ m.length = l.length ∧ ∀ t, mget m t = if t ∈ l then some true else none := by
 have h := loop_inv (step := law11_CloudAnswers_s2 10000 (l, q)) (n := 10000) (s0 := ((0 : Int), ([] : List (Int × Bool))))
  (fun k s => ∃ m : List (Int × Bool), s = ((k : Int), m) ∧ m.length = k ∧ ∀ t, mget m t = if t ∈ l.take k then some true else none)
  (fun b => b.length = l.length ∧ ∀ t, mget b t = if t ∈ l then some true else none) l.length ⟨[], rfl, rfl, fun t => by simp [mget]⟩
  (fun k s hk hI => by
   obtain ⟨m, rfl, hm, ht⟩ := hI
   have hg : l.getD k 0 = l[k] := by simp [List.getD, hk]
   have hx : l[k]? = some l[k] := List.getElem?_eq_getElem hk
   unfold law11_CloudAnswers_s2
   dsimp only
   rw [decide_eq_true (by omega), cT, getI_at 0 hk, bnd, hg, need_i (by omega) (by omega)]
   have hnot : l[k] ∉ l.take k := fun hmem => by
    obtain ⟨j, hj, e⟩ := List.mem_iff_getElem.1 hmem
    have hjk : j < k := by rw [List.length_take] at hj; omega
    rw [List.getElem_take] at e
    exact List.pairwise_iff_getElem.1 hn j k (by omega) hk hjk e
   refine .inl ⟨_, rfl, mput m l[k] true, rfl, ?_, fun t => ?_⟩
   ·rw [mput_len11 (by rw [ht, if_neg hnot]), hm]
   ·rw [mget_mput, ht]
    by_cases e : l[k] = t
    ·rw [if_pos e, if_pos ((mem_take_succ hx t).2 (.inr e.symm))]
    ·rw [if_neg e]
     have : t ∈ l.take (k + 1) ↔ t ∈ l.take k := ⟨fun h2 => ((mem_take_succ hx t).1 h2).resolve_right (fun e2 => e e2.symm), fun h2 => (mem_take_succ hx t).2 (.inl h2)⟩
     simp only [this])
  (fun s hI => by
   obtain ⟨m, rfl, hm, ht⟩ := hI
   rw [List.take_length] at ht
   unfold law11_CloudAnswers_s2
   dsimp only
   rw [decide_eq_false (by omega), cF]
   exact ⟨_, rfl, hm, ht⟩) (by omega)
 exact h
theorem cloudAnswers_true (l : List TB0) : law11_CloudAnswers 10000 l = some true := by
 unfold law11_CloudAnswers
 obtain ⟨g, hg, hf⟩ := greatL11 (n := 10000) (by omega) l
 rw [hg, bnd]
 cases g with
 | true => rw [cT, wakes11b]
 | false =>
  obtain ⟨hl, hp⟩ := hf rfl
  obtain ⟨c, m, h1, ok, bk, td⟩ := told_loop hl hp
  have f1 := ok.calls
  have f2 := ok.inn
  have hlt : (tokens c.inn).length = c.inn.length := by unfold tokens; simp
  unfold cloud_New
  rw [cF, bnd, h1, bnd]
  dsimp only
  rw [flight_run (by omega) (by omega), bnd]
  obtain ⟨y, h2, hy, hyt⟩ := in_loop (l := tokens c.inn) (by omega) bk.ind c.tup
  rw [h2, bnd]
  dsimp only [tupE]
  rw [calls_run (by omega), bnd]
  have h3 := loop_all (step := law11_CloudAnswers_s3 10000 (c.L, c.made, c.calls, c.inn, c.good, m, c.ans) y (c.calls, c.tup)) (n := 10000) (fun k => ((k : Int), c.L, c.made, c.calls, c.inn, c.good, c.ans)) c.calls.length (.inr (c.L, c.made, c.calls, c.inn, c.good, c.ans)) (fun k hk => by
   have hgk : c.calls.getD k z_TI0 = c.calls[k] := by simp [List.getD, hk]
   have hin : (c.calls[k]).fToken ∈ tokens c.calls := tok_mem (List.getElem_mem hk)
   unfold law11_CloudAnswers_s3
   dsimp only
   rw [decide_eq_true (by omega), cT, getI_at z_TI0 hk, bnd, hgk, ask_run, bnd]
   generalize (c.calls[k]).fToken = t at hin
   obtain ⟨a, ha⟩ := mget_some11 (m := c.ans) (k := t) (by rw [bk.keys]; exact hin)
   have hS : (some a : Option TD0).isSome = true := rfl
   dsimp only [tupE]
   rw [ha, hS, Bool.not_true, cF, td.tell t, hyt t, ha]
   by_cases hti : t ∈ tokens c.inn
   ·have hz := bk.zero t hti
    rw [ha] at hz
    obtain rfl := Option.some.inj hz
    rw [if_neg (fun h => h.2 hti), if_pos hti]
    have ea : andL [((some z_TD0).getD z_TD0).fEnded == ((none : Option TD0).getD z_TD0).fEnded, ((some z_TD0).getD z_TD0).fOk == ((none : Option TD0).getD z_TD0).fOk, decide (((some z_TD0).getD z_TD0).fPhys = ((none : Option TD0).getD z_TD0).fPhys)] = true := by decide
    rw [ea, Bool.not_true, cF]
    have e1 : ((none : Option TD0).isSome == (some true).getD false) = false := rfl
    have e2 : (((some z_TD0).getD z_TD0).fEnded == (none : Option TD0).isSome) = true := rfl
    rw [e1, cF, e2, Bool.not_true, cF, need_i (by omega) (by omega)]
    rfl
   ·obtain ⟨a', ha', he⟩ := bk.done t hin hti
    rw [ha] at ha'
    obtain rfl := Option.some.inj ha'
    rw [if_pos ⟨hin, hti⟩, if_neg hti]
    have ea : andL [((some a).getD z_TD0).fEnded == ((some a).getD z_TD0).fEnded, ((some a).getD z_TD0).fOk == ((some a).getD z_TD0).fOk, decide (((some a).getD z_TD0).fPhys = ((some a).getD z_TD0).fPhys)] = true := by simp [andL]
    rw [ea, Bool.not_true, cF]
    have e1 : ((some a : Option TD0).isSome == (none : Option Bool).getD false) = false := rfl
    have e2 : (((some a).getD z_TD0).fEnded == (some a : Option TD0).isSome) = true := by show (a.fEnded == true) = true; rw [he]; rfl
    rw [e1, cF, e2, Bool.not_true, cF, need_i (by omega) (by omega)]
    rfl) (by
   unfold law11_CloudAnswers_s3
   dsimp only
   rw [decide_eq_false (by omega), cF]) (by omega)
  have e0 : ((0 : Nat) : Int) = 0 := rfl
  simp only [e0] at h3
  dsimp only [tupE] at h3 ⊢
  rw [h3, bnd]
  dsimp only
  have hlen := td.len
  rw [need_i (by omega) (by omega), calls_run (by omega), bnd]
  dsimp only
  rw [decide_eq_true (by omega), cT, wakes11b]
end Go.Proofs.YtocefedhenhbfabGreatDoor
end

section
namespace Go.Vc
open Go
mutual
def dsz : Dat → Nat
  | .int _ _ => 1
  | .bool _ => 1
  | .str l => l.length + 1
  | .list _ ds => dszs ds + 1
  | .struct ds => dszs ds + 1
def dszs : List Dat → Nat
  | [] => 0
  | d :: ds => dsz d + dszs ds
end
theorem dszs_app : ∀ (a b : List Dat), dszs (a ++ b) = dszs a + dszs b
 | [], b => by simp [dszs]
 | d :: a, b => by simp only [List.cons_append, dszs, dszs_app a b]; omega
theorem le_sum : ∀ {l : List Nat} {x : Nat}, x ∈ l → x ≤ l.sum
 | y :: l, x, h => by
  rcases List.mem_cons.1 h with rfl | h
  ·simp
  ·have := le_sum h; simp only [List.sum_cons]; omega
section
variable {H : Type}
structure BulkOk (B : DataW H → Nat) : Prop where
  one : ∀ d, 1 ≤ B d
  str : ∀ l, B (.lit (.string l)) = l.length + 1
  slice : ∀ e s, (e.map B).sum + 1 ≤ B (.slice e s)
  agg : ∀ e, (e.map B).sum + 1 ≤ B (.agg e)
variable {enc : TypeId × Value → H} {P : Program} {w : World} {t : TypeId} {α : Type} {f : α → Dat} {m : Nat} {B : DataW H → Nat}
def OpnAt (enc : TypeId × Value → H) (P : Program) (w : World) (t : TypeId) {α : Type} (f : α → Dat) (B : DataW H → Nat) (m : Nat) : Prop :=
  ∀ cs x, DataW.trod enc P w 0 (fun _ => true) true m t cs = some x → ∃ a, Rep (Mem.of w) (f a) cs ∧ Vld (f a) ∧ dsz (f a) ≤ B x.1
theorem OpnAt.zero : OpnAt enc P w t f B 0 := fun cs x h => by simp [DataW.trod] at h
theorem opa_int {k : IntKind} (hB : BulkOk B) (ht : P.underlying t = some (.int k)) : OpnAt enc P w t (Dat.int k) B m := fun cs x h => by
 obtain ⟨a, rfl, _, hw⟩ := DataW.trod_int ht h
 exact ⟨a, rfl, hw, hB.one _⟩
theorem opa_bool (hB : BulkOk B) (ht : P.underlying t = some .bool) : OpnAt enc P w t Dat.bool B m := fun cs x h => by
 obtain ⟨a, rfl, _⟩ := DataW.trod_bool ht h
 exact ⟨a, rfl, trivial, hB.one _⟩
theorem opa_str (hB : BulkOk B) (ht : P.underlying t = some .string) : OpnAt enc P w t Dat.str B m := fun cs x h => by
 obtain ⟨s, rfl, hx, hw⟩ := DataW.trod_string ht h
 refine ⟨s.data.toList, (by show [Value.string s] = _; rw [S_eta]), by show s.data.toList.length ≤ maxLen; simpa using hw, ?_⟩
 rw [hx]
 show s.data.toList.length + 1 ≤ B (.lit (.string s.data.toList))
 rw [hB.str]
 exact Nat.le_refl _
theorem opa_slice {e : TypeId} {sz : Nat} (hB : BulkOk B) (ht : P.underlying t = some (.slice e)) (hsz : P.cellsOf e = sz) (h : OpnAt enc P w e f B m) : OpnAt enc P w t (eL sz f) B (m + 1) := fun cs x hx => by
 rcases DataW.trod_slice ht hx with ⟨rfl, hx⟩ | ⟨ad, len, cap, elems, rest, n', hn', rfl, hxe, _, hlc, hcm, hel, hat, _⟩
 ·refine ⟨[], Sli.rep (Sli.nil (sz := sz) (f := f)), by simp [Vld, eL, VldAll], ?_⟩
  have := hB.one x.1
  simpa [eL, dsz, dszs] using this
 ·obtain rfl : n' = m := by omega
  have key : ∀ k, k ≤ len → ∃ xs : List α, xs.length = k ∧ RepArr (Mem.of w) sz (xs.map f) ad ∧ (∀ x ∈ xs, Vld (f x)) ∧ dszs (xs.map f) ≤ ((elems.take k).map fun x => B x.1).sum := by
   intro k
   induction k with
   | zero => intro _; exact ⟨[], rfl, trivial, fun x hx => (by cases hx), by simp [dszs]⟩
   | succ k ih =>
    intro hk
    obtain ⟨xs, h1, h2, h3, h3b⟩ := ih (by omega)
    have hk' : k < elems.length := by omega
    have := hat k (by omega)
    rw [List.getElem?_eq_getElem hk'] at this
    obtain ⟨cs', g1, g2⟩ := Option.bind_eq_some_iff.1 this
    obtain ⟨a, g3, g4, g4b⟩ := h cs' _ g2
    obtain ⟨g5, g6⟩ := cells_of g1
    rw [hsz] at g5 g6
    refine ⟨xs ++ [a], by simp [h1], ?_, fun x hx => ?_, ?_⟩
    ·rw [List.map_append]
     have app : ∀ (ds : List Dat) (ad : Addr), RepArr (Mem.of w) sz ds ad → RepArr (Mem.of w) sz [f a] (ad.add (ds.length * sz)) → RepArr (Mem.of w) sz (ds ++ [f a]) ad := by
      intro ds
      induction ds with
      | nil => intro ad _ hh; simpa [Addr.add] using hh
      | cons d ds ih =>
       intro ad h1 h2
       refine ⟨h1.1, ih _ h1.2 ?_⟩
       rw [add_of_add]
       rw [List.length_cons, show (ds.length + 1) * sz = sz + ds.length * sz by rw [Nat.add_mul]; omega] at h2
       exact h2
     refine app _ _ h2 ⟨⟨cs', g5, g3, ?_⟩, trivial⟩
     rw [List.length_map, h1]
     exact g6
    ·rcases List.mem_append.1 hx with hx | hx
     ·exact h3 x hx
     ·simp at hx; subst hx; exact g4
    ·rw [List.map_append, dszs_app, List.take_add_one, List.getElem?_eq_getElem hk', List.map_append, List.sum_append]
     simp only [List.map_cons, List.map_nil, dszs, Option.toList_some, List.sum_cons, List.sum_nil]
     omega
  obtain ⟨xs, h1, h2, h3, h3b⟩ := key len (Nat.le_refl _)
  subst h1
  refine ⟨xs, Sli.rep ⟨hlc, fun e => (by cases e), .inr ⟨ad, rfl, h2⟩⟩, ?_, ?_⟩
  ·refine ⟨by rw [List.length_map]; omega, VldAll.mk fun d hd => ?_⟩
   obtain ⟨x, hx, rfl⟩ := List.mem_map.1 hd
   exact h3 x hx
  ·rw [hxe]
   show dszs (xs.map f) + 1 ≤ _
   have := hB.slice (elems.map (·.1)) (rest.map (·.1))
   rw [← hel, List.take_length] at h3b
   rw [List.map_map] at this
   have e : (elems.map (B ∘ fun x => x.1)) = elems.map fun x => B x.1 := rfl
   rw [e] at this
   show _ ≤ B (.slice (elems.map (·.1)) (rest.map (·.1)))
   omega
theorem opa_slice0 {e : TypeId} {sz : Nat} (hB : BulkOk B) (ht : P.underlying t = some (.slice e)) (hsz : P.cellsOf e = sz) (h : ∀ k, k < m → OpnAt enc P w e f B k) : OpnAt enc P w t (eL sz f) B m := by
 cases m with
 | zero => exact OpnAt.zero
 | succ m => exact opa_slice hB ht hsz (h m (Nat.lt_succ_self m))
theorem OpnAt.arg (h : ∀ n, OpnAt enc P w t f B n) {v : Value} {d : DataW H} {ps : List MemPlace} (ht : DataW.Trod enc P w 0 (fun _ => true) true t v d ps) : ∃ a, Rep (Mem.of w) (f a) v.cells.toList ∧ Vld (f a) ∧ dsz (f a) ≤ B d := by
 obtain ⟨fuel, hf⟩ := ht
 exact h fuel _ _ hf
theorem OpnAt.slice_arg {e : TypeId} {sz : Nat} (hB : BulkOk B) (hu : P.underlying t = some (.slice e)) (hsz : P.cellsOf e = sz) (h : ∀ n, OpnAt enc P w e f B n) {v : Value} {d : DataW H} {ps : List MemPlace} (hv : ∃ A len cap, v = .slice A len cap) (ht : DataW.Trod enc P w 0 (fun _ => true) true t v d ps) :
  ∃ A cap xs, v = .slice A xs.length cap ∧ Sli (Mem.of w) sz f A cap xs ∧ Vld (eL sz f xs) ∧ dsz (eL sz f xs) ≤ B d := by
 obtain ⟨A, len, cap, rfl⟩ := hv
 obtain ⟨xs, h1, h2⟩ := OpnAt.arg (f := eL sz f) (fun n => opa_slice0 hB hu hsz fun k _ => h k) ht
 obtain ⟨A', cap', e, hs⟩ := Rep.sli h1
 simp only [Value.cells] at e
 have e' : Value.slice A len cap = Value.slice A' xs.length cap' := by simpa using e
 cases e'
 exact ⟨A, cap, xs, rfl, hs, h2⟩
end
end Go.Vc
end

section
namespace Go.Proofs.YtocefedhenhbfabGreatDoor
open Go Go.Vc Go.RowKit
theorem opa_TG0 {H : Type} {enc : TypeId × Value → H} {w : World} {B : DataW H → Nat} (hB : BulkOk B) : ∀ m, OpnAt enc Tryz.prog w 71 emb_TG0 B m := by
 intro m
 induction m using Nat.strongRecOn with
 | ind m ih =>
 intro cs x h
 obtain ⟨xs, n, rfl, rfl, hlen, hxl, hf⟩ := DataW.trod_struct Tryz.underlying71 h
 have hct : Tryz.prog.cellsOf 71 = 6 := by kernel_rfl
 rw [hct] at hlen
 obtain ⟨x0, x1, x2, x3, x4, x5, rfl⟩ : ∃ x0 x1 x2 x3 x4 x5, xs = [x0, x1, x2, x3, x4, x5] := by
  match xs, hxl with
  | [x0, x1, x2, x3, x4, x5], _ => exact ⟨x0, x1, x2, x3, x4, x5, rfl⟩
 have f0 : DataW.trod enc Tryz.prog w 0 (fun _ => true) true n 28 ((cs.drop 0).take (Tryz.prog.cellsOf 28)) = some x0 := hf 0 _ rfl
 rw [show Tryz.prog.cellsOf 28 = 1 by kernel_rfl] at f0
 obtain ⟨a0, r0, v0, b0⟩ := (fun _ => opa_int hB Tryz.underlying28) n _ _ f0
 have f1 : DataW.trod enc Tryz.prog w 0 (fun _ => true) true n 4 ((cs.drop 1).take (Tryz.prog.cellsOf 4)) = some x1 := hf 1 _ rfl
 rw [show Tryz.prog.cellsOf 4 = 1 by kernel_rfl] at f1
 obtain ⟨a1, r1, v1, b1⟩ := (fun _ => opa_bool hB Tryz.underlying4) n _ _ f1
 have f2 : DataW.trod enc Tryz.prog w 0 (fun _ => true) true n 3 ((cs.drop 2).take (Tryz.prog.cellsOf 3)) = some x2 := hf 2 _ rfl
 rw [show Tryz.prog.cellsOf 3 = 1 by kernel_rfl] at f2
 obtain ⟨a2, r2, v2, b2⟩ := (fun _ => opa_int hB Tryz.underlying3) n _ _ f2
 have f3 : DataW.trod enc Tryz.prog w 0 (fun _ => true) true n 9 ((cs.drop 3).take (Tryz.prog.cellsOf 9)) = some x3 := hf 3 _ rfl
 rw [show Tryz.prog.cellsOf 9 = 1 by kernel_rfl] at f3
 obtain ⟨a3, r3, v3, b3⟩ := (fun _ => opa_str hB Tryz.underlying9) n _ _ f3
 have f4 : DataW.trod enc Tryz.prog w 0 (fun _ => true) true n 68 ((cs.drop 4).take (Tryz.prog.cellsOf 68)) = some x4 := hf 4 _ rfl
 rw [show Tryz.prog.cellsOf 68 = 1 by kernel_rfl] at f4
 obtain ⟨a4, r4, v4, b4⟩ := (opa_slice0 (m := n) (e := 71) (sz := 6) hB Tryz.underlying68 (by kernel_rfl) (fun k hk => ih k (by omega))) _ _ f4
 have f5 : DataW.trod enc Tryz.prog w 0 (fun _ => true) true n 69 ((cs.drop 5).take (Tryz.prog.cellsOf 69)) = some x5 := hf 5 _ rfl
 rw [show Tryz.prog.cellsOf 69 = 1 by kernel_rfl] at f5
 obtain ⟨a5, r5, v5, b5⟩ := (opa_slice0 (m := n) (e := 9) (sz := 1) hB Tryz.underlying69 (by kernel_rfl) (fun k _ => (fun _ => opa_str hB Tryz.underlying9) k)) _ _ f5
 refine ⟨⟨a0, a1, a2, a3, a4, a5⟩, ?_, ?_, ?_⟩
 ·rw [emb_TG0_eq]
  have hcs : RepSeq (Mem.of w) _ (cs.drop 0) := (RepSeq.cut (k := 1) r0 (by rw [List.drop_drop]; exact (RepSeq.cut (k := 1) r1 (by rw [List.drop_drop]; exact (RepSeq.cut (k := 1) r2 (by rw [List.drop_drop]; exact (RepSeq.cut (k := 1) r3 (by rw [List.drop_drop]; exact (RepSeq.cut (k := 1) r4 (by rw [List.drop_drop]; exact (RepSeq.cut (k := 1) r5 (by rw [List.drop_drop]; exact (show RepSeq (Mem.of w) [] (cs.drop 6) from List.drop_eq_nil_of_le (by omega))))))))))))))
  exact hcs
 ·rw [emb_TG0_eq]; exact ⟨v0, ⟨v1, ⟨v2, ⟨v3, ⟨v4, ⟨v5, trivial⟩⟩⟩⟩⟩⟩
 ·rw [emb_TG0_eq]
  have := hB.agg ([x0, x1, x2, x3, x4, x5].map (·.1))
  simp only [List.map_cons, List.map_nil, List.sum_cons, List.sum_nil] at this ⊢
  simp only [dsz, dszs] at *
  omega
theorem opa_TF0 {H : Type} {enc : TypeId × Value → H} {w : World} {B : DataW H → Nat} (hB : BulkOk B) : ∀ m, OpnAt enc Tryz.prog w 73 emb_TF0 B m := by
 intro m
 induction m using Nat.strongRecOn with
 | ind m ih =>
 intro cs x h
 obtain ⟨xs, n, rfl, rfl, hlen, hxl, hf⟩ := DataW.trod_struct Tryz.underlying73 h
 have hct : Tryz.prog.cellsOf 73 = 8 := by kernel_rfl
 rw [hct] at hlen
 obtain ⟨x0, x1, x2, rfl⟩ : ∃ x0 x1 x2, xs = [x0, x1, x2] := by
  match xs, hxl with
  | [x0, x1, x2], _ => exact ⟨x0, x1, x2, rfl⟩
 have f0 : DataW.trod enc Tryz.prog w 0 (fun _ => true) true n 9 ((cs.drop 0).take (Tryz.prog.cellsOf 9)) = some x0 := hf 0 _ rfl
 rw [show Tryz.prog.cellsOf 9 = 1 by kernel_rfl] at f0
 obtain ⟨a0, r0, v0, b0⟩ := (fun _ => opa_str hB Tryz.underlying9) n _ _ f0
 have f1 : DataW.trod enc Tryz.prog w 0 (fun _ => true) true n 4 ((cs.drop 1).take (Tryz.prog.cellsOf 4)) = some x1 := hf 1 _ rfl
 rw [show Tryz.prog.cellsOf 4 = 1 by kernel_rfl] at f1
 obtain ⟨a1, r1, v1, b1⟩ := (fun _ => opa_bool hB Tryz.underlying4) n _ _ f1
 have f2 : DataW.trod enc Tryz.prog w 0 (fun _ => true) true n 71 ((cs.drop 2).take (Tryz.prog.cellsOf 71)) = some x2 := hf 2 _ rfl
 rw [show Tryz.prog.cellsOf 71 = 6 by kernel_rfl] at f2
 obtain ⟨a2, r2, v2, b2⟩ := (opa_TG0 hB) n _ _ f2
 refine ⟨⟨a0, a1, a2⟩, ?_, ?_, ?_⟩
 ·rw [emb_TF0_eq]
  have hcs : RepSeq (Mem.of w) _ (cs.drop 0) := (RepSeq.cut (k := 1) r0 (by rw [List.drop_drop]; exact (RepSeq.cut (k := 1) r1 (by rw [List.drop_drop]; exact (RepSeq.cut (k := 6) r2 (by rw [List.drop_drop]; exact (show RepSeq (Mem.of w) [] (cs.drop 8) from List.drop_eq_nil_of_le (by omega))))))))
  exact hcs
 ·rw [emb_TF0_eq]; exact ⟨v0, ⟨v1, ⟨v2, trivial⟩⟩⟩
 ·rw [emb_TF0_eq]
  have := hB.agg ([x0, x1, x2].map (·.1))
  simp only [List.map_cons, List.map_nil, List.sum_cons, List.sum_nil] at this ⊢
  simp only [dsz, dszs] at *
  omega
theorem opa_TI0 {H : Type} {enc : TypeId × Value → H} {w : World} {B : DataW H → Nat} (hB : BulkOk B) : ∀ m, OpnAt enc Tryz.prog w 31 emb_TI0 B m := by
 intro m
 induction m using Nat.strongRecOn with
 | ind m ih =>
 intro cs x h
 obtain ⟨xs, n, rfl, rfl, hlen, hxl, hf⟩ := DataW.trod_struct Tryz.underlying31 h
 have hct : Tryz.prog.cellsOf 31 = 5 := by kernel_rfl
 rw [hct] at hlen
 obtain ⟨x0, x1, x2, x3, x4, rfl⟩ : ∃ x0 x1 x2 x3 x4, xs = [x0, x1, x2, x3, x4] := by
  match xs, hxl with
  | [x0, x1, x2, x3, x4], _ => exact ⟨x0, x1, x2, x3, x4, rfl⟩
 have f0 : DataW.trod enc Tryz.prog w 0 (fun _ => true) true n 3 ((cs.drop 0).take (Tryz.prog.cellsOf 3)) = some x0 := hf 0 _ rfl
 rw [show Tryz.prog.cellsOf 3 = 1 by kernel_rfl] at f0
 obtain ⟨a0, r0, v0, b0⟩ := (fun _ => opa_int hB Tryz.underlying3) n _ _ f0
 have f1 : DataW.trod enc Tryz.prog w 0 (fun _ => true) true n 28 ((cs.drop 1).take (Tryz.prog.cellsOf 28)) = some x1 := hf 1 _ rfl
 rw [show Tryz.prog.cellsOf 28 = 1 by kernel_rfl] at f1
 obtain ⟨a1, r1, v1, b1⟩ := (fun _ => opa_int hB Tryz.underlying28) n _ _ f1
 have f2 : DataW.trod enc Tryz.prog w 0 (fun _ => true) true n 9 ((cs.drop 2).take (Tryz.prog.cellsOf 9)) = some x2 := hf 2 _ rfl
 rw [show Tryz.prog.cellsOf 9 = 1 by kernel_rfl] at f2
 obtain ⟨a2, r2, v2, b2⟩ := (fun _ => opa_str hB Tryz.underlying9) n _ _ f2
 have f3 : DataW.trod enc Tryz.prog w 0 (fun _ => true) true n 9 ((cs.drop 3).take (Tryz.prog.cellsOf 9)) = some x3 := hf 3 _ rfl
 rw [show Tryz.prog.cellsOf 9 = 1 by kernel_rfl] at f3
 obtain ⟨a3, r3, v3, b3⟩ := (fun _ => opa_str hB Tryz.underlying9) n _ _ f3
 have f4 : DataW.trod enc Tryz.prog w 0 (fun _ => true) true n 29 ((cs.drop 4).take (Tryz.prog.cellsOf 29)) = some x4 := hf 4 _ rfl
 rw [show Tryz.prog.cellsOf 29 = 1 by kernel_rfl] at f4
 obtain ⟨a4, r4, v4, b4⟩ := (fun m => opa_slice0 (e := 73) (sz := 8) hB Tryz.underlying29 (by kernel_rfl) (fun k _ => (opa_TF0 hB) k)) n _ _ f4
 refine ⟨⟨a0, a1, a2, a3, a4⟩, ?_, ?_, ?_⟩
 ·rw [emb_TI0_eq]
  have hcs : RepSeq (Mem.of w) _ (cs.drop 0) := (RepSeq.cut (k := 1) r0 (by rw [List.drop_drop]; exact (RepSeq.cut (k := 1) r1 (by rw [List.drop_drop]; exact (RepSeq.cut (k := 1) r2 (by rw [List.drop_drop]; exact (RepSeq.cut (k := 1) r3 (by rw [List.drop_drop]; exact (RepSeq.cut (k := 1) r4 (by rw [List.drop_drop]; exact (show RepSeq (Mem.of w) [] (cs.drop 5) from List.drop_eq_nil_of_le (by omega))))))))))))
  exact hcs
 ·rw [emb_TI0_eq]; exact ⟨v0, ⟨v1, ⟨v2, ⟨v3, ⟨v4, trivial⟩⟩⟩⟩⟩
 ·rw [emb_TI0_eq]
  have := hB.agg ([x0, x1, x2, x3, x4].map (·.1))
  simp only [List.map_cons, List.map_nil, List.sum_cons, List.sum_nil] at this ⊢
  simp only [dsz, dszs] at *
  omega
theorem opa_TB0 {H : Type} {enc : TypeId × Value → H} {w : World} {B : DataW H → Nat} (hB : BulkOk B) : ∀ m, OpnAt enc Tryz.prog w 33 emb_TB0 B m := by
 intro m
 induction m using Nat.strongRecOn with
 | ind m ih =>
 intro cs x h
 obtain ⟨xs, n, rfl, rfl, hlen, hxl, hf⟩ := DataW.trod_struct Tryz.underlying33 h
 have hct : Tryz.prog.cellsOf 33 = 7 := by kernel_rfl
 rw [hct] at hlen
 obtain ⟨x0, x1, x2, rfl⟩ : ∃ x0 x1 x2, xs = [x0, x1, x2] := by
  match xs, hxl with
  | [x0, x1, x2], _ => exact ⟨x0, x1, x2, rfl⟩
 have f0 : DataW.trod enc Tryz.prog w 0 (fun _ => true) true n 3 ((cs.drop 0).take (Tryz.prog.cellsOf 3)) = some x0 := hf 0 _ rfl
 rw [show Tryz.prog.cellsOf 3 = 1 by kernel_rfl] at f0
 obtain ⟨a0, r0, v0, b0⟩ := (fun _ => opa_int hB Tryz.underlying3) n _ _ f0
 have f1 : DataW.trod enc Tryz.prog w 0 (fun _ => true) true n 3 ((cs.drop 1).take (Tryz.prog.cellsOf 3)) = some x1 := hf 1 _ rfl
 rw [show Tryz.prog.cellsOf 3 = 1 by kernel_rfl] at f1
 obtain ⟨a1, r1, v1, b1⟩ := (fun _ => opa_int hB Tryz.underlying3) n _ _ f1
 have f2 : DataW.trod enc Tryz.prog w 0 (fun _ => true) true n 31 ((cs.drop 2).take (Tryz.prog.cellsOf 31)) = some x2 := hf 2 _ rfl
 rw [show Tryz.prog.cellsOf 31 = 5 by kernel_rfl] at f2
 obtain ⟨a2, r2, v2, b2⟩ := (opa_TI0 hB) n _ _ f2
 refine ⟨⟨a0, a1, a2⟩, ?_, ?_, ?_⟩
 ·rw [emb_TB0_eq]
  have hcs : RepSeq (Mem.of w) _ (cs.drop 0) := (RepSeq.cut (k := 1) r0 (by rw [List.drop_drop]; exact (RepSeq.cut (k := 1) r1 (by rw [List.drop_drop]; exact (RepSeq.cut (k := 5) r2 (by rw [List.drop_drop]; exact (show RepSeq (Mem.of w) [] (cs.drop 7) from List.drop_eq_nil_of_le (by omega))))))))
  exact hcs
 ·rw [emb_TB0_eq]; exact ⟨v0, ⟨v1, ⟨v2, trivial⟩⟩⟩
 ·rw [emb_TB0_eq]
  have := hB.agg ([x0, x1, x2].map (·.1))
  simp only [List.map_cons, List.map_nil, List.sum_cons, List.sum_nil] at this ⊢
  simp only [dsz, dszs] at *
  omega
theorem bulk_all {H : Type} (l : List (DataW H)) : Rows.uptoBulkAll l = (l.map Rows.uptoBulk).sum := by
 induction l with
 | nil => simp [Rows.uptoBulkAll]
 | cons x l ih => simp only [Rows.uptoBulkAll, List.map_cons, List.sum_cons, ih]
theorem bulk_ok {H : Type} : BulkOk (H := H) Rows.uptoBulk where
 one d := by
  cases d with
  | lit l => cases l <;> simp [Rows.uptoBulk]
  | nil => simp [Rows.uptoBulk]
  | ptr d => simp [Rows.uptoBulk]
  | slice elems spare => simp [Rows.uptoBulk]
  | agg parts => simp [Rows.uptoBulk]
  | iface t d => simp [Rows.uptoBulk]
  | map entries => simp [Rows.uptoBulk]
  | held h => simp [Rows.uptoBulk]
 str l := by simp [Rows.uptoBulk]
 slice e s := by
  simp only [Rows.uptoBulk]
  rw [bulk_all e]
  omega
 agg e := by
  simp only [Rows.uptoBulk]
  rw [bulk_all e]
  exact Nat.le_refl _
theorem bulk_one {H : Type} {d : DataW H} {l : List (DataW H)} (h : Rows.uptoSmall H l = true) (hd : d ∈ l) : Rows.uptoBulk d ≤ 1048576 := by
 unfold Rows.uptoSmall at h
 have h := of_decide_eq_true h
 rw [bulk_all] at h
 have := le_sum (List.mem_map_of_mem (f := Rows.uptoBulk) hd)
 omega
end Go.Proofs.YtocefedhenhbfabGreatDoor
end
