/-
  Texts of this claim, packed (what nothing names is left out): Q4i, Q4d, S4, S5, S7, SchemaP1, Q2a, Vu, Q2b, Q2d, Q2e. Own work, partly printed by own programs. No condition.
-/
import Derived.Test.YtalifkcchfkgmaaGreatDoorPkD2
import Derived.Test.YtalifkcchfkgmaaGreatDoorPkD1
import Derived.Lib.MapLaws
import Derived.Lib.ValidLaws
set_option linter.unusedVariables false
set_option linter.unusedSimpArgs false
set_option maxHeartbeats 2000000
section
namespace Go.Proofs.YtalifkcchfkgmaaGreatDoor
open Go Go.Vc Go.RowKit
def tree_order_s1 (n : Nat) (d0 : TD0) (s_1 : List Int × Int) : Option (Lp (List Int × Int) (List Int)) :=
    bif (decide (s_1.2 < (((List.replicate ((d0.fKeys.length : Nat) : Int).toNat (0 : Int)).length : Nat) : Int))) then
      ((getI s_1.1 s_1.2).bind fun x_1 =>
      need (inR .i64 (s_1.2 + 1)) <|
      some (.nx (s_1.1.set s_1.2.toNat s_1.2, s_1.2 + 1)))
    else
      some (.br s_1.1)
def tree_order (n : Nat) (d0 : TD0) : Option (List Int) :=
  need (0 ≤ ((d0.fKeys.length : Nat) : Int) ∧ ((d0.fKeys.length : Nat) : Int) * 8 ≤ 140737488355328 ∧ ((d0.fKeys.length : Nat) : Int) ≤ 140737488355328) <|
  (loopF (tree_order_s1 n d0) n (List.replicate ((d0.fKeys.length : Nat) : Int).toNat (0 : Int), (0 : Int))).bind fun y_1 =>
  (h_sortKeys n d0 y_1).bind fun x_2 =>
  some (x_2)
theorem tree_order_ok (n : Nat) (M : Mem) (hG : GL M) (ad0 : Addr) (c0 : List Value) (d0 : TD0) (h0 : Rep M (emb_TD0 d0) c0) (q0 : ∀ j v, c0[j]? = some v → M.cell? (ad0.add j) = some v) (r : List Int) (hF : tree_order n d0 = some r) : OkH Tryz.prog M [] 122 [.pointer (some ad0)] (fun M' E' v => ∃ (A0 : Option Addr) (k0 : Nat) (s0 : List Value), v = .slice A0 r.length k0 ∧ E' = [.row 3 1 (.slice A0 r.length k0) r.length s0] ∧ RepSeq M' (r.map (Dat.int .i64)) s0) := by
 unfold tree_order at hF
 intro M1 hM0 w0 H w p0
 replace hG := GL.mono hM0 hG
 replace h0 := Rep.mono hM0 _ _ h0
 replace q0 := fun j v h => hM0.cell (q0 j v h)
 obtain ⟨A_1, cap_1, A_2, cap_2, rfl, h_1, h_2⟩ := TD0.opn h0
 refine R_enter 25 Tryz.func122 rfl rfl (by simp) fun a0 f0 => RR (Y13 (cs := #[.pointer (some ad0)]) (T := 96) f0 p0 fun b_1 M_1 w_1 hM_1 hc_1 p_1 _ f => ?_)
 have hc_2 := fz_box hc_1
 refine Y f 1 fun _ f => eT (RR (Y15 f p_1 hc_2 0 rfl fun _ f => Y f 2 fun _ f => Y15 f p_1 (fzu hM_1 q0) 5 rfl fun _ f => Y f 1 fun _ f => ?_))
 obtain ⟨g_1, hF_1⟩ := nS hF
 refine Y25 (f := (Dat.int .i64)) (x := (0 : Int)) (z := .int .i64 0) (m := ((d0.fKeys.length : Nat) : Int)) (bytes := 8) (e := 3) f p_1 (by exact rfl) rfl rfl rfl rfl g_1 fun A_3 cap_3 cs_1 w_2 p_2 hr_1 _ f => Y f 1 fun _ f => eT (R_seq (RR (Y f 3 fun _ f => eT (wp_block ?_))))
 obtain ⟨b_2, hL_1, hF_2⟩ := bS hF_1
 refine wp_mono (Q := fun e a w => (e = .exit 0 ∧ (∃ y_1 : List Int, b_2 = y_1 ∧ ∃ M_3 : Mem, M_1.le M_3 ∧ ∃ (A_5 : Option Addr), ∃ (cap_6 : Nat), ∃ (cs_3 : List Value), RepSeq M_3 (y_1.map (Dat.int .i64)) cs_3 ∧ Frm 25 [(1, .pointer (some (⟨b_1, 0, none⟩))), (3, .slice A_5 y_1.length cap_6)] a ∧ Hp w0 M_3 ((Ent.row 3 1 (.slice A_5 y_1.length cap_6) y_1.length cs_3) :: H) w))) (R_loop (n := 25) (w0 := w0) (M := M_1) (fun (x : Nat × (List Int × Int) × (Option Addr) × Nat × (List Value)) => match x with | (m_1, s_1, A_4, cap_4, cs_2) => [(1, .pointer (some (⟨b_1, 0, none⟩))), (3, .slice A_4 s_1.1.length cap_4), (12, .int .i64 (((List.replicate ((d0.fKeys.length : Nat) : Int).toNat (0 : Int)).length : Nat) : Int)), (13, .int .i64 s_1.2)]) (fun (x : Nat × (List Int × Int) × (Option Addr) × Nat × (List Value)) => match x with | (m_1, s_1, A_4, cap_4, cs_2) => ((Ent.row 3 1 (.slice A_4 s_1.1.length cap_4) s_1.1.length cs_2) :: H)) (fun (x : Nat × (List Int × Int) × (Option Addr) × Nat × (List Value)) (MM : Mem) => match x with | (m_1, s_1, A_4, cap_4, cs_2) => loopF (tree_order_s1 n d0) m_1 s_1 = some b_2 ∧ RepSeq MM (s_1.1.map (Dat.int .i64)) cs_2) (fun (x : Nat × (List Int × Int) × (Option Addr) × Nat × (List Value)) => match x with | (m_1, s_1, A_4, cap_4, cs_2) => m_1) (n, (List.replicate ((d0.fKeys.length : Nat) : Int).toNat (0 : Int), (0 : Int)), A_3, cap_3, cs_1) (f.kp) p_2 ⟨hL_1, hr_1⟩ ?_) ?_
 ·rintro ⟨m_1, s_1, A_4, cap_4, cs_2⟩ M_2 _ w_3 hM_2 I_1 f p_3
  obtain ⟨I_1L, hr_2⟩ := I_1
  obtain ⟨m_2, r_1, rfl, hs_1, hn_1⟩ := loop_step I_1L
  unfold tree_order_s1 at hs_1
  refine RR (Y f 1 fun _ f => eT (R_seq (RcF f hs_1 (fun h_3 hF_3 => ?_) fun h_3 hF_6 => ?_)))
  ·have k_1 := dI.1 h_3
   refine wp_skip (T_n (R_seq (wp_block (RR (Y f 2 fun _ f => eT (R_reg (Y f 3 fun _ f => ?_)))))))
   obtain ⟨x_1, hx_1, hF_4⟩ := bS hF_3
   obtain ⟨b_3, cap_5, hv_1, hcap_1⟩ := p_3.rowAddr 0 rfl (getI_pos hx_1)
   have f := f.st 16 (hv_1)
   refine Z f (Y30 rfl (ad := ⟨b_3, 0, none⟩) (len := s_1.1.length) (cap := cap_5) (k := .i64) (i := s_1.2) (e := 3) (sz := 1) (getI_nn hx_1) (getI_lt hx_1)) fun _ f => ?_
   have f := f.st 16 (hv_1.symm)
   refine Y26 (it := s_1.2) (d := s_1.1) (f := (Dat.int .i64)) (xv := s_1.2) (v := .int .i64 s_1.2) f p_3 hv_1 rfl rfl (by exact rfl) (szd_int .i64) hx_1 hr_2 fun w_4 p_4 hr_3 _ f => ?_
   have p_5 : Hp w0 M_2 ((Ent.row 3 1 (.slice A_4 (s_1.1.set s_1.2.toNat s_1.2).length cap_4) (s_1.1.set s_1.2.toNat s_1.2).length (cs_2.set s_1.2.toNat (.int .i64 s_1.2))) :: H) w_4 := p_4.rowVal (by rw [List.length_set])
   have f := Frm.set f 3 (v := .slice A_4 s_1.1.length cap_4) (v' := .slice A_4 (s_1.1.set s_1.2.toNat s_1.2).length cap_4) (by kernel_rfl) (by rw [List.length_set])
   have f := Frm.set f 16 (v := .slice A_4 s_1.1.length cap_4) (v' := .slice A_4 (s_1.1.set s_1.2.toNat s_1.2).length cap_4) (by kernel_rfl) (by rw [List.length_set])
   refine W_end rfl (B_n (T_n (R_reg ?_)))
   obtain ⟨g_2, hF_5⟩ := nS hF_4
   refine Y f 1 fun _ f => ?_
   have f := f.st 20 (congrArg (Value.int .i64) (inR_wrap g_2))
   refine Y f 1 fun _ f => eT ?_
   obtain rfl := sI hF_5
   exact ⟨⟨m_2, (s_1.1.set s_1.2.toNat s_1.2, s_1.2 + 1), A_4, cap_4, cs_2.set s_1.2.toNat (.int .i64 s_1.2)⟩, Nat.lt_succ_self _, M_2, hM_2, ⟨hn_1, hr_3⟩, f.kp, p_5⟩
  ·have k_2 := iff_f dI h_3
   refine wp_exit (T_x (T_x ?_))
   obtain rfl := sI hF_6
   exact ⟨rfl, s_1.1, (sI hn_1).symm, M_2, hM_2, A_4, cap_4, cs_2, hr_2, f.kp, p_3⟩
 ·rintro _ _ w_6 ⟨rfl, y_1, hq_, M_3, hM_3, A_5, cap_6, cs_3, hr_4, f, p_6⟩
  subst b_2
  refine B_x (T_n (RR (Y f 2 fun _ f => ?_)))
  obtain ⟨x_2, hx_2, hF_7⟩ := bS hF_2
  refine Y17 (E := [Ent.row 3 1 (.slice A_5 y_1.length cap_6) y_1.length cs_3]) (H := (H)) f p_6 (sortKeys_ok n (c0 := [.int .i8 d0.fKind, .bool d0.fBool, .int .i64 d0.fNum, S d0.fText, .slice A_1 d0.fList.length cap_1, .slice A_2 d0.fKeys.length cap_2]) (TD0.shutx (x := d0) (h_1.mono (hM_1.trans hM_3)) (h_2.mono (hM_1.trans hM_3))) (fzu (hM_1.trans hM_3) q0) ((fzu hM_3 hc_2) 0 _ rfl) _ _ _ hr_4 _ hx_2) fun _ M_4 E_1 w_7 hM_4 p_7 q_1 _ f => ?_
  obtain ⟨cs_4, rfl, rfl, hr_5, hl_1⟩ := q_1
  have hv_2 : (.slice A_5 y_1.length cap_6 : Value) = .slice A_5 x_2.length cap_6 := by rw [hl_1]
  have p_8 : Hp w0 M_4 ((Ent.row 3 1 (.slice A_5 x_2.length cap_6) x_2.length cs_4) :: H) w_7 := by rw [← hv_2]; exact p_7
  have f := f.st 3 (hv_2)
  have f := f.st 21 (hv_2)
  refine eT (RR (Y f 2 fun _ f => eT (wp_ret (E_ret1 f rfl (by kernel_rfl : Vc.look _ 2 = some (.slice A_5 x_2.length cap_6)) ?_))))
  obtain rfl := sI hF_7
  exact ⟨_, rfl, M_4, _, ((hM_1.trans hM_3).trans hM_4), p_8, ⟨A_5, cap_6, cs_4, rfl, rfl, hr_5⟩⟩
def tree_sorted_s1 (n : Nat) (rec_tree_sorted : TD0 → Option TD0) (d0 : TD0) (x_1 : List Int) (s_1 : Int × List TD0 × List (List UInt8)) : Option (Lp (Int × List TD0 × List (List UInt8)) (List TD0 × List (List UInt8))) :=
    bif (decide (s_1.1 < ((x_1.length : Nat) : Int))) then
      ((getI x_1 s_1.1).bind fun x_2 =>
      (((getI d0.fKeys x_2).bind fun x_3 =>
        need ((s_1.2.2.length + 1) * 16 ≤ 140737488355328) <|
        some (s_1.2.2 ++ [x_3]) : Option (List (List UInt8)))).bind fun y_1 =>
      (((getI d0.fList x_2).bind fun x_5 =>
        (rec_tree_sorted x_5).bind fun x_6 =>
        need ((s_1.2.1.length + 1) * 80 ≤ 140737488355328) <|
        some (s_1.2.1 ++ [(⟨x_6.fKind, (x_6.fBool), x_6.fNum, x_6.fText, x_6.fList, x_6.fKeys⟩ : TD0)]) : Option (List TD0))).bind fun y_2 =>
      need (inR .i64 (s_1.1 + 1)) <|
      some (.nx (s_1.1 + 1, y_2, y_1)))
    else
      some (.br (s_1.2.1, s_1.2.2))
def tree_sorted_s2 (n : Nat) (rec_tree_sorted : TD0 → Option TD0) (d0 : TD0) (s_2 : Int × List TD0) : Option (Lp (Int × List TD0) (List TD0)) :=
    bif (decide (s_2.1 < ((d0.fList.length : Nat) : Int))) then
      ((((getI d0.fList s_2.1).bind fun x_9 =>
        (rec_tree_sorted x_9).bind fun x_10 =>
        need ((s_2.2.length + 1) * 80 ≤ 140737488355328) <|
        some (s_2.2 ++ [(⟨x_10.fKind, (x_10.fBool), x_10.fNum, x_10.fText, x_10.fList, x_10.fKeys⟩ : TD0)]) : Option (List TD0))).bind fun y_4 =>
      need (inR .i64 (s_2.1 + 1)) <|
      some (.nx (s_2.1 + 1, y_4)))
    else
      some (.br s_2.2)
def tree_sorted_b (n : Nat) (rec_tree_sorted : TD0 → Option TD0) (d0 : TD0) : Option TD0 :=
  bif (decide (d0.fKind = 5)) then
    ((tree_order n d0).bind fun x_1 =>
    (loopF (tree_sorted_s1 n rec_tree_sorted d0 x_1) n ((0 : Int), ([] : List TD0), ([] : List (List UInt8)))).bind fun y_3 =>
    some ((⟨d0.fKind, (d0.fBool), d0.fNum, d0.fText, y_3.1, y_3.2⟩ : TD0)))
  else
    (loopF (tree_sorted_s2 n rec_tree_sorted d0) n ((0 : Int), ([] : List TD0))).bind fun y_5 =>
    some ((⟨d0.fKind, (d0.fBool), d0.fNum, d0.fText, y_5, ([] : List (List UInt8))⟩ : TD0))
theorem tree_sorted_b_ok (n : Nat) (rec_tree_sorted : TD0 → Option TD0) (hrec_tree_sorted : ∀ (M : Mem) (hG : GL M) (ad0 : Addr) (c0 : List Value) (d0 : TD0) (h0 : Rep M (emb_TD0 d0) c0) (q0 : ∀ j v, c0[j]? = some v → M.cell? (ad0.add j) = some v) (r : TD0) (hF : rec_tree_sorted d0 = some r), Ok Tryz.prog M 108 [.pointer (some ad0)] (fun M' v => ∃ (c0 : List Value), v = .agg c0.toArray ∧ Rep M' (emb_TD0 r) c0)) (M : Mem) (hG : GL M) (ad0 : Addr) (c0 : List Value) (d0 : TD0) (h0 : Rep M (emb_TD0 d0) c0) (q0 : ∀ j v, c0[j]? = some v → M.cell? (ad0.add j) = some v) (r : TD0) (hF : tree_sorted_b n rec_tree_sorted d0 = some r) : Ok Tryz.prog M 108 [.pointer (some ad0)] (fun M' v => ∃ (c0 : List Value), v = .agg c0.toArray ∧ Rep M' (emb_TD0 r) c0) := by
 unfold tree_sorted_b at hF
 intro M1 hM0 w0 H w p0
 replace hG := GL.mono hM0 hG
 replace h0 := Rep.mono hM0 _ _ h0
 replace q0 := fun j v h => hM0.cell (q0 j v h)
 obtain ⟨A_1, cap_1, A_2, cap_2, rfl, h_1, h_2⟩ := TD0.opn h0
 refine R_enter 84 Tryz.func108 rfl rfl (by simp) fun a0 f0 => RR (Y12 f0 p0 (.cells #[.int .i8 0, .bool false, .int .i64 0, S [], .slice none 0 0, .slice none 0 0] 76 (0, 0)) fun b_1 w_1 p_1 _ f => eT (R_seq (R_mix (E := []) (Hr := ((Ent.obj b_1 (.cells #[.int .i8 0, .bool false, .int .i64 0, S [], .slice none 0 0, .slice none 0 0] 76 (0, 0))) :: H)) [(0, true), (1, true), (2, true), (3, true), (4, true), (5, true), (6, true), (7, true), (8, true), (9, true), (10, true), (11, true), (12, true), (13, true), (14, true), (15, true), (16, true), (17, false), (18, false)] p_1 (by kernel_rfl) (by kernel_rfl) rfl (by kernel_rfl) (Y0 default f 3 fun _ f => M_eq (v := .int .i8 d0.fKind) f (by kernel_rfl) (by kernel_rfl) rfl rfl (fun _ pq => Y32 (v := .int .i8 d0.fKind) rfl (ad := ad0.add 0) (pq.cell (q0 0 _ rfl))) fun _ f => Y0 default f 3 fun _ f => M_eq (v := .bool d0.fBool) f (by kernel_rfl) (by kernel_rfl) rfl rfl (fun _ pq => Y32 (v := .bool d0.fBool) rfl (ad := ad0.add 1) (pq.cell (q0 1 _ rfl))) fun _ f => Y0 default f 3 fun _ f => M_eq (v := .int .i64 d0.fNum) f (by kernel_rfl) (by kernel_rfl) rfl rfl (fun _ pq => Y32 (v := .int .i64 d0.fNum) rfl (ad := ad0.add 2) (pq.cell (q0 2 _ rfl))) fun _ f => ?_))))
 refine Y0 default f 3 fun _ f => M_eq (v := S d0.fText) f (by kernel_rfl) (by kernel_rfl) rfl rfl (fun _ pq => Y32 (v := S d0.fText) rfl (ad := ad0.add 3) (pq.cell (q0 3 _ rfl))) fun _ f => Y0 default f 1 fun _ f => M_fix (E := []) fun w_2 p_2 => Y12 f p_2 (.cells #[.int .i8 0, .bool false, .int .i64 0, S [], .slice none 0 0, .slice none 0 0] 76 (0, 0)) fun b_2 w_3 p_3 _ f => W_end rfl (M_go (M1 := M1) (E := [Ent.obj b_2 (.cells #[.int .i8 0, .bool false, .int .i64 0, S [], .slice none 0 0, .slice none 0 0] 76 (0, 0))]) (mR _) p_3 (M_fix (E := [Ent.obj b_2 (.cells #[.int .i8 0, .bool false, .int .i64 0, S [], .slice none 0 0, .slice none 0 0] 76 (0, 0))]) fun w_4 p_4 => Y28 (vs := [.int .i8 d0.fKind, .bool d0.fBool, .int .i64 d0.fNum, S d0.fText, .slice none 0 0, .slice none 0 0]) (j := 0) f p_4 rfl rfl (by simp [Value.oneCell', S]) (by simp) (by decide) (cs' := #[.int .i8 d0.fKind, .bool d0.fBool, .int .i64 d0.fNum, S d0.fText, .slice none 0 0, .slice none 0 0]) (by kernel_rfl) fun w_5 p_5 _ f => W_end rfl (M_go (M1 := M1) (E := [Ent.obj b_2 (.cells #[.int .i8 d0.fKind, .bool d0.fBool, .int .i64 d0.fNum, S d0.fText, .slice none 0 0, .slice none 0 0] 76 (0, 0))]) (mR _) p_5 ?_)))
 refine M_end rfl fun w_6 p_6 => T_n (R_seq (RR (Y f 3 fun _ f => Y15 f p_6 q0 0 rfl fun _ f => Y f 1 fun _ f => eT (RcF f hF (fun h_3 hF_1 => ?_) fun h_3 hF_15 => ?_))))
 ·have k_1 := dI.1 h_3
  refine R_seq (RR (Y f 1 fun _ f => ?_))
  obtain ⟨x_1, hx_1, hF_2⟩ := bS hF_1
  refine Y17 (E := []) (H := ((Ent.obj b_2 (.cells #[.int .i8 d0.fKind, .bool d0.fBool, .int .i64 d0.fNum, S d0.fText, .slice none 0 0, .slice none 0 0] 76 (0, 0))) :: (Ent.obj b_1 (.cells #[.int .i8 0, .bool false, .int .i64 0, S [], .slice none 0 0, .slice none 0 0] 76 (0, 0))) :: H)) f p_6 (tree_order_ok n _ hG ad0 [.int .i8 d0.fKind, .bool d0.fBool, .int .i64 d0.fNum, S d0.fText, .slice A_1 d0.fList.length cap_1, .slice A_2 d0.fKeys.length cap_2] d0 (TD0.shutx (x := d0) h_1 h_2) (fz_at (q0) 0 rfl) x_1 hx_1) fun _ M_1 E_1 w_7 hM_1 p_7 q_1 _ f => ?_
  obtain ⟨A_3, cap_3, cs_1, rfl, rfl, hr_1⟩ := q_1
  refine Y f 2 fun _ f => eT (wp_block ?_)
  obtain ⟨A_4, cap_4, hv_1⟩ : ∃ A cap, Value.slice none 0 0 = .slice A ([] : List TD0).length cap := ⟨none, 0, rfl⟩
  have p_8 : Hp w0 M_1 ((Ent.row 76 6 (.slice A_4 ([] : List TD0).length cap_4) ([] : List TD0).length []) :: (Ent.row 3 1 (.slice A_3 x_1.length cap_3) x_1.length cs_1) :: (Ent.obj b_2 (.cells #[.int .i8 d0.fKind, .bool d0.fBool, .int .i64 d0.fNum, S d0.fText, .slice A_4 ([] : List TD0).length cap_4, .slice none 0 0] 76 (0, 0))) :: (Ent.obj b_1 (.cells #[.int .i8 0, .bool false, .int .i64 0, S [], .slice none 0 0, .slice none 0 0] 76 (0, 0))) :: H) w_7 := by rw [← hv_1]; exact p_7.nilRow 76 6
  have hr_2 : RepSeq M_1 (([] : List TD0).map emb_TD0) [] := rfl
  obtain ⟨A_5, cap_5, hv_2⟩ : ∃ A cap, Value.slice none 0 0 = .slice A ([] : List (List UInt8)).length cap := ⟨none, 0, rfl⟩
  have p_9 : Hp w0 M_1 ((Ent.row 9 1 (.slice A_5 ([] : List (List UInt8)).length cap_5) ([] : List (List UInt8)).length []) :: (Ent.row 76 6 (.slice A_4 ([] : List TD0).length cap_4) ([] : List TD0).length []) :: (Ent.row 3 1 (.slice A_3 x_1.length cap_3) x_1.length cs_1) :: (Ent.obj b_2 (.cells #[.int .i8 d0.fKind, .bool d0.fBool, .int .i64 d0.fNum, S d0.fText, .slice A_4 ([] : List TD0).length cap_4, .slice A_5 ([] : List (List UInt8)).length cap_5] 76 (0, 0))) :: (Ent.obj b_1 (.cells #[.int .i8 0, .bool false, .int .i64 0, S [], .slice none 0 0, .slice none 0 0] 76 (0, 0))) :: H) w_7 := by rw [← hv_2]; exact p_8.nilRow 9 1
  have hr_3 : RepSeq M_1 (([] : List (List UInt8)).map Dat.str) [] := rfl
  have p_14 := p_9.pl [4, 4, 4, 3, 4]
  obtain ⟨b_3, hL_1, hF_3⟩ := bS hF_2
  refine wp_mono (Q := fun e a w => (e = .exit 0 ∧ (∃ y_3 : List TD0 × List (List UInt8), b_3 = y_3 ∧ ∃ M_7 : Mem, M_1.le M_7 ∧ ∃ (A_22 : Option Addr), ∃ (cap_23 : Nat), ∃ (cs_10 : List Value), ∃ (A_23 : Option Addr), ∃ (cap_24 : Nat), ∃ (cs_11 : List Value), RepSeq M_7 (y_3.1.map emb_TD0) cs_10 ∧ RepSeq M_7 (y_3.2.map Dat.str) cs_11 ∧ Frm 84 [(2, .pointer (some (⟨b_1, 0, none⟩))), (3, .pointer (some (⟨b_2, 0, none⟩)))] a ∧ Hp w0 M_7 ((Ent.row 76 6 (.slice A_22 y_3.1.length cap_23) y_3.1.length cs_10) :: (Ent.row 9 1 (.slice A_23 y_3.2.length cap_24) y_3.2.length cs_11) :: (Ent.row 3 1 (.slice A_3 x_1.length cap_3) x_1.length cs_1) :: (Ent.obj b_2 (.cells #[.int .i8 d0.fKind, .bool d0.fBool, .int .i64 d0.fNum, S d0.fText, .slice A_22 y_3.1.length cap_23, .slice A_23 y_3.2.length cap_24] 76 (0, 0))) :: (Ent.obj b_1 (.cells #[.int .i8 0, .bool false, .int .i64 0, S [], .slice none 0 0, .slice none 0 0] 76 (0, 0))) :: H) w))) (R_loop (n := 84) (w0 := w0) (M := M_1) (fun (x : Nat × (Int × List TD0 × List (List UInt8)) × (Option Addr) × Nat × (List Value) × (Option Addr) × Nat × (List Value)) => match x with | (m_1, s_1, A_6, cap_6, cs_2, A_7, cap_7, cs_3) => [(0, .pointer (some ad0)), (2, .pointer (some (⟨b_1, 0, none⟩))), (3, .pointer (some (⟨b_2, 0, none⟩))), (30, .slice A_3 x_1.length cap_3), (31, .int .i64 ((x_1.length : Nat) : Int)), (32, .int .i64 s_1.1)]) (fun (x : Nat × (Int × List TD0 × List (List UInt8)) × (Option Addr) × Nat × (List Value) × (Option Addr) × Nat × (List Value)) => match x with | (m_1, s_1, A_6, cap_6, cs_2, A_7, cap_7, cs_3) => ((Ent.row 76 6 (.slice A_6 s_1.2.1.length cap_6) s_1.2.1.length cs_2) :: (Ent.row 9 1 (.slice A_7 s_1.2.2.length cap_7) s_1.2.2.length cs_3) :: (Ent.row 3 1 (.slice A_3 x_1.length cap_3) x_1.length cs_1) :: (Ent.obj b_2 (.cells #[.int .i8 d0.fKind, .bool d0.fBool, .int .i64 d0.fNum, S d0.fText, .slice A_6 s_1.2.1.length cap_6, .slice A_7 s_1.2.2.length cap_7] 76 (0, 0))) :: (Ent.obj b_1 (.cells #[.int .i8 0, .bool false, .int .i64 0, S [], .slice none 0 0, .slice none 0 0] 76 (0, 0))) :: H)) (fun (x : Nat × (Int × List TD0 × List (List UInt8)) × (Option Addr) × Nat × (List Value) × (Option Addr) × Nat × (List Value)) (MM : Mem) => match x with | (m_1, s_1, A_6, cap_6, cs_2, A_7, cap_7, cs_3) => loopF (tree_sorted_s1 n rec_tree_sorted d0 x_1) m_1 s_1 = some b_3 ∧ RepSeq MM (s_1.2.1.map emb_TD0) cs_2 ∧ RepSeq MM (s_1.2.2.map Dat.str) cs_3) (fun (x : Nat × (Int × List TD0 × List (List UInt8)) × (Option Addr) × Nat × (List Value) × (Option Addr) × Nat × (List Value)) => match x with | (m_1, s_1, A_6, cap_6, cs_2, A_7, cap_7, cs_3) => m_1) (n, ((0 : Int), ([] : List TD0), ([] : List (List UInt8))), A_4, cap_4, [], A_5, cap_5, []) (f.kp) p_14 ⟨hL_1, hr_2, hr_3⟩ ?_) ?_
  ·rintro ⟨m_1, s_1, A_6, cap_6, cs_2, A_7, cap_7, cs_3⟩ M_2 _ w_8 hM_2 I_1 f p_15
   obtain ⟨I_1L, hr_4, hr_5⟩ := I_1
   obtain ⟨m_2, r_1, rfl, hs_1, hn_1⟩ := loop_step I_1L
   unfold tree_sorted_s1 at hs_1
   refine RR (Y f 1 fun _ f => eT (R_seq (RcF f hs_1 (fun h_4 hF_4 => ?_) fun h_4 hF_14 => ?_)))
   ·have k_2 := dI.1 h_4
    refine wp_skip (T_n (R_seq (wp_block (RR ?_))))
    obtain ⟨x_2, hx_2, hF_5⟩ := bS hF_4
    obtain ⟨b_4, cap_8, hv_3, hcap_1⟩ := p_15.rowAddr 2 rfl (getI_pos hx_2)
    have f := f.st 30 (hv_3)
    refine Z f (Y30 rfl (ad := ⟨b_4, 0, none⟩) (len := x_1.length) (cap := cap_8) (k := .i64) (i := s_1.1) (e := 3) (sz := 1) (getI_nn hx_2) (getI_lt hx_2)) fun _ f => ?_
    have f := f.st 30 (hv_3.symm)
    obtain ⟨c_1, -, hr_6, hc_1⟩ := RepSeq.get s_1.1.toNat (szd_all (szd_int .i64)) (RepSeq.mono hM_2 _ _ hr_1) (getI_map hx_2)
    obtain rfl : c_1 = [.int .i64 x_2] := hr_6
    refine Z f (Y32 (v := .int .i64 x_2) rfl (ad := (⟨b_4, 0, none⟩ : Addr).add (s_1.1.toNat * 1)) (by simpa [Addr.add] using (fun j v h => row_at (p_15.rowCell 2 rfl hv_3) hc_1 j v h) 0 _ rfl)) fun _ f => Y f 1 fun _ f => eT (R_seq ?_)
    obtain ⟨j_1, hj_1, hF_6⟩ := bS hF_5
    refine R_mid (fun a_46 w_17 => ∃ y_1 : List (List UInt8), j_1 = y_1 ∧ ∃ M_3 : Mem, M_2.le M_3 ∧ ∃ (A_10 : Option Addr), ∃ (cap_11 : Nat), ∃ (cs_6 : List Value), RepSeq M_3 (y_1.map Dat.str) cs_6 ∧ Frm 84 [(0, .pointer (some ad0)), (2, .pointer (some (⟨b_1, 0, none⟩))), (3, .pointer (some (⟨b_2, 0, none⟩))), (5, .int .i64 x_2), (30, .slice A_3 x_1.length cap_3), (31, .int .i64 ((x_1.length : Nat) : Int)), (32, .int .i64 s_1.1)] a_46 ∧ Hp w0 M_3 ((Ent.row 9 1 (.slice A_10 y_1.length cap_11) y_1.length cs_6) :: (Ent.row 76 6 (.slice A_6 s_1.2.1.length cap_6) s_1.2.1.length cs_2) :: (Ent.row 3 1 (.slice A_3 x_1.length cap_3) x_1.length cs_1) :: (Ent.obj b_2 (.cells #[.int .i8 d0.fKind, .bool d0.fBool, .int .i64 d0.fNum, S d0.fText, .slice A_6 s_1.2.1.length cap_6, .slice A_10 y_1.length cap_11] 76 (0, 0))) :: (Ent.obj b_1 (.cells #[.int .i8 0, .bool false, .int .i64 0, S [], .slice none 0 0, .slice none 0 0] 76 (0, 0))) :: H) w_17) ?_ ?_
    ·have p_25 := p_15.pl [4, 4, 4, 3, 4]
     obtain ⟨x_3, hx_3, hF_7⟩ := bS hj_1
     obtain ⟨g_1, hF_8⟩ := nS hF_7
     refine R_plan (ks := [11, 12]) (E := [Ent.row 9 1 (.slice A_7 s_1.2.2.length cap_7) s_1.2.2.length cs_3]) (Hr := ((Ent.row 76 6 (.slice A_6 s_1.2.1.length cap_6) s_1.2.1.length cs_2) :: (Ent.row 3 1 (.slice A_3 x_1.length cap_3) x_1.length cs_1) :: (Ent.obj b_2 (.cells #[.int .i8 d0.fKind, .bool d0.fBool, .int .i64 d0.fNum, S d0.fText, .slice A_6 s_1.2.1.length cap_6, .slice A_7 s_1.2.2.length cap_7] 76 (0, 0))) :: (Ent.obj b_1 (.cells #[.int .i8 0, .bool false, .int .i64 0, S [], .slice none 0 0, .slice none 0 0] 76 (0, 0))) :: H)) (.quiet 0 (.quiet 1 (.quiet 2 (.quiet 3 (.quiet 4 (.quiet 5 (.quiet 6 (.quiet 7 (.quiet 8 (.alt 9 (.alt 10 .done .none) .none)))))))))) p_25 (by kernel_rfl) (by kernel_rfl) (by kernel_rfl) (Y1 (v := .pointer (some (⟨b_2, 5, none⟩))) rfl f rfl rfl (fun _ _ => by kernel_rfl) fun _ f => Y1 (v := .slice A_7 s_1.2.2.length cap_7) rfl f rfl rfl (fun _ pq => Y32 (v := .slice A_7 s_1.2.2.length cap_7) rfl (ad := ⟨b_2, 5, none⟩) (pq.ownCell 2 rfl 5)) fun _ f => Y1 (v := .pointer (some ad0)) rfl f rfl rfl (fun _ _ => by kernel_rfl) fun _ f => Y1 (v := .pointer (some ad0)) rfl f rfl rfl (fun _ _ => by kernel_rfl) fun _ f => Y1 (v := .pointer (some (ad0.add 5))) rfl f rfl rfl (fun _ _ => by kernel_rfl) fun _ f => Y1 (v := .slice A_2 d0.fKeys.length cap_2) rfl f rfl rfl (fun _ pq => Y32 (v := .slice A_2 d0.fKeys.length cap_2) rfl (ad := ad0.add 5) (pq.cell ((fzu (hM_1.trans hM_2) q0) 5 _ rfl))) fun _ f => Y1 (v := .int .i64 x_2) rfl f rfl rfl (fun _ _ => by kernel_rfl) fun _ f => ?_)
     obtain ⟨ad_2, c_3, e_2, -, hr_9, hc_3⟩ := Sli.at_ (h_2.mono (hM_1.trans hM_2)) hx_3
     obtain rfl : c_3 = [S x_3] := hr_9
     refine Y1 (v := .pointer (some (ad_2.add (x_2.toNat * 1)))) rfl f rfl rfl (fun _ pq => Y31 e_2 rfl (len := d0.fKeys.length) (cap := cap_2) (k := .i64) (i := x_2) (e := 9) (sz := 1) (getI_nn hx_3) (getI_lt hx_3)) fun _ f => Y1 (v := S x_3) rfl f rfl rfl (fun _ pq => Y32 (v := S x_3) rfl (ad := ad_2.add (x_2.toNat * 1)) (pq.cell (hc_3 0 _ rfl))) fun _ f => N_alt rfl (fun w_11 p_26 => ?_) ?_
     ·refine V_allocS (k := 1) (c := 1) f p_26 (.cells #[S x_3] 9 (0, 0)) (by kernel_rfl) (fun _ => by kernel_rfl) fun b_6 w_12 p_27 _ f => W_end rfl (N_goN 2 (mR _) p_27 rfl (N_alt rfl (fun w_13 p_28 => ?_) ?_))
      ·have p_29 := p_28.pl [1]
       refine Y22 (z := S []) (f := Dat.str) (xs := s_1.2.2) (ys := [x_3]) (news := [S x_3]) (ad := ⟨b_6, 0, none⟩) (m := 1) (c := 1) f p_29 hr_5 (by exact ⟨_, _, rfl, rfl, rfl⟩) rfl rfl rfl rfl (own_cells (p_29.ownCell 1 rfl) 0 rfl) (by exact g_1) (by have hg_ := g_1; first | omega | (simp only [List.length_cons, List.length_nil] at *; omega)) fun A_9 cap_10 cs_5 w_14 p_30 hr_10 _ f => ?_
       have p_31 := p_30.pl [1]
       have p_32 := p_31.drop
       refine W_end rfl (N_goN 1 (mR _) p_32 rfl (N_tail fun w_15 p_33 => Y f 1 fun _ f => Y27 f p_33 3 rfl rfl (b := b_2) (j := 5) (v := .slice A_9 (s_1.2.2 ++ [x_3]).length cap_10) rfl (by exact rfl) (by simp) (by simp) ((Ent.row 9 1 (.slice A_9 (s_1.2.2 ++ [x_3]).length cap_10) (s_1.2.2 ++ [x_3]).length cs_5) :: (Ent.row 76 6 (.slice A_6 s_1.2.1.length cap_6) s_1.2.1.length cs_2) :: (Ent.row 3 1 (.slice A_3 x_1.length cap_3) x_1.length cs_1) :: (Ent.obj b_2 (.cells #[.int .i8 d0.fKind, .bool d0.fBool, .int .i64 d0.fNum, S d0.fText, .slice A_6 s_1.2.1.length cap_6, .slice A_9 (s_1.2.2 ++ [x_3]).length cap_10] 76 (0, 0))) :: (Ent.obj b_1 (.cells #[.int .i8 0, .bool false, .int .i64 0, S [], .slice none 0 0, .slice none 0 0] 76 (0, 0))) :: H) rfl fun w_16 p_34 _ f => W_end rfl (N_te (T_n ?_))))
       exact ⟨s_1.2.2 ++ [x_3], (sI hF_8).symm, M_2, (mR _), A_9, cap_10, cs_5, hr_10, f.kp, p_34⟩
      exact N_none
     exact N_none
    ·rintro a_46 w_17 ⟨y_1, hq_1, M_3, hM_3, A_10, cap_11, cs_6, hr_11, f, p_35⟩
     subst j_1
     refine T_n ?_
     obtain ⟨j_2, hj_2, hF_9⟩ := bS hF_6
     refine R_mid (fun a_69 w_29 => ∃ y_2 : List TD0, j_2 = y_2 ∧ ∃ M_6 : Mem, M_3.le M_6 ∧ ∃ (A_21 : Option Addr), ∃ (cap_22 : Nat), ∃ (cs_9 : List Value), RepSeq M_6 (y_2.map emb_TD0) cs_9 ∧ Frm 84 [(0, .pointer (some ad0)), (2, .pointer (some (⟨b_1, 0, none⟩))), (3, .pointer (some (⟨b_2, 0, none⟩))), (30, .slice A_3 x_1.length cap_3), (31, .int .i64 ((x_1.length : Nat) : Int)), (32, .int .i64 s_1.1)] a_69 ∧ Hp w0 M_6 ((Ent.row 76 6 (.slice A_21 y_2.length cap_22) y_2.length cs_9) :: (Ent.row 9 1 (.slice A_10 y_1.length cap_11) y_1.length cs_6) :: (Ent.row 3 1 (.slice A_3 x_1.length cap_3) x_1.length cs_1) :: (Ent.obj b_2 (.cells #[.int .i8 d0.fKind, .bool d0.fBool, .int .i64 d0.fNum, S d0.fText, .slice A_21 y_2.length cap_22, .slice A_10 y_1.length cap_11] 76 (0, 0))) :: (Ent.obj b_1 (.cells #[.int .i8 0, .bool false, .int .i64 0, S [], .slice none 0 0, .slice none 0 0] 76 (0, 0))) :: H) w_29) ?_ ?_
     ·have p_46 := p_35.pl [4, 4, 4, 3, 4]
      obtain ⟨x_5, hx_4, hF_10⟩ := bS hj_2
      obtain ⟨x_6, hx_5, hF_11⟩ := bS hF_10
      obtain ⟨g_2, hF_12⟩ := nS hF_11
      refine R_plan (ks := [11, 12]) (E := [Ent.row 76 6 (.slice A_6 s_1.2.1.length cap_6) s_1.2.1.length cs_2]) (Hr := ((Ent.row 9 1 (.slice A_10 y_1.length cap_11) y_1.length cs_6) :: (Ent.row 3 1 (.slice A_3 x_1.length cap_3) x_1.length cs_1) :: (Ent.obj b_2 (.cells #[.int .i8 d0.fKind, .bool d0.fBool, .int .i64 d0.fNum, S d0.fText, .slice A_6 s_1.2.1.length cap_6, .slice A_10 y_1.length cap_11] 76 (0, 0))) :: (Ent.obj b_1 (.cells #[.int .i8 0, .bool false, .int .i64 0, S [], .slice none 0 0, .slice none 0 0] 76 (0, 0))) :: H)) (.quiet 0 (.quiet 1 (.quiet 2 (.quiet 3 (.quiet 4 (.quiet 5 (.quiet 6 (.quiet 7 (.alt 8 (.alt 9 (.alt 10 .done .none) .none) .none))))))))) p_46 (by kernel_rfl) (by kernel_rfl) (by kernel_rfl) (Y1 (v := .pointer (some (⟨b_2, 4, none⟩))) rfl f rfl rfl (fun _ _ => by kernel_rfl) fun _ f => Y1 (v := .slice A_6 s_1.2.1.length cap_6) rfl f rfl rfl (fun _ pq => Y32 (v := .slice A_6 s_1.2.1.length cap_6) rfl (ad := ⟨b_2, 4, none⟩) (pq.ownCell 2 rfl 4)) fun _ f => Y1 (v := .pointer (some ad0)) rfl f rfl rfl (fun _ _ => by kernel_rfl) fun _ f => Y1 (v := .pointer (some ad0)) rfl f rfl rfl (fun _ _ => by kernel_rfl) fun _ f => Y1 (v := .pointer (some (ad0.add 4))) rfl f rfl rfl (fun _ _ => by kernel_rfl) fun _ f => Y1 (v := .slice A_1 d0.fList.length cap_1) rfl f rfl rfl (fun _ pq => Y32 (v := .slice A_1 d0.fList.length cap_1) rfl (ad := ad0.add 4) (pq.cell ((fzu ((hM_1.trans hM_2).trans hM_3) q0) 4 _ rfl))) fun _ f => Y1 (v := .int .i64 x_2) rfl f rfl rfl (fun _ _ => by kernel_rfl) fun _ f => ?_)
      obtain ⟨ad_4, c_6, e_4, -, hr_15, hc_5⟩ := Sli.at_ (h_1.mono ((hM_1.trans hM_2).trans hM_3)) hx_4
      obtain ⟨A_16, cap_17, A_17, cap_18, rfl, h_9, h_10⟩ := TD0.opn hr_15
      refine Y1 (v := .pointer (some (ad_4.add (x_2.toNat * 6)))) rfl f rfl rfl (fun _ pq => Y31 e_4 rfl (len := d0.fList.length) (cap := cap_1) (k := .i64) (i := x_2) (e := 76) (sz := 6) (getI_nn hx_4) (getI_lt hx_4)) fun _ f => N_alt rfl (fun w_21 p_47 => ?_) ?_
      ·refine Y16 f p_47 (hrec_tree_sorted _ (GL.mono ((hM_1.trans hM_2).trans hM_3) hG) (ad_4.add (x_2.toNat * 6)) [.int .i8 x_5.fKind, .bool x_5.fBool, .int .i64 x_5.fNum, S x_5.fText, .slice A_16 x_5.fList.length cap_17, .slice A_17 x_5.fKeys.length cap_18] x_5 (TD0.shutx (x := x_5) h_9 h_10) (fz_at (hc_5) 0 rfl) x_6 hx_5) fun _ M_5 w_22 hM_5 p_48 q_3 _ f => ?_
       obtain ⟨c_7, rfl, hr_16⟩ := q_3
       obtain ⟨A_18, cap_19, A_19, cap_20, rfl, h_11, h_12⟩ := TD0.opn hr_16
       refine W_end rfl (N_goN 1 hM_5 p_48 rfl (N_alt rfl (fun w_23 p_49 => ?_) ?_))
       ·refine V_allocS (k := 1) (c := 1) f p_49 (.cells #[.int .i8 x_6.fKind, .bool x_6.fBool, .int .i64 x_6.fNum, S x_6.fText, .slice A_18 x_6.fList.length cap_19, .slice A_19 x_6.fKeys.length cap_20] 76 (0, 0)) (by kernel_rfl) (fun _ => by kernel_rfl) fun b_8 w_24 p_50 _ f => W_end rfl (N_goN 2 hM_5 p_50 rfl (N_alt rfl (fun w_25 p_51 => ?_) ?_))
        ·have p_52 := p_51.pl [1]
         refine Y22 (z := .agg #[.int .i8 0, .bool false, .int .i64 0, S [], .slice none 0 0, .slice none 0 0]) (f := emb_TD0) (xs := s_1.2.1) (ys := [(⟨x_6.fKind, (x_6.fBool), x_6.fNum, x_6.fText, x_6.fList, x_6.fKeys⟩ : TD0)]) (news := [.int .i8 x_6.fKind, .bool x_6.fBool, .int .i64 x_6.fNum, S x_6.fText, .slice A_18 x_6.fList.length cap_19, .slice A_19 x_6.fKeys.length cap_20]) (ad := ⟨b_8, 0, none⟩) (m := 1) (c := 1) f p_52 (RepSeq.mono (hM_3.trans hM_5) _ _ hr_4) (by exact ⟨_, _, rfl, TD0.shut h_11 h_12, rfl⟩) rfl rfl rfl rfl (own_cells (p_52.ownCell 1 rfl) 0 rfl) (by exact g_2) (by have hg_ := g_2; first | omega | (simp only [List.length_cons, List.length_nil] at *; omega)) fun A_20 cap_21 cs_8 w_26 p_53 hr_17 _ f => ?_
         have p_54 := p_53.pl [1]
         have p_55 := p_54.drop
         refine W_end rfl (N_goN 1 hM_5 p_55 rfl (N_tail fun w_27 p_56 => Y f 1 fun _ f => Y27 f p_56 3 rfl rfl (b := b_2) (j := 4) (v := .slice A_20 (s_1.2.1 ++ [(⟨x_6.fKind, (x_6.fBool), x_6.fNum, x_6.fText, x_6.fList, x_6.fKeys⟩ : TD0)]).length cap_21) rfl (by exact rfl) (by simp) (by simp) ((Ent.row 76 6 (.slice A_20 (s_1.2.1 ++ [(⟨x_6.fKind, (x_6.fBool), x_6.fNum, x_6.fText, x_6.fList, x_6.fKeys⟩ : TD0)]).length cap_21) (s_1.2.1 ++ [(⟨x_6.fKind, (x_6.fBool), x_6.fNum, x_6.fText, x_6.fList, x_6.fKeys⟩ : TD0)]).length cs_8) :: (Ent.row 9 1 (.slice A_10 y_1.length cap_11) y_1.length cs_6) :: (Ent.row 3 1 (.slice A_3 x_1.length cap_3) x_1.length cs_1) :: (Ent.obj b_2 (.cells #[.int .i8 d0.fKind, .bool d0.fBool, .int .i64 d0.fNum, S d0.fText, .slice A_20 (s_1.2.1 ++ [(⟨x_6.fKind, (x_6.fBool), x_6.fNum, x_6.fText, x_6.fList, x_6.fKeys⟩ : TD0)]).length cap_21, .slice A_10 y_1.length cap_11] 76 (0, 0))) :: (Ent.obj b_1 (.cells #[.int .i8 0, .bool false, .int .i64 0, S [], .slice none 0 0, .slice none 0 0] 76 (0, 0))) :: H) rfl fun w_28 p_57 _ f => W_end rfl (N_te (T_n ?_))))
         exact ⟨s_1.2.1 ++ [(⟨x_6.fKind, (x_6.fBool), x_6.fNum, x_6.fText, x_6.fList, x_6.fKeys⟩ : TD0)], (sI hF_12).symm, M_5, hM_5, A_20, cap_21, cs_8, hr_17, f.kp, p_57⟩
        exact N_none
       exact N_none
      exact N_none
     ·rintro a_69 w_29 ⟨y_2, hq_2, M_6, hM_6, A_21, cap_22, cs_9, hr_18, f, p_58⟩
      subst j_2
      refine B_n (T_n (R_reg ?_))
      obtain ⟨g_3, hF_13⟩ := nS hF_9
      refine Y f 1 fun _ f => ?_
      have f := f.st 60 (congrArg (Value.int .i64) (inR_wrap g_3))
      refine Y f 1 fun _ f => eT ?_
      obtain rfl := sI hF_13
      exact ⟨⟨m_2, (s_1.1 + 1, y_2, y_1), A_21, cap_22, cs_9, A_10, cap_11, cs_6⟩, Nat.lt_succ_self _, M_6, ((hM_2.trans hM_3).trans hM_6), ⟨hn_1, hr_18, (RepSeq.mono hM_6 _ _ hr_11)⟩, f.kp, p_58⟩
   ·have k_3 := iff_f dI h_4
    refine wp_exit (T_x (T_x ?_))
    obtain rfl := sI hF_14
    exact ⟨rfl, (s_1.2.1, s_1.2.2), (sI hn_1).symm, M_2, hM_2, A_6, cap_6, cs_2, A_7, cap_7, cs_3, hr_4, hr_5, f.kp, p_15⟩
  ·rintro _ _ w_31 ⟨rfl, y_3, hq_, M_7, hM_7, A_22, cap_23, cs_10, A_23, cap_24, cs_11, hr_19, hr_20, f, p_59⟩
   subst b_3
   refine B_x (T_n (RR (Z (v := .agg #[.int .i8 d0.fKind, .bool d0.fBool, .int .i64 d0.fNum, S d0.fText, .slice A_22 y_3.1.length cap_23, .slice A_23 y_3.2.length cap_24]) f (Y33 (cs := [.int .i8 d0.fKind, .bool d0.fBool, .int .i64 d0.fNum, S d0.fText, .slice A_22 y_3.1.length cap_23, .slice A_23 y_3.2.length cap_24]) rfl (ad := ⟨b_2, 0, none⟩) (own_cells (p_59.ownCell 3 rfl) 0 rfl)) fun _ f => ?_)))
   obtain ⟨A_24, cap_25, M_8, hv_4, hM_8, p_60, h_13⟩ := p_59.rowSli (f := emb_TD0) (xs := y_3.1) szd_TD0 hr_19
   have f := Frm.set f 61 (v := .agg #[.int .i8 d0.fKind, .bool d0.fBool, .int .i64 d0.fNum, S d0.fText, .slice A_22 y_3.1.length cap_23, .slice A_23 y_3.2.length cap_24]) (v' := .agg #[.int .i8 d0.fKind, .bool d0.fBool, .int .i64 d0.fNum, S d0.fText, .slice A_24 y_3.1.length cap_25, .slice A_23 y_3.2.length cap_24]) (by kernel_rfl) (by rw [hv_4])
   have p_61 : Hp w0 M_8 ((Ent.row 9 1 (.slice A_23 y_3.2.length cap_24) y_3.2.length cs_11) :: (Ent.row 3 1 (.slice A_3 x_1.length cap_3) x_1.length cs_1) :: (Ent.obj b_2 (.cells #[.int .i8 d0.fKind, .bool d0.fBool, .int .i64 d0.fNum, S d0.fText, .slice A_24 y_3.1.length cap_25, .slice A_23 y_3.2.length cap_24] 76 (0, 0))) :: (Ent.obj b_1 (.cells #[.int .i8 0, .bool false, .int .i64 0, S [], .slice none 0 0, .slice none 0 0] 76 (0, 0))) :: H) w_31 := by rw [hv_4] at p_60; exact p_60
   obtain ⟨A_25, cap_26, M_9, hv_5, hM_9, p_62, h_14⟩ := p_61.rowSli (f := Dat.str) (xs := y_3.2) szd_str (RepSeq.mono hM_8 _ _ hr_20)
   have f := Frm.set f 61 (v := .agg #[.int .i8 d0.fKind, .bool d0.fBool, .int .i64 d0.fNum, S d0.fText, .slice A_24 y_3.1.length cap_25, .slice A_23 y_3.2.length cap_24]) (v' := .agg #[.int .i8 d0.fKind, .bool d0.fBool, .int .i64 d0.fNum, S d0.fText, .slice A_24 y_3.1.length cap_25, .slice A_25 y_3.2.length cap_26]) (by kernel_rfl) (by rw [hv_5])
   have p_63 : Hp w0 M_9 ((Ent.row 3 1 (.slice A_3 x_1.length cap_3) x_1.length cs_1) :: (Ent.obj b_2 (.cells #[.int .i8 d0.fKind, .bool d0.fBool, .int .i64 d0.fNum, S d0.fText, .slice A_24 y_3.1.length cap_25, .slice A_25 y_3.2.length cap_26] 76 (0, 0))) :: (Ent.obj b_1 (.cells #[.int .i8 0, .bool false, .int .i64 0, S [], .slice none 0 0, .slice none 0 0] 76 (0, 0))) :: H) w_31 := by rw [hv_5] at p_62; exact p_62
   have p_64 := p_63.pl [2]
   refine Y28 (vs := [.int .i8 d0.fKind, .bool d0.fBool, .int .i64 d0.fNum, S d0.fText, .slice A_24 y_3.1.length cap_25, .slice A_25 y_3.2.length cap_26]) (j := 0) f p_64 rfl rfl (by simp [Value.oneCell', S]) (by simp) (by decide) (cs' := #[.int .i8 d0.fKind, .bool d0.fBool, .int .i64 d0.fNum, S d0.fText, .slice A_24 y_3.1.length cap_25, .slice A_25 y_3.2.length cap_26]) (by kernel_rfl) fun w_32 p_65 _ f => eT (wp_ret (T_r (E_rv1 f rfl (Y10 (cs := [.int .i8 d0.fKind, .bool d0.fBool, .int .i64 d0.fNum, S d0.fText, .slice A_24 y_3.1.length cap_25, .slice A_25 y_3.2.length cap_26]) (ad := ⟨b_1, 0, none⟩) f (own_cells (p_65.ownCell 0 rfl) 0 rfl)) ?_)))
   obtain rfl := sI hF_3
   exact ⟨_, rfl, M_9, (((hM_1.trans hM_7).trans hM_8).trans hM_9), (p_65.dropN 3), ⟨[.int .i8 d0.fKind, .bool d0.fBool, .int .i64 d0.fNum, S d0.fText, .slice A_24 y_3.1.length cap_25, .slice A_25 y_3.2.length cap_26], rfl, (TD0.shut (h_13.mono hM_9) h_14)⟩⟩
 ·have k_4 := iff_f dI h_3
  refine wp_skip (T_n (R_seq (RR (Y f 3 fun _ f => Y15 f p_6 q0 4 rfl fun _ f => Y f 2 fun _ f => eT (wp_block ?_)))))
  obtain ⟨A_26, cap_27, hv_6⟩ : ∃ A cap, Value.slice none 0 0 = .slice A ([] : List TD0).length cap := ⟨none, 0, rfl⟩
  have p_66 : Hp w0 M1 ((Ent.row 76 6 (.slice A_26 ([] : List TD0).length cap_27) ([] : List TD0).length []) :: (Ent.obj b_2 (.cells #[.int .i8 d0.fKind, .bool d0.fBool, .int .i64 d0.fNum, S d0.fText, .slice A_26 ([] : List TD0).length cap_27, .slice none 0 0] 76 (0, 0))) :: (Ent.obj b_1 (.cells #[.int .i8 0, .bool false, .int .i64 0, S [], .slice none 0 0, .slice none 0 0] 76 (0, 0))) :: H) w_6 := by rw [← hv_6]; exact p_6.nilRow 76 6
  have hr_21 : RepSeq M1 (([] : List TD0).map emb_TD0) [] := rfl
  obtain ⟨b_9, hL_2, hF_16⟩ := bS hF_15
  refine wp_mono (Q := fun e a w => (e = .exit 2 ∧ (∃ y_5 : List TD0, b_9 = y_5 ∧ ∃ M_14 : Mem, M1.le M_14 ∧ ∃ (A_39 : Option Addr), ∃ (cap_40 : Nat), ∃ (cs_16 : List Value), RepSeq M_14 (y_5.map emb_TD0) cs_16 ∧ Frm 84 [(2, .pointer (some (⟨b_1, 0, none⟩))), (3, .pointer (some (⟨b_2, 0, none⟩)))] a ∧ Hp w0 M_14 ((Ent.row 76 6 (.slice A_39 y_5.length cap_40) y_5.length cs_16) :: (Ent.obj b_2 (.cells #[.int .i8 d0.fKind, .bool d0.fBool, .int .i64 d0.fNum, S d0.fText, .slice A_39 y_5.length cap_40, .slice none 0 0] 76 (0, 0))) :: (Ent.obj b_1 (.cells #[.int .i8 0, .bool false, .int .i64 0, S [], .slice none 0 0, .slice none 0 0] 76 (0, 0))) :: H) w))) (R_loop (n := 84) (w0 := w0) (M := M1) (fun (x : Nat × (Int × List TD0) × (Option Addr) × Nat × (List Value)) => match x with | (m_3, s_2, A_27, cap_28, cs_12) => [(0, .pointer (some ad0)), (2, .pointer (some (⟨b_1, 0, none⟩))), (3, .pointer (some (⟨b_2, 0, none⟩))), (66, .int .i64 ((d0.fList.length : Nat) : Int)), (67, .int .i64 s_2.1)]) (fun (x : Nat × (Int × List TD0) × (Option Addr) × Nat × (List Value)) => match x with | (m_3, s_2, A_27, cap_28, cs_12) => ((Ent.row 76 6 (.slice A_27 s_2.2.length cap_28) s_2.2.length cs_12) :: (Ent.obj b_2 (.cells #[.int .i8 d0.fKind, .bool d0.fBool, .int .i64 d0.fNum, S d0.fText, .slice A_27 s_2.2.length cap_28, .slice none 0 0] 76 (0, 0))) :: (Ent.obj b_1 (.cells #[.int .i8 0, .bool false, .int .i64 0, S [], .slice none 0 0, .slice none 0 0] 76 (0, 0))) :: H)) (fun (x : Nat × (Int × List TD0) × (Option Addr) × Nat × (List Value)) (MM : Mem) => match x with | (m_3, s_2, A_27, cap_28, cs_12) => loopF (tree_sorted_s2 n rec_tree_sorted d0) m_3 s_2 = some b_9 ∧ RepSeq MM (s_2.2.map emb_TD0) cs_12) (fun (x : Nat × (Int × List TD0) × (Option Addr) × Nat × (List Value)) => match x with | (m_3, s_2, A_27, cap_28, cs_12) => m_3) (n, ((0 : Int), ([] : List TD0)), A_26, cap_27, []) (f.kp) p_66 ⟨hL_2, hr_21⟩ ?_) ?_
  ·rintro ⟨m_3, s_2, A_27, cap_28, cs_12⟩ M_10 _ w_33 hM_10 I_2 f p_67
   obtain ⟨I_2L, hr_22⟩ := I_2
   obtain ⟨m_4, r_2, rfl, hs_2, hn_2⟩ := loop_step I_2L
   unfold tree_sorted_s2 at hs_2
   refine RR (Y f 1 fun _ f => eT (R_seq (RcF f hs_2 (fun h_15 hF_17 => ?_) fun h_15 hF_23 => ?_)))
   ·have k_5 := dI.1 h_15
    refine wp_skip (T_n (R_seq (wp_block (RR (Y f 2 fun _ f => eT ?_)))))
    obtain ⟨j_3, hj_3, hF_18⟩ := bS hF_17
    refine R_mid (fun a_104 w_45 => ∃ y_4 : List TD0, j_3 = y_4 ∧ ∃ M_13 : Mem, M_10.le M_13 ∧ ∃ (A_38 : Option Addr), ∃ (cap_39 : Nat), ∃ (cs_15 : List Value), RepSeq M_13 (y_4.map emb_TD0) cs_15 ∧ Frm 84 [(0, .pointer (some ad0)), (2, .pointer (some (⟨b_1, 0, none⟩))), (3, .pointer (some (⟨b_2, 0, none⟩))), (66, .int .i64 ((d0.fList.length : Nat) : Int)), (67, .int .i64 s_2.1)] a_104 ∧ Hp w0 M_13 ((Ent.row 76 6 (.slice A_38 y_4.length cap_39) y_4.length cs_15) :: (Ent.obj b_2 (.cells #[.int .i8 d0.fKind, .bool d0.fBool, .int .i64 d0.fNum, S d0.fText, .slice A_38 y_4.length cap_39, .slice none 0 0] 76 (0, 0))) :: (Ent.obj b_1 (.cells #[.int .i8 0, .bool false, .int .i64 0, S [], .slice none 0 0, .slice none 0 0] 76 (0, 0))) :: H) w_45) ?_ ?_
    ·obtain ⟨x_9, hx_6, hF_19⟩ := bS hj_3
     obtain ⟨x_10, hx_7, hF_20⟩ := bS hF_19
     obtain ⟨g_4, hF_21⟩ := nS hF_20
     refine R_plan (ks := [11, 12]) (E := [Ent.row 76 6 (.slice A_27 s_2.2.length cap_28) s_2.2.length cs_12]) (Hr := ((Ent.obj b_2 (.cells #[.int .i8 d0.fKind, .bool d0.fBool, .int .i64 d0.fNum, S d0.fText, .slice A_27 s_2.2.length cap_28, .slice none 0 0] 76 (0, 0))) :: (Ent.obj b_1 (.cells #[.int .i8 0, .bool false, .int .i64 0, S [], .slice none 0 0, .slice none 0 0] 76 (0, 0))) :: H)) (.quiet 0 (.quiet 1 (.quiet 2 (.quiet 3 (.quiet 4 (.quiet 5 (.quiet 6 (.quiet 7 (.alt 8 (.alt 9 (.alt 10 .done .none) .none) .none))))))))) p_67 (by kernel_rfl) (by kernel_rfl) (by kernel_rfl) (Y1 (v := .pointer (some (⟨b_2, 4, none⟩))) rfl f rfl rfl (fun _ _ => by kernel_rfl) fun _ f => Y1 (v := .slice A_27 s_2.2.length cap_28) rfl f rfl rfl (fun _ pq => Y32 (v := .slice A_27 s_2.2.length cap_28) rfl (ad := ⟨b_2, 4, none⟩) (pq.ownCell 0 rfl 4)) fun _ f => Y1 (v := .pointer (some ad0)) rfl f rfl rfl (fun _ _ => by kernel_rfl) fun _ f => Y1 (v := .pointer (some ad0)) rfl f rfl rfl (fun _ _ => by kernel_rfl) fun _ f => Y1 (v := .pointer (some (ad0.add 4))) rfl f rfl rfl (fun _ _ => by kernel_rfl) fun _ f => Y1 (v := .slice A_1 d0.fList.length cap_1) rfl f rfl rfl (fun _ pq => Y32 (v := .slice A_1 d0.fList.length cap_1) rfl (ad := ad0.add 4) (pq.cell ((fzu hM_10 q0) 4 _ rfl))) fun _ f => Y1 (v := .int .i64 s_2.1) rfl f rfl rfl (fun _ _ => by kernel_rfl) fun _ f => ?_)
     obtain ⟨ad_6, c_10, e_6, -, hr_26, hc_7⟩ := Sli.at_ (h_1.mono hM_10) hx_6
     obtain ⟨A_33, cap_34, A_34, cap_35, rfl, h_20, h_21⟩ := TD0.opn hr_26
     refine Y1 (v := .pointer (some (ad_6.add (s_2.1.toNat * 6)))) rfl f rfl rfl (fun _ pq => Y31 e_6 rfl (len := d0.fList.length) (cap := cap_1) (k := .i64) (i := s_2.1) (e := 76) (sz := 6) (getI_nn hx_6) (getI_lt hx_6)) fun _ f => N_alt rfl (fun w_37 p_74 => ?_) ?_
     ·refine Y16 f p_74 (hrec_tree_sorted _ (GL.mono hM_10 hG) (ad_6.add (s_2.1.toNat * 6)) [.int .i8 x_9.fKind, .bool x_9.fBool, .int .i64 x_9.fNum, S x_9.fText, .slice A_33 x_9.fList.length cap_34, .slice A_34 x_9.fKeys.length cap_35] x_9 (TD0.shutx (x := x_9) h_20 h_21) (fz_at (hc_7) 0 rfl) x_10 hx_7) fun _ M_12 w_38 hM_12 p_75 q_5 _ f => ?_
      obtain ⟨c_11, rfl, hr_27⟩ := q_5
      obtain ⟨A_35, cap_36, A_36, cap_37, rfl, h_22, h_23⟩ := TD0.opn hr_27
      refine W_end rfl (N_goN 1 hM_12 p_75 rfl (N_alt rfl (fun w_39 p_76 => ?_) ?_))
      ·refine V_allocS (k := 1) (c := 1) f p_76 (.cells #[.int .i8 x_10.fKind, .bool x_10.fBool, .int .i64 x_10.fNum, S x_10.fText, .slice A_35 x_10.fList.length cap_36, .slice A_36 x_10.fKeys.length cap_37] 76 (0, 0)) (by kernel_rfl) (fun _ => by kernel_rfl) fun b_11 w_40 p_77 _ f => W_end rfl (N_goN 2 hM_12 p_77 rfl (N_alt rfl (fun w_41 p_78 => ?_) ?_))
       ·have p_79 := p_78.pl [1]
        refine Y22 (z := .agg #[.int .i8 0, .bool false, .int .i64 0, S [], .slice none 0 0, .slice none 0 0]) (f := emb_TD0) (xs := s_2.2) (ys := [(⟨x_10.fKind, (x_10.fBool), x_10.fNum, x_10.fText, x_10.fList, x_10.fKeys⟩ : TD0)]) (news := [.int .i8 x_10.fKind, .bool x_10.fBool, .int .i64 x_10.fNum, S x_10.fText, .slice A_35 x_10.fList.length cap_36, .slice A_36 x_10.fKeys.length cap_37]) (ad := ⟨b_11, 0, none⟩) (m := 1) (c := 1) f p_79 (RepSeq.mono hM_12 _ _ hr_22) (by exact ⟨_, _, rfl, TD0.shut h_22 h_23, rfl⟩) rfl rfl rfl rfl (own_cells (p_79.ownCell 1 rfl) 0 rfl) (by exact g_4) (by have hg_ := g_4; first | omega | (simp only [List.length_cons, List.length_nil] at *; omega)) fun A_37 cap_38 cs_14 w_42 p_80 hr_28 _ f => ?_
        have p_81 := p_80.pl [1]
        have p_82 := p_81.drop
        refine W_end rfl (N_goN 1 hM_12 p_82 rfl (N_tail fun w_43 p_83 => Y f 1 fun _ f => Y27 f p_83 1 rfl rfl (b := b_2) (j := 4) (v := .slice A_37 (s_2.2 ++ [(⟨x_10.fKind, (x_10.fBool), x_10.fNum, x_10.fText, x_10.fList, x_10.fKeys⟩ : TD0)]).length cap_38) rfl (by exact rfl) (by simp) (by simp) ((Ent.row 76 6 (.slice A_37 (s_2.2 ++ [(⟨x_10.fKind, (x_10.fBool), x_10.fNum, x_10.fText, x_10.fList, x_10.fKeys⟩ : TD0)]).length cap_38) (s_2.2 ++ [(⟨x_10.fKind, (x_10.fBool), x_10.fNum, x_10.fText, x_10.fList, x_10.fKeys⟩ : TD0)]).length cs_14) :: (Ent.obj b_2 (.cells #[.int .i8 d0.fKind, .bool d0.fBool, .int .i64 d0.fNum, S d0.fText, .slice A_37 (s_2.2 ++ [(⟨x_10.fKind, (x_10.fBool), x_10.fNum, x_10.fText, x_10.fList, x_10.fKeys⟩ : TD0)]).length cap_38, .slice none 0 0] 76 (0, 0))) :: (Ent.obj b_1 (.cells #[.int .i8 0, .bool false, .int .i64 0, S [], .slice none 0 0, .slice none 0 0] 76 (0, 0))) :: H) rfl fun w_44 p_84 _ f => W_end rfl (N_te (T_n ?_))))
        exact ⟨s_2.2 ++ [(⟨x_10.fKind, (x_10.fBool), x_10.fNum, x_10.fText, x_10.fList, x_10.fKeys⟩ : TD0)], (sI hF_21).symm, M_12, hM_12, A_37, cap_38, cs_14, hr_28, f.kp, p_84⟩
       exact N_none
      exact N_none
     exact N_none
    ·rintro a_104 w_45 ⟨y_4, hq_3, M_13, hM_13, A_38, cap_39, cs_15, hr_29, f, p_85⟩
     subst j_3
     refine B_n (T_n (R_reg ?_))
     obtain ⟨g_5, hF_22⟩ := nS hF_18
     refine Y f 1 fun _ f => ?_
     have f := f.st 82 (congrArg (Value.int .i64) (inR_wrap g_5))
     refine Y f 1 fun _ f => eT ?_
     obtain rfl := sI hF_22
     exact ⟨⟨m_4, (s_2.1 + 1, y_4), A_38, cap_39, cs_15⟩, Nat.lt_succ_self _, M_13, (hM_10.trans hM_13), ⟨hn_2, hr_29⟩, f.kp, p_85⟩
   ·have k_6 := iff_f dI h_15
    refine wp_exit (T_x (T_x ?_))
    obtain rfl := sI hF_23
    exact ⟨rfl, s_2.2, (sI hn_2).symm, M_10, hM_10, A_27, cap_28, cs_12, hr_22, f.kp, p_67⟩
  ·rintro _ _ w_47 ⟨rfl, y_5, hq_, M_14, hM_14, A_39, cap_40, cs_16, hr_30, f, p_86⟩
   subst b_9
   refine B_x (T_n (RR (Z (v := .agg #[.int .i8 d0.fKind, .bool d0.fBool, .int .i64 d0.fNum, S d0.fText, .slice A_39 y_5.length cap_40, .slice none 0 0]) f (Y33 (cs := [.int .i8 d0.fKind, .bool d0.fBool, .int .i64 d0.fNum, S d0.fText, .slice A_39 y_5.length cap_40, .slice none 0 0]) rfl (ad := ⟨b_2, 0, none⟩) (own_cells (p_86.ownCell 1 rfl) 0 rfl)) fun _ f => ?_)))
   obtain ⟨A_40, cap_41, M_15, hv_7, hM_15, p_87, h_24⟩ := p_86.rowSli (f := emb_TD0) (xs := y_5) szd_TD0 hr_30
   have f := Frm.set f 83 (v := .agg #[.int .i8 d0.fKind, .bool d0.fBool, .int .i64 d0.fNum, S d0.fText, .slice A_39 y_5.length cap_40, .slice none 0 0]) (v' := .agg #[.int .i8 d0.fKind, .bool d0.fBool, .int .i64 d0.fNum, S d0.fText, .slice A_40 y_5.length cap_41, .slice none 0 0]) (by kernel_rfl) (by rw [hv_7])
   have p_88 : Hp w0 M_15 ((Ent.obj b_2 (.cells #[.int .i8 d0.fKind, .bool d0.fBool, .int .i64 d0.fNum, S d0.fText, .slice A_40 y_5.length cap_41, .slice none 0 0] 76 (0, 0))) :: (Ent.obj b_1 (.cells #[.int .i8 0, .bool false, .int .i64 0, S [], .slice none 0 0, .slice none 0 0] 76 (0, 0))) :: H) w_47 := by rw [hv_7] at p_87; exact p_87
   have p_89 := p_88.pl [1]
   refine Y28 (vs := [.int .i8 d0.fKind, .bool d0.fBool, .int .i64 d0.fNum, S d0.fText, .slice A_40 y_5.length cap_41, .slice none 0 0]) (j := 0) f p_89 rfl rfl (by simp [Value.oneCell', S]) (by simp) (by decide) (cs' := #[.int .i8 d0.fKind, .bool d0.fBool, .int .i64 d0.fNum, S d0.fText, .slice A_40 y_5.length cap_41, .slice none 0 0]) (by kernel_rfl) fun w_48 p_90 _ f => eT (wp_ret (E_rv1 f rfl (Y10 (cs := [.int .i8 d0.fKind, .bool d0.fBool, .int .i64 d0.fNum, S d0.fText, .slice A_40 y_5.length cap_41, .slice none 0 0]) (ad := ⟨b_1, 0, none⟩) f (own_cells (p_90.ownCell 0 rfl) 0 rfl)) ?_))
   obtain rfl := sI hF_16
   exact ⟨_, rfl, M_15, (hM_14.trans hM_15), (p_90.dropN 2), ⟨[.int .i8 d0.fKind, .bool d0.fBool, .int .i64 d0.fNum, S d0.fText, .slice A_40 y_5.length cap_41, .slice none 0 0], rfl, (TD0.shut h_24 Sli.nil)⟩⟩
def tree_sorted_k (n : Nat) : Nat → TD0 → Option TD0
  | 0 => fun _ => none
  | k + 1 => tree_sorted_b n (tree_sorted_k n k)
def tree_sorted (n : Nat) (d0 : TD0) : Option TD0 := tree_sorted_k n n d0
theorem tree_sorted_ok (n : Nat) (M : Mem) (hG : GL M) (ad0 : Addr) (c0 : List Value) (d0 : TD0) (h0 : Rep M (emb_TD0 d0) c0) (q0 : ∀ j v, c0[j]? = some v → M.cell? (ad0.add j) = some v) (r : TD0) (hF : tree_sorted n d0 = some r) : Ok Tryz.prog M 108 [.pointer (some ad0)] (fun M' v => ∃ (c0 : List Value), v = .agg c0.toArray ∧ Rep M' (emb_TD0 r) c0) := by
 have key : ∀ (k : Nat) (M : Mem) (hG : GL M) (ad0 : Addr) (c0 : List Value) (d0 : TD0) (h0 : Rep M (emb_TD0 d0) c0) (q0 : ∀ j v, c0[j]? = some v → M.cell? (ad0.add j) = some v) (r : TD0) (hF : tree_sorted_k n k d0 = some r), Ok Tryz.prog M 108 [.pointer (some ad0)] (fun M' v => ∃ (c0 : List Value), v = .agg c0.toArray ∧ Rep M' (emb_TD0 r) c0) := by
  intro k
  induction k with
  | zero => intro M hG ad0 c0 d0 h0 q0 r hF; simp [tree_sorted_k] at hF
  | succ k ih => intro M hG ad0 c0 d0 h0 q0 r hF; exact tree_sorted_b_ok n (tree_sorted_k n k) ih M hG ad0 c0 d0 h0 q0 r hF
 exact key n M hG ad0 c0 d0 h0 q0 r hF
def tree_compare_2_s1 (n : Nat) (d0_0 : Int) (d0_4 : List TD0) (d0_5 : List (List UInt8)) (d1_4 : List TD0) (d1_5 : List (List UInt8)) (s_1 : Int) : Option (Lp Int (Sum Int Unit)) :=
    bif (decide (s_1 < (min ((d0_4.length : Nat) : Int) ((d1_4.length : Nat) : Int)))) then
      (((bif (decide (d0_0 = 5)) then
          ((getI d0_5 s_1).bind fun x_7 =>
          (getI d1_5 s_1).bind fun x_8 =>
          (h_Compare n x_7 x_8).bind fun x_9 =>
          bif (!(decide (x_9 = 0))) then
            (((some (.br (.inl x_9)) : Option (Lp Int (Sum Int Unit)))).map Lp.br)
          else
            some (.nx ()))
        else
          some (.nx ()) : Option (Lp Unit (Lp Int (Sum Int Unit))))).bind fun j => joinF j fun y_1 =>
      (getI d0_4 s_1).bind fun x_10 =>
      (getI d1_4 s_1).bind fun x_11 =>
      (tree_compare n x_10 x_11).bind fun x_12 =>
      bif (!(decide (x_12 = 0))) then
        (some (.br (.inl x_12)))
      else
        need (inR .i64 (s_1 + 1)) <|
        some (.nx (s_1 + 1)))
    else
      some (.br (.inr ()))
def tree_compare_2 (n : Nat) (d0_0 : Int) (d0_1 : Bool) (d0_2 : Int) (d0_3 : List UInt8) (d0_4 : List TD0) (d0_5 : List (List UInt8)) (d1_0 : Int) (d1_1 : Bool) (d1_2 : Int) (d1_3 : List UInt8) (d1_4 : List TD0) (d1_5 : List (List UInt8)) : Option (Int × Int × Bool × Int × List UInt8 × List TD0 × List (List UInt8) × Int × Bool × Int × List UInt8 × List TD0 × List (List UInt8)) :=
  (cmp_Compare n d0_0 d1_0).bind fun x_1 =>
  (tree_bit n (d0_1)).bind fun x_2 =>
  (tree_bit n (d1_1)).bind fun x_3 =>
  need (inR .i64 (x_2 - x_3)) <|
  (cmp_Compare_2 n d0_2 d1_2).bind fun x_4 =>
  (h_Compare n d0_3 d1_3).bind fun x_5 =>
  (cmp_Or n [x_1, x_2 - x_3, x_4, x_5]).bind fun x_6 =>
  bif (!(decide (x_6 = 0))) then
    (some ((x_6, d0_0, (d0_1), d0_2, d0_3, d0_4, d0_5, d1_0, (d1_1), d1_2, d1_3, d1_4, d1_5)))
  else
    (loopF (tree_compare_2_s1 n d0_0 d0_4 d0_5 d1_4 d1_5) n (0 : Int)).bind fun b_2 =>
    (match b_2 with 
    | .inl y_2 => some ((y_2, d0_0, (d0_1), d0_2, d0_3, d0_4, d0_5, d1_0, (d1_1), d1_2, d1_3, d1_4, d1_5)) 
    | .inr y_3 => (cmp_Compare_2 n ((d0_4.length : Nat) : Int) ((d1_4.length : Nat) : Int)).bind fun x_13 =>
      some ((x_13, d0_0, (d0_1), d0_2, d0_3, d0_4, d0_5, d1_0, (d1_1), d1_2, d1_3, d1_4, d1_5)))
theorem tree_compare_2_ok (n : Nat) (M : Mem) (hG : GL M) (b0 : Nat) (d0_0 : Int) (d0_1 : Bool) (d0_2 : Int) (d0_3 : List UInt8) (d0_4 : List TD0) (A_1 : Option Addr) (cap_1 : Nat) (h_1 : Sli M 6 emb_TD0 A_1 cap_1 d0_4) (d0_5 : List (List UInt8)) (A_2 : Option Addr) (cap_2 : Nat) (h_2 : Sli M 1 Dat.str A_2 cap_2 d0_5) (b1 : Nat) (d1_0 : Int) (d1_1 : Bool) (d1_2 : Int) (d1_3 : List UInt8) (d1_4 : List TD0) (A_3 : Option Addr) (cap_3 : Nat) (h_3 : Sli M 6 emb_TD0 A_3 cap_3 d1_4) (d1_5 : List (List UInt8)) (A_4 : Option Addr) (cap_4 : Nat) (h_4 : Sli M 1 Dat.str A_4 cap_4 d1_5) (r : Int × Int × Bool × Int × List UInt8 × List TD0 × List (List UInt8) × Int × Bool × Int × List UInt8 × List TD0 × List (List UInt8)) (hF : tree_compare_2 n d0_0 d0_1 d0_2 d0_3 d0_4 d0_5 d1_0 d1_1 d1_2 d1_3 d1_4 d1_5 = some r) : OkH Tryz.prog M [Ent.obj b0 (.cells #[.int .i8 d0_0, .bool d0_1, .int .i64 d0_2, S d0_3, .slice A_1 d0_4.length cap_1, .slice A_2 d0_5.length cap_2] 76 (0, 0)), Ent.obj b1 (.cells #[.int .i8 d1_0, .bool d1_1, .int .i64 d1_2, S d1_3, .slice A_3 d1_4.length cap_3, .slice A_4 d1_5.length cap_4] 76 (0, 0))] 109 [.pointer (some (⟨b0, 0, none⟩)), .pointer (some (⟨b1, 0, none⟩))] (fun M' E' v => ∃ (A_10 : Option Addr) (cap_10 : Nat) (A_11 : Option Addr) (cap_11 : Nat) (A_12 : Option Addr) (cap_12 : Nat) (A_13 : Option Addr) (cap_13 : Nat), v = .int .i64 r.1 ∧ E' = [Ent.obj b0 (.cells #[.int .i8 r.2.1, .bool r.2.2.1, .int .i64 r.2.2.2.1, S r.2.2.2.2.1, .slice A_10 r.2.2.2.2.2.1.length cap_10, .slice A_11 r.2.2.2.2.2.2.1.length cap_11] 76 (0, 0)), Ent.obj b1 (.cells #[.int .i8 r.2.2.2.2.2.2.2.1, .bool r.2.2.2.2.2.2.2.2.1, .int .i64 r.2.2.2.2.2.2.2.2.2.1, S r.2.2.2.2.2.2.2.2.2.2.1, .slice A_12 r.2.2.2.2.2.2.2.2.2.2.2.1.length cap_12, .slice A_13 r.2.2.2.2.2.2.2.2.2.2.2.2.length cap_13] 76 (0, 0))] ∧ Sli M' 6 emb_TD0 A_10 cap_10 r.2.2.2.2.2.1 ∧ Sli M' 1 Dat.str A_11 cap_11 r.2.2.2.2.2.2.1 ∧ Sli M' 6 emb_TD0 A_12 cap_12 r.2.2.2.2.2.2.2.2.2.2.2.1 ∧ Sli M' 1 Dat.str A_13 cap_13 r.2.2.2.2.2.2.2.2.2.2.2.2) := by
 unfold tree_compare_2 at hF
 intro M1 hM0 w0 H w p0
 replace hG := GL.mono hM0 hG
 replace h_1 := h_1.mono hM0
 replace h_2 := h_2.mono hM0
 replace h_3 := h_3.mono hM0
 replace h_4 := h_4.mono hM0
 refine R_enter 117 Tryz.func109 rfl rfl (by simp) fun a0 f0 => RR (Y f0 1 fun _ f => eT (R_seq (R_seq (R_drawQ 38 p0 (by kernel_rfl) (by kernel_rfl) (Y5 default f 3 fun _ f => Y2 (v := .int .i8 d0_0) f (fun _ pq => Y32 (v := .int .i8 d0_0) rfl (ad := ⟨b0, 0, none⟩) (pq.ownCell 0 rfl 0)) fun _ f => Y5 default f 3 fun _ f => Y2 (v := .int .i8 d1_0) f (fun _ pq => Y32 (v := .int .i8 d1_0) rfl (ad := ⟨b1, 0, none⟩) (pq.ownCell 1 rfl 0)) fun _ f => ?_)))))
 obtain ⟨x_1, hx_1, hF_1⟩ := bS hF
 refine Y3 f (cmp_Compare_ok n _ d0_0 d1_0 x_1 hx_1) fun _ f => Y5 default f 3 fun _ f => Y2 (v := .bool d0_1) f (fun _ pq => Y32 (v := .bool d0_1) rfl (ad := ⟨b0, 1, none⟩) (pq.ownCell 0 rfl 1)) fun _ f => ?_
 obtain ⟨x_2, hx_2, hF_2⟩ := bS hF_1
 refine Y3 f (tree_bit_ok n _ hG (d0_1) x_2 hx_2) fun _ f => Y5 default f 3 fun _ f => Y2 (v := .bool d1_1) f (fun _ pq => Y32 (v := .bool d1_1) rfl (ad := ⟨b1, 1, none⟩) (pq.ownCell 1 rfl 1)) fun _ f => ?_
 obtain ⟨x_3, hx_3, hF_3⟩ := bS hF_2
 refine Y3 f (tree_bit_ok n _ hG (d1_1) x_3 hx_3) fun _ f => ?_
 obtain ⟨g_1, hF_4⟩ := nS hF_3
 refine Y2 (v := .int .i64 (IntKind.wrap .i64 (x_2 - x_3))) f (fun _ pq => by kernel_rfl) fun _ f => ?_
 have f := f.st 28 (congrArg (Value.int .i64) (inR_wrap g_1))
 refine Y5 default f 3 fun _ f => Y2 (v := .int .i64 d0_2) f (fun _ pq => Y32 (v := .int .i64 d0_2) rfl (ad := ⟨b0, 2, none⟩) (pq.ownCell 0 rfl 2)) fun _ f => Y5 default f 3 fun _ f => Y2 (v := .int .i64 d1_2) f (fun _ pq => Y32 (v := .int .i64 d1_2) rfl (ad := ⟨b1, 2, none⟩) (pq.ownCell 1 rfl 2)) fun _ f => ?_
 obtain ⟨x_4, hx_4, hF_5⟩ := bS hF_4
 refine Y3 f (cmp_Compare_2_ok n _ hG d0_2 d1_2 x_4 hx_4) fun _ f => Y5 default f 3 fun _ f => Y2 (v := S d0_3) f (fun _ pq => Y32 (v := S d0_3) rfl (ad := ⟨b0, 3, none⟩) (pq.ownCell 0 rfl 3)) fun _ f => Y5 default f 3 fun _ f => Y2 (v := S d1_3) f (fun _ pq => Y32 (v := S d1_3) rfl (ad := ⟨b1, 3, none⟩) (pq.ownCell 1 rfl 3)) fun _ f => ?_
 obtain ⟨x_5, hx_5, hF_6⟩ := bS hF_5
 refine Y3 f (h_Compare_ok n _ d0_3 d1_3 x_5 hx_5) fun _ f => Q_end rfl ?_
 intro w_1 p_1
 refine V_allocS (k := 4) (c := 4) f p_1 (.cells #[.int .i64 x_1, .int .i64 (x_2 - x_3), .int .i64 x_4, .int .i64 x_5] 3 (0, 0)) (by kernel_rfl) (fun _ => by kernel_rfl) fun b_1 w_7 p_7 _ f => ?_
 have hr_1 : RepSeq M1 ([x_1, x_2 - x_3, x_4, x_5].map (Dat.int .i64)) [.int .i64 x_1, .int .i64 (x_2 - x_3), .int .i64 x_4, .int .i64 x_5] := ⟨_, _, rfl, rfl, ⟨_, _, rfl, rfl, ⟨_, _, rfl, rfl, ⟨_, _, rfl, rfl, rfl⟩⟩⟩⟩
 have p_8 : Hp w0 M1 ((Ent.row 3 1 (.slice (some ⟨b_1, 0, none⟩) 4 4) [x_1, x_2 - x_3, x_4, x_5].length [.int .i64 x_1, .int .i64 (x_2 - x_3), .int .i64 x_4, .int .i64 x_5]) :: (Ent.obj b0 (.cells #[.int .i8 d0_0, .bool d0_1, .int .i64 d0_2, S d0_3, .slice A_1 d0_4.length cap_1, .slice A_2 d0_5.length cap_2] 76 (0, 0))) :: (Ent.obj b1 (.cells #[.int .i8 d1_0, .bool d1_1, .int .i64 d1_2, S d1_3, .slice A_3 d1_4.length cap_3, .slice A_4 d1_5.length cap_4] 76 (0, 0))) :: H) w_7 := p_7.objRow (n := 4) (cap := 4) (size := 1) (by decide) (by decide) rfl rfl rfl
 obtain ⟨M_1, A_5, cap_5, hM_1, hv_1, p_9, h_5, hb_1⟩ := p_8.lend (f := (Dat.int .i64)) (xs := [x_1, x_2 - x_3, x_4, x_5]) (szd_int .i64) hr_1
 have f := f.st 47 (hv_1)
 obtain ⟨x_6, hx_6, hF_7⟩ := bS hF_6
 refine Y18 f p_9 (cmp_Or_ok n _ (GL.mono hM_1 hG) A_5 cap_5 [x_1, x_2 - x_3, x_4, x_5] h_5 x_6 hx_6) fun w_8 p_10 _ f => ?_
 obtain ⟨M_2, hM_2, p_11⟩ := hb_1 _ _ _ (mR _) p_10
 have f := f.st 47 (hv_1.symm)
 refine Y f 1 fun _ f => eT (RR (Y f 2 fun _ f => eT (RcF f hF_7 (fun h_6 hF_8 => ?_) fun h_6 hF_9 => ?_)))
 ·have k_1 : ¬ (x_6 = 0) := (not_iff dI).1 h_6
  refine RR (Y f 2 fun _ f => eT (wp_ret (T_r (E_ret1 f rfl (by kernel_rfl : Vc.look _ 4 = some (.int .i64 x_6)) ?_))))
  obtain rfl := sI hF_8
  exact ⟨_, rfl, M_2, _, hM_2, (p_11.dropN 1), ⟨A_1, cap_1, A_2, cap_2, A_3, cap_3, A_4, cap_4, rfl, rfl, (h_1.mono hM_2), (h_2.mono hM_2), (h_3.mono hM_2), (h_4.mono hM_2)⟩⟩
 ·have k_2 : ¬ (¬ (x_6 = 0)) := iff_f (not_iff dI) h_6
  refine wp_skip (T_n (R_seq (R_seq (R_draw p_11 (by kernel_rfl) (by kernel_rfl) (Y5 default f 3 fun _ f => Y2 (v := .slice A_1 d0_4.length cap_1) f (fun _ pq => Y32 (v := .slice A_1 d0_4.length cap_1) rfl (ad := ⟨b0, 4, none⟩) (pq.ownCell 1 rfl 4)) fun _ f => Y5 default f 4 fun _ f => Y2 (v := .slice A_3 d1_4.length cap_3) f (fun _ pq => Y32 (v := .slice A_3 d1_4.length cap_3) rfl (ad := ⟨b1, 4, none⟩) (pq.ownCell 2 rfl 4)) fun _ f => Y5 default f 1 fun _ f => Y2 (v := .int .i64 (min ((d0_4.length : Nat) : Int) ((d1_4.length : Nat) : Int))) f (fun _ pq => X_min (k := .i64) (a := ((d0_4.length : Nat) : Int)) (b := ((d1_4.length : Nat) : Int)) rfl (by kernel_rfl) (by kernel_rfl)) fun _ f => Y5 default f 1 fun _ f => Q_end rfl ?_)))))
  intro w_9 p_12
  refine T_n (wp_block ?_)
  obtain ⟨b_2, hL_1, hF_10⟩ := bS hF_9
  refine wp_mono (Q := fun e a w => (e = .ret ∧ (∃ y_2 : Int, b_2 = .inl y_2 ∧ ∃ M_5 : Mem, M_2.le M_5 ∧ Frm 117 [(4, .int .i64 y_2)] a ∧ Hp w0 M_5 ((Ent.row 3 1 (.slice (some ⟨b_1, 0, none⟩) 4 4) [x_1, x_2 - x_3, x_4, x_5].length [.int .i64 x_1, .int .i64 (x_2 - x_3), .int .i64 x_4, .int .i64 x_5]) :: (Ent.obj b0 (.cells #[.int .i8 d0_0, .bool d0_1, .int .i64 d0_2, S d0_3, .slice A_1 d0_4.length cap_1, .slice A_2 d0_5.length cap_2] 76 (0, 0))) :: (Ent.obj b1 (.cells #[.int .i8 d1_0, .bool d1_1, .int .i64 d1_2, S d1_3, .slice A_3 d1_4.length cap_3, .slice A_4 d1_5.length cap_4] 76 (0, 0))) :: H) w)) ∨ (e = .exit 0 ∧ (∃ y_3 : Unit, b_2 = .inr y_3 ∧ ∃ M_6 : Mem, M_2.le M_6 ∧ Frm 117 [(0, .pointer (some (⟨b0, 0, none⟩))), (1, .pointer (some (⟨b1, 0, none⟩)))] a ∧ Hp w0 M_6 ((Ent.row 3 1 (.slice (some ⟨b_1, 0, none⟩) 4 4) [x_1, x_2 - x_3, x_4, x_5].length [.int .i64 x_1, .int .i64 (x_2 - x_3), .int .i64 x_4, .int .i64 x_5]) :: (Ent.obj b0 (.cells #[.int .i8 d0_0, .bool d0_1, .int .i64 d0_2, S d0_3, .slice A_1 d0_4.length cap_1, .slice A_2 d0_5.length cap_2] 76 (0, 0))) :: (Ent.obj b1 (.cells #[.int .i8 d1_0, .bool d1_1, .int .i64 d1_2, S d1_3, .slice A_3 d1_4.length cap_3, .slice A_4 d1_5.length cap_4] 76 (0, 0))) :: H) w))) (R_loop (n := 117) (w0 := w0) (M := M_2) (fun (x : Nat × Int) => match x with | (m_1, s_1) => [(0, .pointer (some (⟨b0, 0, none⟩))), (1, .pointer (some (⟨b1, 0, none⟩))), (62, .int .i64 (min ((d0_4.length : Nat) : Int) ((d1_4.length : Nat) : Int))), (63, .int .i64 s_1)]) (fun (x : Nat × Int) => match x with | (m_1, s_1) => ((Ent.row 3 1 (.slice (some ⟨b_1, 0, none⟩) 4 4) [x_1, x_2 - x_3, x_4, x_5].length [.int .i64 x_1, .int .i64 (x_2 - x_3), .int .i64 x_4, .int .i64 x_5]) :: (Ent.obj b0 (.cells #[.int .i8 d0_0, .bool d0_1, .int .i64 d0_2, S d0_3, .slice A_1 d0_4.length cap_1, .slice A_2 d0_5.length cap_2] 76 (0, 0))) :: (Ent.obj b1 (.cells #[.int .i8 d1_0, .bool d1_1, .int .i64 d1_2, S d1_3, .slice A_3 d1_4.length cap_3, .slice A_4 d1_5.length cap_4] 76 (0, 0))) :: H)) (fun (x : Nat × Int) (MM : Mem) => match x with | (m_1, s_1) => loopF (tree_compare_2_s1 n d0_0 d0_4 d0_5 d1_4 d1_5) m_1 s_1 = some b_2) (fun (x : Nat × Int) => match x with | (m_1, s_1) => m_1) (n, (0 : Int)) (f.kp) p_12 hL_1 ?_) ?_
  ·rintro ⟨m_1, s_1⟩ M_3 _ w_10 hM_3 I_1 f p_13
   have I_1L := I_1
   obtain ⟨m_2, r_1, rfl, hs_1, hn_1⟩ := loop_step I_1L
   unfold tree_compare_2_s1 at hs_1
   refine RR (Y f 1 fun _ f => eT (R_seq (RcF f hs_1 (fun h_7 hF_11 => ?_) fun h_7 hF_27 => ?_)))
   ·have k_3 := dI.1 h_7
    refine wp_skip (T_n (R_seq (wp_block (RR (Y f 2 fun _ f => eT (R_seq (RR (Y f 3 fun _ f => Z f (Y32 (v := .int .i8 d0_0) rfl (ad := ⟨b0, 0, none⟩) (p_13.ownCell 1 rfl 0)) fun _ f => Y f 1 fun _ f => eT ?_))))))))
    obtain ⟨j_1, hj_1, hF_12⟩ := bS hF_11
    refine R_mid (fun a_56 w_13 => ∃ y_1 : Unit, j_1 = .nx y_1 ∧ ∃ M_4 : Mem, M_3.le M_4 ∧ Frm 117 [(0, .pointer (some (⟨b0, 0, none⟩))), (1, .pointer (some (⟨b1, 0, none⟩))), (6, .int .i64 s_1), (62, .int .i64 (min ((d0_4.length : Nat) : Int) ((d1_4.length : Nat) : Int))), (63, .int .i64 s_1)] a_56 ∧ Hp w0 M_4 ((Ent.row 3 1 (.slice (some ⟨b_1, 0, none⟩) 4 4) [x_1, x_2 - x_3, x_4, x_5].length [.int .i64 x_1, .int .i64 (x_2 - x_3), .int .i64 x_4, .int .i64 x_5]) :: (Ent.obj b0 (.cells #[.int .i8 d0_0, .bool d0_1, .int .i64 d0_2, S d0_3, .slice A_1 d0_4.length cap_1, .slice A_2 d0_5.length cap_2] 76 (0, 0))) :: (Ent.obj b1 (.cells #[.int .i8 d1_0, .bool d1_1, .int .i64 d1_2, S d1_3, .slice A_3 d1_4.length cap_3, .slice A_4 d1_5.length cap_4] 76 (0, 0))) :: H) w_13) ?_ ?_
    ·refine RcF f hj_1 (fun h_8 hF_13 => ?_) fun h_8 hF_20 => ?_
     ·have k_4 := dI.1 h_8
      refine R_seq (R_draw p_13 (by kernel_rfl) (by kernel_rfl) (Y5 default f 3 fun _ f => Y2 (v := .slice A_2 d0_5.length cap_2) f (fun _ pq => Y32 (v := .slice A_2 d0_5.length cap_2) rfl (ad := ⟨b0, 5, none⟩) (pq.ownCell 1 rfl 5)) fun _ f => Y5 default f 1 fun _ f => ?_))
      obtain ⟨x_7, hx_7, hF_14⟩ := bS hF_13
      obtain ⟨ad_1, c_1, e_1, -, hr_2, hc_1⟩ := Sli.at_ (h_2.mono (hM_2.trans hM_3)) hx_7
      obtain rfl : c_1 = [S x_7] := hr_2
      refine Y2 (v := .pointer (some (ad_1.add (s_1.toNat * 1)))) f (fun _ pq => Y31 e_1 rfl (len := d0_5.length) (cap := cap_2) (k := .i64) (i := s_1) (e := 9) (sz := 1) (getI_nn hx_7) (getI_lt hx_7)) fun _ f => Y4 f hc_1 0 rfl fun _ f => Y5 default f 3 fun _ f => Y2 (v := .slice A_4 d1_5.length cap_4) f (fun _ pq => Y32 (v := .slice A_4 d1_5.length cap_4) rfl (ad := ⟨b1, 5, none⟩) (pq.ownCell 2 rfl 5)) fun _ f => Y5 default f 1 fun _ f => ?_
      obtain ⟨x_8, hx_8, hF_15⟩ := bS hF_14
      obtain ⟨ad_2, c_2, e_2, -, hr_3, hc_2⟩ := Sli.at_ (h_4.mono (hM_2.trans hM_3)) hx_8
      obtain rfl : c_2 = [S x_8] := hr_3
      refine Y2 (v := .pointer (some (ad_2.add (s_1.toNat * 1)))) f (fun _ pq => Y31 e_2 rfl (len := d1_5.length) (cap := cap_4) (k := .i64) (i := s_1) (e := 9) (sz := 1) (getI_nn hx_8) (getI_lt hx_8)) fun _ f => Y4 f hc_2 0 rfl fun _ f => ?_
      obtain ⟨x_9, hx_9, hF_16⟩ := bS hF_15
      refine Y3 f (h_Compare_ok n _ x_7 x_8 x_9 hx_9) fun _ f => Y5 default f 1 fun _ f => Q_end rfl ?_
      intro w_12 p_15
      refine T_n (RR (Y f 2 fun _ f => eT (RcF f hF_16 (fun h_9 hF_17 => ?_) fun h_9 hF_19 => ?_)))
      ·have k_5 : ¬ (x_9 = 0) := (not_iff dI).1 h_9
       refine RR (Y f 2 fun _ f => eT (wp_ret ?_))
       have hF_18 := br_elim hF_17 hF_12
       refine T_r (T_r (B_r (T_r (T_r ?_))))
       obtain rfl := sI hF_18
       exact .inl ⟨rfl, x_9, (sI hn_1).symm, M_3, hM_3, f.kp, p_15⟩
      ·have k_6 : ¬ (¬ (x_9 = 0)) := iff_f (not_iff dI) h_9
       refine wp_skip (T_n ?_)
       exact ⟨(), (sI hF_19).symm, M_3, (mR _), f.kp, p_15⟩
     ·have k_7 := iff_f dI h_8
      refine wp_skip (T_n ?_)
      exact ⟨(), (sI hF_20).symm, M_3, (mR _), f.kp, p_13⟩
    ·rintro a_56 w_13 ⟨y_1, rfl, M_4, hM_4, f, p_16⟩
     refine T_n (R_seq (R_draw p_16 (by kernel_rfl) (by kernel_rfl) (Y5 default f 3 fun _ f => Y2 (v := .slice A_1 d0_4.length cap_1) f (fun _ pq => Y32 (v := .slice A_1 d0_4.length cap_1) rfl (ad := ⟨b0, 4, none⟩) (pq.ownCell 1 rfl 4)) fun _ f => Y5 default f 1 fun _ f => ?_)))
     obtain ⟨x_10, hx_10, hF_21⟩ := bS hF_12
     obtain ⟨ad_3, c_3, e_3, -, hr_4, hc_3⟩ := Sli.at_ (h_1.mono ((hM_2.trans hM_3).trans hM_4)) hx_10
     obtain ⟨A_6, cap_6, A_7, cap_7, rfl, h_10, h_11⟩ := TD0.opn hr_4
     refine Y2 (v := .pointer (some (ad_3.add (s_1.toNat * 6)))) f (fun _ pq => Y31 e_3 rfl (len := d0_4.length) (cap := cap_1) (k := .i64) (i := s_1) (e := 76) (sz := 6) (getI_nn hx_10) (getI_lt hx_10)) fun _ f => Y5 default f 3 fun _ f => Y2 (v := .slice A_3 d1_4.length cap_3) f (fun _ pq => Y32 (v := .slice A_3 d1_4.length cap_3) rfl (ad := ⟨b1, 4, none⟩) (pq.ownCell 2 rfl 4)) fun _ f => Y5 default f 1 fun _ f => ?_
     obtain ⟨x_11, hx_11, hF_22⟩ := bS hF_21
     obtain ⟨ad_4, c_4, e_4, -, hr_5, hc_4⟩ := Sli.at_ (h_3.mono ((hM_2.trans hM_3).trans hM_4)) hx_11
     obtain ⟨A_8, cap_8, A_9, cap_9, rfl, h_12, h_13⟩ := TD0.opn hr_5
     refine Y2 (v := .pointer (some (ad_4.add (s_1.toNat * 6)))) f (fun _ pq => Y31 e_4 rfl (len := d1_4.length) (cap := cap_3) (k := .i64) (i := s_1) (e := 76) (sz := 6) (getI_nn hx_11) (getI_lt hx_11)) fun _ f => ?_
     obtain ⟨x_12, hx_12, hF_23⟩ := bS hF_22
     refine Y3 f (tree_compare_ok n _ (GL.mono ((hM_2.trans hM_3).trans hM_4) hG) (ad_3.add (s_1.toNat * 6)) [.int .i8 x_10.fKind, .bool x_10.fBool, .int .i64 x_10.fNum, S x_10.fText, .slice A_6 x_10.fList.length cap_6, .slice A_7 x_10.fKeys.length cap_7] x_10 (TD0.shutx (x := x_10) h_10 h_11) (fz_at (hc_3) 0 rfl) (ad_4.add (s_1.toNat * 6)) [.int .i8 x_11.fKind, .bool x_11.fBool, .int .i64 x_11.fNum, S x_11.fText, .slice A_8 x_11.fList.length cap_8, .slice A_9 x_11.fKeys.length cap_9] x_11 (TD0.shutx (x := x_11) h_12 h_13) (fz_at (hc_4) 0 rfl) x_12 hx_12) fun _ f => Y5 default f 1 fun _ f => Q_end rfl ?_
     intro w_15 p_18
     refine T_n (RR (Y f 2 fun _ f => eT (RcF f hF_23 (fun h_14 hF_24 => ?_) fun h_14 hF_25 => ?_)))
     ·have k_8 : ¬ (x_12 = 0) := (not_iff dI).1 h_14
      refine RR (Y f 2 fun _ f => eT (wp_ret (B_r (T_r (T_r ?_)))))
      obtain rfl := sI hF_24
      exact .inl ⟨rfl, x_12, (sI hn_1).symm, M_4, (hM_3.trans hM_4), f.kp, p_18⟩
     ·have k_9 : ¬ (¬ (x_12 = 0)) := iff_f (not_iff dI) h_14
      refine wp_skip (B_n (T_n (R_reg ?_)))
      obtain ⟨g_2, hF_26⟩ := nS hF_25
      refine Y f 1 fun _ f => ?_
      have f := f.st 105 (congrArg (Value.int .i64) (inR_wrap g_2))
      refine Y f 1 fun _ f => eT ?_
      obtain rfl := sI hF_26
      exact ⟨⟨m_2, s_1 + 1⟩, Nat.lt_succ_self _, M_4, (hM_3.trans hM_4), hn_1, f.kp, p_18⟩
   ·have k_10 := iff_f dI h_7
    refine wp_exit (T_x (T_x ?_))
    obtain rfl := sI hF_27
    exact .inr ⟨rfl, (), (sI hn_1).symm, M_3, hM_3, f.kp, p_13⟩
  ·rintro _ _ w_18 (⟨rfl, y_2, rfl, M_5, hM_5, f, p_19⟩ | ⟨rfl, y_3, rfl, M_6, hM_6, f, p_20⟩)
   ·refine B_r (T_r (E_ret1 f rfl (by kernel_rfl : Vc.look _ 4 = some (.int .i64 y_2)) ?_))
    obtain rfl := sI hF_10
    exact ⟨_, rfl, M_5, _, (hM_2.trans hM_5), (p_19.dropN 1), ⟨A_1, cap_1, A_2, cap_2, A_3, cap_3, A_4, cap_4, rfl, rfl, (h_1.mono (hM_2.trans hM_5)), (h_2.mono (hM_2.trans hM_5)), (h_3.mono (hM_2.trans hM_5)), (h_4.mono (hM_2.trans hM_5))⟩⟩
   ·refine B_x (T_n (R_seq (R_draw p_20 (by kernel_rfl) (by kernel_rfl) (Y5 default f 3 fun _ f => Y2 (v := .slice A_1 d0_4.length cap_1) f (fun _ pq => Y32 (v := .slice A_1 d0_4.length cap_1) rfl (ad := ⟨b0, 4, none⟩) (pq.ownCell 1 rfl 4)) fun _ f => Y5 default f 4 fun _ f => Y2 (v := .slice A_3 d1_4.length cap_3) f (fun _ pq => Y32 (v := .slice A_3 d1_4.length cap_3) rfl (ad := ⟨b1, 4, none⟩) (pq.ownCell 2 rfl 4)) fun _ f => Y5 default f 1 fun _ f => ?_))))
    obtain ⟨x_13, hx_13, hF_28⟩ := bS hF_10
    refine Y3 f (cmp_Compare_2_ok n _ (GL.mono (hM_2.trans hM_6) hG) ((d0_4.length : Nat) : Int) ((d1_4.length : Nat) : Int) x_13 hx_13) fun _ f => Y5 default f 1 fun _ f => Q_end rfl ?_
    intro w_20 p_22
    refine T_n (wp_ret (E_ret1 f rfl (by kernel_rfl : Vc.look _ 4 = some (.int .i64 x_13)) ?_))
    obtain rfl := sI hF_28
    exact ⟨_, rfl, M_6, _, (hM_2.trans hM_6), (p_22.dropN 1), ⟨A_1, cap_1, A_2, cap_2, A_3, cap_3, A_4, cap_4, rfl, rfl, (h_1.mono (hM_2.trans hM_6)), (h_2.mono (hM_2.trans hM_6)), (h_3.mono (hM_2.trans hM_6)), (h_4.mono (hM_2.trans hM_6))⟩⟩
def tree_both (n : Nat) (d0 : TD0) (d1 : TD0) : Option (Int × Bool) :=
  (((tree_Check n d0).bind fun x_1 =>
    bif (!(decide (x_1 = 0))) then
      (some ((true)))
    else
      (tree_Check n d1).bind fun x_2 =>
      some ((!(decide (x_2 = 0)))) : Option Bool)).bind fun y_1 =>
  bif y_1 then
    (some (((0 : Int), (false))))
  else
    (tree_sorted n d0).bind fun x_3 =>
    (tree_sorted n d1).bind fun x_4 =>
    (tree_compare_2 n x_3.fKind (x_3.fBool) x_3.fNum x_3.fText x_3.fList x_3.fKeys x_4.fKind (x_4.fBool) x_4.fNum x_4.fText x_4.fList x_4.fKeys).bind fun x_5 =>
    some ((x_5.1, (true)))
theorem tree_both_ok (n : Nat) (M : Mem) (hG : GL M) (c0 : List Value) (d0 : TD0) (h0 : Rep M (emb_TD0 d0) c0) (c1 : List Value) (d1 : TD0) (h1 : Rep M (emb_TD0 d1) c1) (r : Int × Bool) (hF : tree_both n d0 d1 = some r) : Ok Tryz.prog M 87 [.agg c0.toArray, .agg c1.toArray] (fun _ v => v = .tuple #[.int .i64 r.1, .bool r.2]) := by
 unfold tree_both at hF
 intro M1 hM0 w0 H w p0
 replace hG := GL.mono hM0 hG
 replace h0 := Rep.mono hM0 _ _ h0
 replace h1 := Rep.mono hM0 _ _ h1
 obtain ⟨A_1, cap_1, A_2, cap_2, rfl, h_1, h_2⟩ := TD0.opn h0
 obtain ⟨A_3, cap_3, A_4, cap_4, rfl, h_3, h_4⟩ := TD0.opn h1
 refine R_enter 19 Tryz.func87 rfl rfl (by simp) fun a0 f0 => RR (Y13 (cs := #[.int .i8 d0.fKind, .bool d0.fBool, .int .i64 d0.fNum, S d0.fText, .slice A_1 d0.fList.length cap_1, .slice A_2 d0.fKeys.length cap_2]) (T := 76) f0 p0 fun b_1 M_1 w_1 hM_1 hc_1 p_1 _ f => ?_)
 have hc_2 := fz_box hc_1
 refine Y13 (cs := #[.int .i8 d1.fKind, .bool d1.fBool, .int .i64 d1.fNum, S d1.fText, .slice A_3 d1.fList.length cap_3, .slice A_4 d1.fKeys.length cap_4]) (T := 76) f p_1 fun b_2 M_2 w_2 hM_2 hc_3 p_2 _ f => ?_
 have hc_4 := fz_box hc_3
 refine Y f 2 fun _ f => eT (R_seq (R_seq ?_))
 obtain ⟨j_1, hj_1, hF_1⟩ := bS hF
 refine R_mid (fun a_11 w_5 => ∃ y_1 : Bool, j_1 = y_1 ∧ ∃ M_3 : Mem, M_2.le M_3 ∧ Frm 19 [(2, .pointer (some (⟨b_1, 0, none⟩))), (3, .pointer (some (⟨b_2, 0, none⟩))), (15, .bool y_1)] a_11 ∧ Hp w0 M_3 (H) w_5) ?_ ?_
 ·refine R_reg (Z (v := .agg #[.int .i8 d0.fKind, .bool d0.fBool, .int .i64 d0.fNum, S d0.fText, .slice A_1 d0.fList.length cap_1, .slice A_2 d0.fKeys.length cap_2]) f (Y33 (cs := [.int .i8 d0.fKind, .bool d0.fBool, .int .i64 d0.fNum, S d0.fText, .slice A_1 d0.fList.length cap_1, .slice A_2 d0.fKeys.length cap_2]) rfl (ad := ⟨b_1, 0, none⟩) (fun j v h => p_2.cell ((fzu hM_2 hc_2) j v h))) fun _ f => ?_)
  obtain ⟨x_1, hx_1, hF_2⟩ := bS hj_1
  refine Y18 f p_2 (tree_Check_ok n _ (GL.mono (hM_1.trans hM_2) hG) _ d0 (TD0.shutx (x := d0) (h_1.mono (hM_1.trans hM_2)) (h_2.mono (hM_1.trans hM_2))) x_1 hx_1) fun w_3 p_3 _ f => Y f 2 fun _ f => ?_
  rcases cE hF_2 with ⟨h_5, hF_3⟩ | ⟨h_5, hF_4⟩
  ·have k_1 : ¬ (x_1 = 0) := (not_iff dI).1 h_5
   have f := f.st 11 (cB h_5)
   refine Y f 4 fun _ f => eT ?_
   exact ⟨(true), (sI hF_3).symm, M_2, (mR _), f.kp, p_3⟩
  ·have k_2 : ¬ (¬ (x_1 = 0)) := iff_f (not_iff dI) h_5
   have f := f.st 11 (cB h_5)
   refine Z (v := .agg #[.int .i8 d1.fKind, .bool d1.fBool, .int .i64 d1.fNum, S d1.fText, .slice A_3 d1.fList.length cap_3, .slice A_4 d1.fKeys.length cap_4]) f (Y33 (cs := [.int .i8 d1.fKind, .bool d1.fBool, .int .i64 d1.fNum, S d1.fText, .slice A_3 d1.fList.length cap_3, .slice A_4 d1.fKeys.length cap_4]) rfl (ad := ⟨b_2, 0, none⟩) (fun j v h => p_3.cell (hc_4 j v h))) fun _ f => ?_
   obtain ⟨x_2, hx_2, hF_5⟩ := bS hF_4
   refine Y18 f p_3 (tree_Check_ok n _ (GL.mono (hM_1.trans hM_2) hG) _ d1 (TD0.shutx (x := d1) (h_3.mono (hM_1.trans hM_2)) (h_4.mono (hM_1.trans hM_2))) x_2 hx_2) fun w_4 p_4 _ f => Y f 2 fun _ f => eT ?_
   exact ⟨(!(decide (x_2 = 0))), (sI hF_5).symm, M_2, (mR _), f.kp, p_4⟩
 ·rintro a_11 w_5 ⟨y_1, hq_1, M_3, hM_3, f, p_5⟩
  subst j_1
  refine T_n (RcF f hF_1 (fun h_6 hF_6 => ?_) fun h_6 hF_7 => ?_)
  ·refine RR (Y f 2 fun _ f => eT (wp_ret (T_r (E_ret2 f rfl (by kernel_rfl : Vc.look _ 4 = some (.int .i64 0)) (by kernel_rfl : Vc.look _ 5 = some (.bool false)) ?_))))
   obtain rfl := sI hF_6
   exact ⟨_, rfl, M_3, ((hM_1.trans hM_2).trans hM_3), p_5, rfl⟩
  ·refine wp_skip (T_n (RR ?_))
   obtain ⟨x_3, hx_3, hF_8⟩ := bS hF_7
   refine Y16 f p_5 (tree_sorted_ok n _ (GL.mono ((hM_1.trans hM_2).trans hM_3) hG) (⟨b_1, 0, none⟩) [.int .i8 d0.fKind, .bool d0.fBool, .int .i64 d0.fNum, S d0.fText, .slice A_1 d0.fList.length cap_1, .slice A_2 d0.fKeys.length cap_2] d0 (TD0.shutx (x := d0) (h_1.mono ((hM_1.trans hM_2).trans hM_3)) (h_2.mono ((hM_1.trans hM_2).trans hM_3))) (fz_at ((fzu (hM_2.trans hM_3) hc_2)) 0 rfl) x_3 hx_3) fun _ M_4 w_6 hM_4 p_6 q_1 _ f => ?_
   obtain ⟨c_1, rfl, hr_1⟩ := q_1
   obtain ⟨A_5, cap_5, A_6, cap_6, rfl, h_7, h_8⟩ := TD0.opn hr_1
   obtain ⟨x_4, hx_4, hF_9⟩ := bS hF_8
   refine Y16 f p_6 (tree_sorted_ok n _ (GL.mono (((hM_1.trans hM_2).trans hM_3).trans hM_4) hG) (⟨b_2, 0, none⟩) [.int .i8 d1.fKind, .bool d1.fBool, .int .i64 d1.fNum, S d1.fText, .slice A_3 d1.fList.length cap_3, .slice A_4 d1.fKeys.length cap_4] d1 (TD0.shutx (x := d1) (h_3.mono (((hM_1.trans hM_2).trans hM_3).trans hM_4)) (h_4.mono (((hM_1.trans hM_2).trans hM_3).trans hM_4))) (fz_at ((fzu (hM_3.trans hM_4) hc_4)) 0 rfl) x_4 hx_4) fun _ M_5 w_7 hM_5 p_7 q_2 _ f => ?_
   obtain ⟨c_2, rfl, hr_2⟩ := q_2
   obtain ⟨A_7, cap_7, A_8, cap_8, rfl, h_9, h_10⟩ := TD0.opn hr_2
   refine Y12 f p_7 (.cells #[.int .i8 0, .bool false, .int .i64 0, S [], .slice none 0 0, .slice none 0 0] 76 (0, 0)) fun b_3 w_8 p_8 _ f => Y12 f p_8 (.cells #[.int .i8 0, .bool false, .int .i64 0, S [], .slice none 0 0, .slice none 0 0] 76 (0, 0)) fun b_4 w_9 p_9 _ f => ?_
   have p_10 := p_9.pl [1]
   refine Y28 (vs := [.int .i8 x_3.fKind, .bool x_3.fBool, .int .i64 x_3.fNum, S x_3.fText, .slice A_5 x_3.fList.length cap_5, .slice A_6 x_3.fKeys.length cap_6]) (j := 0) f p_10 rfl rfl (by simp [Value.oneCell', S]) (by simp) (by decide) (cs' := #[.int .i8 x_3.fKind, .bool x_3.fBool, .int .i64 x_3.fNum, S x_3.fText, .slice A_5 x_3.fList.length cap_5, .slice A_6 x_3.fKeys.length cap_6]) (by kernel_rfl) fun w_10 p_11 _ f => ?_
   have p_12 := p_11.pl [1]
   refine Y28 (vs := [.int .i8 x_4.fKind, .bool x_4.fBool, .int .i64 x_4.fNum, S x_4.fText, .slice A_7 x_4.fList.length cap_7, .slice A_8 x_4.fKeys.length cap_8]) (j := 0) f p_12 rfl rfl (by simp [Value.oneCell', S]) (by simp) (by decide) (cs' := #[.int .i8 x_4.fKind, .bool x_4.fBool, .int .i64 x_4.fNum, S x_4.fText, .slice A_7 x_4.fList.length cap_7, .slice A_8 x_4.fKeys.length cap_8]) (by kernel_rfl) fun w_11 p_13 _ f => eT (RR ?_)
   obtain ⟨x_5, hx_5, hF_10⟩ := bS hF_9
   have p_15 := p_13.pl [1]
   refine Y17 (E := [Ent.obj b_3 (.cells #[.int .i8 x_3.fKind, .bool x_3.fBool, .int .i64 x_3.fNum, S x_3.fText, .slice A_5 x_3.fList.length cap_5, .slice A_6 x_3.fKeys.length cap_6] 76 (0, 0)), Ent.obj b_4 (.cells #[.int .i8 x_4.fKind, .bool x_4.fBool, .int .i64 x_4.fNum, S x_4.fText, .slice A_7 x_4.fList.length cap_7, .slice A_8 x_4.fKeys.length cap_8] 76 (0, 0))]) (H := (H)) f p_15 (tree_compare_2_ok n _ (GL.mono ((((hM_1.trans hM_2).trans hM_3).trans hM_4).trans hM_5) hG) b_3 x_3.fKind (x_3.fBool) x_3.fNum x_3.fText x_3.fList A_5 cap_5 (h_7.mono hM_5) x_3.fKeys A_6 cap_6 (h_8.mono hM_5) b_4 x_4.fKind (x_4.fBool) x_4.fNum x_4.fText x_4.fList A_7 cap_7 h_9 x_4.fKeys A_8 cap_8 h_10 x_5 hx_5) fun _ M_6 E_1 w_12 hM_6 p_14 q_3 _ f => ?_
   obtain ⟨A_9, cap_9, A_10, cap_10, A_11, cap_11, A_12, cap_12, rfl, rfl, h_11, h_12, h_13, h_14⟩ := q_3
   refine Y f 2 fun _ f => eT (wp_ret (E_ret2 f rfl (by kernel_rfl : Vc.look _ 4 = some (.int .i64 x_5.1)) (by kernel_rfl : Vc.look _ 5 = some (.bool true)) ?_))
   obtain rfl := sI hF_10
   exact ⟨_, rfl, M_6, (((((hM_1.trans hM_2).trans hM_3).trans hM_4).trans hM_5).trans hM_6), (p_14.dropN 2), rfl⟩
def tree_Equal (n : Nat) (d0 : TD0) (d1 : TD0) : Option Bool :=
  (tree_both n d0 d1).bind fun x_1 =>
  bif x_1.2 then
    (some ((decide (x_1.1 = 0))))
  else
    some ((false))
theorem tree_Equal_ok (n : Nat) (M : Mem) (hG : GL M) (c0 : List Value) (d0 : TD0) (h0 : Rep M (emb_TD0 d0) c0) (c1 : List Value) (d1 : TD0) (h1 : Rep M (emb_TD0 d1) c1) (r : Bool) (hF : tree_Equal n d0 d1 = some r) : Ok Tryz.prog M 60 [.agg c0.toArray, .agg c1.toArray] (fun _ v => v = .bool r) := by
 unfold tree_Equal at hF
 intro M1 hM0 w0 H w p0
 replace hG := GL.mono hM0 hG
 replace h0 := Rep.mono hM0 _ _ h0
 replace h1 := Rep.mono hM0 _ _ h1
 obtain ⟨A_1, cap_1, A_2, cap_2, rfl, h_1, h_2⟩ := TD0.opn h0
 obtain ⟨A_3, cap_3, A_4, cap_4, rfl, h_3, h_4⟩ := TD0.opn h1
 refine R_enter 18 Tryz.func60 rfl rfl (by simp) fun a0 f0 => RR (Y13 (cs := #[.int .i8 d0.fKind, .bool d0.fBool, .int .i64 d0.fNum, S d0.fText, .slice A_1 d0.fList.length cap_1, .slice A_2 d0.fKeys.length cap_2]) (T := 76) f0 p0 fun b_1 M_1 w_1 hM_1 hc_1 p_1 _ f => ?_)
 have hc_2 := fz_box hc_1
 refine Y13 (cs := #[.int .i8 d1.fKind, .bool d1.fBool, .int .i64 d1.fNum, S d1.fText, .slice A_3 d1.fList.length cap_3, .slice A_4 d1.fKeys.length cap_4]) (T := 76) f p_1 fun b_2 M_2 w_2 hM_2 hc_3 p_2 _ f => ?_
 have hc_4 := fz_box hc_3
 refine Y f 1 fun _ f => eT (RR (Z (v := .agg #[.int .i8 d0.fKind, .bool d0.fBool, .int .i64 d0.fNum, S d0.fText, .slice A_1 d0.fList.length cap_1, .slice A_2 d0.fKeys.length cap_2]) f (Y33 (cs := [.int .i8 d0.fKind, .bool d0.fBool, .int .i64 d0.fNum, S d0.fText, .slice A_1 d0.fList.length cap_1, .slice A_2 d0.fKeys.length cap_2]) rfl (ad := ⟨b_1, 0, none⟩) (fun j v h => p_2.cell ((fzu hM_2 hc_2) j v h))) fun _ f => Z (v := .agg #[.int .i8 d1.fKind, .bool d1.fBool, .int .i64 d1.fNum, S d1.fText, .slice A_3 d1.fList.length cap_3, .slice A_4 d1.fKeys.length cap_4]) f (Y33 (cs := [.int .i8 d1.fKind, .bool d1.fBool, .int .i64 d1.fNum, S d1.fText, .slice A_3 d1.fList.length cap_3, .slice A_4 d1.fKeys.length cap_4]) rfl (ad := ⟨b_2, 0, none⟩) (fun j v h => p_2.cell (hc_4 j v h))) fun _ f => ?_))
 obtain ⟨x_1, hx_1, hF_1⟩ := bS hF
 refine Y18 f p_2 (tree_both_ok n _ (GL.mono (hM_1.trans hM_2) hG) _ d0 (TD0.shutx (x := d0) (h_1.mono (hM_1.trans hM_2)) (h_2.mono (hM_1.trans hM_2))) _ d1 (TD0.shutx (x := d1) (h_3.mono (hM_1.trans hM_2)) (h_4.mono (hM_1.trans hM_2))) x_1 hx_1) fun w_3 p_3 _ f => Y f 5 fun _ f => eT (RR (Y f 2 fun _ f => ?_))
 rcases cE hF_1 with ⟨h_5, hF_2⟩ | ⟨h_5, hF_3⟩
 ·have f := f.st 14 (cB h_5)
  refine Y f 4 fun _ f => eT (wp_ret (E_ret1 f rfl (by kernel_rfl : Vc.look _ 4 = some (.bool (decide (x_1.1 = 0)))) ?_))
  obtain rfl := sI hF_2
  exact ⟨_, rfl, M_2, (hM_1.trans hM_2), p_3, rfl⟩
 ·have f := f.st 14 (cB h_5)
  refine Y f 4 fun _ f => eT (wp_ret (E_ret1 f rfl (by kernel_rfl : Vc.look _ 4 = some (.bool false)) ?_))
  obtain rfl := sI hF_3
  exact ⟨_, rfl, M_2, (hM_1.trans hM_2), p_3, rfl⟩
def slices_Equalstring_string_s1 (n : Nat) (d0 : List (List UInt8)) (d1 : List (List UInt8)) (s_1 : Int) : Option (Lp Int (Sum Unit Unit)) :=
    bif (decide (s_1 < ((d0.length : Nat) : Int))) then
      ((getI d0 s_1).bind fun x_1 =>
      (getI d1 s_1).bind fun x_2 =>
      bif (!(decide (x_1 = x_2))) then
        (some (.br (.inl ())))
      else
        need (inR .i64 (s_1 + 1)) <|
        some (.nx (s_1 + 1)))
    else
      some (.br (.inr ()))
def slices_Equalstring_string (n : Nat) (d0 : List (List UInt8)) (d1 : List (List UInt8)) : Option Bool :=
  bif (!(decide (((d0.length : Nat) : Int) = ((d1.length : Nat) : Int)))) then
    (some ((false)))
  else
    (loopF (slices_Equalstring_string_s1 n d0 d1) n (0 : Int)).bind fun b_1 =>
    (match b_1 with 
    | .inl y_1 => some ((false)) 
    | .inr y_2 => some ((true)))
theorem slices_Equalstring_string_ok (n : Nat) (M : Mem) (hG : GL M) (A0 : Option Addr) (cap0 : Nat) (d0 : List (List UInt8)) (h0 : Sli M 1 Dat.str A0 cap0 d0) (A1 : Option Addr) (cap1 : Nat) (d1 : List (List UInt8)) (h1 : Sli M 1 Dat.str A1 cap1 d1) (r : Bool) (hF : slices_Equalstring_string n d0 d1 = some r) : Ok Tryz.prog M 88 [.slice A0 d0.length cap0, .slice A1 d1.length cap1] (fun _ v => v = .bool r) := by
 unfold slices_Equalstring_string at hF
 intro M1 hM0 w0 H w p0
 replace hG := GL.mono hM0 hG
 replace h0 := h0.mono hM0
 replace h1 := h1.mono hM0
 refine R_enter 26 Tryz.func88 rfl rfl (by simp) fun a0 f0 => RR (Y f0 1 fun _ f => eT (R_seq (RR (Y f 5 fun _ f => eT (RcF f hF (fun h_1 hF_1 => ?_) fun h_1 hF_2 => ?_)))))
 ·have k_1 : ¬ (((d0.length : Nat) : Int) = ((d1.length : Nat) : Int)) := (not_iff dI).1 h_1
  refine RR (Y f 1 fun _ f => eT (wp_ret (T_r (E_ret1 f rfl (by kernel_rfl : Vc.look _ 4 = some (.bool false)) ?_))))
  obtain rfl := sI hF_1
  exact ⟨_, rfl, M1, (mR _), p0, rfl⟩
 ·have k_2 : ¬ (¬ (((d0.length : Nat) : Int) = ((d1.length : Nat) : Int))) := iff_f (not_iff dI) h_1
  refine wp_skip (T_n (R_seq (RR (Y f 3 fun _ f => eT (wp_block ?_)))))
  obtain ⟨b_1, hL_1, hF_3⟩ := bS hF_2
  refine wp_mono (Q := fun e a w => (e = .ret ∧ (∃ y_1 : Unit, b_1 = .inl y_1 ∧ ∃ M_2 : Mem, M1.le M_2 ∧ Frm 26 [(4, .bool false)] a ∧ Hp w0 M_2 (H) w)) ∨ (e = .exit 0 ∧ (∃ y_2 : Unit, b_1 = .inr y_2 ∧ ∃ M_3 : Mem, M1.le M_3 ∧ Frm 26 [] a ∧ Hp w0 M_3 (H) w))) (R_loop (n := 26) (w0 := w0) (M := M1) (fun (x : Nat × Int) => match x with | (m_1, s_1) => [(0, .slice A0 d0.length cap0), (1, .slice A1 d1.length cap1), (12, .int .i64 ((d0.length : Nat) : Int)), (13, .int .i64 s_1)]) (fun (x : Nat × Int) => match x with | (m_1, s_1) => (H)) (fun (x : Nat × Int) (MM : Mem) => match x with | (m_1, s_1) => loopF (slices_Equalstring_string_s1 n d0 d1) m_1 s_1 = some b_1) (fun (x : Nat × Int) => match x with | (m_1, s_1) => m_1) (n, (0 : Int)) (f.kp) p0 hL_1 ?_) ?_
  ·rintro ⟨m_1, s_1⟩ M_1 _ w_1 hM_1 I_1 f p_1
   have I_1L := I_1
   obtain ⟨m_2, r_1, rfl, hs_1, hn_1⟩ := loop_step I_1L
   unfold slices_Equalstring_string_s1 at hs_1
   refine RR (Y f 1 fun _ f => eT (R_seq (RcF f hs_1 (fun h_2 hF_4 => ?_) fun h_2 hF_10 => ?_)))
   ·have k_3 := dI.1 h_2
    refine wp_skip (T_n (R_seq (wp_block (RR (Y f 2 fun _ f => eT (R_seq (R_draw p_1 (by kernel_rfl) (by kernel_rfl) (Y5 default f 2 fun _ f => ?_))))))))
    obtain ⟨x_1, hx_1, hF_5⟩ := bS hF_4
    obtain ⟨ad_1, c_1, e_1, -, hr_1, hc_1⟩ := Sli.at_ (h0.mono hM_1) hx_1
    obtain rfl : c_1 = [S x_1] := hr_1
    refine Y2 (v := .pointer (some (ad_1.add (s_1.toNat * 1)))) f (fun _ pq => Y31 e_1 rfl (len := d0.length) (cap := cap0) (k := .i64) (i := s_1) (e := 9) (sz := 1) (getI_nn hx_1) (getI_lt hx_1)) fun _ f => Y4 f hc_1 0 rfl fun _ f => Y5 default f 2 fun _ f => ?_
    obtain ⟨x_2, hx_2, hF_6⟩ := bS hF_5
    obtain ⟨ad_2, c_2, e_2, -, hr_2, hc_2⟩ := Sli.at_ (h1.mono hM_1) hx_2
    obtain rfl : c_2 = [S x_2] := hr_2
    refine Y2 (v := .pointer (some (ad_2.add (s_1.toNat * 1)))) f (fun _ pq => Y31 e_2 rfl (len := d1.length) (cap := cap1) (k := .i64) (i := s_1) (e := 9) (sz := 1) (getI_nn hx_2) (getI_lt hx_2)) fun _ f => Y4 f hc_2 0 rfl fun _ f => Y2 (v := .bool (!(decide (x_1 = x_2)))) f (fun _ pq => Y39 rfl (l := x_1) (m := x_2)) fun _ f => Q_end rfl ?_
    intro w_2 p_2
    refine T_n (RcF f hF_6 (fun h_3 hF_7 => ?_) fun h_3 hF_8 => ?_)
    ·have k_4 : ¬ (x_1 = x_2) := (not_iff dI).1 h_3
     refine RR (Y f 1 fun _ f => eT (wp_ret (B_r (T_r (T_r ?_)))))
     obtain rfl := sI hF_7
     exact .inl ⟨rfl, (), (sI hn_1).symm, M_1, hM_1, f.kp, p_2⟩
    ·have k_5 : ¬ (¬ (x_1 = x_2)) := iff_f (not_iff dI) h_3
     refine wp_skip (B_n (T_n (R_reg ?_)))
     obtain ⟨g_1, hF_9⟩ := nS hF_8
     refine Y f 1 fun _ f => ?_
     have f := f.st 25 (congrArg (Value.int .i64) (inR_wrap g_1))
     refine Y f 1 fun _ f => eT ?_
     obtain rfl := sI hF_9
     exact ⟨⟨m_2, s_1 + 1⟩, Nat.lt_succ_self _, M_1, hM_1, hn_1, f.kp, p_2⟩
   ·have k_6 := iff_f dI h_2
    refine wp_exit (T_x (T_x ?_))
    obtain rfl := sI hF_10
    exact .inr ⟨rfl, (), (sI hn_1).symm, M_1, hM_1, f.kp, p_1⟩
  ·rintro _ _ w_5 (⟨rfl, y_1, rfl, M_2, hM_2, f, p_3⟩ | ⟨rfl, y_2, rfl, M_3, hM_3, f, p_4⟩)
   ·refine B_r (T_r (E_ret1 f rfl (by kernel_rfl : Vc.look _ 4 = some (.bool false)) ?_))
    obtain rfl := sI hF_3
    exact ⟨_, rfl, M_2, hM_2, p_3, rfl⟩
   ·refine B_x (T_n (RR (Y f 1 fun _ f => eT (wp_ret (E_ret1 f rfl (by kernel_rfl : Vc.look _ 4 = some (.bool true)) ?_)))))
    obtain rfl := sI hF_3
    exact ⟨_, rfl, M_3, hM_3, p_4, rfl⟩
def slices_EqualFuncapi_Value_api_Value_api_Value_api_Value_2_s1 (n : Nat) (rec_schema_alike : TD0 → TD0 → Option Bool) (d0 : List TD0) (d1 : List TD0) (s_1 : Int) : Option (Lp Int (Sum Unit Unit)) :=
    bif (decide (s_1 < ((d0.length : Nat) : Int))) then
      ((getI d0 s_1).bind fun x_1 =>
      (getI d1 s_1).bind fun x_2 =>
      (rec_schema_alike x_1 x_2).bind fun x_3 =>
      bif !x_3 then
        (some (.br (.inl ())))
      else
        need (inR .i64 (s_1 + 1)) <|
        some (.nx (s_1 + 1)))
    else
      some (.br (.inr ()))
def slices_EqualFuncapi_Value_api_Value_api_Value_api_Value_2 (n : Nat) (rec_schema_alike : TD0 → TD0 → Option Bool) (d0 : List TD0) (d1 : List TD0) : Option Bool :=
  bif (!(decide (((d0.length : Nat) : Int) = ((d1.length : Nat) : Int)))) then
    (some ((false)))
  else
    (loopF (slices_EqualFuncapi_Value_api_Value_api_Value_api_Value_2_s1 n rec_schema_alike d0 d1) n (0 : Int)).bind fun b_1 =>
    (match b_1 with 
    | .inl y_1 => some ((false)) 
    | .inr y_2 => some ((true)))
theorem slices_EqualFuncapi_Value_api_Value_api_Value_api_Value_2_ok (n : Nat) (rec_schema_alike : TD0 → TD0 → Option Bool) (hrec_schema_alike : ∀ (M : Mem) (hG : GL M) (c0 : List Value) (d0 : TD0) (h0 : Rep M (emb_TD0 d0) c0) (c1 : List Value) (d1 : TD0) (h1 : Rep M (emb_TD0 d1) c1) (r : Bool) (hF : rec_schema_alike d0 d1 = some r), Ok Tryz.prog M 61 [.agg c0.toArray, .agg c1.toArray] (fun _ v => v = .bool r)) (M : Mem) (hG : GL M) (A0 : Option Addr) (cap0 : Nat) (d0 : List TD0) (h0 : Sli M 6 emb_TD0 A0 cap0 d0) (A1 : Option Addr) (cap1 : Nat) (d1 : List TD0) (h1 : Sli M 6 emb_TD0 A1 cap1 d1) (r : Bool) (hF : slices_EqualFuncapi_Value_api_Value_api_Value_api_Value_2 n rec_schema_alike d0 d1 = some r) : Ok Tryz.prog M 89 [.slice A0 d0.length cap0, .slice A1 d1.length cap1, .func (.func 61) #[] #[]] (fun _ v => v = .bool r) := by
 unfold slices_EqualFuncapi_Value_api_Value_api_Value_api_Value_2 at hF
 intro M1 hM0 w0 H w p0
 replace hG := GL.mono hM0 hG
 replace h0 := h0.mono hM0
 replace h1 := h1.mono hM0
 refine R_enter 32 Tryz.func89 rfl rfl (by simp) fun a0 f0 => RR (Y f0 1 fun _ f => eT (R_seq (RR (Y f 5 fun _ f => eT (RcF f hF (fun h_1 hF_1 => ?_) fun h_1 hF_2 => ?_)))))
 ·have k_1 : ¬ (((d0.length : Nat) : Int) = ((d1.length : Nat) : Int)) := (not_iff dI).1 h_1
  refine RR (Y f 1 fun _ f => eT (wp_ret (T_r (E_ret1 f rfl (by kernel_rfl : Vc.look _ 6 = some (.bool false)) ?_))))
  obtain rfl := sI hF_1
  exact ⟨_, rfl, M1, (mR _), p0, rfl⟩
 ·have k_2 : ¬ (¬ (((d0.length : Nat) : Int) = ((d1.length : Nat) : Int))) := iff_f (not_iff dI) h_1
  refine wp_skip (T_n (R_seq (RR (Y f 3 fun _ f => eT (wp_block ?_)))))
  obtain ⟨b_1, hL_1, hF_3⟩ := bS hF_2
  refine wp_mono (Q := fun e a w => (e = .ret ∧ (∃ y_1 : Unit, b_1 = .inl y_1 ∧ ∃ M_2 : Mem, M1.le M_2 ∧ Frm 32 [(6, .bool false)] a ∧ Hp w0 M_2 (H) w)) ∨ (e = .exit 0 ∧ (∃ y_2 : Unit, b_1 = .inr y_2 ∧ ∃ M_3 : Mem, M1.le M_3 ∧ Frm 32 [] a ∧ Hp w0 M_3 (H) w))) (R_loop (n := 32) (w0 := w0) (M := M1) (fun (x : Nat × Int) => match x with | (m_1, s_1) => [(1, .slice A1 d1.length cap1), (2, .func (.func 61) #[] #[]), (15, .slice A0 d0.length cap0), (16, .int .i64 ((d0.length : Nat) : Int)), (17, .int .i64 s_1)]) (fun (x : Nat × Int) => match x with | (m_1, s_1) => (H)) (fun (x : Nat × Int) (MM : Mem) => match x with | (m_1, s_1) => loopF (slices_EqualFuncapi_Value_api_Value_api_Value_api_Value_2_s1 n rec_schema_alike d0 d1) m_1 s_1 = some b_1) (fun (x : Nat × Int) => match x with | (m_1, s_1) => m_1) (n, (0 : Int)) (f.kp) p0 hL_1 ?_) ?_
  ·rintro ⟨m_1, s_1⟩ M_1 _ w_1 hM_1 I_1 f p_1
   have I_1L := I_1
   obtain ⟨m_2, r_1, rfl, hs_1, hn_1⟩ := loop_step I_1L
   unfold slices_EqualFuncapi_Value_api_Value_api_Value_api_Value_2_s1 at hs_1
   refine RR (Y f 1 fun _ f => eT (R_seq (RcF f hs_1 (fun h_2 hF_4 => ?_) fun h_2 hF_11 => ?_)))
   ·have k_3 := dI.1 h_2
    refine wp_skip (T_n (R_seq (wp_block (RR (Y f 1 fun _ f => ?_)))))
    obtain ⟨x_1, hx_1, hF_5⟩ := bS hF_4
    obtain ⟨ad_1, c_1, e_1, -, hr_1, hc_1⟩ := Sli.at_ (h0.mono hM_1) hx_1
    obtain ⟨A_1, cap_1, A_2, cap_2, rfl, h_3, h_4⟩ := TD0.opn hr_1
    refine Z f (Y31 e_1 rfl (len := d0.length) (cap := cap0) (k := .i64) (i := s_1) (e := 76) (sz := 6) (getI_nn hx_1) (getI_lt hx_1)) fun _ f => Z (v := .agg #[.int .i8 x_1.fKind, .bool x_1.fBool, .int .i64 x_1.fNum, S x_1.fText, .slice A_1 x_1.fList.length cap_1, .slice A_2 x_1.fKeys.length cap_2]) f (Y33 (cs := [.int .i8 x_1.fKind, .bool x_1.fBool, .int .i64 x_1.fNum, S x_1.fText, .slice A_1 x_1.fList.length cap_1, .slice A_2 x_1.fKeys.length cap_2]) rfl (ad := ad_1.add (s_1.toNat * 6)) (fun j v h => p_1.cell (hc_1 j v h))) fun _ f => Y12 f p_1 (.cells #[.int .i8 0, .bool false, .int .i64 0, S [], .slice none 0 0, .slice none 0 0] 76 (0, 0)) fun b_2 w_2 p_2 _ f => Y f 1 fun _ f => Y28 (vs := [.int .i8 x_1.fKind, .bool x_1.fBool, .int .i64 x_1.fNum, S x_1.fText, .slice A_1 x_1.fList.length cap_1, .slice A_2 x_1.fKeys.length cap_2]) (j := 0) f p_2 rfl rfl (by simp [Value.oneCell', S]) (by simp) (by decide) (cs' := #[.int .i8 x_1.fKind, .bool x_1.fBool, .int .i64 x_1.fNum, S x_1.fText, .slice A_1 x_1.fList.length cap_1, .slice A_2 x_1.fKeys.length cap_2]) (by kernel_rfl) fun w_3 p_3 _ f => eT (RR (Y f 2 fun _ f => ?_))
    obtain ⟨x_2, hx_2, hF_6⟩ := bS hF_5
    obtain ⟨ad_2, c_2, e_2, -, hr_2, hc_2⟩ := Sli.at_ (h1.mono hM_1) hx_2
    obtain ⟨A_3, cap_3, A_4, cap_4, rfl, h_5, h_6⟩ := TD0.opn hr_2
    refine Z f (Y31 e_2 rfl (len := d1.length) (cap := cap1) (k := .i64) (i := s_1) (e := 76) (sz := 6) (getI_nn hx_2) (getI_lt hx_2)) fun _ f => Z (v := .agg #[.int .i8 x_2.fKind, .bool x_2.fBool, .int .i64 x_2.fNum, S x_2.fText, .slice A_3 x_2.fList.length cap_3, .slice A_4 x_2.fKeys.length cap_4]) f (Y33 (cs := [.int .i8 x_2.fKind, .bool x_2.fBool, .int .i64 x_2.fNum, S x_2.fText, .slice A_3 x_2.fList.length cap_3, .slice A_4 x_2.fKeys.length cap_4]) rfl (ad := ad_2.add (s_1.toNat * 6)) (fun j v h => p_3.cell (hc_2 j v h))) fun _ f => Y12 f p_3 (.cells #[.int .i8 0, .bool false, .int .i64 0, S [], .slice none 0 0, .slice none 0 0] 76 (0, 0)) fun b_3 w_4 p_4 _ f => Y28 (vs := [.int .i8 x_2.fKind, .bool x_2.fBool, .int .i64 x_2.fNum, S x_2.fText, .slice A_3 x_2.fList.length cap_3, .slice A_4 x_2.fKeys.length cap_4]) (j := 0) f p_4 rfl rfl (by simp [Value.oneCell', S]) (by simp) (by decide) (cs' := #[.int .i8 x_2.fKind, .bool x_2.fBool, .int .i64 x_2.fNum, S x_2.fText, .slice A_3 x_2.fList.length cap_3, .slice A_4 x_2.fKeys.length cap_4]) (by kernel_rfl) fun w_5 p_5 _ f => eT (RR (Y f 1 fun _ f => Z (v := .agg #[.int .i8 x_1.fKind, .bool x_1.fBool, .int .i64 x_1.fNum, S x_1.fText, .slice A_1 x_1.fList.length cap_1, .slice A_2 x_1.fKeys.length cap_2]) f (Y33 (cs := [.int .i8 x_1.fKind, .bool x_1.fBool, .int .i64 x_1.fNum, S x_1.fText, .slice A_1 x_1.fList.length cap_1, .slice A_2 x_1.fKeys.length cap_2]) rfl (ad := ⟨b_2, 0, none⟩) (own_cells (p_5.ownCell 1 rfl) 0 rfl)) fun _ f => Z (v := .agg #[.int .i8 x_2.fKind, .bool x_2.fBool, .int .i64 x_2.fNum, S x_2.fText, .slice A_3 x_2.fList.length cap_3, .slice A_4 x_2.fKeys.length cap_4]) f (Y33 (cs := [.int .i8 x_2.fKind, .bool x_2.fBool, .int .i64 x_2.fNum, S x_2.fText, .slice A_3 x_2.fList.length cap_3, .slice A_4 x_2.fKeys.length cap_4]) rfl (ad := ⟨b_3, 0, none⟩) (own_cells (p_5.ownCell 0 rfl) 0 rfl)) fun _ f => ?_))
    obtain ⟨x_3, hx_3, hF_7⟩ := bS hF_6
    refine Y18 f p_5 (hrec_schema_alike _ (GL.mono hM_1 hG) _ x_1 (TD0.shutx (x := x_1) h_3 h_4) _ x_2 (TD0.shutx (x := x_2) h_5 h_6) x_3 hx_3) fun w_6 p_6 _ f => Y f 1 fun _ f => eT (RcF f hF_7 (fun h_7 hF_8 => ?_) fun h_7 hF_9 => ?_)
    ·have k_4 : (x_3) = false := by simpa using h_7
     refine RR (Y f 1 fun _ f => eT (wp_ret (B_r (T_r (T_r ?_)))))
     obtain rfl := sI hF_8
     exact .inl ⟨rfl, (), (sI hn_1).symm, M_1, hM_1, f.kp, (p_6.dropN 2)⟩
    ·have k_5 : (x_3) = true := by simpa using h_7
     refine wp_skip (B_n (T_n (R_reg ?_)))
     obtain ⟨g_1, hF_10⟩ := nS hF_9
     refine Y f 1 fun _ f => ?_
     have f := f.st 31 (congrArg (Value.int .i64) (inR_wrap g_1))
     refine Y f 1 fun _ f => eT ?_
     obtain rfl := sI hF_10
     exact ⟨⟨m_2, s_1 + 1⟩, Nat.lt_succ_self _, M_1, hM_1, hn_1, f.kp, (p_6.dropN 2)⟩
   ·have k_6 := iff_f dI h_2
    refine wp_exit (T_x (T_x ?_))
    obtain rfl := sI hF_11
    exact .inr ⟨rfl, (), (sI hn_1).symm, M_1, hM_1, f.kp, p_1⟩
  ·rintro _ _ w_9 (⟨rfl, y_1, rfl, M_2, hM_2, f, p_7⟩ | ⟨rfl, y_2, rfl, M_3, hM_3, f, p_8⟩)
   ·refine B_r (T_r (E_ret1 f rfl (by kernel_rfl : Vc.look _ 6 = some (.bool false)) ?_))
    obtain rfl := sI hF_3
    exact ⟨_, rfl, M_2, hM_2, p_7, rfl⟩
   ·refine B_x (T_n (RR (Y f 1 fun _ f => eT (wp_ret (E_ret1 f rfl (by kernel_rfl : Vc.look _ 6 = some (.bool true)) ?_)))))
    obtain rfl := sI hF_3
    exact ⟨_, rfl, M_3, hM_3, p_8, rfl⟩
def schema_alike_b (n : Nat) (rec_schema_alike : TD0 → TD0 → Option Bool) (d0 : TD0) (d1 : TD0) : Option Bool :=
  ((bif (decide (d0.fKind = d1.fKind)) then
      (bif (d0.fBool == d1.fBool) then
        (bif (decide (d0.fNum = d1.fNum)) then
          (some ((decide (d0.fText = d1.fText))))
        else
          some ((false)))
      else
        some ((false)))
    else
      some ((false)) : Option Bool)).bind fun y_1 =>
  bif y_1 then
    ((slices_Equalstring_string n d0.fKeys d1.fKeys).bind fun x_1 =>
    bif x_1 then
      ((slices_EqualFuncapi_Value_api_Value_api_Value_api_Value_2 n rec_schema_alike d0.fList d1.fList).bind fun x_2 =>
      some ((x_2)))
    else
      some ((false)))
  else
    some ((false))
theorem schema_alike_b_ok (n : Nat) (rec_schema_alike : TD0 → TD0 → Option Bool) (hrec_schema_alike : ∀ (M : Mem) (hG : GL M) (c0 : List Value) (d0 : TD0) (h0 : Rep M (emb_TD0 d0) c0) (c1 : List Value) (d1 : TD0) (h1 : Rep M (emb_TD0 d1) c1) (r : Bool) (hF : rec_schema_alike d0 d1 = some r), Ok Tryz.prog M 61 [.agg c0.toArray, .agg c1.toArray] (fun _ v => v = .bool r)) (M : Mem) (hG : GL M) (c0 : List Value) (d0 : TD0) (h0 : Rep M (emb_TD0 d0) c0) (c1 : List Value) (d1 : TD0) (h1 : Rep M (emb_TD0 d1) c1) (r : Bool) (hF : schema_alike_b n rec_schema_alike d0 d1 = some r) : Ok Tryz.prog M 61 [.agg c0.toArray, .agg c1.toArray] (fun _ v => v = .bool r) := by
 unfold schema_alike_b at hF
 intro M1 hM0 w0 H w p0
 replace hG := GL.mono hM0 hG
 replace h0 := Rep.mono hM0 _ _ h0
 replace h1 := Rep.mono hM0 _ _ h1
 obtain ⟨A_1, cap_1, A_2, cap_2, rfl, h_1, h_2⟩ := TD0.opn h0
 obtain ⟨A_3, cap_3, A_4, cap_4, rfl, h_3, h_4⟩ := TD0.opn h1
 refine R_enter 47 Tryz.func61 rfl rfl (by simp) fun a0 f0 => RR (Y13 (cs := #[.int .i8 d0.fKind, .bool d0.fBool, .int .i64 d0.fNum, S d0.fText, .slice A_1 d0.fList.length cap_1, .slice A_2 d0.fKeys.length cap_2]) (T := 76) f0 p0 fun b_1 M_1 w_1 hM_1 hc_1 p_1 _ f => ?_)
 have hc_2 := fz_box hc_1
 refine Y13 (cs := #[.int .i8 d1.fKind, .bool d1.fBool, .int .i64 d1.fNum, S d1.fText, .slice A_3 d1.fList.length cap_3, .slice A_4 d1.fKeys.length cap_4]) (T := 76) f p_1 fun b_2 M_2 w_2 hM_2 hc_3 p_2 _ f => ?_
 have hc_4 := fz_box hc_3
 refine Y f 1 fun _ f => eT (R_seq ?_)
 obtain ⟨j_1, hj_1, hF_1⟩ := bS hF
 refine R_mid (fun a_28 w_3 => ∃ y_1 : Bool, j_1 = y_1 ∧ ∃ M_3 : Mem, M_2.le M_3 ∧ Frm 47 [(2, .pointer (some (⟨b_1, 0, none⟩))), (3, .pointer (some (⟨b_2, 0, none⟩))), (5, .bool y_1)] a_28 ∧ Hp w0 M_3 (H) w_3) ?_ ?_
 ·refine R_reg (Y f 1 fun _ f => Y15 f p_2 (fzu hM_2 hc_2) 0 rfl fun _ f => Y f 1 fun _ f => Y15 f p_2 hc_4 0 rfl fun _ f => Y f 2 fun _ f => ?_)
  rcases cE hj_1 with ⟨h_5, hF_2⟩ | ⟨h_5, hF_7⟩
  ·have k_1 := dI.1 h_5
   have f := f.st 11 (cB h_5)
   refine Y f 1 fun _ f => Y15 f p_2 (fzu hM_2 hc_2) 1 rfl fun _ f => Y f 1 fun _ f => Y15 f p_2 hc_4 1 rfl fun _ f => Y f 3 fun _ f => ?_
   rcases cE hF_2 with ⟨h_6, hF_3⟩ | ⟨h_6, hF_6⟩
   ·have f := f.st 18 (cB h_6)
    refine Y f 1 fun _ f => Y15 f p_2 (fzu hM_2 hc_2) 2 rfl fun _ f => Y f 1 fun _ f => Y15 f p_2 hc_4 2 rfl fun _ f => Y f 3 fun _ f => ?_
    rcases cE hF_3 with ⟨h_7, hF_4⟩ | ⟨h_7, hF_5⟩
    ·have k_3 := dI.1 h_7
     have f := f.st 25 (cB h_7)
     refine Y f 1 fun _ f => Y15 f p_2 (fzu hM_2 hc_2) 3 rfl fun _ f => Y f 1 fun _ f => Y15 f p_2 hc_4 3 rfl fun _ f => Z f (Y38 rfl (l := d0.fText) (m := d1.fText)) fun _ f => Y f 2 fun _ f => eT ?_
     exact ⟨(decide (d0.fText = d1.fText)), (sI hF_4).symm, M_2, (mR _), f.kp, p_2⟩
    ·have k_4 := iff_f dI h_7
     have f := f.st 25 (cB h_7)
     refine Y f 7 fun _ f => eT ?_
     exact ⟨(false), (sI hF_5).symm, M_2, (mR _), f.kp, p_2⟩
   ·have f := f.st 18 (cB h_6)
    refine Y f 14 fun _ f => eT ?_
    exact ⟨(false), (sI hF_6).symm, M_2, (mR _), f.kp, p_2⟩
  ·have k_6 := iff_f dI h_5
   have f := f.st 11 (cB h_5)
   refine Y f 21 fun _ f => eT ?_
   exact ⟨(false), (sI hF_7).symm, M_2, (mR _), f.kp, p_2⟩
 ·rintro a_28 w_3 ⟨y_1, hq_1, M_3, hM_3, f, p_3⟩
  subst j_1
  refine T_n (RR (Y f 2 fun _ f => ?_))
  rcases cE hF_1 with ⟨h_8, hF_8⟩ | ⟨h_8, hF_13⟩
  ·have f := f.st 33 (cB h_8)
   refine Y f 1 fun _ f => Y15 f p_3 (fzu (hM_2.trans hM_3) hc_2) 5 rfl fun _ f => Y f 1 fun _ f => Y15 f p_3 (fzu hM_3 hc_4) 5 rfl fun _ f => ?_
   obtain ⟨x_1, hx_1, hF_9⟩ := bS hF_8
   refine Y18 f p_3 (slices_Equalstring_string_ok n _ (GL.mono ((hM_1.trans hM_2).trans hM_3) hG) A_2 cap_2 d0.fKeys (h_2.mono ((hM_1.trans hM_2).trans hM_3)) A_4 cap_4 d1.fKeys (h_4.mono ((hM_1.trans hM_2).trans hM_3)) x_1 hx_1) fun w_4 p_4 _ f => Y f 2 fun _ f => ?_
   rcases cE hF_9 with ⟨h_9, hF_10⟩ | ⟨h_9, hF_12⟩
   ·have f := f.st 40 (cB h_9)
    refine Y f 1 fun _ f => Y15 f p_4 (fzu (hM_2.trans hM_3) hc_2) 4 rfl fun _ f => Y f 1 fun _ f => Y15 f p_4 (fzu hM_3 hc_4) 4 rfl fun _ f => ?_
    obtain ⟨x_2, hx_2, hF_11⟩ := bS hF_10
    refine Y18 f p_4 (slices_EqualFuncapi_Value_api_Value_api_Value_api_Value_2_ok n rec_schema_alike hrec_schema_alike _ (GL.mono ((hM_1.trans hM_2).trans hM_3) hG) A_1 cap_1 d0.fList (h_1.mono ((hM_1.trans hM_2).trans hM_3)) A_3 cap_3 d1.fList (h_3.mono ((hM_1.trans hM_2).trans hM_3)) x_2 hx_2) fun w_5 p_5 _ f => Y f 2 fun _ f => eT (wp_ret (E_ret1 f rfl (by kernel_rfl : Vc.look _ 4 = some (.bool x_2)) ?_))
    obtain rfl := sI hF_11
    exact ⟨_, rfl, M_3, ((hM_1.trans hM_2).trans hM_3), p_5, rfl⟩
   ·have f := f.st 40 (cB h_9)
    refine Y f 7 fun _ f => eT (wp_ret (E_ret1 f rfl (by kernel_rfl : Vc.look _ 4 = some (.bool false)) ?_))
    obtain rfl := sI hF_12
    exact ⟨_, rfl, M_3, ((hM_1.trans hM_2).trans hM_3), p_4, rfl⟩
  ·have f := f.st 33 (cB h_8)
   refine Y f 14 fun _ f => eT (wp_ret (E_ret1 f rfl (by kernel_rfl : Vc.look _ 4 = some (.bool false)) ?_))
   obtain rfl := sI hF_13
   exact ⟨_, rfl, M_3, ((hM_1.trans hM_2).trans hM_3), p_3, rfl⟩
def schema_alike_k (n : Nat) : Nat → TD0 → TD0 → Option Bool
  | 0 => fun _ _ => none
  | k + 1 => schema_alike_b n (schema_alike_k n k)
def schema_alike (n : Nat) (d0 : TD0) (d1 : TD0) : Option Bool := schema_alike_k n n d0 d1
theorem schema_alike_ok (n : Nat) (M : Mem) (hG : GL M) (c0 : List Value) (d0 : TD0) (h0 : Rep M (emb_TD0 d0) c0) (c1 : List Value) (d1 : TD0) (h1 : Rep M (emb_TD0 d1) c1) (r : Bool) (hF : schema_alike n d0 d1 = some r) : Ok Tryz.prog M 61 [.agg c0.toArray, .agg c1.toArray] (fun _ v => v = .bool r) := by
 have key : ∀ (k : Nat) (M : Mem) (hG : GL M) (c0 : List Value) (d0 : TD0) (h0 : Rep M (emb_TD0 d0) c0) (c1 : List Value) (d1 : TD0) (h1 : Rep M (emb_TD0 d1) c1) (r : Bool) (hF : schema_alike_k n k d0 d1 = some r), Ok Tryz.prog M 61 [.agg c0.toArray, .agg c1.toArray] (fun _ v => v = .bool r) := by
  intro k
  induction k with
  | zero => intro M hG c0 d0 h0 c1 d1 h1 r hF; simp [schema_alike_k] at hF
  | succ k ih => intro M hG c0 d0 h0 c1 d1 h1 r hF; exact schema_alike_b_ok n (schema_alike_k n k) ih M hG c0 d0 h0 c1 d1 h1 r hF
 exact key n M hG c0 d0 h0 c1 d1 h1 r hF
def schema_Same_1 (n : Nat) (d0 : TE0) (d1 : TE0) : Option Bool :=
  bif (decide (d0.fName = d1.fName)) then
    (bif (d0.fUnknown == d1.fUnknown) then
      ((tree_Equal n (⟨d0.fV.fKind, (d0.fV.fBool), d0.fV.fNum, d0.fV.fText, d0.fV.fList, d0.fV.fKeys⟩ : TD0) (⟨d1.fV.fKind, (d1.fV.fBool), d1.fV.fNum, d1.fV.fText, d1.fV.fList, d1.fV.fKeys⟩ : TD0)).bind fun x_1 =>
      bif x_1 then
        (some ((true)))
      else
        (schema_alike n (⟨d0.fV.fKind, (d0.fV.fBool), d0.fV.fNum, d0.fV.fText, d0.fV.fList, d0.fV.fKeys⟩ : TD0) (⟨d1.fV.fKind, (d1.fV.fBool), d1.fV.fNum, d1.fV.fText, d1.fV.fList, d1.fV.fKeys⟩ : TD0)).bind fun x_2 =>
        some ((x_2)))
    else
      some ((false)))
  else
    some ((false))
theorem schema_Same_1_ok (n : Nat) (M : Mem) (hG : GL M) (c0 : List Value) (d0 : TE0) (h0 : Rep M (emb_TE0 d0) c0) (c1 : List Value) (d1 : TE0) (h1 : Rep M (emb_TE0 d1) c1) (r : Bool) (hF : schema_Same_1 n d0 d1 = some r) : Ok Tryz.prog M 59 [.agg c0.toArray, .agg c1.toArray] (fun _ v => v = .bool r) := by
 unfold schema_Same_1 at hF
 intro M1 hM0 w0 H w p0
 replace hG := GL.mono hM0 hG
 replace h0 := Rep.mono hM0 _ _ h0
 replace h1 := Rep.mono hM0 _ _ h1
 obtain ⟨A_1, cap_1, A_2, cap_2, rfl, h_1, h_2⟩ := TE0.opn h0
 obtain ⟨A_3, cap_3, A_4, cap_4, rfl, h_3, h_4⟩ := TE0.opn h1
 refine R_enter 31 Tryz.func59 rfl rfl (by simp) fun a0 f0 => RR (Y13 (cs := #[S d0.fName, .bool d0.fUnknown, .int .i8 d0.fV.fKind, .bool d0.fV.fBool, .int .i64 d0.fV.fNum, S d0.fV.fText, .slice A_1 d0.fV.fList.length cap_1, .slice A_2 d0.fV.fKeys.length cap_2]) (T := 78) f0 p0 fun b_1 M_1 w_1 hM_1 hc_1 p_1 _ f => ?_)
 have hc_2 := fz_box hc_1
 refine Y13 (cs := #[S d1.fName, .bool d1.fUnknown, .int .i8 d1.fV.fKind, .bool d1.fV.fBool, .int .i64 d1.fV.fNum, S d1.fV.fText, .slice A_3 d1.fV.fList.length cap_3, .slice A_4 d1.fV.fKeys.length cap_4]) (T := 78) f p_1 fun b_2 M_2 w_2 hM_2 hc_3 p_2 _ f => ?_
 have hc_4 := fz_box hc_3
 refine Y f 1 fun _ f => eT (RR (Y f 1 fun _ f => Y15 f p_2 (fzu hM_2 hc_2) 0 rfl fun _ f => Y f 1 fun _ f => Y15 f p_2 hc_4 0 rfl fun _ f => Z f (Y38 rfl (l := d0.fName) (m := d1.fName)) fun _ f => Y f 1 fun _ f => ?_))
 rcases cE hF with ⟨h_5, hF_1⟩ | ⟨h_5, hF_8⟩
 ·have k_1 := dI.1 h_5
  have f := f.st 10 (cB h_5)
  refine Y f 1 fun _ f => Y15 f p_2 (fzu hM_2 hc_2) 1 rfl fun _ f => Y f 1 fun _ f => Y15 f p_2 hc_4 1 rfl fun _ f => Y f 3 fun _ f => ?_
  rcases cE hF_1 with ⟨h_6, hF_2⟩ | ⟨h_6, hF_7⟩
  ·have f := f.st 17 (cB h_6)
   refine Y f 1 fun _ f => Z (v := .agg #[.int .i8 d0.fV.fKind, .bool d0.fV.fBool, .int .i64 d0.fV.fNum, S d0.fV.fText, .slice A_1 d0.fV.fList.length cap_1, .slice A_2 d0.fV.fKeys.length cap_2]) f (Y33 (cs := [.int .i8 d0.fV.fKind, .bool d0.fV.fBool, .int .i64 d0.fV.fNum, S d0.fV.fText, .slice A_1 d0.fV.fList.length cap_1, .slice A_2 d0.fV.fKeys.length cap_2]) rfl (ad := (⟨b_1, 0, none⟩ : Addr).add 2) (fz_part (base := (⟨b_1, 0, none⟩ : Addr)) (fun j v h => p_2.cell ((fzu hM_2 hc_2) j v h)) 2 rfl)) fun _ f => Y f 1 fun _ f => Z (v := .agg #[.int .i8 d1.fV.fKind, .bool d1.fV.fBool, .int .i64 d1.fV.fNum, S d1.fV.fText, .slice A_3 d1.fV.fList.length cap_3, .slice A_4 d1.fV.fKeys.length cap_4]) f (Y33 (cs := [.int .i8 d1.fV.fKind, .bool d1.fV.fBool, .int .i64 d1.fV.fNum, S d1.fV.fText, .slice A_3 d1.fV.fList.length cap_3, .slice A_4 d1.fV.fKeys.length cap_4]) rfl (ad := (⟨b_2, 0, none⟩ : Addr).add 2) (fz_part (base := (⟨b_2, 0, none⟩ : Addr)) (fun j v h => p_2.cell (hc_4 j v h)) 2 rfl)) fun _ f => ?_
   obtain ⟨x_1, hx_1, hF_3⟩ := bS hF_2
   refine Y18 f p_2 (tree_Equal_ok n _ (GL.mono (hM_1.trans hM_2) hG) _ (⟨d0.fV.fKind, (d0.fV.fBool), d0.fV.fNum, d0.fV.fText, d0.fV.fList, d0.fV.fKeys⟩ : TD0) (TD0.shut (h_1.mono (hM_1.trans hM_2)) (h_2.mono (hM_1.trans hM_2))) _ (⟨d1.fV.fKind, (d1.fV.fBool), d1.fV.fNum, d1.fV.fText, d1.fV.fList, d1.fV.fKeys⟩ : TD0) (TD0.shut (h_3.mono (hM_1.trans hM_2)) (h_4.mono (hM_1.trans hM_2))) x_1 hx_1) fun w_3 p_3 _ f => Y f 1 fun _ f => ?_
   rcases cE hF_3 with ⟨h_7, hF_4⟩ | ⟨h_7, hF_5⟩
   ·have f := f.st 23 (cB h_7)
    refine Y f 8 fun _ f => eT (wp_ret (E_ret1 f rfl (by kernel_rfl : Vc.look _ 4 = some (.bool true)) ?_))
    obtain rfl := sI hF_4
    exact ⟨_, rfl, M_2, (hM_1.trans hM_2), p_3, rfl⟩
   ·have f := f.st 23 (cB h_7)
    refine Y f 1 fun _ f => Z (v := .agg #[.int .i8 d0.fV.fKind, .bool d0.fV.fBool, .int .i64 d0.fV.fNum, S d0.fV.fText, .slice A_1 d0.fV.fList.length cap_1, .slice A_2 d0.fV.fKeys.length cap_2]) f (Y33 (cs := [.int .i8 d0.fV.fKind, .bool d0.fV.fBool, .int .i64 d0.fV.fNum, S d0.fV.fText, .slice A_1 d0.fV.fList.length cap_1, .slice A_2 d0.fV.fKeys.length cap_2]) rfl (ad := (⟨b_1, 0, none⟩ : Addr).add 2) (fz_part (base := (⟨b_1, 0, none⟩ : Addr)) (fun j v h => p_3.cell ((fzu hM_2 hc_2) j v h)) 2 rfl)) fun _ f => Y f 1 fun _ f => Z (v := .agg #[.int .i8 d1.fV.fKind, .bool d1.fV.fBool, .int .i64 d1.fV.fNum, S d1.fV.fText, .slice A_3 d1.fV.fList.length cap_3, .slice A_4 d1.fV.fKeys.length cap_4]) f (Y33 (cs := [.int .i8 d1.fV.fKind, .bool d1.fV.fBool, .int .i64 d1.fV.fNum, S d1.fV.fText, .slice A_3 d1.fV.fList.length cap_3, .slice A_4 d1.fV.fKeys.length cap_4]) rfl (ad := (⟨b_2, 0, none⟩ : Addr).add 2) (fz_part (base := (⟨b_2, 0, none⟩ : Addr)) (fun j v h => p_3.cell (hc_4 j v h)) 2 rfl)) fun _ f => ?_
    obtain ⟨x_2, hx_2, hF_6⟩ := bS hF_5
    refine Y18 f p_3 (schema_alike_ok n _ (GL.mono (hM_1.trans hM_2) hG) _ (⟨d0.fV.fKind, (d0.fV.fBool), d0.fV.fNum, d0.fV.fText, d0.fV.fList, d0.fV.fKeys⟩ : TD0) (TD0.shut (h_1.mono (hM_1.trans hM_2)) (h_2.mono (hM_1.trans hM_2))) _ (⟨d1.fV.fKind, (d1.fV.fBool), d1.fV.fNum, d1.fV.fText, d1.fV.fList, d1.fV.fKeys⟩ : TD0) (TD0.shut (h_3.mono (hM_1.trans hM_2)) (h_4.mono (hM_1.trans hM_2))) x_2 hx_2) fun w_4 p_4 _ f => Y f 3 fun _ f => eT (wp_ret (E_ret1 f rfl (by kernel_rfl : Vc.look _ 4 = some (.bool x_2)) ?_))
    obtain rfl := sI hF_6
    exact ⟨_, rfl, M_2, (hM_1.trans hM_2), p_4, rfl⟩
  ·have f := f.st 17 (cB h_6)
   refine Y f 14 fun _ f => eT (wp_ret (E_ret1 f rfl (by kernel_rfl : Vc.look _ 4 = some (.bool false)) ?_))
   obtain rfl := sI hF_7
   exact ⟨_, rfl, M_2, (hM_1.trans hM_2), p_2, rfl⟩
 ·have k_6 := iff_f dI h_5
  have f := f.st 10 (cB h_5)
  refine Y f 21 fun _ f => eT (wp_ret (E_ret1 f rfl (by kernel_rfl : Vc.look _ 4 = some (.bool false)) ?_))
  obtain rfl := sI hF_8
  exact ⟨_, rfl, M_2, (hM_1.trans hM_2), p_2, rfl⟩
def slices_EqualFuncapi_Given_api_Given_api_Given_api_Given_s1 (n : Nat) (d0 : List TE0) (d1 : List TE0) (s_1 : Int) : Option (Lp Int (Sum Unit Unit)) :=
    bif (decide (s_1 < ((d0.length : Nat) : Int))) then
      ((getI d0 s_1).bind fun x_1 =>
      (getI d1 s_1).bind fun x_2 =>
      (schema_Same_1 n x_1 x_2).bind fun x_3 =>
      bif !x_3 then
        (some (.br (.inl ())))
      else
        need (inR .i64 (s_1 + 1)) <|
        some (.nx (s_1 + 1)))
    else
      some (.br (.inr ()))
def slices_EqualFuncapi_Given_api_Given_api_Given_api_Given (n : Nat) (d0 : List TE0) (d1 : List TE0) : Option Bool :=
  bif (!(decide (((d0.length : Nat) : Int) = ((d1.length : Nat) : Int)))) then
    (some ((false)))
  else
    (loopF (slices_EqualFuncapi_Given_api_Given_api_Given_api_Given_s1 n d0 d1) n (0 : Int)).bind fun b_1 =>
    (match b_1 with 
    | .inl y_1 => some ((false)) 
    | .inr y_2 => some ((true)))
theorem slices_EqualFuncapi_Given_api_Given_api_Given_api_Given_ok (n : Nat) (M : Mem) (hG : GL M) (A0 : Option Addr) (cap0 : Nat) (d0 : List TE0) (h0 : Sli M 8 emb_TE0 A0 cap0 d0) (A1 : Option Addr) (cap1 : Nat) (d1 : List TE0) (h1 : Sli M 8 emb_TE0 A1 cap1 d1) (r : Bool) (hF : slices_EqualFuncapi_Given_api_Given_api_Given_api_Given n d0 d1 = some r) : Ok Tryz.prog M 58 [.slice A0 d0.length cap0, .slice A1 d1.length cap1, .func (.func 59) #[] #[]] (fun _ v => v = .bool r) := by
 unfold slices_EqualFuncapi_Given_api_Given_api_Given_api_Given at hF
 intro M1 hM0 w0 H w p0
 replace hG := GL.mono hM0 hG
 replace h0 := h0.mono hM0
 replace h1 := h1.mono hM0
 refine R_enter 32 Tryz.func58 rfl rfl (by simp) fun a0 f0 => RR (Y f0 1 fun _ f => eT (R_seq (RR (Y f 5 fun _ f => eT (RcF f hF (fun h_1 hF_1 => ?_) fun h_1 hF_2 => ?_)))))
 ·have k_1 : ¬ (((d0.length : Nat) : Int) = ((d1.length : Nat) : Int)) := (not_iff dI).1 h_1
  refine RR (Y f 1 fun _ f => eT (wp_ret (T_r (E_ret1 f rfl (by kernel_rfl : Vc.look _ 6 = some (.bool false)) ?_))))
  obtain rfl := sI hF_1
  exact ⟨_, rfl, M1, (mR _), p0, rfl⟩
 ·have k_2 : ¬ (¬ (((d0.length : Nat) : Int) = ((d1.length : Nat) : Int))) := iff_f (not_iff dI) h_1
  refine wp_skip (T_n (R_seq (RR (Y f 3 fun _ f => eT (wp_block ?_)))))
  obtain ⟨b_1, hL_1, hF_3⟩ := bS hF_2
  refine wp_mono (Q := fun e a w => (e = .ret ∧ (∃ y_1 : Unit, b_1 = .inl y_1 ∧ ∃ M_2 : Mem, M1.le M_2 ∧ Frm 32 [(6, .bool false)] a ∧ Hp w0 M_2 (H) w)) ∨ (e = .exit 0 ∧ (∃ y_2 : Unit, b_1 = .inr y_2 ∧ ∃ M_3 : Mem, M1.le M_3 ∧ Frm 32 [] a ∧ Hp w0 M_3 (H) w))) (R_loop (n := 32) (w0 := w0) (M := M1) (fun (x : Nat × Int) => match x with | (m_1, s_1) => [(1, .slice A1 d1.length cap1), (2, .func (.func 59) #[] #[]), (15, .slice A0 d0.length cap0), (16, .int .i64 ((d0.length : Nat) : Int)), (17, .int .i64 s_1)]) (fun (x : Nat × Int) => match x with | (m_1, s_1) => (H)) (fun (x : Nat × Int) (MM : Mem) => match x with | (m_1, s_1) => loopF (slices_EqualFuncapi_Given_api_Given_api_Given_api_Given_s1 n d0 d1) m_1 s_1 = some b_1) (fun (x : Nat × Int) => match x with | (m_1, s_1) => m_1) (n, (0 : Int)) (f.kp) p0 hL_1 ?_) ?_
  ·rintro ⟨m_1, s_1⟩ M_1 _ w_1 hM_1 I_1 f p_1
   have I_1L := I_1
   obtain ⟨m_2, r_1, rfl, hs_1, hn_1⟩ := loop_step I_1L
   unfold slices_EqualFuncapi_Given_api_Given_api_Given_api_Given_s1 at hs_1
   refine RR (Y f 1 fun _ f => eT (R_seq (RcF f hs_1 (fun h_2 hF_4 => ?_) fun h_2 hF_11 => ?_)))
   ·have k_3 := dI.1 h_2
    refine wp_skip (T_n (R_seq (wp_block (RR (Y f 1 fun _ f => ?_)))))
    obtain ⟨x_1, hx_1, hF_5⟩ := bS hF_4
    obtain ⟨ad_1, c_1, e_1, -, hr_1, hc_1⟩ := Sli.at_ (h0.mono hM_1) hx_1
    obtain ⟨A_1, cap_1, A_2, cap_2, rfl, h_3, h_4⟩ := TE0.opn hr_1
    refine Z f (Y31 e_1 rfl (len := d0.length) (cap := cap0) (k := .i64) (i := s_1) (e := 78) (sz := 8) (getI_nn hx_1) (getI_lt hx_1)) fun _ f => Z (v := .agg #[S x_1.fName, .bool x_1.fUnknown, .int .i8 x_1.fV.fKind, .bool x_1.fV.fBool, .int .i64 x_1.fV.fNum, S x_1.fV.fText, .slice A_1 x_1.fV.fList.length cap_1, .slice A_2 x_1.fV.fKeys.length cap_2]) f (Y33 (cs := [S x_1.fName, .bool x_1.fUnknown, .int .i8 x_1.fV.fKind, .bool x_1.fV.fBool, .int .i64 x_1.fV.fNum, S x_1.fV.fText, .slice A_1 x_1.fV.fList.length cap_1, .slice A_2 x_1.fV.fKeys.length cap_2]) rfl (ad := ad_1.add (s_1.toNat * 8)) (fun j v h => p_1.cell (hc_1 j v h))) fun _ f => Y12 f p_1 (.cells #[S [], .bool false, .int .i8 0, .bool false, .int .i64 0, S [], .slice none 0 0, .slice none 0 0] 78 (0, 0)) fun b_2 w_2 p_2 _ f => Y f 1 fun _ f => Y28 (vs := [S x_1.fName, .bool x_1.fUnknown, .int .i8 x_1.fV.fKind, .bool x_1.fV.fBool, .int .i64 x_1.fV.fNum, S x_1.fV.fText, .slice A_1 x_1.fV.fList.length cap_1, .slice A_2 x_1.fV.fKeys.length cap_2]) (j := 0) f p_2 rfl rfl (by simp [Value.oneCell', S]) (by simp) (by decide) (cs' := #[S x_1.fName, .bool x_1.fUnknown, .int .i8 x_1.fV.fKind, .bool x_1.fV.fBool, .int .i64 x_1.fV.fNum, S x_1.fV.fText, .slice A_1 x_1.fV.fList.length cap_1, .slice A_2 x_1.fV.fKeys.length cap_2]) (by kernel_rfl) fun w_3 p_3 _ f => eT (RR (Y f 2 fun _ f => ?_))
    obtain ⟨x_2, hx_2, hF_6⟩ := bS hF_5
    obtain ⟨ad_2, c_2, e_2, -, hr_2, hc_2⟩ := Sli.at_ (h1.mono hM_1) hx_2
    obtain ⟨A_3, cap_3, A_4, cap_4, rfl, h_5, h_6⟩ := TE0.opn hr_2
    refine Z f (Y31 e_2 rfl (len := d1.length) (cap := cap1) (k := .i64) (i := s_1) (e := 78) (sz := 8) (getI_nn hx_2) (getI_lt hx_2)) fun _ f => Z (v := .agg #[S x_2.fName, .bool x_2.fUnknown, .int .i8 x_2.fV.fKind, .bool x_2.fV.fBool, .int .i64 x_2.fV.fNum, S x_2.fV.fText, .slice A_3 x_2.fV.fList.length cap_3, .slice A_4 x_2.fV.fKeys.length cap_4]) f (Y33 (cs := [S x_2.fName, .bool x_2.fUnknown, .int .i8 x_2.fV.fKind, .bool x_2.fV.fBool, .int .i64 x_2.fV.fNum, S x_2.fV.fText, .slice A_3 x_2.fV.fList.length cap_3, .slice A_4 x_2.fV.fKeys.length cap_4]) rfl (ad := ad_2.add (s_1.toNat * 8)) (fun j v h => p_3.cell (hc_2 j v h))) fun _ f => Y12 f p_3 (.cells #[S [], .bool false, .int .i8 0, .bool false, .int .i64 0, S [], .slice none 0 0, .slice none 0 0] 78 (0, 0)) fun b_3 w_4 p_4 _ f => Y28 (vs := [S x_2.fName, .bool x_2.fUnknown, .int .i8 x_2.fV.fKind, .bool x_2.fV.fBool, .int .i64 x_2.fV.fNum, S x_2.fV.fText, .slice A_3 x_2.fV.fList.length cap_3, .slice A_4 x_2.fV.fKeys.length cap_4]) (j := 0) f p_4 rfl rfl (by simp [Value.oneCell', S]) (by simp) (by decide) (cs' := #[S x_2.fName, .bool x_2.fUnknown, .int .i8 x_2.fV.fKind, .bool x_2.fV.fBool, .int .i64 x_2.fV.fNum, S x_2.fV.fText, .slice A_3 x_2.fV.fList.length cap_3, .slice A_4 x_2.fV.fKeys.length cap_4]) (by kernel_rfl) fun w_5 p_5 _ f => eT (RR (Y f 1 fun _ f => Z (v := .agg #[S x_1.fName, .bool x_1.fUnknown, .int .i8 x_1.fV.fKind, .bool x_1.fV.fBool, .int .i64 x_1.fV.fNum, S x_1.fV.fText, .slice A_1 x_1.fV.fList.length cap_1, .slice A_2 x_1.fV.fKeys.length cap_2]) f (Y33 (cs := [S x_1.fName, .bool x_1.fUnknown, .int .i8 x_1.fV.fKind, .bool x_1.fV.fBool, .int .i64 x_1.fV.fNum, S x_1.fV.fText, .slice A_1 x_1.fV.fList.length cap_1, .slice A_2 x_1.fV.fKeys.length cap_2]) rfl (ad := ⟨b_2, 0, none⟩) (own_cells (p_5.ownCell 1 rfl) 0 rfl)) fun _ f => Z (v := .agg #[S x_2.fName, .bool x_2.fUnknown, .int .i8 x_2.fV.fKind, .bool x_2.fV.fBool, .int .i64 x_2.fV.fNum, S x_2.fV.fText, .slice A_3 x_2.fV.fList.length cap_3, .slice A_4 x_2.fV.fKeys.length cap_4]) f (Y33 (cs := [S x_2.fName, .bool x_2.fUnknown, .int .i8 x_2.fV.fKind, .bool x_2.fV.fBool, .int .i64 x_2.fV.fNum, S x_2.fV.fText, .slice A_3 x_2.fV.fList.length cap_3, .slice A_4 x_2.fV.fKeys.length cap_4]) rfl (ad := ⟨b_3, 0, none⟩) (own_cells (p_5.ownCell 0 rfl) 0 rfl)) fun _ f => ?_))
    obtain ⟨x_3, hx_3, hF_7⟩ := bS hF_6
    refine Y18 f p_5 (schema_Same_1_ok n _ (GL.mono hM_1 hG) _ x_1 (TE0.shutx (x := x_1) h_3 h_4) _ x_2 (TE0.shutx (x := x_2) h_5 h_6) x_3 hx_3) fun w_6 p_6 _ f => Y f 1 fun _ f => eT (RcF f hF_7 (fun h_7 hF_8 => ?_) fun h_7 hF_9 => ?_)
    ·have k_4 : (x_3) = false := by simpa using h_7
     refine RR (Y f 1 fun _ f => eT (wp_ret (B_r (T_r (T_r ?_)))))
     obtain rfl := sI hF_8
     exact .inl ⟨rfl, (), (sI hn_1).symm, M_1, hM_1, f.kp, (p_6.dropN 2)⟩
    ·have k_5 : (x_3) = true := by simpa using h_7
     refine wp_skip (B_n (T_n (R_reg ?_)))
     obtain ⟨g_1, hF_10⟩ := nS hF_9
     refine Y f 1 fun _ f => ?_
     have f := f.st 31 (congrArg (Value.int .i64) (inR_wrap g_1))
     refine Y f 1 fun _ f => eT ?_
     obtain rfl := sI hF_10
     exact ⟨⟨m_2, s_1 + 1⟩, Nat.lt_succ_self _, M_1, hM_1, hn_1, f.kp, (p_6.dropN 2)⟩
   ·have k_6 := iff_f dI h_2
    refine wp_exit (T_x (T_x ?_))
    obtain rfl := sI hF_11
    exact .inr ⟨rfl, (), (sI hn_1).symm, M_1, hM_1, f.kp, p_1⟩
  ·rintro _ _ w_9 (⟨rfl, y_1, rfl, M_2, hM_2, f, p_7⟩ | ⟨rfl, y_2, rfl, M_3, hM_3, f, p_8⟩)
   ·refine B_r (T_r (E_ret1 f rfl (by kernel_rfl : Vc.look _ 6 = some (.bool false)) ?_))
    obtain rfl := sI hF_3
    exact ⟨_, rfl, M_2, hM_2, p_7, rfl⟩
   ·refine B_x (T_n (RR (Y f 1 fun _ f => eT (wp_ret (E_ret1 f rfl (by kernel_rfl : Vc.look _ 6 = some (.bool true)) ?_)))))
    obtain rfl := sI hF_3
    exact ⟨_, rfl, M_3, hM_3, p_8, rfl⟩
def schema_Same (n : Nat) (d0 : List TE0) (d1 : List TE0) : Option Bool :=
  (slices_EqualFuncapi_Given_api_Given_api_Given_api_Given n d0 d1).bind fun x_1 =>
  some ((x_1))
theorem schema_Same_ok (n : Nat) (M : Mem) (hG : GL M) (A0 : Option Addr) (cap0 : Nat) (d0 : List TE0) (h0 : Sli M 8 emb_TE0 A0 cap0 d0) (A1 : Option Addr) (cap1 : Nat) (d1 : List TE0) (h1 : Sli M 8 emb_TE0 A1 cap1 d1) (r : Bool) (hF : schema_Same n d0 d1 = some r) : Ok Tryz.prog M 34 [.slice A0 d0.length cap0, .slice A1 d1.length cap1] (fun _ v => v = .bool r) := by
 unfold schema_Same at hF
 intro M1 hM0 w0 H w p0
 replace hG := GL.mono hM0 hG
 replace h0 := h0.mono hM0
 replace h1 := h1.mono hM0
 refine R_enter 8 Tryz.func34 rfl rfl (by simp) fun a0 f0 => RR (Y f0 1 fun _ f => eT (RR (Y f 2 fun _ f => ?_)))
 obtain ⟨x_1, hx_1, hF_1⟩ := bS hF
 refine Y18 f p0 (slices_EqualFuncapi_Given_api_Given_api_Given_api_Given_ok n _ hG A0 cap0 d0 h0 A1 cap1 d1 h1 x_1 hx_1) fun w_1 p_1 _ f => Y f 1 fun _ f => eT (wp_ret (E_ret1 f rfl (by kernel_rfl : Vc.look _ 4 = some (.bool x_1)) ?_))
 obtain rfl := sI hF_1
 exact ⟨_, rfl, M1, (mR _), p_1, rfl⟩
def cmp_Or_2_s1 (n : Nat) (d0 : List Int) (s_1 : Int) : Option (Lp Int (Sum Int Unit)) :=
    bif (decide (s_1 < ((d0.length : Nat) : Int))) then
      ((getI d0 s_1).bind fun x_1 =>
      bif (!(decide (x_1 = 0))) then
        (some (.br (.inl x_1)))
      else
        need (inR .i64 (s_1 + 1)) <|
        some (.nx (s_1 + 1)))
    else
      some (.br (.inr ()))
def cmp_Or_2 (n : Nat) (d0 : List Int) : Option Int :=
  (loopF (cmp_Or_2_s1 n d0) n (0 : Int)).bind fun b_1 =>
  (match b_1 with 
  | .inl y_1 => some (y_1) 
  | .inr y_2 => some ((0 : Int)))
theorem cmp_Or_2_ok (n : Nat) (M : Mem) (hG : GL M) (A0 : Option Addr) (cap0 : Nat) (d0 : List Int) (h0 : Sli M 1 (Dat.int .i64) A0 cap0 d0) (r : Int) (hF : cmp_Or_2 n d0 = some r) : Ok Tryz.prog M 62 [.slice A0 d0.length cap0] (fun _ v => v = .int .i64 r) := by
 unfold cmp_Or_2 at hF
 intro M1 hM0 w0 H w p0
 replace hG := GL.mono hM0 hG
 replace h0 := h0.mono hM0
 refine R_enter 18 Tryz.func62 rfl rfl (by simp) fun a0 f0 => RR (Y f0 1 fun _ f => eT (RR (Y f 1 fun _ f => eT (R_seq (RR (Y f 3 fun _ f => eT (wp_block ?_)))))))
 obtain ⟨b_1, hL_1, hF_1⟩ := bS hF
 refine wp_mono (Q := fun e a w => (e = .ret ∧ (∃ y_1 : Int, b_1 = .inl y_1 ∧ ∃ M_2 : Mem, M1.le M_2 ∧ Frm 18 [(2, .int .i64 y_1)] a ∧ Hp w0 M_2 (H) w)) ∨ (e = .exit 0 ∧ (∃ y_2 : Unit, b_1 = .inr y_2 ∧ ∃ M_3 : Mem, M1.le M_3 ∧ Frm 18 [(3, .int .i64 0)] a ∧ Hp w0 M_3 (H) w))) (R_loop (n := 18) (w0 := w0) (M := M1) (fun (x : Nat × Int) => match x with | (m_1, s_1) => [(3, .int .i64 0), (6, .slice A0 d0.length cap0), (7, .int .i64 ((d0.length : Nat) : Int)), (8, .int .i64 s_1)]) (fun (x : Nat × Int) => match x with | (m_1, s_1) => (H)) (fun (x : Nat × Int) (MM : Mem) => match x with | (m_1, s_1) => loopF (cmp_Or_2_s1 n d0) m_1 s_1 = some b_1) (fun (x : Nat × Int) => match x with | (m_1, s_1) => m_1) (n, (0 : Int)) (f.kp) p0 hL_1 ?_) ?_
 ·rintro ⟨m_1, s_1⟩ M_1 _ w_1 hM_1 I_1 f p_1
  have I_1L := I_1
  obtain ⟨m_2, r_1, rfl, hs_1, hn_1⟩ := loop_step I_1L
  unfold cmp_Or_2_s1 at hs_1
  refine RR (Y f 1 fun _ f => eT (R_seq (RcF f hs_1 (fun h_1 hF_2 => ?_) fun h_1 hF_7 => ?_)))
  ·have k_1 := dI.1 h_1
   refine wp_skip (T_n (R_seq (wp_block (RR ?_))))
   obtain ⟨x_1, hx_1, hF_3⟩ := bS hF_2
   obtain ⟨ad_1, c_1, e_1, -, hr_1, hc_1⟩ := Sli.at_ (h0.mono hM_1) hx_1
   obtain rfl : c_1 = [.int .i64 x_1] := hr_1
   refine Z f (Y31 e_1 rfl (len := d0.length) (cap := cap0) (k := .i64) (i := s_1) (e := 28) (sz := 1) (getI_nn hx_1) (getI_lt hx_1)) fun _ f => Y15 f p_1 hc_1 0 rfl fun _ f => Y f 1 fun _ f => eT (RR (Y f 3 fun _ f => eT (RcF f hF_3 (fun h_2 hF_4 => ?_) fun h_2 hF_5 => ?_)))
   ·have k_2 : ¬ (x_1 = 0) := (not_iff dI).1 h_2
    refine RR (Y f 2 fun _ f => eT (wp_ret (B_r (T_r (T_r ?_)))))
    obtain rfl := sI hF_4
    exact .inl ⟨rfl, x_1, (sI hn_1).symm, M_1, hM_1, f.kp, p_1⟩
   ·have k_3 : ¬ (¬ (x_1 = 0)) := iff_f (not_iff dI) h_2
    refine wp_skip (B_n (T_n (R_reg ?_)))
    obtain ⟨g_1, hF_6⟩ := nS hF_5
    refine Y f 1 fun _ f => ?_
    have f := f.st 16 (congrArg (Value.int .i64) (inR_wrap g_1))
    refine Y f 1 fun _ f => eT ?_
    obtain rfl := sI hF_6
    exact ⟨⟨m_2, s_1 + 1⟩, Nat.lt_succ_self _, M_1, hM_1, hn_1, f.kp, p_1⟩
  ·have k_4 := iff_f dI h_1
   refine wp_exit (T_x (T_x ?_))
   obtain rfl := sI hF_7
   exact .inr ⟨rfl, (), (sI hn_1).symm, M_1, hM_1, f.kp, p_1⟩
 ·rintro _ _ w_4 (⟨rfl, y_1, rfl, M_2, hM_2, f, p_2⟩ | ⟨rfl, y_2, rfl, M_3, hM_3, f, p_3⟩)
  ·refine B_r (T_r (E_ret1 f rfl (by kernel_rfl : Vc.look _ 2 = some (.int .i64 y_1)) ?_))
   obtain rfl := sI hF_1
   exact ⟨_, rfl, M_2, hM_2, p_2, rfl⟩
  ·refine B_x (T_n (RR (Y f 2 fun _ f => eT (wp_ret (E_ret1 f rfl (by kernel_rfl : Vc.look _ 2 = some (.int .i64 0)) ?_)))))
   obtain rfl := sI hF_1
   exact ⟨_, rfl, M_3, hM_3, p_3, rfl⟩
def schema_Differ_1 (n : Nat) (d0 : TE0) : Option Bool :=
  some ((d0.fUnknown))
theorem schema_Differ_1_ok (n : Nat) (M : Mem) (hG : GL M) (c0 : List Value) (d0 : TE0) (h0 : Rep M (emb_TE0 d0) c0) (r : Bool) (hF : schema_Differ_1 n d0 = some r) : Ok Tryz.prog M 64 [.agg c0.toArray] (fun _ v => v = .bool r) := by
 unfold schema_Differ_1 at hF
 intro M1 hM0 w0 H w p0
 replace hG := GL.mono hM0 hG
 replace h0 := Rep.mono hM0 _ _ h0
 obtain ⟨A_1, cap_1, A_2, cap_2, rfl, h_1, h_2⟩ := TE0.opn h0
 refine R_enter 5 Tryz.func64 rfl rfl (by simp) fun a0 f0 => RR (Y13 (cs := #[S d0.fName, .bool d0.fUnknown, .int .i8 d0.fV.fKind, .bool d0.fV.fBool, .int .i64 d0.fV.fNum, S d0.fV.fText, .slice A_1 d0.fV.fList.length cap_1, .slice A_2 d0.fV.fKeys.length cap_2]) (T := 78) f0 p0 fun b_1 M_1 w_1 hM_1 hc_1 p_1 _ f => ?_)
 have hc_2 := fz_box hc_1
 refine Y f 1 fun _ f => eT (RR (Y f 1 fun _ f => Y15 f p_1 hc_2 1 rfl fun _ f => Y f 1 fun _ f => eT (wp_ret (E_ret1 f rfl (by kernel_rfl : Vc.look _ 2 = some (.bool d0.fUnknown)) ?_))))
 obtain rfl := sI hF
 exact ⟨_, rfl, M_1, hM_1, p_1, rfl⟩
def slices_IndexFuncapi_Given_api_Given_s1 (n : Nat) (d0 : List TE0) (s_1 : Int) : Option (Lp Int (Sum Int Unit)) :=
    bif (decide (s_1 < ((d0.length : Nat) : Int))) then
      ((getI d0 s_1).bind fun x_1 =>
      (schema_Differ_1 n x_1).bind fun x_2 =>
      bif x_2 then
        (some (.br (.inl s_1)))
      else
        need (inR .i64 (s_1 + 1)) <|
        some (.nx (s_1 + 1)))
    else
      some (.br (.inr ()))
def slices_IndexFuncapi_Given_api_Given (n : Nat) (d0 : List TE0) : Option Int :=
  (loopF (slices_IndexFuncapi_Given_api_Given_s1 n d0) n (0 : Int)).bind fun b_1 =>
  (match b_1 with 
  | .inl y_1 => some (y_1) 
  | .inr y_2 => some ((-1 : Int)))
theorem slices_IndexFuncapi_Given_api_Given_ok (n : Nat) (M : Mem) (hG : GL M) (A0 : Option Addr) (cap0 : Nat) (d0 : List TE0) (h0 : Sli M 8 emb_TE0 A0 cap0 d0) (r : Int) (hF : slices_IndexFuncapi_Given_api_Given n d0 = some r) : Ok Tryz.prog M 90 [.slice A0 d0.length cap0, .func (.func 64) #[] #[]] (fun _ v => v = .int .i64 r) := by
 unfold slices_IndexFuncapi_Given_api_Given at hF
 intro M1 hM0 w0 H w p0
 replace hG := GL.mono hM0 hG
 replace h0 := h0.mono hM0
 refine R_enter 19 Tryz.func90 rfl rfl (by simp) fun a0 f0 => RR (Y f0 1 fun _ f => eT (R_seq (RR (Y f 3 fun _ f => eT (wp_block ?_)))))
 obtain ⟨b_1, hL_1, hF_1⟩ := bS hF
 refine wp_mono (Q := fun e a w => (e = .ret ∧ (∃ y_1 : Int, b_1 = .inl y_1 ∧ ∃ M_2 : Mem, M1.le M_2 ∧ Frm 19 [(4, .int .i64 y_1)] a ∧ Hp w0 M_2 (H) w)) ∨ (e = .exit 0 ∧ (∃ y_2 : Unit, b_1 = .inr y_2 ∧ ∃ M_3 : Mem, M1.le M_3 ∧ Frm 19 [] a ∧ Hp w0 M_3 (H) w))) (R_loop (n := 19) (w0 := w0) (M := M1) (fun (x : Nat × Int) => match x with | (m_1, s_1) => [(0, .slice A0 d0.length cap0), (1, .func (.func 64) #[] #[]), (7, .int .i64 ((d0.length : Nat) : Int)), (8, .int .i64 s_1)]) (fun (x : Nat × Int) => match x with | (m_1, s_1) => (H)) (fun (x : Nat × Int) (MM : Mem) => match x with | (m_1, s_1) => loopF (slices_IndexFuncapi_Given_api_Given_s1 n d0) m_1 s_1 = some b_1) (fun (x : Nat × Int) => match x with | (m_1, s_1) => m_1) (n, (0 : Int)) (f.kp) p0 hL_1 ?_) ?_
 ·rintro ⟨m_1, s_1⟩ M_1 _ w_1 hM_1 I_1 f p_1
  have I_1L := I_1
  obtain ⟨m_2, r_1, rfl, hs_1, hn_1⟩ := loop_step I_1L
  unfold slices_IndexFuncapi_Given_api_Given_s1 at hs_1
  refine RR (Y f 1 fun _ f => eT (R_seq (RcF f hs_1 (fun h_1 hF_2 => ?_) fun h_1 hF_8 => ?_)))
  ·have k_1 := dI.1 h_1
   refine wp_skip (T_n (R_seq (wp_block (RR (Y f 2 fun _ f => eT (RR (Y f 3 fun _ f => ?_)))))))
   obtain ⟨x_1, hx_1, hF_3⟩ := bS hF_2
   obtain ⟨ad_1, c_1, e_1, -, hr_1, hc_1⟩ := Sli.at_ (h0.mono hM_1) hx_1
   obtain ⟨A_1, cap_1, A_2, cap_2, rfl, h_2, h_3⟩ := TE0.opn hr_1
   refine Z f (Y31 e_1 rfl (len := d0.length) (cap := cap0) (k := .i64) (i := s_1) (e := 78) (sz := 8) (getI_nn hx_1) (getI_lt hx_1)) fun _ f => Z (v := .agg #[S x_1.fName, .bool x_1.fUnknown, .int .i8 x_1.fV.fKind, .bool x_1.fV.fBool, .int .i64 x_1.fV.fNum, S x_1.fV.fText, .slice A_1 x_1.fV.fList.length cap_1, .slice A_2 x_1.fV.fKeys.length cap_2]) f (Y33 (cs := [S x_1.fName, .bool x_1.fUnknown, .int .i8 x_1.fV.fKind, .bool x_1.fV.fBool, .int .i64 x_1.fV.fNum, S x_1.fV.fText, .slice A_1 x_1.fV.fList.length cap_1, .slice A_2 x_1.fV.fKeys.length cap_2]) rfl (ad := ad_1.add (s_1.toNat * 8)) (fun j v h => p_1.cell (hc_1 j v h))) fun _ f => ?_
   obtain ⟨x_2, hx_2, hF_4⟩ := bS hF_3
   refine Y18 f p_1 (schema_Differ_1_ok n _ (GL.mono hM_1 hG) _ x_1 (TE0.shutx (x := x_1) h_2 h_3) x_2 hx_2) fun w_2 p_2 _ f => eT (RcF f hF_4 (fun h_4 hF_5 => ?_) fun h_4 hF_6 => ?_)
   ·refine RR (Y f 2 fun _ f => eT (wp_ret (B_r (T_r (T_r ?_)))))
    obtain rfl := sI hF_5
    exact .inl ⟨rfl, s_1, (sI hn_1).symm, M_1, hM_1, f.kp, p_2⟩
   ·refine wp_skip (B_n (T_n (R_reg ?_)))
    obtain ⟨g_1, hF_7⟩ := nS hF_6
    refine Y f 1 fun _ f => ?_
    have f := f.st 18 (congrArg (Value.int .i64) (inR_wrap g_1))
    refine Y f 1 fun _ f => eT ?_
    obtain rfl := sI hF_7
    exact ⟨⟨m_2, s_1 + 1⟩, Nat.lt_succ_self _, M_1, hM_1, hn_1, f.kp, p_2⟩
  ·have k_4 := iff_f dI h_1
   refine wp_exit (T_x (T_x ?_))
   obtain rfl := sI hF_8
   exact .inr ⟨rfl, (), (sI hn_1).symm, M_1, hM_1, f.kp, p_1⟩
 ·rintro _ _ w_5 (⟨rfl, y_1, rfl, M_2, hM_2, f, p_3⟩ | ⟨rfl, y_2, rfl, M_3, hM_3, f, p_4⟩)
  ·refine B_r (T_r (E_ret1 f rfl (by kernel_rfl : Vc.look _ 4 = some (.int .i64 y_1)) ?_))
   obtain rfl := sI hF_1
   exact ⟨_, rfl, M_2, hM_2, p_3, rfl⟩
  ·refine B_x (T_n (RR (Y f 1 fun _ f => eT (wp_ret (E_ret1 f rfl (by kernel_rfl : Vc.look _ 4 = some (.int .i64 (-1))) ?_)))))
   obtain rfl := sI hF_1
   exact ⟨_, rfl, M_3, hM_3, p_4, rfl⟩
def slices_ContainsFuncapi_Given_api_Given (n : Nat) (d0 : List TE0) : Option Bool :=
  (slices_IndexFuncapi_Given_api_Given n d0).bind fun x_1 =>
  some ((decide ((0 : Int) ≤ x_1)))
theorem slices_ContainsFuncapi_Given_api_Given_ok (n : Nat) (M : Mem) (hG : GL M) (A0 : Option Addr) (cap0 : Nat) (d0 : List TE0) (h0 : Sli M 8 emb_TE0 A0 cap0 d0) (r : Bool) (hF : slices_ContainsFuncapi_Given_api_Given n d0 = some r) : Ok Tryz.prog M 63 [.slice A0 d0.length cap0, .func (.func 64) #[] #[]] (fun _ v => v = .bool r) := by
 unfold slices_ContainsFuncapi_Given_api_Given at hF
 intro M1 hM0 w0 H w p0
 replace hG := GL.mono hM0 hG
 replace h0 := h0.mono hM0
 refine R_enter 9 Tryz.func63 rfl rfl (by simp) fun a0 f0 => RR (Y f0 1 fun _ f => eT (RR (Y f 2 fun _ f => ?_)))
 obtain ⟨x_1, hx_1, hF_1⟩ := bS hF
 refine Y18 f p0 (slices_IndexFuncapi_Given_api_Given_ok n _ hG A0 cap0 d0 h0 x_1 hx_1) fun w_1 p_1 _ f => Y f 2 fun _ f => eT (wp_ret (E_ret1 f rfl (by kernel_rfl : Vc.look _ 4 = some (.bool (decide ((0 : Int) ≤ x_1)))) ?_))
 obtain rfl := sI hF_1
 exact ⟨_, rfl, M1, (mR _), p_1, rfl⟩
def schema_byName_s1 (n : Nat) (d0 : List TE0) (s_1 : Int × (List ((List UInt8) × TE0))) : Option (Lp (Int × (List ((List UInt8) × TE0))) (List ((List UInt8) × TE0))) :=
    bif (decide (s_1.1 < ((d0.length : Nat) : Int))) then
      ((getI d0 s_1.1).bind fun x_1 =>
      need (inR .i64 (s_1.1 + 1)) <|
      some (.nx (s_1.1 + 1, mput s_1.2 x_1.fName x_1)))
    else
      some (.br s_1.2)
def schema_byName (n : Nat) (d0 : List TE0) : Option (List ((List UInt8) × TE0)) :=
  (loopF (schema_byName_s1 n d0) n ((0 : Int), ([] : List ((List UInt8) × TE0)))).bind fun y_1 =>
  some (y_1)
theorem schema_byName_ok (n : Nat) (M : Mem) (hG : GL M) (A0 : Option Addr) (cap0 : Nat) (d0 : List TE0) (h0 : Sli M 8 emb_TE0 A0 cap0 d0) (r : (List ((List UInt8) × TE0))) (hF : schema_byName n d0 = some r) : Ok Tryz.prog M 65 [.slice A0 d0.length cap0] (fun M' v => ∃ (b0 : Nat) (m0 : List ((List UInt8) × Value)), v = .map (some b0) ∧ M' b0 = some (mapO S idV m0) ∧ RepMap M' emb_TE0 r m0) := by
 unfold schema_byName at hF
 intro M1 hM0 w0 H w p0
 replace hG := GL.mono hM0 hG
 replace h0 := h0.mono hM0
 refine R_enter 19 Tryz.func65 rfl rfl (by simp) fun a0 f0 => RR (Y f0 1 fun _ f => eT (RR (W_newmap S idV f p0 (by kernel_rfl) (by kernel_rfl) rfl rfl rfl fun bm_1 w_1 p_1 _ f => ?_)))
 have hm_1 : RepMap M1 emb_TE0 ([] : List ((List UInt8) × TE0)) ([] : List ((List UInt8) × Value)) := RepMap.nil
 refine Y f 1 fun _ f => eT (R_seq (RR (Y f 3 fun _ f => eT (wp_block ?_))))
 obtain ⟨b_1, hL_1, hF_1⟩ := bS hF
 refine wp_mono (Q := fun e a w => (e = .exit 0 ∧ (∃ y_1 : (List ((List UInt8) × TE0)), b_1 = y_1 ∧ ∃ M_2 : Mem, M1.le M_2 ∧ ∃ (m_4 : List ((List UInt8) × Value)), RepMap M_2 emb_TE0 y_1 m_4 ∧ Frm 19 [(3, .map (some bm_1))] a ∧ Hp w0 M_2 ((Ent.obj bm_1 (mapO S idV m_4)) :: H) w))) (R_loop (n := 19) (w0 := w0) (M := M1) (fun (x : Nat × (Int × (List ((List UInt8) × TE0))) × (List ((List UInt8) × Value))) => match x with | (m_1, s_1, m_2) => [(3, .map (some bm_1)), (7, .slice A0 d0.length cap0), (8, .int .i64 ((d0.length : Nat) : Int)), (9, .int .i64 s_1.1)]) (fun (x : Nat × (Int × (List ((List UInt8) × TE0))) × (List ((List UInt8) × Value))) => match x with | (m_1, s_1, m_2) => ((Ent.obj bm_1 (mapO S idV m_2)) :: H)) (fun (x : Nat × (Int × (List ((List UInt8) × TE0))) × (List ((List UInt8) × Value))) (MM : Mem) => match x with | (m_1, s_1, m_2) => loopF (schema_byName_s1 n d0) m_1 s_1 = some b_1 ∧ RepMap MM emb_TE0 s_1.2 m_2) (fun (x : Nat × (Int × (List ((List UInt8) × TE0))) × (List ((List UInt8) × Value))) => match x with | (m_1, s_1, m_2) => m_1) (n, ((0 : Int), ([] : List ((List UInt8) × TE0))), ([] : List ((List UInt8) × Value))) (f.kp) p_1 ⟨hL_1, hm_1⟩ ?_) ?_
 ·rintro ⟨m_1, s_1, m_2⟩ M_1 _ w_2 hM_1 I_1 f p_2
  obtain ⟨I_1L, hm_2⟩ := I_1
  obtain ⟨m_3, r_1, rfl, hs_1, hn_1⟩ := loop_step I_1L
  unfold schema_byName_s1 at hs_1
  refine RR (Y f 1 fun _ f => eT (R_seq (RcF f hs_1 (fun h_1 hF_2 => ?_) fun h_1 hF_5 => ?_)))
  ·have k_1 := dI.1 h_1
   refine wp_skip (T_n (R_seq (wp_block (RR ?_))))
   obtain ⟨x_1, hx_1, hF_3⟩ := bS hF_2
   obtain ⟨ad_1, c_1, e_1, -, hr_1, hc_1⟩ := Sli.at_ (h0.mono hM_1) hx_1
   obtain ⟨A_1, cap_1, A_2, cap_2, rfl, h_2, h_3⟩ := TE0.opn hr_1
   refine Z f (Y31 e_1 rfl (len := d0.length) (cap := cap0) (k := .i64) (i := s_1.1) (e := 78) (sz := 8) (getI_nn hx_1) (getI_lt hx_1)) fun _ f => Z (v := .agg #[S x_1.fName, .bool x_1.fUnknown, .int .i8 x_1.fV.fKind, .bool x_1.fV.fBool, .int .i64 x_1.fV.fNum, S x_1.fV.fText, .slice A_1 x_1.fV.fList.length cap_1, .slice A_2 x_1.fV.fKeys.length cap_2]) f (Y33 (cs := [S x_1.fName, .bool x_1.fUnknown, .int .i8 x_1.fV.fKind, .bool x_1.fV.fBool, .int .i64 x_1.fV.fNum, S x_1.fV.fText, .slice A_1 x_1.fV.fList.length cap_1, .slice A_2 x_1.fV.fKeys.length cap_2]) rfl (ad := ad_1.add (s_1.1.toNat * 8)) (fun j v h => p_2.cell (hc_1 j v h))) fun _ f => Y12 f p_2 (.cells #[S [], .bool false, .int .i8 0, .bool false, .int .i64 0, S [], .slice none 0 0, .slice none 0 0] 78 (0, 0)) fun b_2 w_3 p_3 _ f => Y28 (vs := [S x_1.fName, .bool x_1.fUnknown, .int .i8 x_1.fV.fKind, .bool x_1.fV.fBool, .int .i64 x_1.fV.fNum, S x_1.fV.fText, .slice A_1 x_1.fV.fList.length cap_1, .slice A_2 x_1.fV.fKeys.length cap_2]) (j := 0) f p_3 rfl rfl (by simp [Value.oneCell', S]) (by simp) (by decide) (cs' := #[S x_1.fName, .bool x_1.fUnknown, .int .i8 x_1.fV.fKind, .bool x_1.fV.fBool, .int .i64 x_1.fV.fNum, S x_1.fV.fText, .slice A_1 x_1.fV.fList.length cap_1, .slice A_2 x_1.fV.fKeys.length cap_2]) (by kernel_rfl) fun w_4 p_4 _ f => eT (R_reg (Y f 2 fun _ f => Z f (Y32 (v := S x_1.fName) rfl (ad := ⟨b_2, 0, none⟩) (p_4.ownCell 0 rfl 0)) fun _ f => Z (v := .agg #[S x_1.fName, .bool x_1.fUnknown, .int .i8 x_1.fV.fKind, .bool x_1.fV.fBool, .int .i64 x_1.fV.fNum, S x_1.fV.fText, .slice A_1 x_1.fV.fList.length cap_1, .slice A_2 x_1.fV.fKeys.length cap_2]) f (Y33 (cs := [S x_1.fName, .bool x_1.fUnknown, .int .i8 x_1.fV.fKind, .bool x_1.fV.fBool, .int .i64 x_1.fV.fNum, S x_1.fV.fText, .slice A_1 x_1.fV.fList.length cap_1, .slice A_2 x_1.fV.fKeys.length cap_2]) rfl (ad := ⟨b_2, 0, none⟩) (own_cells (p_4.ownCell 0 rfl) 0 rfl)) fun _ f => ?_))
   have p_5 := p_4.pl [1]
   have hm_3 := RepMap.put (k := x_1.fName) (x := x_1) (cs := [S x_1.fName, .bool x_1.fUnknown, .int .i8 x_1.fV.fKind, .bool x_1.fV.fBool, .int .i64 x_1.fV.fNum, S x_1.fV.fText, .slice A_1 x_1.fV.fList.length cap_1, .slice A_2 x_1.fV.fKeys.length cap_2]) (TE0.shutx (x := x_1) h_2 h_3) hm_2
   refine W_mapput (ek := S) (ev := idV) (m := m_2) (k := x_1.fName) (v := .agg [S x_1.fName, .bool x_1.fUnknown, .int .i8 x_1.fV.fKind, .bool x_1.fV.fBool, .int .i64 x_1.fV.fNum, S x_1.fV.fText, .slice A_1 x_1.fV.fList.length cap_1, .slice A_2 x_1.fV.fKeys.length cap_2].toArray) (kt := 9) (et := 78) f p_5 (by kernel_rfl) (by kernel_rfl) rfl (.inl rfl) (by kernel_rfl) (by kernel_rfl) (by kernel_rfl) (by kernel_rfl) (strKey (by kernel_rfl)) fun w_5 p_6 _ f => W_end rfl (B_n (T_n (R_reg ?_)))
   obtain ⟨g_1, hF_4⟩ := nS hF_3
   refine Y f 1 fun _ f => ?_
   have f := f.st 17 (congrArg (Value.int .i64) (inR_wrap g_1))
   refine Y f 1 fun _ f => W_end rfl ?_
   have p_8 := p_6.pl [1]
   refine T_n ?_
   obtain rfl := sI hF_4
   exact ⟨⟨m_3, (s_1.1 + 1, mput s_1.2 x_1.fName x_1), mput m_2 x_1.fName (.agg [S x_1.fName, .bool x_1.fUnknown, .int .i8 x_1.fV.fKind, .bool x_1.fV.fBool, .int .i64 x_1.fV.fNum, S x_1.fV.fText, .slice A_1 x_1.fV.fList.length cap_1, .slice A_2 x_1.fV.fKeys.length cap_2].toArray)⟩, Nat.lt_succ_self _, M_1, hM_1, ⟨hn_1, hm_3⟩, f.kp, (p_8.dropN 1)⟩
  ·have k_2 := iff_f dI h_1
   refine wp_exit (T_x (T_x ?_))
   obtain rfl := sI hF_5
   exact ⟨rfl, s_1.2, (sI hn_1).symm, M_1, hM_1, m_2, hm_2, f.kp, p_2⟩
 ·rintro _ _ w_7 ⟨rfl, y_1, hq_, M_2, hM_2, m_4, hm_4, f, p_7⟩
  subst b_1
  refine B_x (T_n (RR (Y f 2 fun _ f => eT (wp_ret ?_))))
  obtain ⟨M_3, hM_3, p_9, h_4⟩ := p_7.fzObj
  refine E_ret1 f rfl (by kernel_rfl : Vc.look _ 2 = some (.map (some bm_1))) ?_
  obtain rfl := sI hF_1
  exact ⟨_, rfl, M_3, (hM_2.trans hM_3), p_9, ⟨bm_1, m_4, rfl, h_4, (hm_4.mono hM_3)⟩⟩
def schema_Differ_s1_e (n : Nat) (x_5 : (List ((List UInt8) × TE0))) (x_6 : (List ((List UInt8) × TE0))) (s_1 : Int) : Option (Lp Int (Sum Int Unit)) :=
    some (.br (.inl s_1))
def schema_Differ_s1_y (n : Nat) (x_5 : (List ((List UInt8) × TE0))) (x_6 : (List ((List UInt8) × TE0))) (pv_1 : List UInt8 × TF0) (s_1 : Int) : Option (Lp Int (Sum Int Unit)) :=
    ((bif ((mget x_5 pv_1.1).isSome == (mget x_6 pv_1.1).isSome) then
        (bif (!((mget x_6 pv_1.1).getD z_TE0).fUnknown) then
          (bif (!(mget x_5 pv_1.1).isSome) then
            (some ((true)))
          else
            (tree_Equal n (⟨((mget x_5 pv_1.1).getD z_TE0).fV.fKind, (((mget x_5 pv_1.1).getD z_TE0).fV.fBool), ((mget x_5 pv_1.1).getD z_TE0).fV.fNum, ((mget x_5 pv_1.1).getD z_TE0).fV.fText, ((mget x_5 pv_1.1).getD z_TE0).fV.fList, ((mget x_5 pv_1.1).getD z_TE0).fV.fKeys⟩ : TD0) (⟨((mget x_6 pv_1.1).getD z_TE0).fV.fKind, (((mget x_6 pv_1.1).getD z_TE0).fV.fBool), ((mget x_6 pv_1.1).getD z_TE0).fV.fNum, ((mget x_6 pv_1.1).getD z_TE0).fV.fText, ((mget x_6 pv_1.1).getD z_TE0).fV.fList, ((mget x_6 pv_1.1).getD z_TE0).fV.fKeys⟩ : TD0)).bind fun x_7 =>
            some ((x_7)))
        else
          some ((false)))
      else
        some ((false)) : Option Bool)).bind fun y_1 =>
    bif y_1 then
      (some (.nx s_1))
    else
      bif pv_1.2.fReplace then
        (some (.br (.inr ())))
      else
        some (.nx (2 : Int))
def schema_Differ (n : Nat) (d0 : List UInt8) (d1 : List TE0) (d2 : List TE0) : Option (Int × Int) :=
  (schema_Check n d0 d1).bind fun x_1 =>
  (schema_Check n d0 d2).bind fun x_2 =>
  (cmp_Or_2 n [x_1, x_2]).bind fun x_3 =>
  bif (!(decide (x_3 = 0))) then
    (some (((0 : Int), x_3)))
  else
    (slices_ContainsFuncapi_Given_api_Given n d1).bind fun x_4 =>
    bif x_4 then
      (some (((0 : Int), (91 : Int))))
    else
      (schema_byName n d1).bind fun x_5 =>
      (schema_byName n d2).bind fun x_6 =>
      (foldP (schema_Differ_s1_e n x_5 x_6) (schema_Differ_s1_y n x_5 x_6) (propsD d0) (0 : Int)).bind fun b_7 =>
      (match b_7 with 
      | .inl y_2 => some ((y_2, (0 : Int))) 
      | .inr y_3 => some (((3 : Int), (0 : Int))))
theorem schema_Differ_ok (n : Nat) (M : Mem) (hG : GL M) (d0 : List UInt8) (A1 : Option Addr) (cap1 : Nat) (d1 : List TE0) (h1 : Sli M 8 emb_TE0 A1 cap1 d1) (A2 : Option Addr) (cap2 : Nat) (d2 : List TE0) (h2 : Sli M 8 emb_TE0 A2 cap2 d2) (r : Int × Int) (hF : schema_Differ n d0 d1 d2 = some r) : Ok Tryz.prog M 35 [S d0, .slice A1 d1.length cap1, .slice A2 d2.length cap2] (fun _ v => v = .tuple #[.int .i8 r.1, .int .i64 r.2]) := by
 unfold schema_Differ at hF
 intro M1 hM0 w0 H w p0
 replace hG := GL.mono hM0 hG
 replace h1 := h1.mono hM0
 replace h2 := h2.mono hM0
 refine R_enter 78 Tryz.func35 rfl rfl (by simp) fun a0 f0 => RR (Y f0 2 fun _ f => eT (R_seq (RR (Y f 2 fun _ f => ?_))))
 obtain ⟨x_1, hx_1, hF_1⟩ := bS hF
 refine Y18 f p0 (schema_Check_ok n _ hG d0 A1 cap1 d1 h1 x_1 hx_1) fun w_1 p_1 _ f => Y f 2 fun _ f => ?_
 obtain ⟨x_2, hx_2, hF_2⟩ := bS hF_1
 refine Y18 f p_1 (schema_Check_ok n _ hG d0 A2 cap2 d2 h2 x_2 hx_2) fun w_2 p_2 _ f => V_allocS (k := 2) (c := 2) f p_2 (.cells #[.int .i64 x_1, .int .i64 x_2] 28 (0, 0)) (by kernel_rfl) (fun _ => by kernel_rfl) fun b_1 w_3 p_3 _ f => ?_
 have hr_1 : RepSeq M1 ([x_1, x_2].map (Dat.int .i64)) [.int .i64 x_1, .int .i64 x_2] := ⟨_, _, rfl, rfl, ⟨_, _, rfl, rfl, rfl⟩⟩
 have p_4 : Hp w0 M1 ((Ent.row 28 1 (.slice (some ⟨b_1, 0, none⟩) 2 2) [x_1, x_2].length [.int .i64 x_1, .int .i64 x_2]) :: H) w_3 := p_3.objRow (n := 2) (cap := 2) (size := 1) (by decide) (by decide) rfl rfl rfl
 obtain ⟨M_1, A_1, cap_1, hM_1, hv_1, p_5, h_1, hb_1⟩ := p_4.lend (f := (Dat.int .i64)) (xs := [x_1, x_2]) (szd_int .i64) hr_1
 have f := f.st 24 (hv_1)
 obtain ⟨x_3, hx_3, hF_3⟩ := bS hF_2
 refine Y18 f p_5 (cmp_Or_2_ok n _ (GL.mono hM_1 hG) A_1 cap_1 [x_1, x_2] h_1 x_3 hx_3) fun w_4 p_6 _ f => ?_
 obtain ⟨M_2, hM_2, p_7⟩ := hb_1 _ _ _ (mR _) p_6
 have f := f.st 24 (hv_1.symm)
 refine Y f 1 fun _ f => eT (RR (Y f 2 fun _ f => eT (RcF f hF_3 (fun h_2 hF_4 => ?_) fun h_2 hF_5 => ?_)))
 ·have k_1 : ¬ (x_3 = 0) := (not_iff dI).1 h_2
  refine RR (Y f 3 fun _ f => eT (wp_ret (T_r (E_ret2 f rfl (by kernel_rfl : Vc.look _ 6 = some (.int .i8 0)) (by kernel_rfl : Vc.look _ 7 = some (.int .i64 x_3)) ?_))))
  obtain rfl := sI hF_4
  exact ⟨_, rfl, M_2, hM_2, (p_7.dropN 1), rfl⟩
 ·have k_2 : ¬ (¬ (x_3 = 0)) := iff_f (not_iff dI) h_2
  refine wp_skip (T_n (R_seq (RR (Y f 1 fun _ f => ?_))))
  obtain ⟨x_4, hx_4, hF_6⟩ := bS hF_5
  refine Y18 f p_7 (slices_ContainsFuncapi_Given_api_Given_ok n _ (GL.mono hM_2 hG) A1 cap1 d1 (h1.mono hM_2) x_4 hx_4) fun w_5 p_8 _ f => eT (RcF f hF_6 (fun h_3 hF_7 => ?_) fun h_3 hF_8 => ?_)
  ·refine RR (Y f 2 fun _ f => eT (wp_ret (T_r (E_ret2 f rfl (by kernel_rfl : Vc.look _ 6 = some (.int .i8 0)) (by kernel_rfl : Vc.look _ 7 = some (.int .i64 91)) ?_))))
   obtain rfl := sI hF_7
   exact ⟨_, rfl, M_2, hM_2, (p_8.dropN 1), rfl⟩
  ·refine wp_skip (T_n (RR (Y f 1 fun _ f => ?_)))
   obtain ⟨x_5, hx_5, hF_9⟩ := bS hF_8
   refine Y16 f p_8 (schema_byName_ok n _ (GL.mono hM_2 hG) A1 cap1 d1 (h1.mono hM_2) x_5 hx_5) fun _ M_3 w_6 hM_3 p_9 q_1 _ f => ?_
   obtain ⟨bk_1, m_1, rfl, h0_1, hm_1⟩ := q_1
   refine Y f 1 fun _ f => ?_
   obtain ⟨x_6, hx_6, hF_10⟩ := bS hF_9
   refine Y16 f p_9 (schema_byName_ok n _ (GL.mono (hM_2.trans hM_3) hG) A2 cap2 d2 (h2.mono (hM_2.trans hM_3)) x_6 hx_6) fun _ M_4 w_7 hM_4 p_10 q_2 _ f => ?_
   obtain ⟨bk_2, m_2, rfl, h0_2, hm_2⟩ := q_2
   refine Y f 2 fun _ f => eT (RR (Y f 1 fun _ f => eT (R_seq (RR (Y16 f p_10 (all_ok _) fun _ M_5 w_8 hM_5 p_11 q_3 _ f => ?_)))))
   obtain ⟨b_2, b_3, b_4, b_5, b_6, rfl, hA_1⟩ := q_3
   refine Y f 1 fun _ f => Z (v := .map (blkOf b_3 b_4 b_5 b_6 d0)) f (X_all1 (k := d0) (kt := 9) (et := 90) hA_1 p_11 rfl (by kernel_rfl) (by kernel_rfl) (by kernel_rfl) (strKey (by kernel_rfl)) (by kernel_rfl)) fun _ f => W_rangeM (kt := 9) (et := 64) (kmap_of hA_1 d0) f p_11 (by kernel_rfl) (by kernel_rfl) rfl rfl rfl (by kernel_rfl) (by kernel_rfl) fun r_1 w_9 p_12 _ f => eT (wp_block ?_)
   obtain ⟨b_7, hL_1, hF_11⟩ := bS hF_10
   refine wp_mono (Q := fun e a w => (e = .exit 0 ∧ (∃ y_2 : Int, b_7 = .inl y_2 ∧ ∃ M_8 : Mem, M_5.le M_8 ∧ Frm 78 [(11, .int .i8 y_2)] a ∧ Hp w0 M_8 ((Ent.row 28 1 (.slice (some ⟨b_1, 0, none⟩) 2 2) [x_1, x_2].length [.int .i64 x_1, .int .i64 x_2]) :: H) w)) ∨ (e = .ret ∧ (∃ y_3 : Unit, b_7 = .inr y_3 ∧ ∃ M_9 : Mem, M_5.le M_9 ∧ Frm 78 [(6, .int .i8 3), (7, .int .i64 0)] a ∧ Hp w0 M_9 ((Ent.row 28 1 (.slice (some ⟨b_1, 0, none⟩) 2 2) [x_1, x_2].length [.int .i64 x_1, .int .i64 x_2]) :: H) w))) (R_loop (n := 78) (w0 := w0) (M := M_5) (fun (x : Int × (Array Nat)) => match x with | (s_1, sn_1) => [(9, .map (some bk_1)), (10, .map (some bk_2)), (11, .int .i8 s_1), (38, .pointer (some (⟨r_1, 0, none⟩)))]) (fun (x : Int × (Array Nat)) => match x with | (s_1, sn_1) => ((Ent.obj r_1 (.mapIter (blkOf b_3 b_4 b_5 b_6 d0) (propsD d0).length sn_1 (propsD d0).length)) :: (Ent.row 28 1 (.slice (some ⟨b_1, 0, none⟩) 2 2) [x_1, x_2].length [.int .i64 x_1, .int .i64 x_2]) :: H)) (fun (x : Int × (Array Nat)) (MM : Mem) => match x with | (s_1, sn_1) => (∀ l, l.Perm (leftD (propsD d0) sn_1) → foldO (schema_Differ_s1_e n x_5 x_6) (schema_Differ_s1_y n x_5 x_6) l s_1 = some b_7)) (fun (x : Int × (Array Nat)) => match x with | (s_1, sn_1) => (leftD (propsD d0) sn_1).length) ((0 : Int), #[]) (f.kp) p_12 (foldP_start hL_1) ?_) ?_
   ·rintro ⟨s_1, sn_1⟩ M_6 _ w_10 hM_6 I_1 f p_13
    have I_1L := I_1
    refine RR (W_nextM (kmap_of (hA_1.mono hM_6) d0) f p_13 (by kernel_rfl) (by kernel_rfl) rfl rfl rfl (by kernel_rfl) (fun ho_1 w_11 p_14 _ f => ?_) fun pv_1 j_1 hj_1 w_12 p_15 _ f => ?_)
    ·obtain ⟨r_2, hs_1, hn_1⟩ := foldO_end I_1L ho_1
     unfold schema_Differ_s1_e at hs_1
     refine Y f 1 fun _ f => eT (R_seq (Y7 f (wp_exit (T_x (T_x ?_)))))
     obtain rfl := sI hs_1
     exact .inl ⟨rfl, s_1, (sI hn_1).symm, M_6, hM_6, f.kp, (p_14.dropN 1)⟩
    ·obtain ⟨r_2, hs_1, hn_1⟩ := foldO_go hj_1 I_1L
     unfold schema_Differ_s1_y at hs_1
     refine Y f 1 fun _ f => eT (R_seq (Y8 f (wp_skip (T_n (wp_block (RR (Z (v := .tuple #[S pv_1.1, .agg #[S pv_1.2.fName, .int .i8 pv_1.2.fKind, .bool pv_1.2.fReplace]]) f (X_entryM (m := propsD d0) (kmap_of (hA_1.mono hM_6) d0) p_15 hj_1 0 rfl rfl (by kernel_rfl)) fun _ f => Y f 2 fun _ f => Y12 f p_15 (.cells #[S [], .int .i8 0, .bool false] 64 (0, 0)) fun b_8 w_13 p_16 _ f => Y f 1 fun _ f => Y28 (vs := [S pv_1.2.fName, .int .i8 pv_1.2.fKind, .bool pv_1.2.fReplace]) (j := 0) f p_16 rfl rfl (by simp [Value.oneCell', S]) (by simp) (by decide) (cs' := #[S pv_1.2.fName, .int .i8 pv_1.2.fKind, .bool pv_1.2.fReplace]) (by kernel_rfl) fun w_14 p_17 _ f => eT (RR (Y f 2 fun _ f => ?_)))))))))
     obtain ⟨c_1, hc_1, hr_2⟩ := RepMap.get (k := pv_1.1) (z := z_TE0) (zc := [S [], .bool false, .int .i8 0, .bool false, .int .i64 0, S [], .slice none 0 0, .slice none 0 0]) (TE0.shutx (x := z_TE0) Sli.nil Sli.nil) (hm_1.mono ((hM_4.trans hM_5).trans hM_6))
     obtain ⟨A_2, cap_2, A_3, cap_3, rfl, h_4, h_5⟩ := TE0.opn hr_2
     refine Z (v := .tuple #[.agg #[S ((mget x_5 pv_1.1).getD z_TE0).fName, .bool ((mget x_5 pv_1.1).getD z_TE0).fUnknown, .int .i8 ((mget x_5 pv_1.1).getD z_TE0).fV.fKind, .bool ((mget x_5 pv_1.1).getD z_TE0).fV.fBool, .int .i64 ((mget x_5 pv_1.1).getD z_TE0).fV.fNum, S ((mget x_5 pv_1.1).getD z_TE0).fV.fText, .slice A_2 ((mget x_5 pv_1.1).getD z_TE0).fV.fList.length cap_2, .slice A_3 ((mget x_5 pv_1.1).getD z_TE0).fV.fKeys.length cap_3], .bool (mget x_5 pv_1.1).isSome]) f (X_lookupR2 (ek := S) (kt := 9) (et := 78) hc_1 (RepMap.isSome (hm_1.mono ((hM_4.trans hM_5).trans hM_6))) rfl (by kernel_rfl) (by kernel_rfl) (by kernel_rfl) (strKey (by kernel_rfl)) (by kernel_rfl) (p_17.mem _ _ (((hM_4.trans hM_5).trans hM_6) _ _ h0_1))) fun _ f => Y f 3 fun _ f => Y12 f p_17 (.cells #[S [], .bool false, .int .i8 0, .bool false, .int .i64 0, S [], .slice none 0 0, .slice none 0 0] 78 (0, 0)) fun b_9 w_15 p_18 _ f => Y28 (vs := [S ((mget x_5 pv_1.1).getD z_TE0).fName, .bool ((mget x_5 pv_1.1).getD z_TE0).fUnknown, .int .i8 ((mget x_5 pv_1.1).getD z_TE0).fV.fKind, .bool ((mget x_5 pv_1.1).getD z_TE0).fV.fBool, .int .i64 ((mget x_5 pv_1.1).getD z_TE0).fV.fNum, S ((mget x_5 pv_1.1).getD z_TE0).fV.fText, .slice A_2 ((mget x_5 pv_1.1).getD z_TE0).fV.fList.length cap_2, .slice A_3 ((mget x_5 pv_1.1).getD z_TE0).fV.fKeys.length cap_3]) (j := 0) f p_18 rfl rfl (by simp [Value.oneCell', S]) (by simp) (by decide) (cs' := #[S ((mget x_5 pv_1.1).getD z_TE0).fName, .bool ((mget x_5 pv_1.1).getD z_TE0).fUnknown, .int .i8 ((mget x_5 pv_1.1).getD z_TE0).fV.fKind, .bool ((mget x_5 pv_1.1).getD z_TE0).fV.fBool, .int .i64 ((mget x_5 pv_1.1).getD z_TE0).fV.fNum, S ((mget x_5 pv_1.1).getD z_TE0).fV.fText, .slice A_2 ((mget x_5 pv_1.1).getD z_TE0).fV.fList.length cap_2, .slice A_3 ((mget x_5 pv_1.1).getD z_TE0).fV.fKeys.length cap_3]) (by kernel_rfl) fun w_16 p_19 _ f => Y f 1 fun _ f => eT (RR (Y f 2 fun _ f => ?_))
     obtain ⟨c_2, hc_2, hr_3⟩ := RepMap.get (k := pv_1.1) (z := z_TE0) (zc := [S [], .bool false, .int .i8 0, .bool false, .int .i64 0, S [], .slice none 0 0, .slice none 0 0]) (TE0.shutx (x := z_TE0) Sli.nil Sli.nil) (hm_2.mono (hM_5.trans hM_6))
     obtain ⟨A_4, cap_4, A_5, cap_5, rfl, h_6, h_7⟩ := TE0.opn hr_3
     refine Z (v := .tuple #[.agg #[S ((mget x_6 pv_1.1).getD z_TE0).fName, .bool ((mget x_6 pv_1.1).getD z_TE0).fUnknown, .int .i8 ((mget x_6 pv_1.1).getD z_TE0).fV.fKind, .bool ((mget x_6 pv_1.1).getD z_TE0).fV.fBool, .int .i64 ((mget x_6 pv_1.1).getD z_TE0).fV.fNum, S ((mget x_6 pv_1.1).getD z_TE0).fV.fText, .slice A_4 ((mget x_6 pv_1.1).getD z_TE0).fV.fList.length cap_4, .slice A_5 ((mget x_6 pv_1.1).getD z_TE0).fV.fKeys.length cap_5], .bool (mget x_6 pv_1.1).isSome]) f (X_lookupR2 (ek := S) (kt := 9) (et := 78) hc_2 (RepMap.isSome (hm_2.mono (hM_5.trans hM_6))) rfl (by kernel_rfl) (by kernel_rfl) (by kernel_rfl) (strKey (by kernel_rfl)) (by kernel_rfl) (p_19.mem _ _ ((hM_5.trans hM_6) _ _ h0_2))) fun _ f => Y f 3 fun _ f => Y12 f p_19 (.cells #[S [], .bool false, .int .i8 0, .bool false, .int .i64 0, S [], .slice none 0 0, .slice none 0 0] 78 (0, 0)) fun b_10 w_17 p_20 _ f => Y28 (vs := [S ((mget x_6 pv_1.1).getD z_TE0).fName, .bool ((mget x_6 pv_1.1).getD z_TE0).fUnknown, .int .i8 ((mget x_6 pv_1.1).getD z_TE0).fV.fKind, .bool ((mget x_6 pv_1.1).getD z_TE0).fV.fBool, .int .i64 ((mget x_6 pv_1.1).getD z_TE0).fV.fNum, S ((mget x_6 pv_1.1).getD z_TE0).fV.fText, .slice A_4 ((mget x_6 pv_1.1).getD z_TE0).fV.fList.length cap_4, .slice A_5 ((mget x_6 pv_1.1).getD z_TE0).fV.fKeys.length cap_5]) (j := 0) f p_20 rfl rfl (by simp [Value.oneCell', S]) (by simp) (by decide) (cs' := #[S ((mget x_6 pv_1.1).getD z_TE0).fName, .bool ((mget x_6 pv_1.1).getD z_TE0).fUnknown, .int .i8 ((mget x_6 pv_1.1).getD z_TE0).fV.fKind, .bool ((mget x_6 pv_1.1).getD z_TE0).fV.fBool, .int .i64 ((mget x_6 pv_1.1).getD z_TE0).fV.fNum, S ((mget x_6 pv_1.1).getD z_TE0).fV.fText, .slice A_4 ((mget x_6 pv_1.1).getD z_TE0).fV.fList.length cap_4, .slice A_5 ((mget x_6 pv_1.1).getD z_TE0).fV.fKeys.length cap_5]) (by kernel_rfl) fun w_18 p_21 _ f => Y f 1 fun _ f => eT (R_seq (R_seq ?_))
     obtain ⟨j_2, hj_2, hF_12⟩ := bS hs_1
     refine R_mid (fun a_60 w_20 => ∃ y_1 : Bool, j_2 = y_1 ∧ ∃ M_7 : Mem, M_6.le M_7 ∧ Frm 78 [(9, .map (some bk_1)), (10, .map (some bk_2)), (11, .int .i8 s_1), (13, .pointer (some (⟨b_8, 0, none⟩))), (38, .pointer (some (⟨r_1, 0, none⟩))), (74, .bool y_1)] a_60 ∧ Hp w0 M_7 ((Ent.obj b_10 (.cells #[S ((mget x_6 pv_1.1).getD z_TE0).fName, .bool ((mget x_6 pv_1.1).getD z_TE0).fUnknown, .int .i8 ((mget x_6 pv_1.1).getD z_TE0).fV.fKind, .bool ((mget x_6 pv_1.1).getD z_TE0).fV.fBool, .int .i64 ((mget x_6 pv_1.1).getD z_TE0).fV.fNum, S ((mget x_6 pv_1.1).getD z_TE0).fV.fText, .slice A_4 ((mget x_6 pv_1.1).getD z_TE0).fV.fList.length cap_4, .slice A_5 ((mget x_6 pv_1.1).getD z_TE0).fV.fKeys.length cap_5] 78 (0, 0))) :: (Ent.obj b_9 (.cells #[S ((mget x_5 pv_1.1).getD z_TE0).fName, .bool ((mget x_5 pv_1.1).getD z_TE0).fUnknown, .int .i8 ((mget x_5 pv_1.1).getD z_TE0).fV.fKind, .bool ((mget x_5 pv_1.1).getD z_TE0).fV.fBool, .int .i64 ((mget x_5 pv_1.1).getD z_TE0).fV.fNum, S ((mget x_5 pv_1.1).getD z_TE0).fV.fText, .slice A_2 ((mget x_5 pv_1.1).getD z_TE0).fV.fList.length cap_2, .slice A_3 ((mget x_5 pv_1.1).getD z_TE0).fV.fKeys.length cap_3] 78 (0, 0))) :: (Ent.obj b_8 (.cells #[S pv_1.2.fName, .int .i8 pv_1.2.fKind, .bool pv_1.2.fReplace] 64 (0, 0))) :: (Ent.obj r_1 (.mapIter (blkOf b_3 b_4 b_5 b_6 d0) (propsD d0).length (sn_1.push j_1) (propsD d0).length)) :: (Ent.row 28 1 (.slice (some ⟨b_1, 0, none⟩) 2 2) [x_1, x_2].length [.int .i64 x_1, .int .i64 x_2]) :: H) w_20) ?_ ?_
     ·refine R_reg (Y f 4 fun _ f => ?_)
      rcases cE hj_2 with ⟨h_8, hF_13⟩ | ⟨h_8, hF_19⟩
      ·have f := f.st 59 (cB h_8)
       refine Y f 1 fun _ f => Z f (Y32 (v := .bool ((mget x_6 pv_1.1).getD z_TE0).fUnknown) rfl (ad := ⟨b_10, 1, none⟩) (p_21.ownCell 0 rfl 1)) fun _ f => Y f 3 fun _ f => ?_
       rcases cE hF_13 with ⟨h_9, hF_14⟩ | ⟨h_9, hF_18⟩
       ·have k_6 : (((mget x_6 pv_1.1).getD z_TE0).fUnknown) = false := by simpa using h_9
        have f := f.st 64 (cB h_9)
        refine Y f 3 fun _ f => ?_
        rcases cE hF_14 with ⟨h_10, hF_15⟩ | ⟨h_10, hF_16⟩
        ·have k_7 : ((mget x_5 pv_1.1).isSome) = false := by simpa using h_10
         have f := f.st 67 (cB h_10)
         refine Y f 7 fun _ f => eT ?_
         exact ⟨(true), (sI hF_15).symm, M_6, (mR _), f.kp, p_21⟩
        ·have k_8 : ((mget x_5 pv_1.1).isSome) = true := by simpa using h_10
         have f := f.st 67 (cB h_10)
         refine Y f 1 fun _ f => Z (v := .agg #[.int .i8 ((mget x_5 pv_1.1).getD z_TE0).fV.fKind, .bool ((mget x_5 pv_1.1).getD z_TE0).fV.fBool, .int .i64 ((mget x_5 pv_1.1).getD z_TE0).fV.fNum, S ((mget x_5 pv_1.1).getD z_TE0).fV.fText, .slice A_2 ((mget x_5 pv_1.1).getD z_TE0).fV.fList.length cap_2, .slice A_3 ((mget x_5 pv_1.1).getD z_TE0).fV.fKeys.length cap_3]) f (Y33 (cs := [.int .i8 ((mget x_5 pv_1.1).getD z_TE0).fV.fKind, .bool ((mget x_5 pv_1.1).getD z_TE0).fV.fBool, .int .i64 ((mget x_5 pv_1.1).getD z_TE0).fV.fNum, S ((mget x_5 pv_1.1).getD z_TE0).fV.fText, .slice A_2 ((mget x_5 pv_1.1).getD z_TE0).fV.fList.length cap_2, .slice A_3 ((mget x_5 pv_1.1).getD z_TE0).fV.fKeys.length cap_3]) rfl (ad := ⟨b_9, 2, none⟩) (own_cells (p_21.ownCell 1 rfl) 2 rfl)) fun _ f => Y f 1 fun _ f => Z (v := .agg #[.int .i8 ((mget x_6 pv_1.1).getD z_TE0).fV.fKind, .bool ((mget x_6 pv_1.1).getD z_TE0).fV.fBool, .int .i64 ((mget x_6 pv_1.1).getD z_TE0).fV.fNum, S ((mget x_6 pv_1.1).getD z_TE0).fV.fText, .slice A_4 ((mget x_6 pv_1.1).getD z_TE0).fV.fList.length cap_4, .slice A_5 ((mget x_6 pv_1.1).getD z_TE0).fV.fKeys.length cap_5]) f (Y33 (cs := [.int .i8 ((mget x_6 pv_1.1).getD z_TE0).fV.fKind, .bool ((mget x_6 pv_1.1).getD z_TE0).fV.fBool, .int .i64 ((mget x_6 pv_1.1).getD z_TE0).fV.fNum, S ((mget x_6 pv_1.1).getD z_TE0).fV.fText, .slice A_4 ((mget x_6 pv_1.1).getD z_TE0).fV.fList.length cap_4, .slice A_5 ((mget x_6 pv_1.1).getD z_TE0).fV.fKeys.length cap_5]) rfl (ad := ⟨b_10, 2, none⟩) (own_cells (p_21.ownCell 0 rfl) 2 rfl)) fun _ f => ?_
         obtain ⟨x_7, hx_7, hF_17⟩ := bS hF_16
         refine Y18 f p_21 (tree_Equal_ok n _ (GL.mono ((((hM_2.trans hM_3).trans hM_4).trans hM_5).trans hM_6) hG) _ (⟨((mget x_5 pv_1.1).getD z_TE0).fV.fKind, (((mget x_5 pv_1.1).getD z_TE0).fV.fBool), ((mget x_5 pv_1.1).getD z_TE0).fV.fNum, ((mget x_5 pv_1.1).getD z_TE0).fV.fText, ((mget x_5 pv_1.1).getD z_TE0).fV.fList, ((mget x_5 pv_1.1).getD z_TE0).fV.fKeys⟩ : TD0) (TD0.shut h_4 h_5) _ (⟨((mget x_6 pv_1.1).getD z_TE0).fV.fKind, (((mget x_6 pv_1.1).getD z_TE0).fV.fBool), ((mget x_6 pv_1.1).getD z_TE0).fV.fNum, ((mget x_6 pv_1.1).getD z_TE0).fV.fText, ((mget x_6 pv_1.1).getD z_TE0).fV.fList, ((mget x_6 pv_1.1).getD z_TE0).fV.fKeys⟩ : TD0) (TD0.shut h_6 h_7) x_7 hx_7) fun w_19 p_22 _ f => Y f 2 fun _ f => eT ?_
         exact ⟨(x_7), (sI hF_17).symm, M_6, (mR _), f.kp, p_22⟩
       ·have k_9 : (((mget x_6 pv_1.1).getD z_TE0).fUnknown) = true := by simpa using h_9
        have f := f.st 64 (cB h_9)
        refine Y f 10 fun _ f => eT ?_
        exact ⟨(false), (sI hF_18).symm, M_6, (mR _), f.kp, p_21⟩
      ·have f := f.st 59 (cB h_8)
       refine Y f 15 fun _ f => eT ?_
       exact ⟨(false), (sI hF_19).symm, M_6, (mR _), f.kp, p_21⟩
     ·rintro a_60 w_20 ⟨y_1, hq_1, M_7, hM_7, f, p_23⟩
      subst j_2
      refine T_n (RcF f hF_12 (fun h_11 hF_20 => ?_) fun h_11 hF_21 => ?_)
      ·refine wp_exit (T_x (B_x (T_n ?_)))
       obtain rfl := sI hF_20
       exact ⟨⟨s_1, sn_1.push j_1⟩, leftD_lt hj_1, M_7, (hM_6.trans hM_7), hn_1, f.kp, (p_23.dropN 3)⟩
      ·refine wp_skip (T_n (R_seq (RR (Y f 1 fun _ f => Z f (Y32 (v := .bool pv_1.2.fReplace) rfl (ad := ⟨b_8, 2, none⟩) (p_23.ownCell 2 rfl 2)) fun _ f => eT (RcF f hF_21 (fun h_12 hF_22 => ?_) fun h_12 hF_23 => ?_)))))
       ·refine RR (Y f 2 fun _ f => eT (wp_ret (T_r (B_r (T_r ?_)))))
        obtain rfl := sI hF_22
        exact .inr ⟨rfl, (), (sI hn_1).symm, M_7, (hM_6.trans hM_7), f.kp, (p_23.dropN 4)⟩
       ·refine wp_skip (T_n (R_reg (Y f 1 fun _ f => W_end rfl (B_n (T_n ?_)))))
        obtain rfl := sI hF_23
        exact ⟨⟨(2 : Int), sn_1.push j_1⟩, leftD_lt hj_1, M_7, (hM_6.trans hM_7), hn_1, f.kp, (p_23.dropN 3)⟩
   ·rintro _ _ w_23 (⟨rfl, y_2, rfl, M_8, hM_8, f, p_24⟩ | ⟨rfl, y_3, rfl, M_9, hM_9, f, p_25⟩)
    ·refine B_x (T_n (RR (Y f 3 fun _ f => eT (wp_ret (E_ret2 f rfl (by kernel_rfl : Vc.look _ 6 = some (.int .i8 y_2)) (by kernel_rfl : Vc.look _ 7 = some (.int .i64 0)) ?_)))))
     obtain rfl := sI hF_11
     exact ⟨_, rfl, M_8, ((((hM_2.trans hM_3).trans hM_4).trans hM_5).trans hM_8), (p_24.dropN 1), rfl⟩
    ·refine B_r (T_r (E_ret2 f rfl (by kernel_rfl : Vc.look _ 6 = some (.int .i8 3)) (by kernel_rfl : Vc.look _ 7 = some (.int .i64 0)) ?_))
     obtain rfl := sI hF_11
     exact ⟨_, rfl, M_9, ((((hM_2.trans hM_3).trans hM_4).trans hM_5).trans hM_9), (p_25.dropN 1), rfl⟩
end Go.Proofs.YtalifkcchfkgmaaGreatDoor
end

section
namespace Go.Proofs.YtalifkcchfkgmaaGreatDoor
open Go Go.Vc Go.RowKit
open Go Go.Vc Go.RowKit
end Go.Proofs.YtalifkcchfkgmaaGreatDoor
end

section
namespace Go.Proofs.YtalifkcchfkgmaaGreatDoor
open Go Go.Vc Go.RowKit
def ref03_weight_s1 (n : Nat) (d0 : TD0) (s_1 : Int × Int) : Option (Lp (Int × Int) Int) :=
    bif (decide (s_1.2 < ((d0.fKeys.length : Nat) : Int))) then
      ((getI d0.fKeys s_1.2).bind fun x_1 =>
      need (inR .i64 (s_1.1 + (min (x_1.length : Int) (10000 : Int)))) <|
      need (inR .i64 (s_1.2 + 1)) <|
      some (.nx (s_1.1 + (min (x_1.length : Int) (10000 : Int)), s_1.2 + 1)))
    else
      some (.br s_1.1)
def ref03_weight_s2 (n : Nat) (rec_ref03_weight : TD0 → Int → Option Int) (d0 : TD0) (d1 : Int) (s_2 : Int × Int) : Option (Lp (Int × Int) Int) :=
    ((bif (decide (s_2.2 < ((d0.fList.length : Nat) : Int))) then
        (some ((decide (s_2.1 ≤ 10000))))
      else
        some ((false)) : Option Bool)).bind fun y_3 =>
    bif y_3 then
      ((getI d0.fList s_2.2).bind fun x_2 =>
      need (inR .i64 (d1 - 1)) <|
      (rec_ref03_weight x_2 (d1 - 1)).bind fun x_3 =>
      need (inR .i64 (s_2.1 + x_3)) <|
      need (inR .i64 (s_2.2 + 1)) <|
      some (.nx (s_2.1 + x_3, s_2.2 + 1)))
    else
      some (.br s_2.1)
def ref03_weight_b (n : Nat) (rec_ref03_weight : TD0 → Int → Option Int) (d0 : TD0) (d1 : Int) : Option Int :=
  ((bif (decide (d1 = 0)) then
      (some ((true)))
    else
      bif (decide ((3000 : Int) < ((d0.fList.length : Nat) : Int))) then
        (some ((true)))
      else
        some ((decide ((3000 : Int) < ((d0.fKeys.length : Nat) : Int)))) : Option Bool)).bind fun y_1 =>
  bif y_1 then
    (some ((10000 : Int)))
  else
    need (inR .i64 ((1 : Int) + (min (d0.fText.length : Int) (10000 : Int)))) <|
    (loopF (ref03_weight_s1 n d0) n ((1 : Int) + (min (d0.fText.length : Int) (10000 : Int)), (0 : Int))).bind fun y_2 =>
    (loopF (ref03_weight_s2 n rec_ref03_weight d0 d1) n (y_2, (0 : Int))).bind fun y_4 =>
    some (y_4)
theorem ref03_weight_b_ok (n : Nat) (rec_ref03_weight : TD0 → Int → Option Int) (hrec_ref03_weight : ∀ (M : Mem) (c0 : List Value) (d0 : TD0) (h0 : Rep M (emb_TD0 d0) c0) (d1 : Int) (r : Int) (hF : rec_ref03_weight d0 d1 = some r), Ok Tryz.prog M 78 [.agg c0.toArray, .int .i64 d1] (fun _ v => v = .int .i64 r)) (M : Mem) (c0 : List Value) (d0 : TD0) (h0 : Rep M (emb_TD0 d0) c0) (d1 : Int) (r : Int) (hF : ref03_weight_b n rec_ref03_weight d0 d1 = some r) : Ok Tryz.prog M 78 [.agg c0.toArray, .int .i64 d1] (fun _ v => v = .int .i64 r) := by
 unfold ref03_weight_b at hF
 intro M1 hM0 w0 H w p0
 replace h0 := Rep.mono hM0 _ _ h0
 obtain ⟨A_1, cap_1, A_2, cap_2, rfl, h_1, h_2⟩ := TD0.opn h0
 refine R_enter 65 Tryz.func78 rfl rfl (by simp) fun a0 f0 => RR (Y13 (cs := #[.int .i8 d0.fKind, .bool d0.fBool, .int .i64 d0.fNum, S d0.fText, .slice A_1 d0.fList.length cap_1, .slice A_2 d0.fKeys.length cap_2]) (T := 76) f0 p0 fun b_1 M_1 w_1 hM_1 hc_1 p_1 _ f => ?_)
 have hc_2 := fz_box hc_1
 refine Y f 1 fun _ f => eT (R_seq (R_seq ?_))
 obtain ⟨j_1, hj_1, hF_1⟩ := bS hF
 refine R_mid (fun a_12 w_2 => ∃ y_1 : Bool, j_1 = y_1 ∧ ∃ M_2 : Mem, M_1.le M_2 ∧ Frm 65 [(1, .int .i64 d1), (2, .pointer (some (⟨b_1, 0, none⟩))), (21, .bool y_1)] a_12 ∧ Hp w0 M_2 (H) w_2) ?_ ?_
 ·refine R_reg (Y f 3 fun _ f => ?_)
  rcases cE hj_1 with ⟨h_3, hF_2⟩ | ⟨h_3, hF_3⟩
  ·have k_1 := dI.1 h_3
   have f := f.st 10 (cB h_3)
   refine Y f 11 fun _ f => eT ?_
   exact ⟨(true), (sI hF_2).symm, M_1, (mR _), f.kp, p_1⟩
  ·have k_2 := iff_f dI h_3
   have f := f.st 10 (cB h_3)
   refine Y f 1 fun _ f => Y15 f p_1 hc_2 4 rfl fun _ f => Y f 4 fun _ f => ?_
   rcases cE hF_3 with ⟨h_4, hF_4⟩ | ⟨h_4, hF_5⟩
   ·have k_3 := dI.1 h_4
    have f := f.st 16 (cB h_4)
    refine Y f 5 fun _ f => eT ?_
    exact ⟨(true), (sI hF_4).symm, M_1, (mR _), f.kp, p_1⟩
   ·have k_4 := iff_f dI h_4
    have f := f.st 16 (cB h_4)
    refine Y f 1 fun _ f => Y15 f p_1 hc_2 5 rfl fun _ f => Y f 3 fun _ f => eT ?_
    exact ⟨(decide ((3000 : Int) < ((d0.fKeys.length : Nat) : Int))), (sI hF_5).symm, M_1, (mR _), f.kp, p_1⟩
 ·rintro a_12 w_2 ⟨y_1, hq_1, M_2, hM_2, f, p_2⟩
  subst j_1
  refine T_n (RcF f hF_1 (fun h_5 hF_6 => ?_) fun h_5 hF_7 => ?_)
  ·refine RR (Y f 1 fun _ f => eT (wp_ret (T_r (E_ret1 f rfl (by kernel_rfl : Vc.look _ 4 = some (.int .i64 10000)) ?_))))
   obtain rfl := sI hF_6
   exact ⟨_, rfl, M_2, (hM_1.trans hM_2), p_2, rfl⟩
  ·refine wp_skip (T_n (RR (Y f 1 fun _ f => Y15 f p_2 (fzu hM_2 hc_2) 3 rfl fun _ f => Y f 1 fun _ f => Z (v := .int .i64 (min (d0.fText.length : Int) (10000 : Int))) f (X_min (k := .i64) (a := (d0.fText.length : Int)) (b := (10000 : Int)) rfl (by kernel_rfl) (by kernel_rfl)) fun _ f => ?_)))
   obtain ⟨g_1, hF_8⟩ := nS hF_7
   refine Y f 1 fun _ f => ?_
   have f := f.st 26 (congrArg (Value.int .i64) (inR_wrap g_1))
   refine Y f 1 fun _ f => eT (R_seq (RR (Y f 1 fun _ f => eT (wp_block ?_))))
   obtain ⟨b_2, hL_1, hF_9⟩ := bS hF_8
   refine wp_mono (Q := fun e a w => (e = .exit 0 ∧ (∃ y_2 : Int, b_2 = y_2 ∧ ∃ M_4 : Mem, M_2.le M_4 ∧ Frm 65 [(1, .int .i64 d1), (2, .pointer (some (⟨b_1, 0, none⟩))), (5, .int .i64 y_2)] a ∧ Hp w0 M_4 (H) w))) (R_loop (n := 65) (w0 := w0) (M := M_2) (fun (x : Nat × (Int × Int)) => match x with | (m_1, s_1) => [(1, .int .i64 d1), (2, .pointer (some (⟨b_1, 0, none⟩))), (5, .int .i64 s_1.1), (6, .int .i64 s_1.2)]) (fun (x : Nat × (Int × Int)) => match x with | (m_1, s_1) => (H)) (fun (x : Nat × (Int × Int)) (MM : Mem) => match x with | (m_1, s_1) => loopF (ref03_weight_s1 n d0) m_1 s_1 = some b_2) (fun (x : Nat × (Int × Int)) => match x with | (m_1, s_1) => m_1) (n, ((1 : Int) + (min (d0.fText.length : Int) (10000 : Int)), (0 : Int))) (f.kp) p_2 hL_1 ?_) ?_
   ·rintro ⟨m_1, s_1⟩ M_3 _ w_3 hM_3 I_1 f p_3
    have I_1L := I_1
    obtain ⟨m_2, r_1, rfl, hs_1, hn_1⟩ := loop_step I_1L
    unfold ref03_weight_s1 at hs_1
    refine R_seq (RR (Y f 2 fun _ f => Y15 f p_3 (fzu (hM_2.trans hM_3) hc_2) 5 rfl fun _ f => Y f 2 fun _ f => eT (RcF f hs_1 (fun h_6 hF_10 => ?_) fun h_6 hF_14 => ?_)))
    ·have k_7 := dI.1 h_6
     refine wp_skip (T_n (R_seq (wp_block (R_reg (Y f 2 fun _ f => Y15 f p_3 (fzu (hM_2.trans hM_3) hc_2) 5 rfl fun _ f => Y f 1 fun _ f => ?_)))))
     obtain ⟨x_1, hx_1, hF_11⟩ := bS hF_10
     obtain ⟨ad_1, c_1, e_1, -, hr_1, hc_3⟩ := Sli.at_ (h_2.mono ((hM_1.trans hM_2).trans hM_3)) hx_1
     obtain rfl : c_1 = [S x_1] := hr_1
     refine Z f (Y31 e_1 rfl (len := d0.fKeys.length) (cap := cap_2) (k := .i64) (i := s_1.2) (e := 9) (sz := 1) (getI_nn hx_1) (getI_lt hx_1)) fun _ f => Y15 f p_3 hc_3 0 rfl fun _ f => Y f 1 fun _ f => Z (v := .int .i64 (min (x_1.length : Int) (10000 : Int))) f (X_min (k := .i64) (a := (x_1.length : Int)) (b := (10000 : Int)) rfl (by kernel_rfl) (by kernel_rfl)) fun _ f => ?_
     obtain ⟨g_2, hF_12⟩ := nS hF_11
     refine Y f 1 fun _ f => ?_
     have f := f.st 42 (congrArg (Value.int .i64) (inR_wrap g_2))
     refine Y f 1 fun _ f => W_end rfl (B_n (T_n (R_reg (Y f 1 fun _ f => ?_))))
     obtain ⟨g_3, hF_13⟩ := nS hF_12
     refine Y f 1 fun _ f => ?_
     have f := f.st 33 (congrArg (Value.int .i64) (inR_wrap g_3))
     refine Y f 1 fun _ f => eT ?_
     obtain rfl := sI hF_13
     exact ⟨⟨m_2, (s_1.1 + (min (x_1.length : Int) (10000 : Int)), s_1.2 + 1)⟩, Nat.lt_succ_self _, M_3, hM_3, hn_1, f.kp, p_3⟩
    ·have k_8 := iff_f dI h_6
     refine wp_exit (T_x (T_x ?_))
     obtain rfl := sI hF_14
     exact ⟨rfl, s_1.1, (sI hn_1).symm, M_3, hM_3, f.kp, p_3⟩
   ·rintro _ _ w_5 ⟨rfl, y_2, hq_, M_4, hM_4, f, p_4⟩
    subst b_2
    refine B_x (T_n (R_seq (RR (Y f 1 fun _ f => eT (wp_block ?_)))))
    obtain ⟨b_3, hL_2, hF_15⟩ := bS hF_9
    refine wp_mono (Q := fun e a w => (e = .exit 2 ∧ (∃ y_4 : Int, b_3 = y_4 ∧ ∃ M_7 : Mem, M_4.le M_7 ∧ Frm 65 [(5, .int .i64 y_4)] a ∧ Hp w0 M_7 (H) w))) (R_loop (n := 65) (w0 := w0) (M := M_4) (fun (x : Nat × (Int × Int)) => match x with | (m_3, s_2) => [(1, .int .i64 d1), (2, .pointer (some (⟨b_1, 0, none⟩))), (5, .int .i64 s_2.1), (7, .int .i64 s_2.2)]) (fun (x : Nat × (Int × Int)) => match x with | (m_3, s_2) => (H)) (fun (x : Nat × (Int × Int)) (MM : Mem) => match x with | (m_3, s_2) => loopF (ref03_weight_s2 n rec_ref03_weight d0 d1) m_3 s_2 = some b_3) (fun (x : Nat × (Int × Int)) => match x with | (m_3, s_2) => m_3) (n, (y_2, (0 : Int))) (f.kp) p_4 hL_2 ?_) ?_
    ·rintro ⟨m_3, s_2⟩ M_5 _ w_6 hM_5 I_2 f p_5
     have I_2L := I_2
     obtain ⟨m_4, r_2, rfl, hs_2, hn_2⟩ := loop_step I_2L
     unfold ref03_weight_s2 at hs_2
     refine R_seq (R_seq ?_)
     obtain ⟨j_2, hj_2, hF_16⟩ := bS hs_2
     refine R_mid (fun a_46 w_7 => ∃ y_3 : Bool, j_2 = y_3 ∧ ∃ M_6 : Mem, M_5.le M_6 ∧ Frm 65 [(1, .int .i64 d1), (2, .pointer (some (⟨b_1, 0, none⟩))), (5, .int .i64 s_2.1), (7, .int .i64 s_2.2), (51, .bool y_3)] a_46 ∧ Hp w0 M_6 (H) w_7) ?_ ?_
     ·refine R_reg (Y f 2 fun _ f => Y15 f p_5 (fzu ((hM_2.trans hM_4).trans hM_5) hc_2) 4 rfl fun _ f => Y f 3 fun _ f => ?_)
      rcases cE hj_2 with ⟨h_7, hF_17⟩ | ⟨h_7, hF_18⟩
      ·have k_9 := dI.1 h_7
       have f := f.st 48 (cB h_7)
       refine Y f 3 fun _ f => eT ?_
       exact ⟨(decide (s_2.1 ≤ 10000)), (sI hF_17).symm, M_5, (mR _), f.kp, p_5⟩
      ·have k_10 := iff_f dI h_7
       have f := f.st 48 (cB h_7)
       refine Y f 3 fun _ f => eT ?_
       exact ⟨(false), (sI hF_18).symm, M_5, (mR _), f.kp, p_5⟩
     ·rintro a_46 w_7 ⟨y_3, hq_2, M_6, hM_6, f, p_6⟩
      subst j_2
      refine T_n (RcF f hF_16 (fun h_8 hF_19 => ?_) fun h_8 hF_25 => ?_)
      ·refine wp_skip (T_n (R_seq (wp_block (R_reg (Y f 2 fun _ f => Y15 f p_6 (fzu (((hM_2.trans hM_4).trans hM_5).trans hM_6) hc_2) 4 rfl fun _ f => Y f 1 fun _ f => ?_)))))
       obtain ⟨x_2, hx_2, hF_20⟩ := bS hF_19
       obtain ⟨ad_2, c_2, e_2, -, hr_2, hc_4⟩ := Sli.at_ (h_1.mono ((((hM_1.trans hM_2).trans hM_4).trans hM_5).trans hM_6)) hx_2
       obtain ⟨A_3, cap_3, A_4, cap_4, rfl, h_9, h_10⟩ := TD0.opn hr_2
       refine Z f (Y31 e_2 rfl (len := d0.fList.length) (cap := cap_1) (k := .i64) (i := s_2.2) (e := 76) (sz := 6) (getI_nn hx_2) (getI_lt hx_2)) fun _ f => Z (v := .agg #[.int .i8 x_2.fKind, .bool x_2.fBool, .int .i64 x_2.fNum, S x_2.fText, .slice A_3 x_2.fList.length cap_3, .slice A_4 x_2.fKeys.length cap_4]) f (Y33 (cs := [.int .i8 x_2.fKind, .bool x_2.fBool, .int .i64 x_2.fNum, S x_2.fText, .slice A_3 x_2.fList.length cap_3, .slice A_4 x_2.fKeys.length cap_4]) rfl (ad := ad_2.add (s_2.2.toNat * 6)) (fun j v h => p_6.cell (hc_4 j v h))) fun _ f => Y f 1 fun _ f => ?_
       obtain ⟨g_4, hF_21⟩ := nS hF_20
       refine Y f 1 fun _ f => ?_
       have f := f.st 61 (congrArg (Value.int .i64) (inR_wrap g_4))
       obtain ⟨x_3, hx_3, hF_22⟩ := bS hF_21
       refine Y18 f p_6 (hrec_ref03_weight _ _ x_2 (TD0.shutx (x := x_2) h_9 h_10) (d1 - 1) x_3 hx_3) fun w_8 p_7 _ f => ?_
       obtain ⟨g_5, hF_23⟩ := nS hF_22
       refine Y f 1 fun _ f => ?_
       have f := f.st 63 (congrArg (Value.int .i64) (inR_wrap g_5))
       refine Y f 1 fun _ f => W_end rfl (B_n (T_n (R_reg (Y f 1 fun _ f => ?_))))
       obtain ⟨g_6, hF_24⟩ := nS hF_23
       refine Y f 1 fun _ f => ?_
       have f := f.st 53 (congrArg (Value.int .i64) (inR_wrap g_6))
       refine Y f 1 fun _ f => eT ?_
       obtain rfl := sI hF_24
       exact ⟨⟨m_4, (s_2.1 + x_3, s_2.2 + 1)⟩, Nat.lt_succ_self _, M_6, (hM_5.trans hM_6), hn_2, f.kp, p_7⟩
      ·refine wp_exit (T_x (T_x ?_))
       obtain rfl := sI hF_25
       exact ⟨rfl, s_2.1, (sI hn_2).symm, M_6, (hM_5.trans hM_6), f.kp, p_6⟩
    ·rintro _ _ w_10 ⟨rfl, y_4, hq_, M_7, hM_7, f, p_8⟩
     subst b_3
     refine B_x (T_n (RR (Y f 2 fun _ f => eT (wp_ret (E_ret1 f rfl (by kernel_rfl : Vc.look _ 4 = some (.int .i64 y_4)) ?_)))))
     obtain rfl := sI hF_15
     exact ⟨_, rfl, M_7, (((hM_1.trans hM_2).trans hM_4).trans hM_7), p_8, rfl⟩
def ref03_weight_k (n : Nat) : Nat → TD0 → Int → Option Int
  | 0 => fun _ _ => none
  | k + 1 => ref03_weight_b n (ref03_weight_k n k)
def ref03_weight (n : Nat) (d0 : TD0) (d1 : Int) : Option Int := ref03_weight_k n n d0 d1
theorem ref03_weight_ok (n : Nat) (M : Mem) (c0 : List Value) (d0 : TD0) (h0 : Rep M (emb_TD0 d0) c0) (d1 : Int) (r : Int) (hF : ref03_weight n d0 d1 = some r) : Ok Tryz.prog M 78 [.agg c0.toArray, .int .i64 d1] (fun _ v => v = .int .i64 r) := by
 have key : ∀ (k : Nat) (M : Mem) (c0 : List Value) (d0 : TD0) (h0 : Rep M (emb_TD0 d0) c0) (d1 : Int) (r : Int) (hF : ref03_weight_k n k d0 d1 = some r), Ok Tryz.prog M 78 [.agg c0.toArray, .int .i64 d1] (fun _ v => v = .int .i64 r) := by
  intro k
  induction k with
  | zero => intro M c0 d0 h0 d1 r hF; simp [ref03_weight_k] at hF
  | succ k ih => intro M c0 d0 h0 d1 r hF; exact ref03_weight_b_ok n (ref03_weight_k n k) ih M c0 d0 h0 d1 r hF
 exact key n M c0 d0 h0 d1 r hF
def ref03_Great (n : Nat) (d0 : TD0) : Option Bool :=
  (ref03_weight n d0 (30 : Int)).bind fun x_1 =>
  some ((decide ((5000 : Int) < x_1)))
theorem ref03_Great_ok (n : Nat) (M : Mem) (c0 : List Value) (d0 : TD0) (h0 : Rep M (emb_TD0 d0) c0) (r : Bool) (hF : ref03_Great n d0 = some r) : Ok Tryz.prog M 51 [.agg c0.toArray] (fun _ v => v = .bool r) := by
 unfold ref03_Great at hF
 intro M1 hM0 w0 H w p0
 replace h0 := Rep.mono hM0 _ _ h0
 obtain ⟨A_1, cap_1, A_2, cap_2, rfl, h_1, h_2⟩ := TD0.opn h0
 refine R_enter 6 Tryz.func51 rfl rfl (by simp) fun a0 f0 => RR (Y13 (cs := #[.int .i8 d0.fKind, .bool d0.fBool, .int .i64 d0.fNum, S d0.fText, .slice A_1 d0.fList.length cap_1, .slice A_2 d0.fKeys.length cap_2]) (T := 76) f0 p0 fun b_1 M_1 w_1 hM_1 hc_1 p_1 _ f => ?_)
 have hc_2 := fz_box hc_1
 refine Y f 1 fun _ f => eT (RR (Z (v := .agg #[.int .i8 d0.fKind, .bool d0.fBool, .int .i64 d0.fNum, S d0.fText, .slice A_1 d0.fList.length cap_1, .slice A_2 d0.fKeys.length cap_2]) f (Y33 (cs := [.int .i8 d0.fKind, .bool d0.fBool, .int .i64 d0.fNum, S d0.fText, .slice A_1 d0.fList.length cap_1, .slice A_2 d0.fKeys.length cap_2]) rfl (ad := ⟨b_1, 0, none⟩) (fun j v h => p_1.cell (hc_2 j v h))) fun _ f => ?_))
 obtain ⟨x_1, hx_1, hF_1⟩ := bS hF
 refine Y18 f p_1 (ref03_weight_ok n _ _ d0 (TD0.shutx (x := d0) (h_1.mono hM_1) (h_2.mono hM_1)) (30 : Int) x_1 hx_1) fun w_2 p_2 _ f => Y f 2 fun _ f => eT (wp_ret (E_ret1 f rfl (by kernel_rfl : Vc.look _ 2 = some (.bool (decide ((5000 : Int) < x_1)))) ?_))
 obtain rfl := sI hF_1
 exact ⟨_, rfl, M_1, hM_1, p_2, rfl⟩
end Go.Proofs.YtalifkcchfkgmaaGreatDoor
end

section
namespace Go.Vc
open Go
theorem mpS {α β : Type} (x : α) (f : α → β) : (some x).map f = some (f x) := (Option.map_some x f).trans (Eq.refl _)
theorem jN {τ Λ : Type} (x : τ) (k : τ → Option Λ) : joinF (.nx x) k = k x := (Eq.refl (joinF (.nx x) k)).trans (Eq.refl _)
theorem jB {τ Λ : Type} (l : Λ) (k : τ → Option Λ) : joinF (.br l) k = some l := (Eq.refl (joinF (.br l) k)).trans (Eq.refl _)
theorem dec_cases (l : List UInt8) (hne : l ≠ []) :
  (Lib.decodeL l = (65533, 1) ∧ 128 ≤ (l.getD 0 0).toNat) ∨
  ∃ r w, Lib.decodeL l = (r, w) ∧ w ≤ l.length ∧ 1 ≤ w ∧ w ≤ 4 ∧ (∀ j, 1 ≤ j → j < w → (l.getD j 0).toNat / 64 = 2) ∧ ((w = 1 ∧ (l.getD 0 0).toNat < 128 ∧ r = (l.getD 0 0).toNat) ∨ (1 < w ∧ 128 ≤ r ∧ 192 ≤ (l.getD 0 0).toNat)) ∧ r ≤ 1114111 := by
 have hl : 0 < l.length := List.length_pos_iff.2 hne
 rw [Lib.decodeL_N]
 rcases Lib.decodeN_shape l.length (l.getD 0 0).toNat (l.getD 1 0).toNat (l.getD 2 0).toNat (l.getD 3 0).toNat with ⟨c, e⟩ | ⟨c1, c2, c3, cv, e⟩ | ⟨c1, c2, c3, c4, cv, cs, e⟩ | ⟨c1, c2, c3, c4, c5, cv, cw, e⟩ | e
 ·exact .inr ⟨_, _, e, by omega, by omega, by omega, fun j h1 h2 => by omega, .inl ⟨rfl, c, rfl⟩, by omega⟩
 ·refine .inr ⟨_, _, e, by omega, by omega, by omega, fun j h1 h2 => ?_, .inr ⟨by omega, by omega, by omega⟩, by omega⟩
  obtain rfl : j = 1 := by omega
  exact c3
 ·refine .inr ⟨_, _, e, by omega, by omega, by omega, fun j h1 h2 => ?_, .inr ⟨by omega, by omega, by omega⟩, by omega⟩
  obtain rfl | rfl : j = 1 ∨ j = 2 := by omega
  ·exact c3
  ·exact c4
 ·refine .inr ⟨_, _, e, by omega, by omega, by omega, fun j h1 h2 => ?_, .inr ⟨by omega, by omega, by omega⟩, by omega⟩
  obtain rfl | rfl | rfl : j = 1 ∨ j = 2 ∨ j = 3 := by omega
  ·exact c3
  ·exact c4
  ·exact c5
 ·by_cases h : (l.getD 0 0).toNat < 128
  ·refine .inr ⟨_, _, Lib.decodeN_ascii _ _ _ _ _ h, by omega, by omega, by omega, fun j h1 h2 => by omega, .inl ⟨rfl, h, rfl⟩, by omega⟩
  ·exact .inl ⟨e, by omega⟩
theorem getD_app {a x : List UInt8} {j : Nat} (h : j < a.length) : (a ++ x).getD j 0 = a.getD j 0 := by
 simp [List.getD, List.getElem?_append, h]
end Go.Vc
end

section
namespace Go.Proofs.YtalifkcchfkgmaaGreatDoor
open Go Go.Vc Go.RowKit
def ref03_Same_s1 (n : Nat) (d0 : TD0) (d1 : TD0) (s_1 : Int) : Option (Lp Int (Sum Unit Unit)) :=
    bif (decide (s_1 < ((d0.fKeys.length : Nat) : Int))) then
      ((getI d0.fKeys s_1).bind fun x_1 =>
      (getI d1.fKeys s_1).bind fun x_2 =>
      bif (!(decide (x_1 = x_2))) then
        (some (.br (.inl ())))
      else
        need (inR .i64 (s_1 + 1)) <|
        some (.nx (s_1 + 1)))
    else
      some (.br (.inr ()))
def ref03_Same_s2 (n : Nat) (rec_ref03_Same : TD0 → TD0 → Option Bool) (d0 : TD0) (d1 : TD0) (s_2 : Int) : Option (Lp Int (Sum Unit Unit)) :=
    bif (decide (s_2 < ((d0.fList.length : Nat) : Int))) then
      ((getI d0.fList s_2).bind fun x_3 =>
      (getI d1.fList s_2).bind fun x_4 =>
      (rec_ref03_Same x_3 x_4).bind fun x_5 =>
      bif !x_5 then
        (some (.br (.inl ())))
      else
        need (inR .i64 (s_2 + 1)) <|
        some (.nx (s_2 + 1)))
    else
      some (.br (.inr ()))
def ref03_Same_b (n : Nat) (rec_ref03_Same : TD0 → TD0 → Option Bool) (d0 : TD0) (d1 : TD0) : Option Bool :=
  ((bif (!(decide (d0.fKind = d1.fKind))) then
      (some ((true)))
    else
      bif (!(d0.fBool == d1.fBool)) then
        (some ((true)))
      else
        bif (!(decide (d0.fNum = d1.fNum))) then
          (some ((true)))
        else
          bif (!(decide (d0.fText = d1.fText))) then
            (some ((true)))
          else
            bif (!(decide (((d0.fList.length : Nat) : Int) = ((d1.fList.length : Nat) : Int)))) then
              (some ((true)))
            else
              some ((!(decide (((d0.fKeys.length : Nat) : Int) = ((d1.fKeys.length : Nat) : Int))))) : Option Bool)).bind fun y_1 =>
  bif y_1 then
    (some ((false)))
  else
    (loopF (ref03_Same_s1 n d0 d1) n (0 : Int)).bind fun b_3 =>
    (match b_3 with 
    | .inl y_2 => some ((false)) 
    | .inr y_3 => (loopF (ref03_Same_s2 n rec_ref03_Same d0 d1) n (0 : Int)).bind fun b_4 =>
      (match b_4 with 
      | .inl y_4 => some ((false)) 
      | .inr y_5 => some ((true))))
theorem ref03_Same_b_ok (n : Nat) (rec_ref03_Same : TD0 → TD0 → Option Bool) (hrec_ref03_Same : ∀ (M : Mem) (c0 : List Value) (d0 : TD0) (h0 : Rep M (emb_TD0 d0) c0) (c1 : List Value) (d1 : TD0) (h1 : Rep M (emb_TD0 d1) c1) (r : Bool) (hF : rec_ref03_Same d0 d1 = some r), Ok Tryz.prog M 47 [.agg c0.toArray, .agg c1.toArray] (fun _ v => v = .bool r)) (M : Mem) (c0 : List Value) (d0 : TD0) (h0 : Rep M (emb_TD0 d0) c0) (c1 : List Value) (d1 : TD0) (h1 : Rep M (emb_TD0 d1) c1) (r : Bool) (hF : ref03_Same_b n rec_ref03_Same d0 d1 = some r) : Ok Tryz.prog M 47 [.agg c0.toArray, .agg c1.toArray] (fun _ v => v = .bool r) := by
 unfold ref03_Same_b at hF
 intro M1 hM0 w0 H w p0
 replace h0 := Rep.mono hM0 _ _ h0
 replace h1 := Rep.mono hM0 _ _ h1
 obtain ⟨A_1, cap_1, A_2, cap_2, rfl, h_1, h_2⟩ := TD0.opn h0
 obtain ⟨A_3, cap_3, A_4, cap_4, rfl, h_3, h_4⟩ := TD0.opn h1
 refine R_enter 88 Tryz.func47 rfl rfl (by simp) fun a0 f0 => RR (Y13 (cs := #[.int .i8 d0.fKind, .bool d0.fBool, .int .i64 d0.fNum, S d0.fText, .slice A_1 d0.fList.length cap_1, .slice A_2 d0.fKeys.length cap_2]) (T := 76) f0 p0 fun b_1 M_1 w_1 hM_1 hc_1 p_1 _ f => ?_)
 have hc_2 := fz_box hc_1
 refine Y13 (cs := #[.int .i8 d1.fKind, .bool d1.fBool, .int .i64 d1.fNum, S d1.fText, .slice A_3 d1.fList.length cap_3, .slice A_4 d1.fKeys.length cap_4]) (T := 76) f p_1 fun b_2 M_2 w_2 hM_2 hc_3 p_2 _ f => ?_
 have hc_4 := fz_box hc_3
 refine Y f 1 fun _ f => eT (R_seq (R_seq ?_))
 obtain ⟨j_1, hj_1, hF_1⟩ := bS hF
 refine R_mid (fun a_40 w_3 => ∃ y_1 : Bool, j_1 = y_1 ∧ ∃ M_3 : Mem, M_2.le M_3 ∧ Frm 88 [(2, .pointer (some (⟨b_1, 0, none⟩))), (3, .pointer (some (⟨b_2, 0, none⟩))), (50, .bool y_1)] a_40 ∧ Hp w0 M_3 (H) w_3) ?_ ?_
 ·refine R_reg (Y f 1 fun _ f => Y15 f p_2 (fzu hM_2 hc_2) 0 rfl fun _ f => Y f 1 fun _ f => Y15 f p_2 hc_4 0 rfl fun _ f => Y f 2 fun _ f => ?_)
  rcases cE hj_1 with ⟨h_5, hF_2⟩ | ⟨h_5, hF_3⟩
  ·have k_1 : ¬ (d0.fKind = d1.fKind) := (not_iff dI).1 h_5
   have f := f.st 12 (cB h_5)
   refine Y f 38 fun _ f => eT ?_
   exact ⟨(true), (sI hF_2).symm, M_2, (mR _), f.kp, p_2⟩
  ·have k_2 : ¬ (¬ (d0.fKind = d1.fKind)) := iff_f (not_iff dI) h_5
   have f := f.st 12 (cB h_5)
   refine Y f 1 fun _ f => Y15 f p_2 (fzu hM_2 hc_2) 1 rfl fun _ f => Y f 1 fun _ f => Y15 f p_2 hc_4 1 rfl fun _ f => Y f 3 fun _ f => ?_
   rcases cE hF_3 with ⟨h_6, hF_4⟩ | ⟨h_6, hF_5⟩
   ·have k_3 : (d0.fBool == d1.fBool) = false := by simpa using h_6
    have f := f.st 19 (cB h_6)
    refine Y f 31 fun _ f => eT ?_
    exact ⟨(true), (sI hF_4).symm, M_2, (mR _), f.kp, p_2⟩
   ·have k_4 : (d0.fBool == d1.fBool) = true := by simpa using h_6
    have f := f.st 19 (cB h_6)
    refine Y f 1 fun _ f => Y15 f p_2 (fzu hM_2 hc_2) 2 rfl fun _ f => Y f 1 fun _ f => Y15 f p_2 hc_4 2 rfl fun _ f => Y f 3 fun _ f => ?_
    rcases cE hF_5 with ⟨h_7, hF_6⟩ | ⟨h_7, hF_7⟩
    ·have k_5 : ¬ (d0.fNum = d1.fNum) := (not_iff dI).1 h_7
     have f := f.st 26 (cB h_7)
     refine Y f 24 fun _ f => eT ?_
     exact ⟨(true), (sI hF_6).symm, M_2, (mR _), f.kp, p_2⟩
    ·have k_6 : ¬ (¬ (d0.fNum = d1.fNum)) := iff_f (not_iff dI) h_7
     have f := f.st 26 (cB h_7)
     refine Y f 1 fun _ f => Y15 f p_2 (fzu hM_2 hc_2) 3 rfl fun _ f => Y f 1 fun _ f => Y15 f p_2 hc_4 3 rfl fun _ f => Z f (Y39 rfl (l := d0.fText) (m := d1.fText)) fun _ f => Y f 2 fun _ f => ?_
     rcases cE hF_7 with ⟨h_8, hF_8⟩ | ⟨h_8, hF_9⟩
     ·have k_7 : ¬ (d0.fText = d1.fText) := (not_iff dI).1 h_8
      have f := f.st 33 (cB h_8)
      refine Y f 17 fun _ f => eT ?_
      exact ⟨(true), (sI hF_8).symm, M_2, (mR _), f.kp, p_2⟩
     ·have k_8 : ¬ (¬ (d0.fText = d1.fText)) := iff_f (not_iff dI) h_8
      have f := f.st 33 (cB h_8)
      refine Y f 1 fun _ f => Y15 f p_2 (fzu hM_2 hc_2) 4 rfl fun _ f => Y f 2 fun _ f => Y15 f p_2 hc_4 4 rfl fun _ f => Y f 4 fun _ f => ?_
      rcases cE hF_9 with ⟨h_9, hF_10⟩ | ⟨h_9, hF_11⟩
      ·have k_9 : ¬ (((d0.fList.length : Nat) : Int) = ((d1.fList.length : Nat) : Int)) := (not_iff dI).1 h_9
       have f := f.st 42 (cB h_9)
       refine Y f 8 fun _ f => eT ?_
       exact ⟨(true), (sI hF_10).symm, M_2, (mR _), f.kp, p_2⟩
      ·have k_10 : ¬ (¬ (((d0.fList.length : Nat) : Int) = ((d1.fList.length : Nat) : Int))) := iff_f (not_iff dI) h_9
       have f := f.st 42 (cB h_9)
       refine Y f 1 fun _ f => Y15 f p_2 (fzu hM_2 hc_2) 5 rfl fun _ f => Y f 2 fun _ f => Y15 f p_2 hc_4 5 rfl fun _ f => Y f 3 fun _ f => eT ?_
       exact ⟨(!(decide (((d0.fKeys.length : Nat) : Int) = ((d1.fKeys.length : Nat) : Int)))), (sI hF_11).symm, M_2, (mR _), f.kp, p_2⟩
 ·rintro a_40 w_3 ⟨y_1, hq_1, M_3, hM_3, f, p_3⟩
  subst j_1
  refine T_n (RcF f hF_1 (fun h_10 hF_12 => ?_) fun h_10 hF_13 => ?_)
  ·refine RR (Y f 1 fun _ f => eT (wp_ret (T_r (E_ret1 f rfl (by kernel_rfl : Vc.look _ 4 = some (.bool false)) ?_))))
   obtain rfl := sI hF_12
   exact ⟨_, rfl, M_3, ((hM_1.trans hM_2).trans hM_3), p_3, rfl⟩
  ·refine wp_skip (T_n (R_seq (RR (Y f 1 fun _ f => eT (wp_block ?_)))))
   obtain ⟨b_3, hL_1, hF_14⟩ := bS hF_13
   refine wp_mono (Q := fun e a w => (e = .ret ∧ (∃ y_2 : Unit, b_3 = .inl y_2 ∧ ∃ M_5 : Mem, M_3.le M_5 ∧ Frm 88 [(4, .bool false)] a ∧ Hp w0 M_5 (H) w)) ∨ (e = .exit 0 ∧ (∃ y_3 : Unit, b_3 = .inr y_3 ∧ ∃ M_6 : Mem, M_3.le M_6 ∧ Frm 88 [(2, .pointer (some (⟨b_1, 0, none⟩))), (3, .pointer (some (⟨b_2, 0, none⟩)))] a ∧ Hp w0 M_6 (H) w))) (R_loop (n := 88) (w0 := w0) (M := M_3) (fun (x : Nat × Int) => match x with | (m_1, s_1) => [(2, .pointer (some (⟨b_1, 0, none⟩))), (3, .pointer (some (⟨b_2, 0, none⟩))), (5, .int .i64 s_1)]) (fun (x : Nat × Int) => match x with | (m_1, s_1) => (H)) (fun (x : Nat × Int) (MM : Mem) => match x with | (m_1, s_1) => loopF (ref03_Same_s1 n d0 d1) m_1 s_1 = some b_3) (fun (x : Nat × Int) => match x with | (m_1, s_1) => m_1) (n, (0 : Int)) (f.kp) p_3 hL_1 ?_) ?_
   ·rintro ⟨m_1, s_1⟩ M_4 _ w_4 hM_4 I_1 f p_4
    have I_1L := I_1
    obtain ⟨m_2, r_1, rfl, hs_1, hn_1⟩ := loop_step I_1L
    unfold ref03_Same_s1 at hs_1
    refine R_seq (RR (Y f 2 fun _ f => Y15 f p_4 (fzu ((hM_2.trans hM_3).trans hM_4) hc_2) 5 rfl fun _ f => Y f 2 fun _ f => eT (RcF f hs_1 (fun h_11 hF_15 => ?_) fun h_11 hF_21 => ?_)))
    ·have k_13 := dI.1 h_11
     refine wp_skip (T_n (R_seq (wp_block (R_seq (R_draw p_4 (by kernel_rfl) (by kernel_rfl) (Y5 default f 1 fun _ f => Y4 f (fzu ((hM_2.trans hM_3).trans hM_4) hc_2) 5 rfl fun _ f => Y5 default f 1 fun _ f => ?_))))))
     obtain ⟨x_1, hx_1, hF_16⟩ := bS hF_15
     obtain ⟨ad_1, c_1, e_1, -, hr_1, hc_5⟩ := Sli.at_ (h_2.mono (((hM_1.trans hM_2).trans hM_3).trans hM_4)) hx_1
     obtain rfl : c_1 = [S x_1] := hr_1
     refine Y2 (v := .pointer (some (ad_1.add (s_1.toNat * 1)))) f (fun _ pq => Y31 e_1 rfl (len := d0.fKeys.length) (cap := cap_2) (k := .i64) (i := s_1) (e := 9) (sz := 1) (getI_nn hx_1) (getI_lt hx_1)) fun _ f => Y4 f hc_5 0 rfl fun _ f => Y5 default f 1 fun _ f => Y4 f (fzu (hM_3.trans hM_4) hc_4) 5 rfl fun _ f => Y5 default f 1 fun _ f => ?_
     obtain ⟨x_2, hx_2, hF_17⟩ := bS hF_16
     obtain ⟨ad_2, c_2, e_2, -, hr_2, hc_6⟩ := Sli.at_ (h_4.mono (((hM_1.trans hM_2).trans hM_3).trans hM_4)) hx_2
     obtain rfl : c_2 = [S x_2] := hr_2
     refine Y2 (v := .pointer (some (ad_2.add (s_1.toNat * 1)))) f (fun _ pq => Y31 e_2 rfl (len := d1.fKeys.length) (cap := cap_4) (k := .i64) (i := s_1) (e := 9) (sz := 1) (getI_nn hx_2) (getI_lt hx_2)) fun _ f => Y4 f hc_6 0 rfl fun _ f => Y2 (v := .bool (!(decide (x_1 = x_2)))) f (fun _ pq => Y39 rfl (l := x_1) (m := x_2)) fun _ f => Q_end rfl ?_
     intro w_5 p_5
     refine T_n (RcF f hF_17 (fun h_12 hF_18 => ?_) fun h_12 hF_19 => ?_)
     ·have k_14 : ¬ (x_1 = x_2) := (not_iff dI).1 h_12
      refine RR (Y f 1 fun _ f => eT (wp_ret (B_r (T_r (T_r ?_)))))
      obtain rfl := sI hF_18
      exact .inl ⟨rfl, (), (sI hn_1).symm, M_4, hM_4, f.kp, p_5⟩
     ·have k_15 : ¬ (¬ (x_1 = x_2)) := iff_f (not_iff dI) h_12
      refine wp_skip (B_n (T_n (R_reg (Y f 1 fun _ f => ?_))))
      obtain ⟨g_1, hF_20⟩ := nS hF_19
      refine Y f 1 fun _ f => ?_
      have f := f.st 57 (congrArg (Value.int .i64) (inR_wrap g_1))
      refine Y f 1 fun _ f => eT ?_
      obtain rfl := sI hF_20
      exact ⟨⟨m_2, s_1 + 1⟩, Nat.lt_succ_self _, M_4, hM_4, hn_1, f.kp, p_5⟩
    ·have k_16 := iff_f dI h_11
     refine wp_exit (T_x (T_x ?_))
     obtain rfl := sI hF_21
     exact .inr ⟨rfl, (), (sI hn_1).symm, M_4, hM_4, f.kp, p_4⟩
   ·rintro _ _ w_8 (⟨rfl, y_2, rfl, M_5, hM_5, f, p_6⟩ | ⟨rfl, y_3, rfl, M_6, hM_6, f, p_7⟩)
    ·refine B_r (T_r (E_ret1 f rfl (by kernel_rfl : Vc.look _ 4 = some (.bool false)) ?_))
     obtain rfl := sI hF_14
     exact ⟨_, rfl, M_5, (((hM_1.trans hM_2).trans hM_3).trans hM_5), p_6, rfl⟩
    ·refine B_x (T_n (R_seq (RR (Y f 1 fun _ f => eT (wp_block ?_)))))
     obtain ⟨b_4, hL_2, hF_22⟩ := bS hF_14
     refine wp_mono (Q := fun e a w => (e = .ret ∧ (∃ y_4 : Unit, b_4 = .inl y_4 ∧ ∃ M_8 : Mem, M_6.le M_8 ∧ Frm 88 [(4, .bool false)] a ∧ Hp w0 M_8 (H) w)) ∨ (e = .exit 2 ∧ (∃ y_5 : Unit, b_4 = .inr y_5 ∧ ∃ M_9 : Mem, M_6.le M_9 ∧ Frm 88 [] a ∧ Hp w0 M_9 (H) w))) (R_loop (n := 88) (w0 := w0) (M := M_6) (fun (x : Nat × Int) => match x with | (m_3, s_2) => [(2, .pointer (some (⟨b_1, 0, none⟩))), (3, .pointer (some (⟨b_2, 0, none⟩))), (6, .int .i64 s_2)]) (fun (x : Nat × Int) => match x with | (m_3, s_2) => (H)) (fun (x : Nat × Int) (MM : Mem) => match x with | (m_3, s_2) => loopF (ref03_Same_s2 n rec_ref03_Same d0 d1) m_3 s_2 = some b_4) (fun (x : Nat × Int) => match x with | (m_3, s_2) => m_3) (n, (0 : Int)) (f.kp) p_7 hL_2 ?_) ?_
     ·rintro ⟨m_3, s_2⟩ M_7 _ w_9 hM_7 I_2 f p_8
      have I_2L := I_2
      obtain ⟨m_4, r_2, rfl, hs_2, hn_2⟩ := loop_step I_2L
      unfold ref03_Same_s2 at hs_2
      refine R_seq (RR (Y f 2 fun _ f => Y15 f p_8 (fzu (((hM_2.trans hM_3).trans hM_6).trans hM_7) hc_2) 4 rfl fun _ f => Y f 2 fun _ f => eT (RcF f hs_2 (fun h_13 hF_23 => ?_) fun h_13 hF_30 => ?_)))
      ·have k_17 := dI.1 h_13
       refine wp_skip (T_n (R_seq (wp_block (R_seq (R_draw p_8 (by kernel_rfl) (by kernel_rfl) (Y5 default f 1 fun _ f => Y4 f (fzu (((hM_2.trans hM_3).trans hM_6).trans hM_7) hc_2) 4 rfl fun _ f => Y5 default f 1 fun _ f => ?_))))))
       obtain ⟨x_3, hx_3, hF_24⟩ := bS hF_23
       obtain ⟨ad_3, c_3, e_3, -, hr_3, hc_7⟩ := Sli.at_ (h_1.mono ((((hM_1.trans hM_2).trans hM_3).trans hM_6).trans hM_7)) hx_3
       obtain ⟨A_5, cap_5, A_6, cap_6, rfl, h_14, h_15⟩ := TD0.opn hr_3
       refine Y2 (v := .pointer (some (ad_3.add (s_2.toNat * 6)))) f (fun _ pq => Y31 e_3 rfl (len := d0.fList.length) (cap := cap_1) (k := .i64) (i := s_2) (e := 76) (sz := 6) (getI_nn hx_3) (getI_lt hx_3)) fun _ f => Y2 (v := .agg #[.int .i8 x_3.fKind, .bool x_3.fBool, .int .i64 x_3.fNum, S x_3.fText, .slice A_5 x_3.fList.length cap_5, .slice A_6 x_3.fKeys.length cap_6]) f (fun _ pq => Y33 (cs := [.int .i8 x_3.fKind, .bool x_3.fBool, .int .i64 x_3.fNum, S x_3.fText, .slice A_5 x_3.fList.length cap_5, .slice A_6 x_3.fKeys.length cap_6]) rfl (ad := ad_3.add (s_2.toNat * 6)) (fun j v h => pq.cell (hc_7 j v h))) fun _ f => Y5 default f 1 fun _ f => Y4 f (fzu ((hM_3.trans hM_6).trans hM_7) hc_4) 4 rfl fun _ f => Y5 default f 1 fun _ f => ?_
       obtain ⟨x_4, hx_4, hF_25⟩ := bS hF_24
       obtain ⟨ad_4, c_4, e_4, -, hr_4, hc_8⟩ := Sli.at_ (h_3.mono ((((hM_1.trans hM_2).trans hM_3).trans hM_6).trans hM_7)) hx_4
       obtain ⟨A_7, cap_7, A_8, cap_8, rfl, h_16, h_17⟩ := TD0.opn hr_4
       refine Y2 (v := .pointer (some (ad_4.add (s_2.toNat * 6)))) f (fun _ pq => Y31 e_4 rfl (len := d1.fList.length) (cap := cap_3) (k := .i64) (i := s_2) (e := 76) (sz := 6) (getI_nn hx_4) (getI_lt hx_4)) fun _ f => Y2 (v := .agg #[.int .i8 x_4.fKind, .bool x_4.fBool, .int .i64 x_4.fNum, S x_4.fText, .slice A_7 x_4.fList.length cap_7, .slice A_8 x_4.fKeys.length cap_8]) f (fun _ pq => Y33 (cs := [.int .i8 x_4.fKind, .bool x_4.fBool, .int .i64 x_4.fNum, S x_4.fText, .slice A_7 x_4.fList.length cap_7, .slice A_8 x_4.fKeys.length cap_8]) rfl (ad := ad_4.add (s_2.toNat * 6)) (fun j v h => pq.cell (hc_8 j v h))) fun _ f => ?_
       obtain ⟨x_5, hx_5, hF_26⟩ := bS hF_25
       refine Y3 f (hrec_ref03_Same _ _ x_3 (TD0.shutx (x := x_3) h_14 h_15) _ x_4 (TD0.shutx (x := x_4) h_16 h_17) x_5 hx_5) fun _ f => Y5 default f 1 fun _ f => Q_end rfl ?_
       intro w_11 p_10
       refine T_n (RcF f hF_26 (fun h_18 hF_27 => ?_) fun h_18 hF_28 => ?_)
       ·have k_18 : (x_5) = false := by simpa using h_18
        refine RR (Y f 1 fun _ f => eT (wp_ret (B_r (T_r (T_r ?_)))))
        obtain rfl := sI hF_27
        exact .inl ⟨rfl, (), (sI hn_2).symm, M_7, hM_7, f.kp, p_10⟩
       ·have k_19 : (x_5) = true := by simpa using h_18
        refine wp_skip (B_n (T_n (R_reg (Y f 1 fun _ f => ?_))))
        obtain ⟨g_2, hF_29⟩ := nS hF_28
        refine Y f 1 fun _ f => ?_
        have f := f.st 75 (congrArg (Value.int .i64) (inR_wrap g_2))
        refine Y f 1 fun _ f => eT ?_
        obtain rfl := sI hF_29
        exact ⟨⟨m_4, s_2 + 1⟩, Nat.lt_succ_self _, M_7, hM_7, hn_2, f.kp, p_10⟩
      ·have k_20 := iff_f dI h_13
       refine wp_exit (T_x (T_x ?_))
       obtain rfl := sI hF_30
       exact .inr ⟨rfl, (), (sI hn_2).symm, M_7, hM_7, f.kp, p_8⟩
     ·rintro _ _ w_14 (⟨rfl, y_4, rfl, M_8, hM_8, f, p_11⟩ | ⟨rfl, y_5, rfl, M_9, hM_9, f, p_12⟩)
      ·refine B_r (T_r (E_ret1 f rfl (by kernel_rfl : Vc.look _ 4 = some (.bool false)) ?_))
       obtain rfl := sI hF_22
       exact ⟨_, rfl, M_8, ((((hM_1.trans hM_2).trans hM_3).trans hM_6).trans hM_8), p_11, rfl⟩
      ·refine B_x (T_n (RR (Y f 1 fun _ f => eT (wp_ret (E_ret1 f rfl (by kernel_rfl : Vc.look _ 4 = some (.bool true)) ?_)))))
       obtain rfl := sI hF_22
       exact ⟨_, rfl, M_9, ((((hM_1.trans hM_2).trans hM_3).trans hM_6).trans hM_9), p_12, rfl⟩
def ref03_Same_k (n : Nat) : Nat → TD0 → TD0 → Option Bool
  | 0 => fun _ _ => none
  | k + 1 => ref03_Same_b n (ref03_Same_k n k)
def ref03_Same (n : Nat) (d0 : TD0) (d1 : TD0) : Option Bool := ref03_Same_k n n d0 d1
theorem ref03_Same_ok (n : Nat) (M : Mem) (c0 : List Value) (d0 : TD0) (h0 : Rep M (emb_TD0 d0) c0) (c1 : List Value) (d1 : TD0) (h1 : Rep M (emb_TD0 d1) c1) (r : Bool) (hF : ref03_Same n d0 d1 = some r) : Ok Tryz.prog M 47 [.agg c0.toArray, .agg c1.toArray] (fun _ v => v = .bool r) := by
 have key : ∀ (k : Nat) (M : Mem) (c0 : List Value) (d0 : TD0) (h0 : Rep M (emb_TD0 d0) c0) (c1 : List Value) (d1 : TD0) (h1 : Rep M (emb_TD0 d1) c1) (r : Bool) (hF : ref03_Same_k n k d0 d1 = some r), Ok Tryz.prog M 47 [.agg c0.toArray, .agg c1.toArray] (fun _ v => v = .bool r) := by
  intro k
  induction k with
  | zero => intro M c0 d0 h0 c1 d1 h1 r hF; simp [ref03_Same_k] at hF
  | succ k ih => intro M c0 d0 h0 c1 d1 h1 r hF; exact ref03_Same_b_ok n (ref03_Same_k n k) ih M c0 d0 h0 c1 d1 h1 r hF
 exact key n M c0 d0 h0 c1 d1 h1 r hF
def ref03_Count_s1 (n : Nat) (rec_ref03_Count : TD0 → Option Int) (d0 : TD0) (s_1 : Int × Int) : Option (Lp (Int × Int) Int) :=
    bif (decide (s_1.2 < ((d0.fList.length : Nat) : Int))) then
      ((getI d0.fList s_1.2).bind fun x_1 =>
      (rec_ref03_Count x_1).bind fun x_2 =>
      need (inR .i64 (s_1.1 + x_2)) <|
      need (inR .i64 (s_1.2 + 1)) <|
      some (.nx (s_1.1 + x_2, s_1.2 + 1)))
    else
      some (.br s_1.1)
def ref03_Count_b (n : Nat) (rec_ref03_Count : TD0 → Option Int) (d0 : TD0) : Option Int :=
  (loopF (ref03_Count_s1 n rec_ref03_Count d0) n ((1 : Int), (0 : Int))).bind fun y_1 =>
  some (y_1)
theorem ref03_Count_b_ok (n : Nat) (rec_ref03_Count : TD0 → Option Int) (hrec_ref03_Count : ∀ (M : Mem) (c0 : List Value) (d0 : TD0) (h0 : Rep M (emb_TD0 d0) c0) (r : Int) (hF : rec_ref03_Count d0 = some r), Ok Tryz.prog M 97 [.agg c0.toArray] (fun _ v => v = .int .i64 r)) (M : Mem) (c0 : List Value) (d0 : TD0) (h0 : Rep M (emb_TD0 d0) c0) (r : Int) (hF : ref03_Count_b n rec_ref03_Count d0 = some r) : Ok Tryz.prog M 97 [.agg c0.toArray] (fun _ v => v = .int .i64 r) := by
 unfold ref03_Count_b at hF
 intro M1 hM0 w0 H w p0
 replace h0 := Rep.mono hM0 _ _ h0
 obtain ⟨A_1, cap_1, A_2, cap_2, rfl, h_1, h_2⟩ := TD0.opn h0
 refine R_enter 21 Tryz.func97 rfl rfl (by simp) fun a0 f0 => RR (Y13 (cs := #[.int .i8 d0.fKind, .bool d0.fBool, .int .i64 d0.fNum, S d0.fText, .slice A_1 d0.fList.length cap_1, .slice A_2 d0.fKeys.length cap_2]) (T := 76) f0 p0 fun b_1 M_1 w_1 hM_1 hc_1 p_1 _ f => ?_)
 have hc_2 := fz_box hc_1
 refine Y f 1 fun _ f => eT (RR (Y f 1 fun _ f => eT (R_seq (RR (Y f 1 fun _ f => eT (wp_block ?_))))))
 obtain ⟨b_2, hL_1, hF_1⟩ := bS hF
 refine wp_mono (Q := fun e a w => (e = .exit 0 ∧ (∃ y_1 : Int, b_2 = y_1 ∧ ∃ M_3 : Mem, M_1.le M_3 ∧ Frm 21 [(3, .int .i64 y_1)] a ∧ Hp w0 M_3 (H) w))) (R_loop (n := 21) (w0 := w0) (M := M_1) (fun (x : Nat × (Int × Int)) => match x with | (m_1, s_1) => [(1, .pointer (some (⟨b_1, 0, none⟩))), (3, .int .i64 s_1.1), (4, .int .i64 s_1.2)]) (fun (x : Nat × (Int × Int)) => match x with | (m_1, s_1) => (H)) (fun (x : Nat × (Int × Int)) (MM : Mem) => match x with | (m_1, s_1) => loopF (ref03_Count_s1 n rec_ref03_Count d0) m_1 s_1 = some b_2) (fun (x : Nat × (Int × Int)) => match x with | (m_1, s_1) => m_1) (n, ((1 : Int), (0 : Int))) (f.kp) p_1 hL_1 ?_) ?_
 ·rintro ⟨m_1, s_1⟩ M_2 _ w_2 hM_2 I_1 f p_2
  have I_1L := I_1
  obtain ⟨m_2, r_1, rfl, hs_1, hn_1⟩ := loop_step I_1L
  unfold ref03_Count_s1 at hs_1
  refine R_seq (RR (Y f 2 fun _ f => Y15 f p_2 (fzu hM_2 hc_2) 4 rfl fun _ f => Y f 2 fun _ f => eT (RcF f hs_1 (fun h_3 hF_2 => ?_) fun h_3 hF_7 => ?_)))
  ·have k_1 := dI.1 h_3
   refine wp_skip (T_n (R_seq (wp_block (R_reg (Y f 2 fun _ f => Y15 f p_2 (fzu hM_2 hc_2) 4 rfl fun _ f => Y f 1 fun _ f => ?_)))))
   obtain ⟨x_1, hx_1, hF_3⟩ := bS hF_2
   obtain ⟨ad_1, c_1, e_1, -, hr_1, hc_3⟩ := Sli.at_ (h_1.mono (hM_1.trans hM_2)) hx_1
   obtain ⟨A_3, cap_3, A_4, cap_4, rfl, h_4, h_5⟩ := TD0.opn hr_1
   refine Z f (Y31 e_1 rfl (len := d0.fList.length) (cap := cap_1) (k := .i64) (i := s_1.2) (e := 76) (sz := 6) (getI_nn hx_1) (getI_lt hx_1)) fun _ f => Z (v := .agg #[.int .i8 x_1.fKind, .bool x_1.fBool, .int .i64 x_1.fNum, S x_1.fText, .slice A_3 x_1.fList.length cap_3, .slice A_4 x_1.fKeys.length cap_4]) f (Y33 (cs := [.int .i8 x_1.fKind, .bool x_1.fBool, .int .i64 x_1.fNum, S x_1.fText, .slice A_3 x_1.fList.length cap_3, .slice A_4 x_1.fKeys.length cap_4]) rfl (ad := ad_1.add (s_1.2.toNat * 6)) (fun j v h => p_2.cell (hc_3 j v h))) fun _ f => ?_
   obtain ⟨x_2, hx_2, hF_4⟩ := bS hF_3
   refine Y18 f p_2 (hrec_ref03_Count _ _ x_1 (TD0.shutx (x := x_1) h_4 h_5) x_2 hx_2) fun w_3 p_3 _ f => ?_
   obtain ⟨g_1, hF_5⟩ := nS hF_4
   refine Y f 1 fun _ f => ?_
   have f := f.st 19 (congrArg (Value.int .i64) (inR_wrap g_1))
   refine Y f 1 fun _ f => W_end rfl (B_n (T_n (R_reg (Y f 1 fun _ f => ?_))))
   obtain ⟨g_2, hF_6⟩ := nS hF_5
   refine Y f 1 fun _ f => ?_
   have f := f.st 11 (congrArg (Value.int .i64) (inR_wrap g_2))
   refine Y f 1 fun _ f => eT ?_
   obtain rfl := sI hF_6
   exact ⟨⟨m_2, (s_1.1 + x_2, s_1.2 + 1)⟩, Nat.lt_succ_self _, M_2, hM_2, hn_1, f.kp, p_3⟩
  ·have k_2 := iff_f dI h_3
   refine wp_exit (T_x (T_x ?_))
   obtain rfl := sI hF_7
   exact ⟨rfl, s_1.1, (sI hn_1).symm, M_2, hM_2, f.kp, p_2⟩
 ·rintro _ _ w_5 ⟨rfl, y_1, hq_, M_3, hM_3, f, p_4⟩
  subst b_2
  refine B_x (T_n (RR (Y f 2 fun _ f => eT (wp_ret (E_ret1 f rfl (by kernel_rfl : Vc.look _ 2 = some (.int .i64 y_1)) ?_)))))
  obtain rfl := sI hF_1
  exact ⟨_, rfl, M_3, (hM_1.trans hM_3), p_4, rfl⟩
def ref03_Count_k (n : Nat) : Nat → TD0 → Option Int
  | 0 => fun _ => none
  | k + 1 => ref03_Count_b n (ref03_Count_k n k)
def ref03_Count (n : Nat) (d0 : TD0) : Option Int := ref03_Count_k n n d0
theorem ref03_Count_ok (n : Nat) (M : Mem) (c0 : List Value) (d0 : TD0) (h0 : Rep M (emb_TD0 d0) c0) (r : Int) (hF : ref03_Count n d0 = some r) : Ok Tryz.prog M 97 [.agg c0.toArray] (fun _ v => v = .int .i64 r) := by
 have key : ∀ (k : Nat) (M : Mem) (c0 : List Value) (d0 : TD0) (h0 : Rep M (emb_TD0 d0) c0) (r : Int) (hF : ref03_Count_k n k d0 = some r), Ok Tryz.prog M 97 [.agg c0.toArray] (fun _ v => v = .int .i64 r) := by
  intro k
  induction k with
  | zero => intro M c0 d0 h0 r hF; simp [ref03_Count_k] at hF
  | succ k ih => intro M c0 d0 h0 r hF; exact ref03_Count_b_ok n (ref03_Count_k n k) ih M c0 d0 h0 r hF
 exact key n M c0 d0 h0 r hF
def ref03_deeper_s1 (n : Nat) (rec_ref03_deeper : TD0 → Int → Option Bool) (d0 : TD0) (d1 : Int) (s_1 : Int) : Option (Lp Int (Sum Unit Unit)) :=
    bif (decide (s_1 < ((d0.fList.length : Nat) : Int))) then
      ((getI d0.fList s_1).bind fun x_1 =>
      need (inR .i64 (d1 - 1)) <|
      (rec_ref03_deeper x_1 (d1 - 1)).bind fun x_2 =>
      bif x_2 then
        (some (.br (.inl ())))
      else
        need (inR .i64 (s_1 + 1)) <|
        some (.nx (s_1 + 1)))
    else
      some (.br (.inr ()))
def ref03_deeper_b (n : Nat) (rec_ref03_deeper : TD0 → Int → Option Bool) (d0 : TD0) (d1 : Int) : Option Bool :=
  bif (decide (d1 = 0)) then
    (some ((true)))
  else
    (loopF (ref03_deeper_s1 n rec_ref03_deeper d0 d1) n (0 : Int)).bind fun b_2 =>
    (match b_2 with 
    | .inl y_1 => some ((true)) 
    | .inr y_2 => some ((false)))
theorem ref03_deeper_b_ok (n : Nat) (rec_ref03_deeper : TD0 → Int → Option Bool) (hrec_ref03_deeper : ∀ (M : Mem) (c0 : List Value) (d0 : TD0) (h0 : Rep M (emb_TD0 d0) c0) (d1 : Int) (r : Bool) (hF : rec_ref03_deeper d0 d1 = some r), Ok Tryz.prog M 95 [.agg c0.toArray, .int .i64 d1] (fun _ v => v = .bool r)) (M : Mem) (c0 : List Value) (d0 : TD0) (h0 : Rep M (emb_TD0 d0) c0) (d1 : Int) (r : Bool) (hF : ref03_deeper_b n rec_ref03_deeper d0 d1 = some r) : Ok Tryz.prog M 95 [.agg c0.toArray, .int .i64 d1] (fun _ v => v = .bool r) := by
 unfold ref03_deeper_b at hF
 intro M1 hM0 w0 H w p0
 replace h0 := Rep.mono hM0 _ _ h0
 obtain ⟨A_1, cap_1, A_2, cap_2, rfl, h_1, h_2⟩ := TD0.opn h0
 refine R_enter 23 Tryz.func95 rfl rfl (by simp) fun a0 f0 => RR (Y13 (cs := #[.int .i8 d0.fKind, .bool d0.fBool, .int .i64 d0.fNum, S d0.fText, .slice A_1 d0.fList.length cap_1, .slice A_2 d0.fKeys.length cap_2]) (T := 76) f0 p0 fun b_1 M_1 w_1 hM_1 hc_1 p_1 _ f => ?_)
 have hc_2 := fz_box hc_1
 refine Y f 1 fun _ f => eT (R_seq (RR (Y f 2 fun _ f => eT (RcF f hF (fun h_3 hF_1 => ?_) fun h_3 hF_2 => ?_))))
 ·have k_1 := dI.1 h_3
  refine RR (Y f 1 fun _ f => eT (wp_ret (T_r (E_ret1 f rfl (by kernel_rfl : Vc.look _ 4 = some (.bool true)) ?_))))
  obtain rfl := sI hF_1
  exact ⟨_, rfl, M_1, hM_1, p_1, rfl⟩
 ·have k_2 := iff_f dI h_3
  refine wp_skip (T_n (R_seq (RR (Y f 1 fun _ f => eT (wp_block ?_)))))
  obtain ⟨b_2, hL_1, hF_3⟩ := bS hF_2
  refine wp_mono (Q := fun e a w => (e = .ret ∧ (∃ y_1 : Unit, b_2 = .inl y_1 ∧ ∃ M_3 : Mem, M_1.le M_3 ∧ Frm 23 [(4, .bool true)] a ∧ Hp w0 M_3 (H) w)) ∨ (e = .exit 0 ∧ (∃ y_2 : Unit, b_2 = .inr y_2 ∧ ∃ M_4 : Mem, M_1.le M_4 ∧ Frm 23 [] a ∧ Hp w0 M_4 (H) w))) (R_loop (n := 23) (w0 := w0) (M := M_1) (fun (x : Nat × Int) => match x with | (m_1, s_1) => [(1, .int .i64 d1), (2, .pointer (some (⟨b_1, 0, none⟩))), (5, .int .i64 s_1)]) (fun (x : Nat × Int) => match x with | (m_1, s_1) => (H)) (fun (x : Nat × Int) (MM : Mem) => match x with | (m_1, s_1) => loopF (ref03_deeper_s1 n rec_ref03_deeper d0 d1) m_1 s_1 = some b_2) (fun (x : Nat × Int) => match x with | (m_1, s_1) => m_1) (n, (0 : Int)) (f.kp) p_1 hL_1 ?_) ?_
  ·rintro ⟨m_1, s_1⟩ M_2 _ w_2 hM_2 I_1 f p_2
   have I_1L := I_1
   obtain ⟨m_2, r_1, rfl, hs_1, hn_1⟩ := loop_step I_1L
   unfold ref03_deeper_s1 at hs_1
   refine R_seq (RR (Y f 2 fun _ f => Y15 f p_2 (fzu hM_2 hc_2) 4 rfl fun _ f => Y f 2 fun _ f => eT (RcF f hs_1 (fun h_4 hF_4 => ?_) fun h_4 hF_11 => ?_)))
   ·have k_3 := dI.1 h_4
    refine wp_skip (T_n (R_seq (wp_block (RR (Y f 1 fun _ f => Y15 f p_2 (fzu hM_2 hc_2) 4 rfl fun _ f => Y f 1 fun _ f => ?_)))))
    obtain ⟨x_1, hx_1, hF_5⟩ := bS hF_4
    obtain ⟨ad_1, c_1, e_1, -, hr_1, hc_3⟩ := Sli.at_ (h_1.mono (hM_1.trans hM_2)) hx_1
    obtain ⟨A_3, cap_3, A_4, cap_4, rfl, h_5, h_6⟩ := TD0.opn hr_1
    refine Z f (Y31 e_1 rfl (len := d0.fList.length) (cap := cap_1) (k := .i64) (i := s_1) (e := 76) (sz := 6) (getI_nn hx_1) (getI_lt hx_1)) fun _ f => Z (v := .agg #[.int .i8 x_1.fKind, .bool x_1.fBool, .int .i64 x_1.fNum, S x_1.fText, .slice A_3 x_1.fList.length cap_3, .slice A_4 x_1.fKeys.length cap_4]) f (Y33 (cs := [.int .i8 x_1.fKind, .bool x_1.fBool, .int .i64 x_1.fNum, S x_1.fText, .slice A_3 x_1.fList.length cap_3, .slice A_4 x_1.fKeys.length cap_4]) rfl (ad := ad_1.add (s_1.toNat * 6)) (fun j v h => p_2.cell (hc_3 j v h))) fun _ f => Y f 1 fun _ f => ?_
    obtain ⟨g_1, hF_6⟩ := nS hF_5
    refine Y f 1 fun _ f => ?_
    have f := f.st 21 (congrArg (Value.int .i64) (inR_wrap g_1))
    obtain ⟨x_2, hx_2, hF_7⟩ := bS hF_6
    refine Y18 f p_2 (hrec_ref03_deeper _ _ x_1 (TD0.shutx (x := x_1) h_5 h_6) (d1 - 1) x_2 hx_2) fun w_3 p_3 _ f => eT (RcF f hF_7 (fun h_7 hF_8 => ?_) fun h_7 hF_9 => ?_)
    ·refine RR (Y f 1 fun _ f => eT (wp_ret (B_r (T_r (T_r ?_)))))
     obtain rfl := sI hF_8
     exact .inl ⟨rfl, (), (sI hn_1).symm, M_2, hM_2, f.kp, p_3⟩
    ·refine wp_skip (B_n (T_n (R_reg (Y f 1 fun _ f => ?_))))
     obtain ⟨g_2, hF_10⟩ := nS hF_9
     refine Y f 1 fun _ f => ?_
     have f := f.st 14 (congrArg (Value.int .i64) (inR_wrap g_2))
     refine Y f 1 fun _ f => eT ?_
     obtain rfl := sI hF_10
     exact ⟨⟨m_2, s_1 + 1⟩, Nat.lt_succ_self _, M_2, hM_2, hn_1, f.kp, p_3⟩
   ·have k_6 := iff_f dI h_4
    refine wp_exit (T_x (T_x ?_))
    obtain rfl := sI hF_11
    exact .inr ⟨rfl, (), (sI hn_1).symm, M_2, hM_2, f.kp, p_2⟩
  ·rintro _ _ w_6 (⟨rfl, y_1, rfl, M_3, hM_3, f, p_4⟩ | ⟨rfl, y_2, rfl, M_4, hM_4, f, p_5⟩)
   ·refine B_r (T_r (E_ret1 f rfl (by kernel_rfl : Vc.look _ 4 = some (.bool true)) ?_))
    obtain rfl := sI hF_3
    exact ⟨_, rfl, M_3, (hM_1.trans hM_3), p_4, rfl⟩
   ·refine B_x (T_n (RR (Y f 1 fun _ f => eT (wp_ret (E_ret1 f rfl (by kernel_rfl : Vc.look _ 4 = some (.bool false)) ?_)))))
    obtain rfl := sI hF_3
    exact ⟨_, rfl, M_4, (hM_1.trans hM_4), p_5, rfl⟩
def ref03_deeper_k (n : Nat) : Nat → TD0 → Int → Option Bool
  | 0 => fun _ _ => none
  | k + 1 => ref03_deeper_b n (ref03_deeper_k n k)
def ref03_deeper (n : Nat) (d0 : TD0) (d1 : Int) : Option Bool := ref03_deeper_k n n d0 d1
theorem ref03_deeper_ok (n : Nat) (M : Mem) (c0 : List Value) (d0 : TD0) (h0 : Rep M (emb_TD0 d0) c0) (d1 : Int) (r : Bool) (hF : ref03_deeper n d0 d1 = some r) : Ok Tryz.prog M 95 [.agg c0.toArray, .int .i64 d1] (fun _ v => v = .bool r) := by
 have key : ∀ (k : Nat) (M : Mem) (c0 : List Value) (d0 : TD0) (h0 : Rep M (emb_TD0 d0) c0) (d1 : Int) (r : Bool) (hF : ref03_deeper_k n k d0 d1 = some r), Ok Tryz.prog M 95 [.agg c0.toArray, .int .i64 d1] (fun _ v => v = .bool r) := by
  intro k
  induction k with
  | zero => intro M c0 d0 h0 d1 r hF; simp [ref03_deeper_k] at hF
  | succ k ih => intro M c0 d0 h0 d1 r hF; exact ref03_deeper_b_ok n (ref03_deeper_k n k) ih M c0 d0 h0 d1 r hF
 exact key n M c0 d0 h0 d1 r hF
def ref03_plain (n : Nat) (d0 : TD0) : Option Bool :=
  ((bif (decide (d0.fKind < 0)) then
      (some ((true)))
    else
      some ((decide ((5 : Int) < d0.fKind))) : Option Bool)).bind fun y_1 =>
  bif y_1 then
    (some ((false)))
  else
    ((bif d0.fBool then
        (bif (!(decide (d0.fKind = 1))) then
          (some ((true)))
        else
          bif (!(decide (d0.fNum = 0))) then
            (bif (!(decide (d0.fKind = 2))) then
              (some ((true)))
            else
              bif (!(decide (d0.fText = []))) then
                (some ((!(decide (d0.fKind = 3)))))
              else
                some ((false)))
          else
            bif (!(decide (d0.fText = []))) then
              (some ((!(decide (d0.fKind = 3)))))
            else
              some ((false)))
      else
        bif (!(decide (d0.fNum = 0))) then
          (bif (!(decide (d0.fKind = 2))) then
            (some ((true)))
          else
            bif (!(decide (d0.fText = []))) then
              (some ((!(decide (d0.fKind = 3)))))
            else
              some ((false)))
        else
          bif (!(decide (d0.fText = []))) then
            (some ((!(decide (d0.fKind = 3)))))
          else
            some ((false)) : Option Bool)).bind fun y_2 =>
    bif y_2 then
      (some ((false)))
    else
      ((bif (decide ((0 : Int) < ((d0.fList.length : Nat) : Int))) then
          (bif (!(decide (d0.fKind = 4))) then
            (some ((!(decide (d0.fKind = 5)))))
          else
            some ((false)))
        else
          some ((false)) : Option Bool)).bind fun y_3 =>
      bif y_3 then
        (some ((false)))
      else
        bif (decide (d0.fKind = 5)) then
          (some ((decide (((d0.fKeys.length : Nat) : Int) = ((d0.fList.length : Nat) : Int)))))
        else
          some ((decide (((d0.fKeys.length : Nat) : Int) = 0)))
theorem ref03_plain_ok (n : Nat) (M : Mem) (c0 : List Value) (d0 : TD0) (h0 : Rep M (emb_TD0 d0) c0) (r : Bool) (hF : ref03_plain n d0 = some r) : Ok Tryz.prog M 111 [.agg c0.toArray] (fun _ v => v = .bool r) := by
 unfold ref03_plain at hF
 intro M1 hM0 w0 H w p0
 replace h0 := Rep.mono hM0 _ _ h0
 obtain ⟨A_1, cap_1, A_2, cap_2, rfl, h_1, h_2⟩ := TD0.opn h0
 refine R_enter 66 Tryz.func111 rfl rfl (by simp) fun a0 f0 => RR (Y13 (cs := #[.int .i8 d0.fKind, .bool d0.fBool, .int .i64 d0.fNum, S d0.fText, .slice A_1 d0.fList.length cap_1, .slice A_2 d0.fKeys.length cap_2]) (T := 76) f0 p0 fun b_1 M_1 w_1 hM_1 hc_1 p_1 _ f => ?_)
 have hc_2 := fz_box hc_1
 refine Y f 1 fun _ f => eT (R_seq (R_seq ?_))
 obtain ⟨j_1, hj_1, hF_1⟩ := bS hF
 refine R_mid (fun a_10 w_2 => ∃ y_1 : Bool, j_1 = y_1 ∧ ∃ M_2 : Mem, M_1.le M_2 ∧ Frm 66 [(1, .pointer (some (⟨b_1, 0, none⟩))), (10, .bool y_1)] a_10 ∧ Hp w0 M_2 (H) w_2) ?_ ?_
 ·refine R_reg (Y f 1 fun _ f => Y15 f p_1 hc_2 0 rfl fun _ f => Y f 2 fun _ f => ?_)
  rcases cE hj_1 with ⟨h_3, hF_2⟩ | ⟨h_3, hF_3⟩
  ·have k_1 := dI.1 h_3
   have f := f.st 6 (cB h_3)
   refine Y f 4 fun _ f => eT ?_
   exact ⟨(true), (sI hF_2).symm, M_1, (mR _), f.kp, p_1⟩
  ·have k_2 := iff_f dI h_3
   have f := f.st 6 (cB h_3)
   refine Y f 1 fun _ f => Y15 f p_1 hc_2 0 rfl fun _ f => Y f 2 fun _ f => eT ?_
   exact ⟨(decide ((5 : Int) < d0.fKind)), (sI hF_3).symm, M_1, (mR _), f.kp, p_1⟩
 ·rintro a_10 w_2 ⟨y_1, hq_1, M_2, hM_2, f, p_2⟩
  subst j_1
  refine T_n (RcF f hF_1 (fun h_4 hF_4 => ?_) fun h_4 hF_5 => ?_)
  ·refine RR (Y f 1 fun _ f => eT (wp_ret (T_r (E_ret1 f rfl (by kernel_rfl : Vc.look _ 2 = some (.bool false)) ?_))))
   obtain rfl := sI hF_4
   exact ⟨_, rfl, M_2, (hM_1.trans hM_2), p_2, rfl⟩
  ·refine wp_skip (T_n (R_seq (R_seq ?_)))
   obtain ⟨j_2, hj_2, hF_6⟩ := bS hF_5
   refine R_mid (fun a_65 w_3 => ∃ y_2 : Bool, j_2 = y_2 ∧ ∃ M_3 : Mem, M_2.le M_3 ∧ Frm 66 [(1, .pointer (some (⟨b_1, 0, none⟩))), (37, .bool y_2)] a_65 ∧ Hp w0 M_3 (H) w_3) ?_ ?_
   ·refine R_reg (Y f 1 fun _ f => Y15 f p_2 (fzu hM_2 hc_2) 1 rfl fun _ f => Y f 1 fun _ f => ?_)
    rcases cE hj_2 with ⟨h_5, hF_7⟩ | ⟨h_5, hF_18⟩
    ·have f := f.st 13 (cB h_5)
     refine Y f 1 fun _ f => Y15 f p_2 (fzu hM_2 hc_2) 0 rfl fun _ f => Y f 3 fun _ f => ?_
     rcases cE hF_7 with ⟨h_6, hF_8⟩ | ⟨h_6, hF_9⟩
     ·have k_6 : ¬ (d0.fKind = 1) := (not_iff dI).1 h_6
      have f := f.st 18 (cB h_6)
      refine Y f 19 fun _ f => eT ?_
      exact ⟨(true), (sI hF_8).symm, M_2, (mR _), f.kp, p_2⟩
     ·have k_7 : ¬ (¬ (d0.fKind = 1)) := iff_f (not_iff dI) h_6
      have f := f.st 18 (cB h_6)
      refine Y f 1 fun _ f => Y15 f p_2 (fzu hM_2 hc_2) 2 rfl fun _ f => Y f 2 fun _ f => ?_
      rcases cE hF_9 with ⟨h_7, hF_10⟩ | ⟨h_7, hF_15⟩
      ·have k_8 : ¬ (d0.fNum = 0) := (not_iff dI).1 h_7
       have f := f.st 22 (cB h_7)
       refine Y f 1 fun _ f => Y15 f p_2 (fzu hM_2 hc_2) 0 rfl fun _ f => Y f 4 fun _ f => ?_
       rcases cE hF_10 with ⟨h_8, hF_11⟩ | ⟨h_8, hF_12⟩
       ·have k_9 : ¬ (d0.fKind = 2) := (not_iff dI).1 h_8
        have f := f.st 28 (cB h_8)
        refine Y f 9 fun _ f => eT ?_
        exact ⟨(true), (sI hF_11).symm, M_2, (mR _), f.kp, p_2⟩
       ·have k_10 : ¬ (¬ (d0.fKind = 2)) := iff_f (not_iff dI) h_8
        have f := f.st 28 (cB h_8)
        refine Y f 1 fun _ f => Y15 f p_2 (fzu hM_2 hc_2) 3 rfl fun _ f => Z f (Y39 rfl (l := d0.fText) (m := [])) fun _ f => Y f 1 fun _ f => ?_
        rcases cE hF_12 with ⟨h_9, hF_13⟩ | ⟨h_9, hF_14⟩
        ·have k_11 : ¬ (d0.fText = []) := (not_iff dI).1 h_9
         have f := f.st 32 (cB h_9)
         refine Y f 1 fun _ f => Y15 f p_2 (fzu hM_2 hc_2) 0 rfl fun _ f => Y f 3 fun _ f => eT ?_
         exact ⟨(!(decide (d0.fKind = 3))), (sI hF_13).symm, M_2, (mR _), f.kp, p_2⟩
        ·have k_12 : ¬ (¬ (d0.fText = [])) := iff_f (not_iff dI) h_9
         have f := f.st 32 (cB h_9)
         refine Y f 5 fun _ f => eT ?_
         exact ⟨(false), (sI hF_14).symm, M_2, (mR _), f.kp, p_2⟩
      ·have k_13 : ¬ (¬ (d0.fNum = 0)) := iff_f (not_iff dI) h_7
       have f := f.st 22 (cB h_7)
       refine Y f 7 fun _ f => Y15 f p_2 (fzu hM_2 hc_2) 3 rfl fun _ f => Z f (Y39 rfl (l := d0.fText) (m := [])) fun _ f => Y f 1 fun _ f => ?_
       rcases cE hF_15 with ⟨h_10, hF_16⟩ | ⟨h_10, hF_17⟩
       ·have k_14 : ¬ (d0.fText = []) := (not_iff dI).1 h_10
        have f := f.st 32 (cB h_10)
        refine Y f 1 fun _ f => Y15 f p_2 (fzu hM_2 hc_2) 0 rfl fun _ f => Y f 3 fun _ f => eT ?_
        exact ⟨(!(decide (d0.fKind = 3))), (sI hF_16).symm, M_2, (mR _), f.kp, p_2⟩
       ·have k_15 : ¬ (¬ (d0.fText = [])) := iff_f (not_iff dI) h_10
        have f := f.st 32 (cB h_10)
        refine Y f 5 fun _ f => eT ?_
        exact ⟨(false), (sI hF_17).symm, M_2, (mR _), f.kp, p_2⟩
    ·have f := f.st 13 (cB h_5)
     refine Y f 6 fun _ f => Y15 f p_2 (fzu hM_2 hc_2) 2 rfl fun _ f => Y f 2 fun _ f => ?_
     rcases cE hF_18 with ⟨h_11, hF_19⟩ | ⟨h_11, hF_24⟩
     ·have k_17 : ¬ (d0.fNum = 0) := (not_iff dI).1 h_11
      have f := f.st 22 (cB h_11)
      refine Y f 1 fun _ f => Y15 f p_2 (fzu hM_2 hc_2) 0 rfl fun _ f => Y f 4 fun _ f => ?_
      rcases cE hF_19 with ⟨h_12, hF_20⟩ | ⟨h_12, hF_21⟩
      ·have k_18 : ¬ (d0.fKind = 2) := (not_iff dI).1 h_12
       have f := f.st 28 (cB h_12)
       refine Y f 9 fun _ f => eT ?_
       exact ⟨(true), (sI hF_20).symm, M_2, (mR _), f.kp, p_2⟩
      ·have k_19 : ¬ (¬ (d0.fKind = 2)) := iff_f (not_iff dI) h_12
       have f := f.st 28 (cB h_12)
       refine Y f 1 fun _ f => Y15 f p_2 (fzu hM_2 hc_2) 3 rfl fun _ f => Z f (Y39 rfl (l := d0.fText) (m := [])) fun _ f => Y f 1 fun _ f => ?_
       rcases cE hF_21 with ⟨h_13, hF_22⟩ | ⟨h_13, hF_23⟩
       ·have k_20 : ¬ (d0.fText = []) := (not_iff dI).1 h_13
        have f := f.st 32 (cB h_13)
        refine Y f 1 fun _ f => Y15 f p_2 (fzu hM_2 hc_2) 0 rfl fun _ f => Y f 3 fun _ f => eT ?_
        exact ⟨(!(decide (d0.fKind = 3))), (sI hF_22).symm, M_2, (mR _), f.kp, p_2⟩
       ·have k_21 : ¬ (¬ (d0.fText = [])) := iff_f (not_iff dI) h_13
        have f := f.st 32 (cB h_13)
        refine Y f 5 fun _ f => eT ?_
        exact ⟨(false), (sI hF_23).symm, M_2, (mR _), f.kp, p_2⟩
     ·have k_22 : ¬ (¬ (d0.fNum = 0)) := iff_f (not_iff dI) h_11
      have f := f.st 22 (cB h_11)
      refine Y f 7 fun _ f => Y15 f p_2 (fzu hM_2 hc_2) 3 rfl fun _ f => Z f (Y39 rfl (l := d0.fText) (m := [])) fun _ f => Y f 1 fun _ f => ?_
      rcases cE hF_24 with ⟨h_14, hF_25⟩ | ⟨h_14, hF_26⟩
      ·have k_23 : ¬ (d0.fText = []) := (not_iff dI).1 h_14
       have f := f.st 32 (cB h_14)
       refine Y f 1 fun _ f => Y15 f p_2 (fzu hM_2 hc_2) 0 rfl fun _ f => Y f 3 fun _ f => eT ?_
       exact ⟨(!(decide (d0.fKind = 3))), (sI hF_25).symm, M_2, (mR _), f.kp, p_2⟩
      ·have k_24 : ¬ (¬ (d0.fText = [])) := iff_f (not_iff dI) h_14
       have f := f.st 32 (cB h_14)
       refine Y f 5 fun _ f => eT ?_
       exact ⟨(false), (sI hF_26).symm, M_2, (mR _), f.kp, p_2⟩
   ·rintro a_65 w_3 ⟨y_2, hq_2, M_3, hM_3, f, p_3⟩
    subst j_2
    refine T_n (RcF f hF_6 (fun h_15 hF_27 => ?_) fun h_15 hF_28 => ?_)
    ·refine RR (Y f 1 fun _ f => eT (wp_ret (T_r (E_ret1 f rfl (by kernel_rfl : Vc.look _ 2 = some (.bool false)) ?_))))
     obtain rfl := sI hF_27
     exact ⟨_, rfl, M_3, ((hM_1.trans hM_2).trans hM_3), p_3, rfl⟩
    ·refine wp_skip (T_n (R_seq (R_seq ?_)))
     obtain ⟨j_3, hj_3, hF_29⟩ := bS hF_28
     refine R_mid (fun a_78 w_4 => ∃ y_3 : Bool, j_3 = y_3 ∧ ∃ M_4 : Mem, M_3.le M_4 ∧ Frm 66 [(1, .pointer (some (⟨b_1, 0, none⟩))), (51, .bool y_3)] a_78 ∧ Hp w0 M_4 (H) w_4) ?_ ?_
     ·refine R_reg (Y f 1 fun _ f => Y15 f p_3 (fzu (hM_2.trans hM_3) hc_2) 4 rfl fun _ f => Y f 3 fun _ f => ?_)
      rcases cE hj_3 with ⟨h_16, hF_30⟩ | ⟨h_16, hF_33⟩
      ·have k_27 := dI.1 h_16
       have f := f.st 42 (cB h_16)
       refine Y f 1 fun _ f => Y15 f p_3 (fzu (hM_2.trans hM_3) hc_2) 0 rfl fun _ f => Y f 3 fun _ f => ?_
       rcases cE hF_30 with ⟨h_17, hF_31⟩ | ⟨h_17, hF_32⟩
       ·have k_28 : ¬ (d0.fKind = 4) := (not_iff dI).1 h_17
        have f := f.st 47 (cB h_17)
        refine Y f 1 fun _ f => Y15 f p_3 (fzu (hM_2.trans hM_3) hc_2) 0 rfl fun _ f => Y f 2 fun _ f => eT ?_
        exact ⟨(!(decide (d0.fKind = 5))), (sI hF_31).symm, M_3, (mR _), f.kp, p_3⟩
       ·have k_29 : ¬ (¬ (d0.fKind = 4)) := iff_f (not_iff dI) h_17
        have f := f.st 47 (cB h_17)
        refine Y f 4 fun _ f => eT ?_
        exact ⟨(false), (sI hF_32).symm, M_3, (mR _), f.kp, p_3⟩
      ·have k_30 := iff_f dI h_16
       have f := f.st 42 (cB h_16)
       refine Y f 9 fun _ f => eT ?_
       exact ⟨(false), (sI hF_33).symm, M_3, (mR _), f.kp, p_3⟩
     ·rintro a_78 w_4 ⟨y_3, hq_3, M_4, hM_4, f, p_4⟩
      subst j_3
      refine T_n (RcF f hF_29 (fun h_18 hF_34 => ?_) fun h_18 hF_35 => ?_)
      ·refine RR (Y f 1 fun _ f => eT (wp_ret (T_r (E_ret1 f rfl (by kernel_rfl : Vc.look _ 2 = some (.bool false)) ?_))))
       obtain rfl := sI hF_34
       exact ⟨_, rfl, M_4, (((hM_1.trans hM_2).trans hM_3).trans hM_4), p_4, rfl⟩
      ·refine wp_skip (T_n (R_seq (RR (Y f 1 fun _ f => Y15 f p_4 (fzu ((hM_2.trans hM_3).trans hM_4) hc_2) 0 rfl fun _ f => Y f 1 fun _ f => eT (RcF f hF_35 (fun h_19 hF_36 => ?_) fun h_19 hF_37 => ?_)))))
       ·have k_33 := dI.1 h_19
        refine RR (Y f 1 fun _ f => Y15 f p_4 (fzu ((hM_2.trans hM_3).trans hM_4) hc_2) 5 rfl fun _ f => Y f 2 fun _ f => Y15 f p_4 (fzu ((hM_2.trans hM_3).trans hM_4) hc_2) 4 rfl fun _ f => Y f 3 fun _ f => eT (wp_ret (T_r (E_ret1 f rfl (by kernel_rfl : Vc.look _ 2 = some (.bool (decide (((d0.fKeys.length : Nat) : Int) = ((d0.fList.length : Nat) : Int))))) ?_))))
        obtain rfl := sI hF_36
        exact ⟨_, rfl, M_4, (((hM_1.trans hM_2).trans hM_3).trans hM_4), p_4, rfl⟩
       ·have k_34 := iff_f dI h_19
        refine wp_skip (T_n (RR (Y f 1 fun _ f => Y15 f p_4 (fzu ((hM_2.trans hM_3).trans hM_4) hc_2) 5 rfl fun _ f => Y f 3 fun _ f => eT (wp_ret (E_ret1 f rfl (by kernel_rfl : Vc.look _ 2 = some (.bool (decide (((d0.fKeys.length : Nat) : Int) = 0)))) ?_)))))
        obtain rfl := sI hF_37
        exact ⟨_, rfl, M_4, (((hM_1.trans hM_2).trans hM_3).trans hM_4), p_4, rfl⟩
def ref03_wrong_s1 (n : Nat) (d0 : TD0) (s_1 : Int) : Option (Lp Int (Sum Unit Unit)) :=
    bif (decide (s_1 < ((d0.fKeys.length : Nat) : Int))) then
      ((getI d0.fKeys s_1).bind fun x_3 =>
      (ref01_Valid n x_3).bind fun x_4 =>
      bif !x_4 then
        (some (.br (.inl ())))
      else
        need (inR .i64 (s_1 + 1)) <|
        some (.nx (s_1 + 1)))
    else
      some (.br (.inr ()))
def ref03_wrong_s3 (n : Nat) (d0 : TD0) (s_2 : Int) (s_3 : Int) : Option (Lp Int (Sum Unit Unit)) :=
    bif (decide (s_3 < s_2)) then
      ((getI d0.fKeys s_3).bind fun x_5 =>
      (getI d0.fKeys s_2).bind fun x_6 =>
      bif (decide (x_5 = x_6)) then
        (some (.br (.inl ())))
      else
        need (inR .i64 (s_3 + 1)) <|
        some (.nx (s_3 + 1)))
    else
      some (.br (.inr ()))
def ref03_wrong_s2 (n : Nat) (d0 : TD0) (s_2 : Int) : Option (Lp Int (Sum Unit Unit)) :=
    bif (decide (s_2 < ((d0.fKeys.length : Nat) : Int))) then
      ((loopF (ref03_wrong_s3 n d0 s_2) n (0 : Int)).bind fun b_4 =>
      (match b_4 with 
      | .inl y_4 => some (.br (.inl ())) 
      | .inr y_5 => need (inR .i64 (s_2 + 1)) <|
        some (.nx (s_2 + 1))))
    else
      some (.br (.inr ()))
def ref03_wrong_s4 (n : Nat) (rec_ref03_wrong : TD0 → Option Int) (d0 : TD0) (s_4 : Int) : Option (Lp Int (Sum Int Unit)) :=
    bif (decide (s_4 < ((d0.fList.length : Nat) : Int))) then
      ((getI d0.fList s_4).bind fun x_7 =>
      (rec_ref03_wrong x_7).bind fun x_8 =>
      bif (!(decide (x_8 = 0))) then
        (some (.br (.inl x_8)))
      else
        need (inR .i64 (s_4 + 1)) <|
        some (.nx (s_4 + 1)))
    else
      some (.br (.inr ()))
def ref03_wrong_b (n : Nat) (rec_ref03_wrong : TD0 → Option Int) (d0 : TD0) : Option Int :=
  (ref03_plain n d0).bind fun x_1 =>
  bif !x_1 then
    (some ((2 : Int)))
  else
    ((bif (decide (d0.fNum < (-9007199254740992))) then
        (some ((true)))
      else
        some ((decide ((9007199254740992 : Int) < d0.fNum))) : Option Bool)).bind fun y_1 =>
    bif y_1 then
      (some ((20 : Int)))
    else
      (ref01_Valid n d0.fText).bind fun x_2 =>
      bif !x_2 then
        (some ((10 : Int)))
      else
        (loopF (ref03_wrong_s1 n d0) n (0 : Int)).bind fun b_2 =>
        (match b_2 with 
        | .inl y_2 => some ((10 : Int)) 
        | .inr y_3 => (loopF (ref03_wrong_s2 n d0) n (0 : Int)).bind fun b_3 =>
          (match b_3 with 
          | .inl y_6 => some ((41 : Int)) 
          | .inr y_7 => (loopF (ref03_wrong_s4 n rec_ref03_wrong d0) n (0 : Int)).bind fun b_5 =>
            (match b_5 with 
            | .inl y_8 => some (y_8) 
            | .inr y_9 => some ((0 : Int)))))
theorem ref03_wrong_b_ok (n : Nat) (rec_ref03_wrong : TD0 → Option Int) (hrec_ref03_wrong : ∀ (M : Mem) (c0 : List Value) (d0 : TD0) (h0 : Rep M (emb_TD0 d0) c0) (r : Int) (hF : rec_ref03_wrong d0 = some r), Ok Tryz.prog M 96 [.agg c0.toArray] (fun _ v => v = .int .i64 r)) (M : Mem) (c0 : List Value) (d0 : TD0) (h0 : Rep M (emb_TD0 d0) c0) (r : Int) (hF : ref03_wrong_b n rec_ref03_wrong d0 = some r) : Ok Tryz.prog M 96 [.agg c0.toArray] (fun _ v => v = .int .i64 r) := by
 unfold ref03_wrong_b at hF
 intro M1 hM0 w0 H w p0
 replace h0 := Rep.mono hM0 _ _ h0
 obtain ⟨A_1, cap_1, A_2, cap_2, rfl, h_1, h_2⟩ := TD0.opn h0
 refine R_enter 76 Tryz.func96 rfl rfl (by simp) fun a0 f0 => RR (Y13 (cs := #[.int .i8 d0.fKind, .bool d0.fBool, .int .i64 d0.fNum, S d0.fText, .slice A_1 d0.fList.length cap_1, .slice A_2 d0.fKeys.length cap_2]) (T := 76) f0 p0 fun b_1 M_1 w_1 hM_1 hc_1 p_1 _ f => ?_)
 have hc_2 := fz_box hc_1
 refine Y f 1 fun _ f => eT (R_seq (RR (Z (v := .agg #[.int .i8 d0.fKind, .bool d0.fBool, .int .i64 d0.fNum, S d0.fText, .slice A_1 d0.fList.length cap_1, .slice A_2 d0.fKeys.length cap_2]) f (Y33 (cs := [.int .i8 d0.fKind, .bool d0.fBool, .int .i64 d0.fNum, S d0.fText, .slice A_1 d0.fList.length cap_1, .slice A_2 d0.fKeys.length cap_2]) rfl (ad := ⟨b_1, 0, none⟩) (fun j v h => p_1.cell (hc_2 j v h))) fun _ f => ?_)))
 obtain ⟨x_1, hx_1, hF_1⟩ := bS hF
 refine Y18 f p_1 (ref03_plain_ok n _ _ d0 (TD0.shutx (x := d0) (h_1.mono hM_1) (h_2.mono hM_1)) x_1 hx_1) fun w_2 p_2 _ f => Y f 1 fun _ f => eT (RcF f hF_1 (fun h_3 hF_2 => ?_) fun h_3 hF_3 => ?_)
 ·have k_1 : (x_1) = false := by simpa using h_3
  refine RR (Y f 1 fun _ f => eT (wp_ret (T_r (E_ret1 f rfl (by kernel_rfl : Vc.look _ 2 = some (.int .i64 2)) ?_))))
  obtain rfl := sI hF_2
  exact ⟨_, rfl, M_1, hM_1, p_2, rfl⟩
 ·have k_2 : (x_1) = true := by simpa using h_3
  refine wp_skip (T_n (R_seq (R_seq ?_)))
  obtain ⟨j_1, hj_1, hF_4⟩ := bS hF_3
  refine R_mid (fun a_14 w_3 => ∃ y_1 : Bool, j_1 = y_1 ∧ ∃ M_2 : Mem, M_1.le M_2 ∧ Frm 76 [(1, .pointer (some (⟨b_1, 0, none⟩))), (18, .bool y_1)] a_14 ∧ Hp w0 M_2 (H) w_3) ?_ ?_
  ·refine R_reg (Y f 1 fun _ f => Y15 f p_2 hc_2 2 rfl fun _ f => Y f 2 fun _ f => ?_)
   rcases cE hj_1 with ⟨h_4, hF_5⟩ | ⟨h_4, hF_6⟩
   ·have k_3 := dI.1 h_4
    have f := f.st 14 (cB h_4)
    refine Y f 4 fun _ f => eT ?_
    exact ⟨(true), (sI hF_5).symm, M_1, (mR _), f.kp, p_2⟩
   ·have k_4 := iff_f dI h_4
    have f := f.st 14 (cB h_4)
    refine Y f 1 fun _ f => Y15 f p_2 hc_2 2 rfl fun _ f => Y f 2 fun _ f => eT ?_
    exact ⟨(decide ((9007199254740992 : Int) < d0.fNum)), (sI hF_6).symm, M_1, (mR _), f.kp, p_2⟩
  ·rintro a_14 w_3 ⟨y_1, hq_1, M_2, hM_2, f, p_3⟩
   subst j_1
   refine T_n (RcF f hF_4 (fun h_5 hF_7 => ?_) fun h_5 hF_8 => ?_)
   ·refine RR (Y f 1 fun _ f => eT (wp_ret (T_r (E_ret1 f rfl (by kernel_rfl : Vc.look _ 2 = some (.int .i64 20)) ?_))))
    obtain rfl := sI hF_7
    exact ⟨_, rfl, M_2, (hM_1.trans hM_2), p_3, rfl⟩
   ·refine wp_skip (T_n (R_seq (RR (Y f 1 fun _ f => Y15 f p_3 (fzu hM_2 hc_2) 3 rfl fun _ f => ?_))))
    obtain ⟨x_2, hx_2, hF_9⟩ := bS hF_8
    refine Y18 f p_3 (ref01_Valid_ok n _ d0.fText x_2 hx_2) fun w_4 p_4 _ f => Y f 1 fun _ f => eT (RcF f hF_9 (fun h_6 hF_10 => ?_) fun h_6 hF_11 => ?_)
    ·have k_7 : (x_2) = false := by simpa using h_6
     refine RR (Y f 1 fun _ f => eT (wp_ret (T_r (E_ret1 f rfl (by kernel_rfl : Vc.look _ 2 = some (.int .i64 10)) ?_))))
     obtain rfl := sI hF_10
     exact ⟨_, rfl, M_2, (hM_1.trans hM_2), p_4, rfl⟩
    ·have k_8 : (x_2) = true := by simpa using h_6
     refine wp_skip (T_n (R_seq (RR (Y f 1 fun _ f => eT (wp_block ?_)))))
     obtain ⟨b_2, hL_1, hF_12⟩ := bS hF_11
     refine wp_mono (Q := fun e a w => (e = .ret ∧ (∃ y_2 : Unit, b_2 = .inl y_2 ∧ ∃ M_4 : Mem, M_2.le M_4 ∧ Frm 76 [(2, .int .i64 10)] a ∧ Hp w0 M_4 (H) w)) ∨ (e = .exit 0 ∧ (∃ y_3 : Unit, b_2 = .inr y_3 ∧ ∃ M_5 : Mem, M_2.le M_5 ∧ Frm 76 [(1, .pointer (some (⟨b_1, 0, none⟩)))] a ∧ Hp w0 M_5 (H) w))) (R_loop (n := 76) (w0 := w0) (M := M_2) (fun (x : Nat × Int) => match x with | (m_1, s_1) => [(1, .pointer (some (⟨b_1, 0, none⟩))), (3, .int .i64 s_1)]) (fun (x : Nat × Int) => match x with | (m_1, s_1) => (H)) (fun (x : Nat × Int) (MM : Mem) => match x with | (m_1, s_1) => loopF (ref03_wrong_s1 n d0) m_1 s_1 = some b_2) (fun (x : Nat × Int) => match x with | (m_1, s_1) => m_1) (n, (0 : Int)) (f.kp) p_4 hL_1 ?_) ?_
     ·rintro ⟨m_1, s_1⟩ M_3 _ w_5 hM_3 I_1 f p_5
      have I_1L := I_1
      obtain ⟨m_2, r_1, rfl, hs_1, hn_1⟩ := loop_step I_1L
      unfold ref03_wrong_s1 at hs_1
      refine R_seq (RR (Y f 2 fun _ f => Y15 f p_5 (fzu (hM_2.trans hM_3) hc_2) 5 rfl fun _ f => Y f 2 fun _ f => eT (RcF f hs_1 (fun h_7 hF_13 => ?_) fun h_7 hF_19 => ?_)))
      ·have k_9 := dI.1 h_7
       refine wp_skip (T_n (R_seq (wp_block (RR (Y f 1 fun _ f => Y15 f p_5 (fzu (hM_2.trans hM_3) hc_2) 5 rfl fun _ f => Y f 1 fun _ f => ?_)))))
       obtain ⟨x_3, hx_3, hF_14⟩ := bS hF_13
       obtain ⟨ad_1, c_1, e_1, -, hr_1, hc_3⟩ := Sli.at_ (h_2.mono ((hM_1.trans hM_2).trans hM_3)) hx_3
       obtain rfl : c_1 = [S x_3] := hr_1
       refine Z f (Y31 e_1 rfl (len := d0.fKeys.length) (cap := cap_2) (k := .i64) (i := s_1) (e := 9) (sz := 1) (getI_nn hx_3) (getI_lt hx_3)) fun _ f => Y15 f p_5 hc_3 0 rfl fun _ f => ?_
       obtain ⟨x_4, hx_4, hF_15⟩ := bS hF_14
       refine Y18 f p_5 (ref01_Valid_ok n _ x_3 x_4 hx_4) fun w_6 p_6 _ f => Y f 1 fun _ f => eT (RcF f hF_15 (fun h_8 hF_16 => ?_) fun h_8 hF_17 => ?_)
       ·have k_10 : (x_4) = false := by simpa using h_8
        refine RR (Y f 1 fun _ f => eT (wp_ret (B_r (T_r (T_r ?_)))))
        obtain rfl := sI hF_16
        exact .inl ⟨rfl, (), (sI hn_1).symm, M_3, hM_3, f.kp, p_6⟩
       ·have k_11 : (x_4) = true := by simpa using h_8
        refine wp_skip (B_n (T_n (R_reg (Y f 1 fun _ f => ?_))))
        obtain ⟨g_1, hF_18⟩ := nS hF_17
        refine Y f 1 fun _ f => ?_
        have f := f.st 29 (congrArg (Value.int .i64) (inR_wrap g_1))
        refine Y f 1 fun _ f => eT ?_
        obtain rfl := sI hF_18
        exact ⟨⟨m_2, s_1 + 1⟩, Nat.lt_succ_self _, M_3, hM_3, hn_1, f.kp, p_6⟩
      ·have k_12 := iff_f dI h_7
       refine wp_exit (T_x (T_x ?_))
       obtain rfl := sI hF_19
       exact .inr ⟨rfl, (), (sI hn_1).symm, M_3, hM_3, f.kp, p_5⟩
     ·rintro _ _ w_9 (⟨rfl, y_2, rfl, M_4, hM_4, f, p_7⟩ | ⟨rfl, y_3, rfl, M_5, hM_5, f, p_8⟩)
      ·refine B_r (T_r (E_ret1 f rfl (by kernel_rfl : Vc.look _ 2 = some (.int .i64 10)) ?_))
       obtain rfl := sI hF_12
       exact ⟨_, rfl, M_4, ((hM_1.trans hM_2).trans hM_4), p_7, rfl⟩
      ·refine B_x (T_n (R_seq (RR (Y f 1 fun _ f => eT (wp_block ?_)))))
       obtain ⟨b_3, hL_2, hF_20⟩ := bS hF_12
       refine wp_mono (Q := fun e a w => (e = .ret ∧ (∃ y_6 : Unit, b_3 = .inl y_6 ∧ ∃ M_10 : Mem, M_5.le M_10 ∧ Frm 76 [(2, .int .i64 41)] a ∧ Hp w0 M_10 (H) w)) ∨ (e = .exit 2 ∧ (∃ y_7 : Unit, b_3 = .inr y_7 ∧ ∃ M_11 : Mem, M_5.le M_11 ∧ Frm 76 [(1, .pointer (some (⟨b_1, 0, none⟩)))] a ∧ Hp w0 M_11 (H) w))) (R_loop (n := 76) (w0 := w0) (M := M_5) (fun (x : Nat × Int) => match x with | (m_3, s_2) => [(1, .pointer (some (⟨b_1, 0, none⟩))), (4, .int .i64 s_2)]) (fun (x : Nat × Int) => match x with | (m_3, s_2) => (H)) (fun (x : Nat × Int) (MM : Mem) => match x with | (m_3, s_2) => loopF (ref03_wrong_s2 n d0) m_3 s_2 = some b_3) (fun (x : Nat × Int) => match x with | (m_3, s_2) => m_3) (n, (0 : Int)) (f.kp) p_8 hL_2 ?_) ?_
       ·rintro ⟨m_3, s_2⟩ M_6 _ w_10 hM_6 I_2 f p_9
        have I_2L := I_2
        obtain ⟨m_4, r_2, rfl, hs_2, hn_2⟩ := loop_step I_2L
        unfold ref03_wrong_s2 at hs_2
        refine R_seq (RR (Y f 2 fun _ f => Y15 f p_9 (fzu ((hM_2.trans hM_5).trans hM_6) hc_2) 5 rfl fun _ f => Y f 2 fun _ f => eT (RcF f hs_2 (fun h_9 hF_21 => ?_) fun h_9 hF_31 => ?_)))
        ·have k_13 := dI.1 h_9
         refine wp_skip (T_n (R_seq (wp_block (RR (Y f 1 fun _ f => eT (wp_block ?_))))))
         obtain ⟨b_4, hL_3, hF_22⟩ := bS hF_21
         refine wp_mono (Q := fun e a w => (e = .ret ∧ (∃ y_4 : Unit, b_4 = .inl y_4 ∧ ∃ M_8 : Mem, M_6.le M_8 ∧ Frm 76 [(2, .int .i64 41)] a ∧ Hp w0 M_8 (H) w)) ∨ (e = .exit 4 ∧ (∃ y_5 : Unit, b_4 = .inr y_5 ∧ ∃ M_9 : Mem, M_6.le M_9 ∧ Frm 76 [(1, .pointer (some (⟨b_1, 0, none⟩))), (4, .int .i64 s_2)] a ∧ Hp w0 M_9 (H) w))) (R_loop (n := 76) (w0 := w0) (M := M_6) (fun (x : Nat × Int) => match x with | (m_5, s_3) => [(1, .pointer (some (⟨b_1, 0, none⟩))), (4, .int .i64 s_2), (5, .int .i64 s_3)]) (fun (x : Nat × Int) => match x with | (m_5, s_3) => (H)) (fun (x : Nat × Int) (MM : Mem) => match x with | (m_5, s_3) => loopF (ref03_wrong_s3 n d0 s_2) m_5 s_3 = some b_4) (fun (x : Nat × Int) => match x with | (m_5, s_3) => m_5) (n, (0 : Int)) (f.kp) p_9 hL_3 ?_) ?_
         ·rintro ⟨m_5, s_3⟩ M_7 _ w_11 hM_7 I_3 f p_10
          have I_3L := I_3
          obtain ⟨m_6, r_3, rfl, hs_3, hn_3⟩ := loop_step I_3L
          unfold ref03_wrong_s3 at hs_3
          refine R_seq (RR (Y f 3 fun _ f => eT (RcF f hs_3 (fun h_10 hF_23 => ?_) fun h_10 hF_29 => ?_)))
          ·have k_14 := dI.1 h_10
           refine wp_skip (T_n (R_seq (wp_block (R_seq (R_draw p_10 (by kernel_rfl) (by kernel_rfl) (Y5 default f 1 fun _ f => Y4 f (fzu (((hM_2.trans hM_5).trans hM_6).trans hM_7) hc_2) 5 rfl fun _ f => Y5 default f 1 fun _ f => ?_))))))
           obtain ⟨x_5, hx_5, hF_24⟩ := bS hF_23
           obtain ⟨ad_2, c_2, e_2, -, hr_2, hc_4⟩ := Sli.at_ (h_2.mono ((((hM_1.trans hM_2).trans hM_5).trans hM_6).trans hM_7)) hx_5
           obtain rfl : c_2 = [S x_5] := hr_2
           refine Y2 (v := .pointer (some (ad_2.add (s_3.toNat * 1)))) f (fun _ pq => Y31 e_2 rfl (len := d0.fKeys.length) (cap := cap_2) (k := .i64) (i := s_3) (e := 9) (sz := 1) (getI_nn hx_5) (getI_lt hx_5)) fun _ f => Y4 f hc_4 0 rfl fun _ f => Y5 default f 1 fun _ f => Y4 f (fzu (((hM_2.trans hM_5).trans hM_6).trans hM_7) hc_2) 5 rfl fun _ f => Y5 default f 1 fun _ f => ?_
           obtain ⟨x_6, hx_6, hF_25⟩ := bS hF_24
           obtain ⟨ad_3, c_3, e_3, -, hr_3, hc_5⟩ := Sli.at_ (h_2.mono ((((hM_1.trans hM_2).trans hM_5).trans hM_6).trans hM_7)) hx_6
           obtain rfl : c_3 = [S x_6] := hr_3
           refine Y2 (v := .pointer (some (ad_3.add (s_2.toNat * 1)))) f (fun _ pq => Y31 e_3 rfl (len := d0.fKeys.length) (cap := cap_2) (k := .i64) (i := s_2) (e := 9) (sz := 1) (getI_nn hx_6) (getI_lt hx_6)) fun _ f => Y4 f hc_5 0 rfl fun _ f => Y2 (v := .bool (decide (x_5 = x_6))) f (fun _ pq => Y38 rfl (l := x_5) (m := x_6)) fun _ f => Q_end rfl ?_
           intro w_12 p_11
           refine T_n (RcF f hF_25 (fun h_11 hF_26 => ?_) fun h_11 hF_27 => ?_)
           ·have k_15 := dI.1 h_11
            refine RR (Y f 1 fun _ f => eT (wp_ret (B_r (T_r (T_r ?_)))))
            obtain rfl := sI hF_26
            exact .inl ⟨rfl, (), (sI hn_3).symm, M_7, hM_7, f.kp, p_11⟩
           ·have k_16 := iff_f dI h_11
            refine wp_skip (B_n (T_n (R_reg (Y f 1 fun _ f => ?_))))
            obtain ⟨g_2, hF_28⟩ := nS hF_27
            refine Y f 1 fun _ f => ?_
            have f := f.st 48 (congrArg (Value.int .i64) (inR_wrap g_2))
            refine Y f 1 fun _ f => eT ?_
            obtain rfl := sI hF_28
            exact ⟨⟨m_6, s_3 + 1⟩, Nat.lt_succ_self _, M_7, hM_7, hn_3, f.kp, p_11⟩
          ·have k_17 := iff_f dI h_10
           refine wp_exit (T_x (T_x ?_))
           obtain rfl := sI hF_29
           exact .inr ⟨rfl, (), (sI hn_3).symm, M_7, hM_7, f.kp, p_10⟩
         ·rintro _ _ w_15 (⟨rfl, y_4, rfl, M_8, hM_8, f, p_12⟩ | ⟨rfl, y_5, rfl, M_9, hM_9, f, p_13⟩)
          ·refine B_r (B_r (T_r (T_r ?_)))
           obtain rfl := sI hF_22
           exact .inl ⟨rfl, (), (sI hn_2).symm, M_8, (hM_6.trans hM_8), f.kp, p_12⟩
          ·refine B_x (B_n (T_n (R_reg (Y f 1 fun _ f => ?_))))
           obtain ⟨g_3, hF_30⟩ := nS hF_22
           refine Y f 1 fun _ f => ?_
           have f := f.st 43 (congrArg (Value.int .i64) (inR_wrap g_3))
           refine Y f 1 fun _ f => eT ?_
           obtain rfl := sI hF_30
           exact ⟨⟨m_4, s_2 + 1⟩, Nat.lt_succ_self _, M_9, (hM_6.trans hM_9), hn_2, f.kp, p_13⟩
        ·have k_18 := iff_f dI h_9
         refine wp_exit (T_x (T_x ?_))
         obtain rfl := sI hF_31
         exact .inr ⟨rfl, (), (sI hn_2).symm, M_6, hM_6, f.kp, p_9⟩
       ·rintro _ _ w_18 (⟨rfl, y_6, rfl, M_10, hM_10, f, p_14⟩ | ⟨rfl, y_7, rfl, M_11, hM_11, f, p_15⟩)
        ·refine B_r (T_r (E_ret1 f rfl (by kernel_rfl : Vc.look _ 2 = some (.int .i64 41)) ?_))
         obtain rfl := sI hF_20
         exact ⟨_, rfl, M_10, (((hM_1.trans hM_2).trans hM_5).trans hM_10), p_14, rfl⟩
        ·refine B_x (T_n (R_seq (RR (Y f 1 fun _ f => eT (wp_block ?_)))))
         obtain ⟨b_5, hL_4, hF_32⟩ := bS hF_20
         refine wp_mono (Q := fun e a w => (e = .ret ∧ (∃ y_8 : Int, b_5 = .inl y_8 ∧ ∃ M_13 : Mem, M_11.le M_13 ∧ Frm 76 [(2, .int .i64 y_8)] a ∧ Hp w0 M_13 (H) w)) ∨ (e = .exit 6 ∧ (∃ y_9 : Unit, b_5 = .inr y_9 ∧ ∃ M_14 : Mem, M_11.le M_14 ∧ Frm 76 [] a ∧ Hp w0 M_14 (H) w))) (R_loop (n := 76) (w0 := w0) (M := M_11) (fun (x : Nat × Int) => match x with | (m_7, s_4) => [(1, .pointer (some (⟨b_1, 0, none⟩))), (6, .int .i64 s_4)]) (fun (x : Nat × Int) => match x with | (m_7, s_4) => (H)) (fun (x : Nat × Int) (MM : Mem) => match x with | (m_7, s_4) => loopF (ref03_wrong_s4 n rec_ref03_wrong d0) m_7 s_4 = some b_5) (fun (x : Nat × Int) => match x with | (m_7, s_4) => m_7) (n, (0 : Int)) (f.kp) p_15 hL_4 ?_) ?_
         ·rintro ⟨m_7, s_4⟩ M_12 _ w_19 hM_12 I_4 f p_16
          have I_4L := I_4
          obtain ⟨m_8, r_4, rfl, hs_4, hn_4⟩ := loop_step I_4L
          unfold ref03_wrong_s4 at hs_4
          refine R_seq (RR (Y f 2 fun _ f => Y15 f p_16 (fzu (((hM_2.trans hM_5).trans hM_11).trans hM_12) hc_2) 4 rfl fun _ f => Y f 2 fun _ f => eT (RcF f hs_4 (fun h_12 hF_33 => ?_) fun h_12 hF_39 => ?_)))
          ·have k_19 := dI.1 h_12
           refine wp_skip (T_n (R_seq (wp_block (RR (Y f 1 fun _ f => Y15 f p_16 (fzu (((hM_2.trans hM_5).trans hM_11).trans hM_12) hc_2) 4 rfl fun _ f => Y f 1 fun _ f => ?_)))))
           obtain ⟨x_7, hx_7, hF_34⟩ := bS hF_33
           obtain ⟨ad_4, c_4, e_4, -, hr_4, hc_6⟩ := Sli.at_ (h_1.mono ((((hM_1.trans hM_2).trans hM_5).trans hM_11).trans hM_12)) hx_7
           obtain ⟨A_3, cap_3, A_4, cap_4, rfl, h_13, h_14⟩ := TD0.opn hr_4
           refine Z f (Y31 e_4 rfl (len := d0.fList.length) (cap := cap_1) (k := .i64) (i := s_4) (e := 76) (sz := 6) (getI_nn hx_7) (getI_lt hx_7)) fun _ f => Z (v := .agg #[.int .i8 x_7.fKind, .bool x_7.fBool, .int .i64 x_7.fNum, S x_7.fText, .slice A_3 x_7.fList.length cap_3, .slice A_4 x_7.fKeys.length cap_4]) f (Y33 (cs := [.int .i8 x_7.fKind, .bool x_7.fBool, .int .i64 x_7.fNum, S x_7.fText, .slice A_3 x_7.fList.length cap_3, .slice A_4 x_7.fKeys.length cap_4]) rfl (ad := ad_4.add (s_4.toNat * 6)) (fun j v h => p_16.cell (hc_6 j v h))) fun _ f => ?_
           obtain ⟨x_8, hx_8, hF_35⟩ := bS hF_34
           refine Y18 f p_16 (hrec_ref03_wrong _ _ x_7 (TD0.shutx (x := x_7) h_13 h_14) x_8 hx_8) fun w_20 p_17 _ f => Y f 1 fun _ f => eT (RR (Y f 2 fun _ f => eT (RcF f hF_35 (fun h_15 hF_36 => ?_) fun h_15 hF_37 => ?_)))
           ·have k_20 : ¬ (x_8 = 0) := (not_iff dI).1 h_15
            refine RR (Y f 2 fun _ f => eT (wp_ret (B_r (T_r (T_r ?_)))))
            obtain rfl := sI hF_36
            exact .inl ⟨rfl, x_8, (sI hn_4).symm, M_12, hM_12, f.kp, p_17⟩
           ·have k_21 : ¬ (¬ (x_8 = 0)) := iff_f (not_iff dI) h_15
            refine wp_skip (B_n (T_n (R_reg (Y f 1 fun _ f => ?_))))
            obtain ⟨g_4, hF_38⟩ := nS hF_37
            refine Y f 1 fun _ f => ?_
            have f := f.st 66 (congrArg (Value.int .i64) (inR_wrap g_4))
            refine Y f 1 fun _ f => eT ?_
            obtain rfl := sI hF_38
            exact ⟨⟨m_8, s_4 + 1⟩, Nat.lt_succ_self _, M_12, hM_12, hn_4, f.kp, p_17⟩
          ·have k_22 := iff_f dI h_12
           refine wp_exit (T_x (T_x ?_))
           obtain rfl := sI hF_39
           exact .inr ⟨rfl, (), (sI hn_4).symm, M_12, hM_12, f.kp, p_16⟩
         ·rintro _ _ w_23 (⟨rfl, y_8, rfl, M_13, hM_13, f, p_18⟩ | ⟨rfl, y_9, rfl, M_14, hM_14, f, p_19⟩)
          ·refine B_r (T_r (E_ret1 f rfl (by kernel_rfl : Vc.look _ 2 = some (.int .i64 y_8)) ?_))
           obtain rfl := sI hF_32
           exact ⟨_, rfl, M_13, ((((hM_1.trans hM_2).trans hM_5).trans hM_11).trans hM_13), p_18, rfl⟩
          ·refine B_x (T_n (RR (Y f 1 fun _ f => eT (wp_ret (E_ret1 f rfl (by kernel_rfl : Vc.look _ 2 = some (.int .i64 0)) ?_)))))
           obtain rfl := sI hF_32
           exact ⟨_, rfl, M_14, ((((hM_1.trans hM_2).trans hM_5).trans hM_11).trans hM_14), p_19, rfl⟩
def ref03_wrong_k (n : Nat) : Nat → TD0 → Option Int
  | 0 => fun _ => none
  | k + 1 => ref03_wrong_b n (ref03_wrong_k n k)
def ref03_wrong (n : Nat) (d0 : TD0) : Option Int := ref03_wrong_k n n d0
theorem ref03_wrong_ok (n : Nat) (M : Mem) (c0 : List Value) (d0 : TD0) (h0 : Rep M (emb_TD0 d0) c0) (r : Int) (hF : ref03_wrong n d0 = some r) : Ok Tryz.prog M 96 [.agg c0.toArray] (fun _ v => v = .int .i64 r) := by
 have key : ∀ (k : Nat) (M : Mem) (c0 : List Value) (d0 : TD0) (h0 : Rep M (emb_TD0 d0) c0) (r : Int) (hF : ref03_wrong_k n k d0 = some r), Ok Tryz.prog M 96 [.agg c0.toArray] (fun _ v => v = .int .i64 r) := by
  intro k
  induction k with
  | zero => intro M c0 d0 h0 r hF; simp [ref03_wrong_k] at hF
  | succ k ih => intro M c0 d0 h0 r hF; exact ref03_wrong_b_ok n (ref03_wrong_k n k) ih M c0 d0 h0 r hF
 exact key n M c0 d0 h0 r hF
def ref03_Check (n : Nat) (d0 : TD0) : Option Int :=
  (ref03_deeper n d0 (24 : Int)).bind fun x_1 =>
  bif x_1 then
    (some ((30 : Int)))
  else
    (ref03_wrong n d0).bind fun x_2 =>
    bif (!(decide (x_2 = 0))) then
      (some (x_2))
    else
      (ref03_Count n d0).bind fun x_3 =>
      bif (decide ((4096 : Int) < x_3)) then
        (some ((3 : Int)))
      else
        some ((0 : Int))
theorem ref03_Check_ok (n : Nat) (M : Mem) (c0 : List Value) (d0 : TD0) (h0 : Rep M (emb_TD0 d0) c0) (r : Int) (hF : ref03_Check n d0 = some r) : Ok Tryz.prog M 75 [.agg c0.toArray] (fun _ v => v = .int .i64 r) := by
 unfold ref03_Check at hF
 intro M1 hM0 w0 H w p0
 replace h0 := Rep.mono hM0 _ _ h0
 obtain ⟨A_1, cap_1, A_2, cap_2, rfl, h_1, h_2⟩ := TD0.opn h0
 refine R_enter 14 Tryz.func75 rfl rfl (by simp) fun a0 f0 => RR (Y13 (cs := #[.int .i8 d0.fKind, .bool d0.fBool, .int .i64 d0.fNum, S d0.fText, .slice A_1 d0.fList.length cap_1, .slice A_2 d0.fKeys.length cap_2]) (T := 76) f0 p0 fun b_1 M_1 w_1 hM_1 hc_1 p_1 _ f => ?_)
 have hc_2 := fz_box hc_1
 refine Y f 1 fun _ f => eT (R_seq (RR (Z (v := .agg #[.int .i8 d0.fKind, .bool d0.fBool, .int .i64 d0.fNum, S d0.fText, .slice A_1 d0.fList.length cap_1, .slice A_2 d0.fKeys.length cap_2]) f (Y33 (cs := [.int .i8 d0.fKind, .bool d0.fBool, .int .i64 d0.fNum, S d0.fText, .slice A_1 d0.fList.length cap_1, .slice A_2 d0.fKeys.length cap_2]) rfl (ad := ⟨b_1, 0, none⟩) (fun j v h => p_1.cell (hc_2 j v h))) fun _ f => ?_)))
 obtain ⟨x_1, hx_1, hF_1⟩ := bS hF
 refine Y18 f p_1 (ref03_deeper_ok n _ _ d0 (TD0.shutx (x := d0) (h_1.mono hM_1) (h_2.mono hM_1)) (24 : Int) x_1 hx_1) fun w_2 p_2 _ f => eT (RcF f hF_1 (fun h_3 hF_2 => ?_) fun h_3 hF_3 => ?_)
 ·refine RR (Y f 1 fun _ f => eT (wp_ret (T_r (E_ret1 f rfl (by kernel_rfl : Vc.look _ 2 = some (.int .i64 30)) ?_))))
  obtain rfl := sI hF_2
  exact ⟨_, rfl, M_1, hM_1, p_2, rfl⟩
 ·refine wp_skip (T_n (RR (Z (v := .agg #[.int .i8 d0.fKind, .bool d0.fBool, .int .i64 d0.fNum, S d0.fText, .slice A_1 d0.fList.length cap_1, .slice A_2 d0.fKeys.length cap_2]) f (Y33 (cs := [.int .i8 d0.fKind, .bool d0.fBool, .int .i64 d0.fNum, S d0.fText, .slice A_1 d0.fList.length cap_1, .slice A_2 d0.fKeys.length cap_2]) rfl (ad := ⟨b_1, 0, none⟩) (fun j v h => p_2.cell (hc_2 j v h))) fun _ f => ?_)))
  obtain ⟨x_2, hx_2, hF_4⟩ := bS hF_3
  refine Y18 f p_2 (ref03_wrong_ok n _ _ d0 (TD0.shutx (x := d0) (h_1.mono hM_1) (h_2.mono hM_1)) x_2 hx_2) fun w_3 p_3 _ f => Y f 1 fun _ f => eT (R_seq (RR (Y f 2 fun _ f => eT (RcF f hF_4 (fun h_4 hF_5 => ?_) fun h_4 hF_6 => ?_))))
  ·have k_3 : ¬ (x_2 = 0) := (not_iff dI).1 h_4
   refine RR (Y f 2 fun _ f => eT (wp_ret (T_r (E_ret1 f rfl (by kernel_rfl : Vc.look _ 2 = some (.int .i64 x_2)) ?_))))
   obtain rfl := sI hF_5
   exact ⟨_, rfl, M_1, hM_1, p_3, rfl⟩
  ·have k_4 : ¬ (¬ (x_2 = 0)) := iff_f (not_iff dI) h_4
   refine wp_skip (T_n (R_seq (RR (Z (v := .agg #[.int .i8 d0.fKind, .bool d0.fBool, .int .i64 d0.fNum, S d0.fText, .slice A_1 d0.fList.length cap_1, .slice A_2 d0.fKeys.length cap_2]) f (Y33 (cs := [.int .i8 d0.fKind, .bool d0.fBool, .int .i64 d0.fNum, S d0.fText, .slice A_1 d0.fList.length cap_1, .slice A_2 d0.fKeys.length cap_2]) rfl (ad := ⟨b_1, 0, none⟩) (fun j v h => p_3.cell (hc_2 j v h))) fun _ f => ?_))))
   obtain ⟨x_3, hx_3, hF_7⟩ := bS hF_6
   refine Y18 f p_3 (ref03_Count_ok n _ _ d0 (TD0.shutx (x := d0) (h_1.mono hM_1) (h_2.mono hM_1)) x_3 hx_3) fun w_4 p_4 _ f => Y f 1 fun _ f => eT (RcF f hF_7 (fun h_5 hF_8 => ?_) fun h_5 hF_9 => ?_)
   ·have k_5 := dI.1 h_5
    refine RR (Y f 1 fun _ f => eT (wp_ret (T_r (E_ret1 f rfl (by kernel_rfl : Vc.look _ 2 = some (.int .i64 3)) ?_))))
    obtain rfl := sI hF_8
    exact ⟨_, rfl, M_1, hM_1, p_4, rfl⟩
   ·have k_6 := iff_f dI h_5
    refine wp_skip (T_n (RR (Y f 1 fun _ f => eT (wp_ret (E_ret1 f rfl (by kernel_rfl : Vc.look _ 2 = some (.int .i64 0)) ?_)))))
    obtain rfl := sI hF_9
    exact ⟨_, rfl, M_1, hM_1, p_4, rfl⟩
end Go.Proofs.YtalifkcchfkgmaaGreatDoor
end
