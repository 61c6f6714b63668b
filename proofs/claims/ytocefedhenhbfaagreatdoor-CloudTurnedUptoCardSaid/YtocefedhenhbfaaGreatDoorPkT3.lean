/-
  Texts of this claim, packed (what nothing names is left out): Q4i, Q3c, Q4h, Q4d, Q4g, TreeM, S6, VkG, AllM, AllH, S1, S2. Own work, partly printed by own programs. No condition.
-/
import Derived.Test.YtocefedhenhbfaaGreatDoorPkT2
import Derived.Test.YtocefedhenhbfaaGreatDoorPkT1
import Derived.Test.YtocefedhenhbfaaGreatDoorRows
set_option linter.unusedVariables false
set_option linter.unusedSimpArgs false
set_option maxHeartbeats 2000000
section
namespace Go.Proofs.YtocefedhenhbfaaGreatDoor
open Go Go.Vc Go.RowKit
def tree_order_s1 (n : Nat) (d0 : TE0) (K1 : List Int × Int) : Option (Lp (List Int × Int) (List Int)) :=
    bif (decide (K1.2 < (((List.replicate ((d0.fKeys.length : Nat) : Int).toNat (0 : Int)).length : Nat) : Int))) then
      ((getI K1.1 K1.2).bind fun X1 =>
      need (inR .i64 (K1.2 + 1)) <|
      some (.nx (K1.1.set K1.2.toNat K1.2, K1.2 + 1)))
    else
      some (.br K1.1)
def tree_order (n : Nat) (d0 : TE0) : Option (List Int) :=
  need (0 ≤ ((d0.fKeys.length : Nat) : Int) ∧ ((d0.fKeys.length : Nat) : Int) * 8 ≤ 140737488355328 ∧ ((d0.fKeys.length : Nat) : Int) ≤ 140737488355328) <|
  (loopF (tree_order_s1 n d0) n (List.replicate ((d0.fKeys.length : Nat) : Int).toNat (0 : Int), (0 : Int))).bind fun G1 =>
  (h_sortKeys n d0 G1).bind fun X2 =>
  some (X2)
theorem tree_order_ok (n : Nat) (M : Mem) (hG : GL M) (ad0 : Addr) (c0 : List Value) (d0 : TE0) (h0 : Rep M (emb_TE0 d0) c0) (q0 : ∀ j v, c0[j]? = some v → M.cell? (ad0.add j) = some v) (r : List Int) (hF : tree_order n d0 = some r) : OkH Tryz.prog M [] 96 [.pointer (some ad0)] (fun M' E' v => ∃ (A0 : Option Addr) (k0 : Nat) (s0 : List Value), v = .slice A0 r.length k0 ∧ E' = [.row 3 1 (.slice A0 r.length k0) r.length s0] ∧ RepSeq M' (r.map (Dat.int .i64)) s0) := by
 unfold tree_order at hF
 intro M1 hM0 w0 H w p0
 replace hG := GL.mono hM0 hG
 replace h0 := Rep.mono hM0 _ _ h0
 replace q0 := fun j v h => hM0.cell (q0 j v h)
 obtain ⟨Z1, P1, Z2, P2, rfl, B1, B2⟩ := TE0.opn h0
 refine R_enter 25 Tryz.func96 rfl rfl (by simp) fun a0 f0 => RR (Y13 (cs := #[.pointer (some ad0)]) (T := 98) f0 p0 fun Q1 V1 W1 J1 R1 N1 _ f => ?_)
 have R2 := fz_box R1
 refine Y f 1 fun _ f => eT (RR (Y15 f N1 R2 0 rfl fun _ f => Y f 2 fun _ f => Y15 f N1 (fzu J1 q0) 5 rfl fun _ f => Y f 1 fun _ f => ?_))
 obtain ⟨O1, F1⟩ := nS hF
 refine Y25 (f := (Dat.int .i64)) (x := (0 : Int)) (z := .int .i64 0) (m := ((d0.fKeys.length : Nat) : Int)) (bytes := 8) (e := 3) f N1 (by exact rfl) rfl rfl rfl rfl O1 fun Z3 P3 L1 W2 N2 D1 _ f => Y f 1 fun _ f => eT (R_seq (RR (Y f 3 fun _ f => eT (wp_block ?_))))
 obtain ⟨Q2, hL_1, F2⟩ := bS F1
 refine wp_mono (Q := fun e a w => (e = .exit 0 ∧ (∃ G1 : List Int, Q2 = G1 ∧ ∃ V3 : Mem, V1.le V3 ∧ ∃ (Z5 : Option Addr), ∃ (P6 : Nat), ∃ (L3 : List Value), RepSeq V3 (G1.map (Dat.int .i64)) L3 ∧ Frm 25 [(1, .pointer (some (⟨Q1, 0, none⟩))), (3, .slice Z5 G1.length P6)] a ∧ Hp w0 V3 ((Ent.row 3 1 (.slice Z5 G1.length P6) G1.length L3) :: H) w))) (R_loop (n := 25) (w0 := w0) (M := V1) (fun (x : Nat × (List Int × Int) × (Option Addr) × Nat × (List Value)) => match x with | (I1, K1, Z4, P4, L2) => [(1, .pointer (some (⟨Q1, 0, none⟩))), (3, .slice Z4 K1.1.length P4), (12, .int .i64 (((List.replicate ((d0.fKeys.length : Nat) : Int).toNat (0 : Int)).length : Nat) : Int)), (13, .int .i64 K1.2)]) (fun (x : Nat × (List Int × Int) × (Option Addr) × Nat × (List Value)) => match x with | (I1, K1, Z4, P4, L2) => ((Ent.row 3 1 (.slice Z4 K1.1.length P4) K1.1.length L2) :: H)) (fun (x : Nat × (List Int × Int) × (Option Addr) × Nat × (List Value)) (MM : Mem) => match x with | (I1, K1, Z4, P4, L2) => loopF (tree_order_s1 n d0) I1 K1 = some Q2 ∧ RepSeq MM (K1.1.map (Dat.int .i64)) L2) (fun (x : Nat × (List Int × Int) × (Option Addr) × Nat × (List Value)) => match x with | (I1, K1, Z4, P4, L2) => I1) (n, (List.replicate ((d0.fKeys.length : Nat) : Int).toNat (0 : Int), (0 : Int)), Z3, P3, L1) (f.kp) N2 ⟨hL_1, D1⟩ ?_) ?_
 ·rintro ⟨I1, K1, Z4, P4, L2⟩ V2 _ W3 J2 I_1 f N3
  obtain ⟨I_1L, D2⟩ := I_1
  obtain ⟨I2, r_1, rfl, hs_1, T1⟩ := loop_step I_1L
  unfold tree_order_s1 at hs_1
  refine RR (Y f 1 fun _ f => eT (R_seq (RcF f hs_1 (fun B3 F3 => ?_) fun B3 F6 => ?_)))
  ·have U1 := dI.1 B3
   refine wp_skip (T_n (R_seq (wp_block (RR (Y f 2 fun _ f => eT (R_reg (Y f 3 fun _ f => ?_)))))))
   obtain ⟨X1, S1, F4⟩ := bS F3
   obtain ⟨Q3, P5, H1, hcap_1⟩ := N3.rowAddr 0 rfl (getI_pos S1)
   have f := f.st 16 (H1)
   refine Z f (Y31 rfl (ad := ⟨Q3, 0, none⟩) (len := K1.1.length) (cap := P5) (k := .i64) (i := K1.2) (e := 3) (sz := 1) (getI_nn S1) (getI_lt S1)) fun _ f => ?_
   have f := f.st 16 (H1.symm)
   refine Y26 (it := K1.2) (d := K1.1) (f := (Dat.int .i64)) (xv := K1.2) (v := .int .i64 K1.2) f N3 H1 rfl rfl (by exact rfl) (szd_int .i64) S1 D2 fun W4 N4 D3 _ f => ?_
   have N5 : Hp w0 V2 ((Ent.row 3 1 (.slice Z4 (K1.1.set K1.2.toNat K1.2).length P4) (K1.1.set K1.2.toNat K1.2).length (L2.set K1.2.toNat (.int .i64 K1.2))) :: H) W4 := N4.rowVal (by rw [List.length_set])
   have f := Frm.set f 3 (v := .slice Z4 K1.1.length P4) (v' := .slice Z4 (K1.1.set K1.2.toNat K1.2).length P4) (by kernel_rfl) (by rw [List.length_set])
   have f := Frm.set f 16 (v := .slice Z4 K1.1.length P4) (v' := .slice Z4 (K1.1.set K1.2.toNat K1.2).length P4) (by kernel_rfl) (by rw [List.length_set])
   refine W_end rfl (B_n (T_n (R_reg ?_)))
   obtain ⟨O2, F5⟩ := nS F4
   refine Y f 1 fun _ f => ?_
   have f := f.st 20 (iW O2)
   refine Y f 1 fun _ f => eT ?_
   obtain rfl := sI F5
   exact ⟨⟨I2, (K1.1.set K1.2.toNat K1.2, K1.2 + 1), Z4, P4, L2.set K1.2.toNat (.int .i64 K1.2)⟩, Nat.lt_succ_self _, V2, J2, ⟨T1, D3⟩, f.kp, N5⟩
  ·have U2 := iff_f dI B3
   refine wp_exit (T_x (T_x ?_))
   obtain rfl := sI F6
   exact ⟨rfl, K1.1, (sI T1).symm, V2, J2, Z4, P4, L2, D2, f.kp, N3⟩
 ·rintro _ _ W6 ⟨rfl, G1, hq_, V3, J3, Z5, P6, L3, D4, f, N6⟩
  subst Q2
  refine B_x (T_n (RR (Y f 2 fun _ f => ?_)))
  obtain ⟨X2, S2, F7⟩ := bS F2
  refine Y17 (E := [Ent.row 3 1 (.slice Z5 G1.length P6) G1.length L3]) (H := (H)) f N6 (sortKeys_ok n (c0 := [.int .i8 d0.fKind, .bool d0.fBool, .int .i64 d0.fNum, S d0.fText, .slice Z1 d0.fList.length P1, .slice Z2 d0.fKeys.length P2]) (TE0.shutx (x := d0) (B1.mono (J1.trans J3)) (B2.mono (J1.trans J3))) (fzu (J1.trans J3) q0) ((fzu J3 R2) 0 _ rfl) _ _ _ D4 _ S2) fun _ V4 E_1 W7 J4 N7 q_1 _ f => ?_
  obtain ⟨L4, rfl, rfl, D5, hl_1⟩ := q_1
  have H2 : (.slice Z5 G1.length P6 : Value) = .slice Z5 X2.length P6 := by rw [hl_1]
  have N8 : Hp w0 V4 ((Ent.row 3 1 (.slice Z5 X2.length P6) X2.length L4) :: H) W7 := by rw [← H2]; exact N7
  have f := f.st 3 (H2)
  have f := f.st 21 (H2)
  refine eT (RR (Y f 2 fun _ f => eT (wp_ret (E_ret1 f rfl (by kernel_rfl : Vc.look _ 2 = some (.slice Z5 X2.length P6)) ?_))))
  obtain rfl := sI F7
  exact ⟨_, rfl, V4, _, ((J1.trans J3).trans J4), N8, ⟨Z5, P6, L4, rfl, rfl, D5⟩⟩
def tree_sorted_s1 (n : Nat) (rec_tree_sorted : TE0 → Option TE0) (d0 : TE0) (X1 : List Int) (K1 : Int × List TE0 × List (List UInt8)) : Option (Lp (Int × List TE0 × List (List UInt8)) (List TE0 × List (List UInt8))) :=
    bif (decide (K1.1 < ((X1.length : Nat) : Int))) then
      ((getI X1 K1.1).bind fun X2 =>
      (((getI d0.fKeys X2).bind fun X3 =>
        need ((K1.2.2.length + 1) * 16 ≤ 140737488355328) <|
        some (K1.2.2 ++ [X3]) : Option (List (List UInt8)))).bind fun G1 =>
      (((getI d0.fList X2).bind fun X5 =>
        (rec_tree_sorted X5).bind fun X6 =>
        need ((K1.2.1.length + 1) * 80 ≤ 140737488355328) <|
        some (K1.2.1 ++ [(⟨X6.fKind, (X6.fBool), X6.fNum, X6.fText, X6.fList, X6.fKeys⟩ : TE0)]) : Option (List TE0))).bind fun G2 =>
      need (inR .i64 (K1.1 + 1)) <|
      some (.nx (K1.1 + 1, G2, G1)))
    else
      some (.br (K1.2.1, K1.2.2))
def tree_sorted_s2 (n : Nat) (rec_tree_sorted : TE0 → Option TE0) (d0 : TE0) (K2 : Int × List TE0) : Option (Lp (Int × List TE0) (List TE0)) :=
    bif (decide (K2.1 < ((d0.fList.length : Nat) : Int))) then
      ((((getI d0.fList K2.1).bind fun X9 =>
        (rec_tree_sorted X9).bind fun X10 =>
        need ((K2.2.length + 1) * 80 ≤ 140737488355328) <|
        some (K2.2 ++ [(⟨X10.fKind, (X10.fBool), X10.fNum, X10.fText, X10.fList, X10.fKeys⟩ : TE0)]) : Option (List TE0))).bind fun G4 =>
      need (inR .i64 (K2.1 + 1)) <|
      some (.nx (K2.1 + 1, G4)))
    else
      some (.br K2.2)
def tree_sorted_b (n : Nat) (rec_tree_sorted : TE0 → Option TE0) (d0 : TE0) : Option TE0 :=
  bif (decide (d0.fKind = 5)) then
    ((tree_order n d0).bind fun X1 =>
    (loopF (tree_sorted_s1 n rec_tree_sorted d0 X1) n ((0 : Int), ([] : List TE0), ([] : List (List UInt8)))).bind fun G3 =>
    some ((⟨d0.fKind, (d0.fBool), d0.fNum, d0.fText, G3.1, G3.2⟩ : TE0)))
  else
    (loopF (tree_sorted_s2 n rec_tree_sorted d0) n ((0 : Int), ([] : List TE0))).bind fun G5 =>
    some ((⟨d0.fKind, (d0.fBool), d0.fNum, d0.fText, G5, ([] : List (List UInt8))⟩ : TE0))
set_option maxRecDepth 20000 in
theorem tree_sorted_b_ok (n : Nat) (rec_tree_sorted : TE0 → Option TE0) (hrec_tree_sorted : ∀ (M : Mem) (hG : GL M) (ad0 : Addr) (c0 : List Value) (d0 : TE0) (h0 : Rep M (emb_TE0 d0) c0) (q0 : ∀ j v, c0[j]? = some v → M.cell? (ad0.add j) = some v) (r : TE0) (hF : rec_tree_sorted d0 = some r), Ok Tryz.prog M 70 [.pointer (some ad0)] (fun M' v => ∃ (c0 : List Value), v = .agg c0.toArray ∧ Rep M' (emb_TE0 r) c0)) (M : Mem) (hG : GL M) (ad0 : Addr) (c0 : List Value) (d0 : TE0) (h0 : Rep M (emb_TE0 d0) c0) (q0 : ∀ j v, c0[j]? = some v → M.cell? (ad0.add j) = some v) (r : TE0) (hF : tree_sorted_b n rec_tree_sorted d0 = some r) : Ok Tryz.prog M 70 [.pointer (some ad0)] (fun M' v => ∃ (c0 : List Value), v = .agg c0.toArray ∧ Rep M' (emb_TE0 r) c0) := by
 unfold tree_sorted_b at hF
 intro M1 hM0 w0 H w p0
 replace hG := GL.mono hM0 hG
 replace h0 := Rep.mono hM0 _ _ h0
 replace q0 := fun j v h => hM0.cell (q0 j v h)
 obtain ⟨Z1, P1, Z2, P2, rfl, B1, B2⟩ := TE0.opn h0
 refine R_enter 84 Tryz.func70 rfl rfl (by simp) fun a0 f0 => RR (Y12 f0 p0 (.cells #[.int .i8 0, .bool false, .int .i64 0, S [], .slice none 0 0, .slice none 0 0] 26 (0, 0)) fun Q1 W1 N1 _ f => eT (R_seq (R_mix (E := []) (Hr := ((Ent.obj Q1 (.cells #[.int .i8 0, .bool false, .int .i64 0, S [], .slice none 0 0, .slice none 0 0] 26 (0, 0))) :: H)) [(0, true), (1, true), (2, true), (3, true), (4, true), (5, true), (6, true), (7, true), (8, true), (9, true), (10, true), (11, true), (12, true), (13, true), (14, true), (15, true), (16, true), (17, false), (18, false)] N1 (by kernel_rfl) (by kernel_rfl) rfl (by kernel_rfl) (Y0 default f 3 fun _ f => M_eq (v := .int .i8 d0.fKind) f (by kernel_rfl) (by kernel_rfl) rfl rfl (fun _ pq => Y33 (v := .int .i8 d0.fKind) rfl (ad := ad0.add 0) (pq.cell (q0 0 _ rfl))) fun _ f => Y0 default f 3 fun _ f => M_eq (v := .bool d0.fBool) f (by kernel_rfl) (by kernel_rfl) rfl rfl (fun _ pq => Y33 (v := .bool d0.fBool) rfl (ad := ad0.add 1) (pq.cell (q0 1 _ rfl))) fun _ f => Y0 default f 3 fun _ f => M_eq (v := .int .i64 d0.fNum) f (by kernel_rfl) (by kernel_rfl) rfl rfl (fun _ pq => Y33 (v := .int .i64 d0.fNum) rfl (ad := ad0.add 2) (pq.cell (q0 2 _ rfl))) fun _ f => Y0 default f 3 fun _ f => M_eq (v := S d0.fText) f (by kernel_rfl) (by kernel_rfl) rfl rfl (fun _ pq => Y33 (v := S d0.fText) rfl (ad := ad0.add 3) (pq.cell (q0 3 _ rfl))) fun _ f => Y0 default f 1 fun _ f => M_fix (E := []) fun W2 N2 => Y12 f N2 (.cells #[.int .i8 0, .bool false, .int .i64 0, S [], .slice none 0 0, .slice none 0 0] 26 (0, 0)) fun Q2 W3 N3 _ f => W_end rfl (M_go (M1 := M1) (E := [Ent.obj Q2 (.cells #[.int .i8 0, .bool false, .int .i64 0, S [], .slice none 0 0, .slice none 0 0] 26 (0, 0))]) (mR _) N3 (M_fix (E := [Ent.obj Q2 (.cells #[.int .i8 0, .bool false, .int .i64 0, S [], .slice none 0 0, .slice none 0 0] 26 (0, 0))]) fun W4 N4 => Y28 (vs := [.int .i8 d0.fKind, .bool d0.fBool, .int .i64 d0.fNum, S d0.fText, .slice none 0 0, .slice none 0 0]) (j := 0) f N4 rfl rfl (by simp [Value.oneCell', S]) (by simp) (by decide) (cs' := #[.int .i8 d0.fKind, .bool d0.fBool, .int .i64 d0.fNum, S d0.fText, .slice none 0 0, .slice none 0 0]) (by kernel_rfl) fun W5 N5 _ f => W_end rfl (M_go (M1 := M1) (E := [Ent.obj Q2 (.cells #[.int .i8 d0.fKind, .bool d0.fBool, .int .i64 d0.fNum, S d0.fText, .slice none 0 0, .slice none 0 0] 26 (0, 0))]) (mR _) N5 (M_end rfl fun W6 N6 => T_n (R_seq (RR (Y f 3 fun _ f => Y15 f N6 q0 0 rfl fun _ f => Y f 1 fun _ f => eT (RcF f hF (fun B3 F1 => ?_) fun B3 F15 => ?_))))))))))))
 ·have U1 := dI.1 B3
  refine R_seq (RR (Y f 1 fun _ f => ?_))
  obtain ⟨X1, S1, F2⟩ := bS F1
  refine Y17 (E := []) (H := ((Ent.obj Q2 (.cells #[.int .i8 d0.fKind, .bool d0.fBool, .int .i64 d0.fNum, S d0.fText, .slice none 0 0, .slice none 0 0] 26 (0, 0))) :: (Ent.obj Q1 (.cells #[.int .i8 0, .bool false, .int .i64 0, S [], .slice none 0 0, .slice none 0 0] 26 (0, 0))) :: H)) f N6 (tree_order_ok n _ hG ad0 [.int .i8 d0.fKind, .bool d0.fBool, .int .i64 d0.fNum, S d0.fText, .slice Z1 d0.fList.length P1, .slice Z2 d0.fKeys.length P2] d0 (TE0.shutx (x := d0) B1 B2) (fz_at (q0) 0 rfl) X1 S1) fun _ V1 E_1 W7 J1 N7 q_1 _ f => ?_
  obtain ⟨Z3, P3, L1, rfl, rfl, D1⟩ := q_1
  refine Y f 2 fun _ f => eT (wp_block ?_)
  obtain ⟨Z4, P4, H1⟩ : ∃ A cap, Value.slice none 0 0 = .slice A ([] : List TE0).length cap := ⟨none, 0, rfl⟩
  have N8 : Hp w0 V1 ((Ent.row 26 6 (.slice Z4 ([] : List TE0).length P4) ([] : List TE0).length []) :: (Ent.row 3 1 (.slice Z3 X1.length P3) X1.length L1) :: (Ent.obj Q2 (.cells #[.int .i8 d0.fKind, .bool d0.fBool, .int .i64 d0.fNum, S d0.fText, .slice Z4 ([] : List TE0).length P4, .slice none 0 0] 26 (0, 0))) :: (Ent.obj Q1 (.cells #[.int .i8 0, .bool false, .int .i64 0, S [], .slice none 0 0, .slice none 0 0] 26 (0, 0))) :: H) W7 := by rw [← H1]; exact N7.nilRow 26 6
  have D2 : RepSeq V1 (([] : List TE0).map emb_TE0) [] := rfl
  obtain ⟨Z5, P5, H2⟩ : ∃ A cap, Value.slice none 0 0 = .slice A ([] : List (List UInt8)).length cap := ⟨none, 0, rfl⟩
  have N9 : Hp w0 V1 ((Ent.row 9 1 (.slice Z5 ([] : List (List UInt8)).length P5) ([] : List (List UInt8)).length []) :: (Ent.row 26 6 (.slice Z4 ([] : List TE0).length P4) ([] : List TE0).length []) :: (Ent.row 3 1 (.slice Z3 X1.length P3) X1.length L1) :: (Ent.obj Q2 (.cells #[.int .i8 d0.fKind, .bool d0.fBool, .int .i64 d0.fNum, S d0.fText, .slice Z4 ([] : List TE0).length P4, .slice Z5 ([] : List (List UInt8)).length P5] 26 (0, 0))) :: (Ent.obj Q1 (.cells #[.int .i8 0, .bool false, .int .i64 0, S [], .slice none 0 0, .slice none 0 0] 26 (0, 0))) :: H) W7 := by rw [← H2]; exact N8.nilRow 9 1
  have D3 : RepSeq V1 (([] : List (List UInt8)).map Dat.str) [] := rfl
  have N14 := N9.pl [4, 4, 4, 3, 4]
  obtain ⟨Q3, hL_1, F3⟩ := bS F2
  refine wp_mono (Q := fun e a w => (e = .exit 0 ∧ (∃ G3 : List TE0 × List (List UInt8), Q3 = G3 ∧ ∃ V7 : Mem, V1.le V7 ∧ ∃ (Z22 : Option Addr), ∃ (P23 : Nat), ∃ (L10 : List Value), ∃ (Z23 : Option Addr), ∃ (P24 : Nat), ∃ (L11 : List Value), RepSeq V7 (G3.1.map emb_TE0) L10 ∧ RepSeq V7 (G3.2.map Dat.str) L11 ∧ Frm 84 [(2, .pointer (some (⟨Q1, 0, none⟩))), (3, .pointer (some (⟨Q2, 0, none⟩)))] a ∧ Hp w0 V7 ((Ent.row 26 6 (.slice Z22 G3.1.length P23) G3.1.length L10) :: (Ent.row 9 1 (.slice Z23 G3.2.length P24) G3.2.length L11) :: (Ent.row 3 1 (.slice Z3 X1.length P3) X1.length L1) :: (Ent.obj Q2 (.cells #[.int .i8 d0.fKind, .bool d0.fBool, .int .i64 d0.fNum, S d0.fText, .slice Z22 G3.1.length P23, .slice Z23 G3.2.length P24] 26 (0, 0))) :: (Ent.obj Q1 (.cells #[.int .i8 0, .bool false, .int .i64 0, S [], .slice none 0 0, .slice none 0 0] 26 (0, 0))) :: H) w))) (R_loop (n := 84) (w0 := w0) (M := V1) (fun (x : Nat × (Int × List TE0 × List (List UInt8)) × (Option Addr) × Nat × (List Value) × (Option Addr) × Nat × (List Value)) => match x with | (I1, K1, Z6, P6, L2, Z7, P7, L3) => [(0, .pointer (some ad0)), (2, .pointer (some (⟨Q1, 0, none⟩))), (3, .pointer (some (⟨Q2, 0, none⟩))), (30, .slice Z3 X1.length P3), (31, .int .i64 ((X1.length : Nat) : Int)), (32, .int .i64 K1.1)]) (fun (x : Nat × (Int × List TE0 × List (List UInt8)) × (Option Addr) × Nat × (List Value) × (Option Addr) × Nat × (List Value)) => match x with | (I1, K1, Z6, P6, L2, Z7, P7, L3) => ((Ent.row 26 6 (.slice Z6 K1.2.1.length P6) K1.2.1.length L2) :: (Ent.row 9 1 (.slice Z7 K1.2.2.length P7) K1.2.2.length L3) :: (Ent.row 3 1 (.slice Z3 X1.length P3) X1.length L1) :: (Ent.obj Q2 (.cells #[.int .i8 d0.fKind, .bool d0.fBool, .int .i64 d0.fNum, S d0.fText, .slice Z6 K1.2.1.length P6, .slice Z7 K1.2.2.length P7] 26 (0, 0))) :: (Ent.obj Q1 (.cells #[.int .i8 0, .bool false, .int .i64 0, S [], .slice none 0 0, .slice none 0 0] 26 (0, 0))) :: H)) (fun (x : Nat × (Int × List TE0 × List (List UInt8)) × (Option Addr) × Nat × (List Value) × (Option Addr) × Nat × (List Value)) (MM : Mem) => match x with | (I1, K1, Z6, P6, L2, Z7, P7, L3) => loopF (tree_sorted_s1 n rec_tree_sorted d0 X1) I1 K1 = some Q3 ∧ RepSeq MM (K1.2.1.map emb_TE0) L2 ∧ RepSeq MM (K1.2.2.map Dat.str) L3) (fun (x : Nat × (Int × List TE0 × List (List UInt8)) × (Option Addr) × Nat × (List Value) × (Option Addr) × Nat × (List Value)) => match x with | (I1, K1, Z6, P6, L2, Z7, P7, L3) => I1) (n, ((0 : Int), ([] : List TE0), ([] : List (List UInt8))), Z4, P4, [], Z5, P5, []) (f.kp) N14 ⟨hL_1, D2, D3⟩ ?_) ?_
  ·rintro ⟨I1, K1, Z6, P6, L2, Z7, P7, L3⟩ V2 _ W8 J2 I_1 f N15
   obtain ⟨I_1L, D4, D5⟩ := I_1
   obtain ⟨I2, r_1, rfl, hs_1, T1⟩ := loop_step I_1L
   unfold tree_sorted_s1 at hs_1
   refine RR (Y f 1 fun _ f => eT (R_seq (RcF f hs_1 (fun B4 F4 => ?_) fun B4 F14 => ?_)))
   ·have U2 := dI.1 B4
    refine wp_skip (T_n (R_seq (wp_block (RR ?_))))
    obtain ⟨X2, S2, F5⟩ := bS F4
    obtain ⟨Q4, P8, H3, hcap_1⟩ := N15.rowAddr 2 rfl (getI_pos S2)
    have f := f.st 30 (H3)
    refine Z f (Y31 rfl (ad := ⟨Q4, 0, none⟩) (len := X1.length) (cap := P8) (k := .i64) (i := K1.1) (e := 3) (sz := 1) (getI_nn S2) (getI_lt S2)) fun _ f => ?_
    have f := f.st 30 (H3.symm)
    obtain ⟨c_1, -, D6, R1⟩ := RepSeq.get K1.1.toNat (szd_all (szd_int .i64)) (RepSeq.mono J2 _ _ D1) (getI_map S2)
    obtain rfl : c_1 = [.int .i64 X2] := D6
    refine Z f (Y33 (v := .int .i64 X2) rfl (ad := (⟨Q4, 0, none⟩ : Addr).add (K1.1.toNat * 1)) (by simpa [Addr.add] using (fun j v h => row_at (N15.rowCell 2 rfl H3) R1 j v h) 0 _ rfl)) fun _ f => Y f 1 fun _ f => eT (R_seq ?_)
    obtain ⟨j_1, hj_1, F6⟩ := bS F5
    refine R_mid (fun a_46 W17 => ∃ G1 : List (List UInt8), j_1 = G1 ∧ ∃ V3 : Mem, V2.le V3 ∧ ∃ (Z10 : Option Addr), ∃ (P11 : Nat), ∃ (L6 : List Value), RepSeq V3 (G1.map Dat.str) L6 ∧ Frm 84 [(0, .pointer (some ad0)), (2, .pointer (some (⟨Q1, 0, none⟩))), (3, .pointer (some (⟨Q2, 0, none⟩))), (5, .int .i64 X2), (30, .slice Z3 X1.length P3), (31, .int .i64 ((X1.length : Nat) : Int)), (32, .int .i64 K1.1)] a_46 ∧ Hp w0 V3 ((Ent.row 9 1 (.slice Z10 G1.length P11) G1.length L6) :: (Ent.row 26 6 (.slice Z6 K1.2.1.length P6) K1.2.1.length L2) :: (Ent.row 3 1 (.slice Z3 X1.length P3) X1.length L1) :: (Ent.obj Q2 (.cells #[.int .i8 d0.fKind, .bool d0.fBool, .int .i64 d0.fNum, S d0.fText, .slice Z6 K1.2.1.length P6, .slice Z10 G1.length P11] 26 (0, 0))) :: (Ent.obj Q1 (.cells #[.int .i8 0, .bool false, .int .i64 0, S [], .slice none 0 0, .slice none 0 0] 26 (0, 0))) :: H) W17) ?_ ?_
    ·have N25 := N15.pl [4, 4, 4, 3, 4]
     obtain ⟨X3, S3, F7⟩ := bS hj_1
     obtain ⟨O1, F8⟩ := nS F7
     refine R_plan (ks := [11, 12]) (E := [Ent.row 9 1 (.slice Z7 K1.2.2.length P7) K1.2.2.length L3]) (Hr := ((Ent.row 26 6 (.slice Z6 K1.2.1.length P6) K1.2.1.length L2) :: (Ent.row 3 1 (.slice Z3 X1.length P3) X1.length L1) :: (Ent.obj Q2 (.cells #[.int .i8 d0.fKind, .bool d0.fBool, .int .i64 d0.fNum, S d0.fText, .slice Z6 K1.2.1.length P6, .slice Z7 K1.2.2.length P7] 26 (0, 0))) :: (Ent.obj Q1 (.cells #[.int .i8 0, .bool false, .int .i64 0, S [], .slice none 0 0, .slice none 0 0] 26 (0, 0))) :: H)) (.quiet 0 (.quiet 1 (.quiet 2 (.quiet 3 (.quiet 4 (.quiet 5 (.quiet 6 (.quiet 7 (.quiet 8 (.alt 9 (.alt 10 .done .none) .none)))))))))) N25 (by kernel_rfl) (by kernel_rfl) (by kernel_rfl) (Y1 (v := .pointer (some (⟨Q2, 5, none⟩))) rfl f rfl rfl (fun _ _ => by kernel_rfl) fun _ f => Y1 (v := .slice Z7 K1.2.2.length P7) rfl f rfl rfl (fun _ pq => Y33 (v := .slice Z7 K1.2.2.length P7) rfl (ad := ⟨Q2, 5, none⟩) (pq.ownCell 2 rfl 5)) fun _ f => Y1 (v := .pointer (some ad0)) rfl f rfl rfl (fun _ _ => by kernel_rfl) fun _ f => Y1 (v := .pointer (some ad0)) rfl f rfl rfl (fun _ _ => by kernel_rfl) fun _ f => Y1 (v := .pointer (some (ad0.add 5))) rfl f rfl rfl (fun _ _ => by kernel_rfl) fun _ f => Y1 (v := .slice Z2 d0.fKeys.length P2) rfl f rfl rfl (fun _ pq => Y33 (v := .slice Z2 d0.fKeys.length P2) rfl (ad := ad0.add 5) (pq.cell ((fzu (J1.trans J2) q0) 5 _ rfl))) fun _ f => Y1 (v := .int .i64 X2) rfl f rfl rfl (fun _ _ => by kernel_rfl) fun _ f => ?_)
     obtain ⟨C2, c_3, e_2, -, D9, R3⟩ := Sli.at_ (B2.mono (J1.trans J2)) S3
     obtain rfl : c_3 = [S X3] := D9
     refine Y1 (v := .pointer (some (C2.add (X2.toNat * 1)))) rfl f rfl rfl (fun _ pq => Y32 e_2 rfl (len := d0.fKeys.length) (cap := P2) (k := .i64) (i := X2) (e := 9) (sz := 1) (getI_nn S3) (getI_lt S3)) fun _ f => Y1 (v := S X3) rfl f rfl rfl (fun _ pq => Y33 (v := S X3) rfl (ad := C2.add (X2.toNat * 1)) (pq.cell (R3 0 _ rfl))) fun _ f => N_alt rfl (fun W11 N26 => ?_) ?_
     ·refine V_allocS (k := 1) (c := 1) f N26 (.cells #[S X3] 9 (0, 0)) (by kernel_rfl) (fun _ => by kernel_rfl) fun Q6 W12 N27 _ f => W_end rfl (N_goN 2 (mR _) N27 rfl (N_alt rfl (fun W13 N28 => ?_) ?_))
      ·have N29 := N28.pl [1]
       refine Y22 (z := S []) (f := Dat.str) (xs := K1.2.2) (ys := [X3]) (news := [S X3]) (ad := ⟨Q6, 0, none⟩) (m := 1) (c := 1) f N29 D5 (by exact ⟨_, _, rfl, rfl, rfl⟩) rfl rfl rfl rfl (own_cells (N29.ownCell 1 rfl) 0 rfl) (by exact O1) (by have hg_ := O1; first | omega | (simp only [List.length_cons, List.length_nil] at *; omega)) fun Z9 P10 L5 W14 N30 D10 _ f => ?_
       have N31 := N30.pl [1]
       have N32 := N31.drop
       refine W_end rfl (N_goN 1 (mR _) N32 rfl (N_tail fun W15 N33 => Y f 1 fun _ f => Y27 f N33 3 rfl rfl (b := Q2) (j := 5) (v := .slice Z9 (K1.2.2 ++ [X3]).length P10) rfl (by exact rfl) (by simp) (by simp) ((Ent.row 9 1 (.slice Z9 (K1.2.2 ++ [X3]).length P10) (K1.2.2 ++ [X3]).length L5) :: (Ent.row 26 6 (.slice Z6 K1.2.1.length P6) K1.2.1.length L2) :: (Ent.row 3 1 (.slice Z3 X1.length P3) X1.length L1) :: (Ent.obj Q2 (.cells #[.int .i8 d0.fKind, .bool d0.fBool, .int .i64 d0.fNum, S d0.fText, .slice Z6 K1.2.1.length P6, .slice Z9 (K1.2.2 ++ [X3]).length P10] 26 (0, 0))) :: (Ent.obj Q1 (.cells #[.int .i8 0, .bool false, .int .i64 0, S [], .slice none 0 0, .slice none 0 0] 26 (0, 0))) :: H) rfl fun W16 N34 _ f => W_end rfl (N_te (T_n ?_))))
       exact ⟨K1.2.2 ++ [X3], (sI F8).symm, V2, (mR _), Z9, P10, L5, D10, f.kp, N34⟩
      exact N_none
     exact N_none
    ·rintro a_46 W17 ⟨G1, hq_1, V3, J3, Z10, P11, L6, D11, f, N35⟩
     subst j_1
     refine T_n ?_
     obtain ⟨j_2, hj_2, F9⟩ := bS F6
     refine R_mid (fun a_69 W29 => ∃ G2 : List TE0, j_2 = G2 ∧ ∃ V6 : Mem, V3.le V6 ∧ ∃ (Z21 : Option Addr), ∃ (P22 : Nat), ∃ (L9 : List Value), RepSeq V6 (G2.map emb_TE0) L9 ∧ Frm 84 [(0, .pointer (some ad0)), (2, .pointer (some (⟨Q1, 0, none⟩))), (3, .pointer (some (⟨Q2, 0, none⟩))), (30, .slice Z3 X1.length P3), (31, .int .i64 ((X1.length : Nat) : Int)), (32, .int .i64 K1.1)] a_69 ∧ Hp w0 V6 ((Ent.row 26 6 (.slice Z21 G2.length P22) G2.length L9) :: (Ent.row 9 1 (.slice Z10 G1.length P11) G1.length L6) :: (Ent.row 3 1 (.slice Z3 X1.length P3) X1.length L1) :: (Ent.obj Q2 (.cells #[.int .i8 d0.fKind, .bool d0.fBool, .int .i64 d0.fNum, S d0.fText, .slice Z21 G2.length P22, .slice Z10 G1.length P11] 26 (0, 0))) :: (Ent.obj Q1 (.cells #[.int .i8 0, .bool false, .int .i64 0, S [], .slice none 0 0, .slice none 0 0] 26 (0, 0))) :: H) W29) ?_ ?_
     ·have N46 := N35.pl [4, 4, 4, 3, 4]
      obtain ⟨X5, S4, F10⟩ := bS hj_2
      obtain ⟨X6, S5, F11⟩ := bS F10
      obtain ⟨O2, F12⟩ := nS F11
      refine R_plan (ks := [11, 12]) (E := [Ent.row 26 6 (.slice Z6 K1.2.1.length P6) K1.2.1.length L2]) (Hr := ((Ent.row 9 1 (.slice Z10 G1.length P11) G1.length L6) :: (Ent.row 3 1 (.slice Z3 X1.length P3) X1.length L1) :: (Ent.obj Q2 (.cells #[.int .i8 d0.fKind, .bool d0.fBool, .int .i64 d0.fNum, S d0.fText, .slice Z6 K1.2.1.length P6, .slice Z10 G1.length P11] 26 (0, 0))) :: (Ent.obj Q1 (.cells #[.int .i8 0, .bool false, .int .i64 0, S [], .slice none 0 0, .slice none 0 0] 26 (0, 0))) :: H)) (.quiet 0 (.quiet 1 (.quiet 2 (.quiet 3 (.quiet 4 (.quiet 5 (.quiet 6 (.quiet 7 (.alt 8 (.alt 9 (.alt 10 .done .none) .none) .none))))))))) N46 (by kernel_rfl) (by kernel_rfl) (by kernel_rfl) (Y1 (v := .pointer (some (⟨Q2, 4, none⟩))) rfl f rfl rfl (fun _ _ => by kernel_rfl) fun _ f => Y1 (v := .slice Z6 K1.2.1.length P6) rfl f rfl rfl (fun _ pq => Y33 (v := .slice Z6 K1.2.1.length P6) rfl (ad := ⟨Q2, 4, none⟩) (pq.ownCell 2 rfl 4)) fun _ f => Y1 (v := .pointer (some ad0)) rfl f rfl rfl (fun _ _ => by kernel_rfl) fun _ f => Y1 (v := .pointer (some ad0)) rfl f rfl rfl (fun _ _ => by kernel_rfl) fun _ f => Y1 (v := .pointer (some (ad0.add 4))) rfl f rfl rfl (fun _ _ => by kernel_rfl) fun _ f => Y1 (v := .slice Z1 d0.fList.length P1) rfl f rfl rfl (fun _ pq => Y33 (v := .slice Z1 d0.fList.length P1) rfl (ad := ad0.add 4) (pq.cell ((fzu ((J1.trans J2).trans J3) q0) 4 _ rfl))) fun _ f => Y1 (v := .int .i64 X2) rfl f rfl rfl (fun _ _ => by kernel_rfl) fun _ f => ?_)
      obtain ⟨C4, c_6, e_4, -, D15, R5⟩ := Sli.at_ (B1.mono ((J1.trans J2).trans J3)) S4
      obtain ⟨Z16, P17, Z17, P18, rfl, B9, B10⟩ := TE0.opn D15
      refine Y1 (v := .pointer (some (C4.add (X2.toNat * 6)))) rfl f rfl rfl (fun _ pq => Y32 e_4 rfl (len := d0.fList.length) (cap := P1) (k := .i64) (i := X2) (e := 26) (sz := 6) (getI_nn S4) (getI_lt S4)) fun _ f => N_alt rfl (fun W21 N47 => ?_) ?_
      ·refine Y16 f N47 (hrec_tree_sorted _ (GL.mono ((J1.trans J2).trans J3) hG) (C4.add (X2.toNat * 6)) [.int .i8 X5.fKind, .bool X5.fBool, .int .i64 X5.fNum, S X5.fText, .slice Z16 X5.fList.length P17, .slice Z17 X5.fKeys.length P18] X5 (TE0.shutx (x := X5) B9 B10) (fz_at (R5) 0 rfl) X6 S5) fun _ V5 W22 J5 N48 q_3 _ f => ?_
       obtain ⟨c_7, rfl, D16⟩ := q_3
       obtain ⟨Z18, P19, Z19, P20, rfl, B11, B12⟩ := TE0.opn D16
       refine W_end rfl (N_goN 1 J5 N48 rfl (N_alt rfl (fun W23 N49 => ?_) ?_))
       ·refine V_allocS (k := 1) (c := 1) f N49 (.cells #[.int .i8 X6.fKind, .bool X6.fBool, .int .i64 X6.fNum, S X6.fText, .slice Z18 X6.fList.length P19, .slice Z19 X6.fKeys.length P20] 26 (0, 0)) (by kernel_rfl) (fun _ => by kernel_rfl) fun Q8 W24 N50 _ f => W_end rfl (N_goN 2 J5 N50 rfl (N_alt rfl (fun W25 N51 => ?_) ?_))
        ·have N52 := N51.pl [1]
         refine Y22 (z := .agg #[.int .i8 0, .bool false, .int .i64 0, S [], .slice none 0 0, .slice none 0 0]) (f := emb_TE0) (xs := K1.2.1) (ys := [(⟨X6.fKind, (X6.fBool), X6.fNum, X6.fText, X6.fList, X6.fKeys⟩ : TE0)]) (news := [.int .i8 X6.fKind, .bool X6.fBool, .int .i64 X6.fNum, S X6.fText, .slice Z18 X6.fList.length P19, .slice Z19 X6.fKeys.length P20]) (ad := ⟨Q8, 0, none⟩) (m := 1) (c := 1) f N52 (RepSeq.mono (J3.trans J5) _ _ D4) (by exact ⟨_, _, rfl, TE0.shut B11 B12, rfl⟩) rfl rfl rfl rfl (own_cells (N52.ownCell 1 rfl) 0 rfl) (by exact O2) (by have hg_ := O2; first | omega | (simp only [List.length_cons, List.length_nil] at *; omega)) fun Z20 P21 L8 W26 N53 D17 _ f => ?_
         have N54 := N53.pl [1]
         have N55 := N54.drop
         refine W_end rfl (N_goN 1 J5 N55 rfl (N_tail fun W27 N56 => Y f 1 fun _ f => Y27 f N56 3 rfl rfl (b := Q2) (j := 4) (v := .slice Z20 (K1.2.1 ++ [(⟨X6.fKind, (X6.fBool), X6.fNum, X6.fText, X6.fList, X6.fKeys⟩ : TE0)]).length P21) rfl (by exact rfl) (by simp) (by simp) ((Ent.row 26 6 (.slice Z20 (K1.2.1 ++ [(⟨X6.fKind, (X6.fBool), X6.fNum, X6.fText, X6.fList, X6.fKeys⟩ : TE0)]).length P21) (K1.2.1 ++ [(⟨X6.fKind, (X6.fBool), X6.fNum, X6.fText, X6.fList, X6.fKeys⟩ : TE0)]).length L8) :: (Ent.row 9 1 (.slice Z10 G1.length P11) G1.length L6) :: (Ent.row 3 1 (.slice Z3 X1.length P3) X1.length L1) :: (Ent.obj Q2 (.cells #[.int .i8 d0.fKind, .bool d0.fBool, .int .i64 d0.fNum, S d0.fText, .slice Z20 (K1.2.1 ++ [(⟨X6.fKind, (X6.fBool), X6.fNum, X6.fText, X6.fList, X6.fKeys⟩ : TE0)]).length P21, .slice Z10 G1.length P11] 26 (0, 0))) :: (Ent.obj Q1 (.cells #[.int .i8 0, .bool false, .int .i64 0, S [], .slice none 0 0, .slice none 0 0] 26 (0, 0))) :: H) rfl fun W28 N57 _ f => W_end rfl (N_te (T_n ?_))))
         exact ⟨K1.2.1 ++ [(⟨X6.fKind, (X6.fBool), X6.fNum, X6.fText, X6.fList, X6.fKeys⟩ : TE0)], (sI F12).symm, V5, J5, Z20, P21, L8, D17, f.kp, N57⟩
        exact N_none
       exact N_none
      exact N_none
     ·rintro a_69 W29 ⟨G2, hq_2, V6, J6, Z21, P22, L9, D18, f, N58⟩
      subst j_2
      refine B_n (T_n (R_reg ?_))
      obtain ⟨O3, F13⟩ := nS F9
      refine Y f 1 fun _ f => ?_
      have f := f.st 60 (iW O3)
      refine Y f 1 fun _ f => eT ?_
      obtain rfl := sI F13
      exact ⟨⟨I2, (K1.1 + 1, G2, G1), Z21, P22, L9, Z10, P11, L6⟩, Nat.lt_succ_self _, V6, ((J2.trans J3).trans J6), ⟨T1, D18, (RepSeq.mono J6 _ _ D11)⟩, f.kp, N58⟩
   ·have U3 := iff_f dI B4
    refine wp_exit (T_x (T_x ?_))
    obtain rfl := sI F14
    exact ⟨rfl, (K1.2.1, K1.2.2), (sI T1).symm, V2, J2, Z6, P6, L2, Z7, P7, L3, D4, D5, f.kp, N15⟩
  ·rintro _ _ W31 ⟨rfl, G3, hq_, V7, J7, Z22, P23, L10, Z23, P24, L11, D19, D20, f, N59⟩
   subst Q3
   refine B_x (T_n (RR (Z (v := .agg #[.int .i8 d0.fKind, .bool d0.fBool, .int .i64 d0.fNum, S d0.fText, .slice Z22 G3.1.length P23, .slice Z23 G3.2.length P24]) f (Y34 (cs := [.int .i8 d0.fKind, .bool d0.fBool, .int .i64 d0.fNum, S d0.fText, .slice Z22 G3.1.length P23, .slice Z23 G3.2.length P24]) rfl (ad := ⟨Q2, 0, none⟩) (own_cells (N59.ownCell 3 rfl) 0 rfl)) fun _ f => ?_)))
   obtain ⟨Z24, P25, V8, H4, J8, N60, B13⟩ := N59.rowSli (f := emb_TE0) (xs := G3.1) szd_TE0 D19
   have f := Frm.set f 61 (v := .agg #[.int .i8 d0.fKind, .bool d0.fBool, .int .i64 d0.fNum, S d0.fText, .slice Z22 G3.1.length P23, .slice Z23 G3.2.length P24]) (v' := .agg #[.int .i8 d0.fKind, .bool d0.fBool, .int .i64 d0.fNum, S d0.fText, .slice Z24 G3.1.length P25, .slice Z23 G3.2.length P24]) (by kernel_rfl) (by rw [H4])
   have N61 : Hp w0 V8 ((Ent.row 9 1 (.slice Z23 G3.2.length P24) G3.2.length L11) :: (Ent.row 3 1 (.slice Z3 X1.length P3) X1.length L1) :: (Ent.obj Q2 (.cells #[.int .i8 d0.fKind, .bool d0.fBool, .int .i64 d0.fNum, S d0.fText, .slice Z24 G3.1.length P25, .slice Z23 G3.2.length P24] 26 (0, 0))) :: (Ent.obj Q1 (.cells #[.int .i8 0, .bool false, .int .i64 0, S [], .slice none 0 0, .slice none 0 0] 26 (0, 0))) :: H) W31 := by rw [H4] at N60; exact N60
   obtain ⟨Z25, P26, V9, H5, J9, N62, B14⟩ := N61.rowSli (f := Dat.str) (xs := G3.2) szd_str (RepSeq.mono J8 _ _ D20)
   have f := Frm.set f 61 (v := .agg #[.int .i8 d0.fKind, .bool d0.fBool, .int .i64 d0.fNum, S d0.fText, .slice Z24 G3.1.length P25, .slice Z23 G3.2.length P24]) (v' := .agg #[.int .i8 d0.fKind, .bool d0.fBool, .int .i64 d0.fNum, S d0.fText, .slice Z24 G3.1.length P25, .slice Z25 G3.2.length P26]) (by kernel_rfl) (by rw [H5])
   have N63 : Hp w0 V9 ((Ent.row 3 1 (.slice Z3 X1.length P3) X1.length L1) :: (Ent.obj Q2 (.cells #[.int .i8 d0.fKind, .bool d0.fBool, .int .i64 d0.fNum, S d0.fText, .slice Z24 G3.1.length P25, .slice Z25 G3.2.length P26] 26 (0, 0))) :: (Ent.obj Q1 (.cells #[.int .i8 0, .bool false, .int .i64 0, S [], .slice none 0 0, .slice none 0 0] 26 (0, 0))) :: H) W31 := by rw [H5] at N62; exact N62
   have N64 := N63.pl [2]
   refine Y28 (vs := [.int .i8 d0.fKind, .bool d0.fBool, .int .i64 d0.fNum, S d0.fText, .slice Z24 G3.1.length P25, .slice Z25 G3.2.length P26]) (j := 0) f N64 rfl rfl (by simp [Value.oneCell', S]) (by simp) (by decide) (cs' := #[.int .i8 d0.fKind, .bool d0.fBool, .int .i64 d0.fNum, S d0.fText, .slice Z24 G3.1.length P25, .slice Z25 G3.2.length P26]) (by kernel_rfl) fun W32 N65 _ f => eT (wp_ret (T_r (E_rv1 f rfl (Y10 (cs := [.int .i8 d0.fKind, .bool d0.fBool, .int .i64 d0.fNum, S d0.fText, .slice Z24 G3.1.length P25, .slice Z25 G3.2.length P26]) (ad := ⟨Q1, 0, none⟩) f (own_cells (N65.ownCell 0 rfl) 0 rfl)) ?_)))
   obtain rfl := sI F3
   exact ⟨_, rfl, V9, (((J1.trans J7).trans J8).trans J9), (N65.dropN 3), ⟨[.int .i8 d0.fKind, .bool d0.fBool, .int .i64 d0.fNum, S d0.fText, .slice Z24 G3.1.length P25, .slice Z25 G3.2.length P26], rfl, (TE0.shut (B13.mono J9) B14)⟩⟩
 ·have U4 := iff_f dI B3
  refine wp_skip (T_n (R_seq (RR (Y f 3 fun _ f => Y15 f N6 q0 4 rfl fun _ f => Y f 2 fun _ f => eT (wp_block ?_)))))
  obtain ⟨Z26, P27, H6⟩ : ∃ A cap, Value.slice none 0 0 = .slice A ([] : List TE0).length cap := ⟨none, 0, rfl⟩
  have N66 : Hp w0 M1 ((Ent.row 26 6 (.slice Z26 ([] : List TE0).length P27) ([] : List TE0).length []) :: (Ent.obj Q2 (.cells #[.int .i8 d0.fKind, .bool d0.fBool, .int .i64 d0.fNum, S d0.fText, .slice Z26 ([] : List TE0).length P27, .slice none 0 0] 26 (0, 0))) :: (Ent.obj Q1 (.cells #[.int .i8 0, .bool false, .int .i64 0, S [], .slice none 0 0, .slice none 0 0] 26 (0, 0))) :: H) W6 := by rw [← H6]; exact N6.nilRow 26 6
  have D21 : RepSeq M1 (([] : List TE0).map emb_TE0) [] := rfl
  obtain ⟨Q9, hL_2, F16⟩ := bS F15
  refine wp_mono (Q := fun e a w => (e = .exit 2 ∧ (∃ G5 : List TE0, Q9 = G5 ∧ ∃ V14 : Mem, M1.le V14 ∧ ∃ (Z39 : Option Addr), ∃ (P40 : Nat), ∃ (L16 : List Value), RepSeq V14 (G5.map emb_TE0) L16 ∧ Frm 84 [(2, .pointer (some (⟨Q1, 0, none⟩))), (3, .pointer (some (⟨Q2, 0, none⟩)))] a ∧ Hp w0 V14 ((Ent.row 26 6 (.slice Z39 G5.length P40) G5.length L16) :: (Ent.obj Q2 (.cells #[.int .i8 d0.fKind, .bool d0.fBool, .int .i64 d0.fNum, S d0.fText, .slice Z39 G5.length P40, .slice none 0 0] 26 (0, 0))) :: (Ent.obj Q1 (.cells #[.int .i8 0, .bool false, .int .i64 0, S [], .slice none 0 0, .slice none 0 0] 26 (0, 0))) :: H) w))) (R_loop (n := 84) (w0 := w0) (M := M1) (fun (x : Nat × (Int × List TE0) × (Option Addr) × Nat × (List Value)) => match x with | (I3, K2, Z27, P28, L12) => [(0, .pointer (some ad0)), (2, .pointer (some (⟨Q1, 0, none⟩))), (3, .pointer (some (⟨Q2, 0, none⟩))), (66, .int .i64 ((d0.fList.length : Nat) : Int)), (67, .int .i64 K2.1)]) (fun (x : Nat × (Int × List TE0) × (Option Addr) × Nat × (List Value)) => match x with | (I3, K2, Z27, P28, L12) => ((Ent.row 26 6 (.slice Z27 K2.2.length P28) K2.2.length L12) :: (Ent.obj Q2 (.cells #[.int .i8 d0.fKind, .bool d0.fBool, .int .i64 d0.fNum, S d0.fText, .slice Z27 K2.2.length P28, .slice none 0 0] 26 (0, 0))) :: (Ent.obj Q1 (.cells #[.int .i8 0, .bool false, .int .i64 0, S [], .slice none 0 0, .slice none 0 0] 26 (0, 0))) :: H)) (fun (x : Nat × (Int × List TE0) × (Option Addr) × Nat × (List Value)) (MM : Mem) => match x with | (I3, K2, Z27, P28, L12) => loopF (tree_sorted_s2 n rec_tree_sorted d0) I3 K2 = some Q9 ∧ RepSeq MM (K2.2.map emb_TE0) L12) (fun (x : Nat × (Int × List TE0) × (Option Addr) × Nat × (List Value)) => match x with | (I3, K2, Z27, P28, L12) => I3) (n, ((0 : Int), ([] : List TE0)), Z26, P27, []) (f.kp) N66 ⟨hL_2, D21⟩ ?_) ?_
  ·rintro ⟨I3, K2, Z27, P28, L12⟩ V10 _ W33 J10 I_2 f N67
   obtain ⟨I_2L, D22⟩ := I_2
   obtain ⟨I4, r_2, rfl, hs_2, T2⟩ := loop_step I_2L
   unfold tree_sorted_s2 at hs_2
   refine RR (Y f 1 fun _ f => eT (R_seq (RcF f hs_2 (fun B15 F17 => ?_) fun B15 F23 => ?_)))
   ·have U5 := dI.1 B15
    refine wp_skip (T_n (R_seq (wp_block (RR (Y f 2 fun _ f => eT ?_)))))
    obtain ⟨j_3, hj_3, F18⟩ := bS F17
    refine R_mid (fun a_104 W45 => ∃ G4 : List TE0, j_3 = G4 ∧ ∃ V13 : Mem, V10.le V13 ∧ ∃ (Z38 : Option Addr), ∃ (P39 : Nat), ∃ (L15 : List Value), RepSeq V13 (G4.map emb_TE0) L15 ∧ Frm 84 [(0, .pointer (some ad0)), (2, .pointer (some (⟨Q1, 0, none⟩))), (3, .pointer (some (⟨Q2, 0, none⟩))), (66, .int .i64 ((d0.fList.length : Nat) : Int)), (67, .int .i64 K2.1)] a_104 ∧ Hp w0 V13 ((Ent.row 26 6 (.slice Z38 G4.length P39) G4.length L15) :: (Ent.obj Q2 (.cells #[.int .i8 d0.fKind, .bool d0.fBool, .int .i64 d0.fNum, S d0.fText, .slice Z38 G4.length P39, .slice none 0 0] 26 (0, 0))) :: (Ent.obj Q1 (.cells #[.int .i8 0, .bool false, .int .i64 0, S [], .slice none 0 0, .slice none 0 0] 26 (0, 0))) :: H) W45) ?_ ?_
    ·obtain ⟨X9, S6, F19⟩ := bS hj_3
     obtain ⟨X10, S7, F20⟩ := bS F19
     obtain ⟨O4, F21⟩ := nS F20
     refine R_plan (ks := [11, 12]) (E := [Ent.row 26 6 (.slice Z27 K2.2.length P28) K2.2.length L12]) (Hr := ((Ent.obj Q2 (.cells #[.int .i8 d0.fKind, .bool d0.fBool, .int .i64 d0.fNum, S d0.fText, .slice Z27 K2.2.length P28, .slice none 0 0] 26 (0, 0))) :: (Ent.obj Q1 (.cells #[.int .i8 0, .bool false, .int .i64 0, S [], .slice none 0 0, .slice none 0 0] 26 (0, 0))) :: H)) (.quiet 0 (.quiet 1 (.quiet 2 (.quiet 3 (.quiet 4 (.quiet 5 (.quiet 6 (.quiet 7 (.alt 8 (.alt 9 (.alt 10 .done .none) .none) .none))))))))) N67 (by kernel_rfl) (by kernel_rfl) (by kernel_rfl) (Y1 (v := .pointer (some (⟨Q2, 4, none⟩))) rfl f rfl rfl (fun _ _ => by kernel_rfl) fun _ f => Y1 (v := .slice Z27 K2.2.length P28) rfl f rfl rfl (fun _ pq => Y33 (v := .slice Z27 K2.2.length P28) rfl (ad := ⟨Q2, 4, none⟩) (pq.ownCell 0 rfl 4)) fun _ f => Y1 (v := .pointer (some ad0)) rfl f rfl rfl (fun _ _ => by kernel_rfl) fun _ f => Y1 (v := .pointer (some ad0)) rfl f rfl rfl (fun _ _ => by kernel_rfl) fun _ f => Y1 (v := .pointer (some (ad0.add 4))) rfl f rfl rfl (fun _ _ => by kernel_rfl) fun _ f => Y1 (v := .slice Z1 d0.fList.length P1) rfl f rfl rfl (fun _ pq => Y33 (v := .slice Z1 d0.fList.length P1) rfl (ad := ad0.add 4) (pq.cell ((fzu J10 q0) 4 _ rfl))) fun _ f => Y1 (v := .int .i64 K2.1) rfl f rfl rfl (fun _ _ => by kernel_rfl) fun _ f => ?_)
     obtain ⟨C6, c_10, e_6, -, D26, R7⟩ := Sli.at_ (B1.mono J10) S6
     obtain ⟨Z33, P34, Z34, P35, rfl, B20, B21⟩ := TE0.opn D26
     refine Y1 (v := .pointer (some (C6.add (K2.1.toNat * 6)))) rfl f rfl rfl (fun _ pq => Y32 e_6 rfl (len := d0.fList.length) (cap := P1) (k := .i64) (i := K2.1) (e := 26) (sz := 6) (getI_nn S6) (getI_lt S6)) fun _ f => N_alt rfl (fun W37 N74 => ?_) ?_
     ·refine Y16 f N74 (hrec_tree_sorted _ (GL.mono J10 hG) (C6.add (K2.1.toNat * 6)) [.int .i8 X9.fKind, .bool X9.fBool, .int .i64 X9.fNum, S X9.fText, .slice Z33 X9.fList.length P34, .slice Z34 X9.fKeys.length P35] X9 (TE0.shutx (x := X9) B20 B21) (fz_at (R7) 0 rfl) X10 S7) fun _ V12 W38 J12 N75 q_5 _ f => ?_
      obtain ⟨c_11, rfl, D27⟩ := q_5
      obtain ⟨Z35, P36, Z36, P37, rfl, B22, B23⟩ := TE0.opn D27
      refine W_end rfl (N_goN 1 J12 N75 rfl (N_alt rfl (fun W39 N76 => ?_) ?_))
      ·refine V_allocS (k := 1) (c := 1) f N76 (.cells #[.int .i8 X10.fKind, .bool X10.fBool, .int .i64 X10.fNum, S X10.fText, .slice Z35 X10.fList.length P36, .slice Z36 X10.fKeys.length P37] 26 (0, 0)) (by kernel_rfl) (fun _ => by kernel_rfl) fun Q11 W40 N77 _ f => W_end rfl (N_goN 2 J12 N77 rfl (N_alt rfl (fun W41 N78 => ?_) ?_))
       ·have N79 := N78.pl [1]
        refine Y22 (z := .agg #[.int .i8 0, .bool false, .int .i64 0, S [], .slice none 0 0, .slice none 0 0]) (f := emb_TE0) (xs := K2.2) (ys := [(⟨X10.fKind, (X10.fBool), X10.fNum, X10.fText, X10.fList, X10.fKeys⟩ : TE0)]) (news := [.int .i8 X10.fKind, .bool X10.fBool, .int .i64 X10.fNum, S X10.fText, .slice Z35 X10.fList.length P36, .slice Z36 X10.fKeys.length P37]) (ad := ⟨Q11, 0, none⟩) (m := 1) (c := 1) f N79 (RepSeq.mono J12 _ _ D22) (by exact ⟨_, _, rfl, TE0.shut B22 B23, rfl⟩) rfl rfl rfl rfl (own_cells (N79.ownCell 1 rfl) 0 rfl) (by exact O4) (by have hg_ := O4; first | omega | (simp only [List.length_cons, List.length_nil] at *; omega)) fun Z37 P38 L14 W42 N80 D28 _ f => ?_
        have N81 := N80.pl [1]
        have N82 := N81.drop
        refine W_end rfl (N_goN 1 J12 N82 rfl (N_tail fun W43 N83 => Y f 1 fun _ f => Y27 f N83 1 rfl rfl (b := Q2) (j := 4) (v := .slice Z37 (K2.2 ++ [(⟨X10.fKind, (X10.fBool), X10.fNum, X10.fText, X10.fList, X10.fKeys⟩ : TE0)]).length P38) rfl (by exact rfl) (by simp) (by simp) ((Ent.row 26 6 (.slice Z37 (K2.2 ++ [(⟨X10.fKind, (X10.fBool), X10.fNum, X10.fText, X10.fList, X10.fKeys⟩ : TE0)]).length P38) (K2.2 ++ [(⟨X10.fKind, (X10.fBool), X10.fNum, X10.fText, X10.fList, X10.fKeys⟩ : TE0)]).length L14) :: (Ent.obj Q2 (.cells #[.int .i8 d0.fKind, .bool d0.fBool, .int .i64 d0.fNum, S d0.fText, .slice Z37 (K2.2 ++ [(⟨X10.fKind, (X10.fBool), X10.fNum, X10.fText, X10.fList, X10.fKeys⟩ : TE0)]).length P38, .slice none 0 0] 26 (0, 0))) :: (Ent.obj Q1 (.cells #[.int .i8 0, .bool false, .int .i64 0, S [], .slice none 0 0, .slice none 0 0] 26 (0, 0))) :: H) rfl fun W44 N84 _ f => W_end rfl (N_te (T_n ?_))))
        exact ⟨K2.2 ++ [(⟨X10.fKind, (X10.fBool), X10.fNum, X10.fText, X10.fList, X10.fKeys⟩ : TE0)], (sI F21).symm, V12, J12, Z37, P38, L14, D28, f.kp, N84⟩
       exact N_none
      exact N_none
     exact N_none
    ·rintro a_104 W45 ⟨G4, hq_3, V13, J13, Z38, P39, L15, D29, f, N85⟩
     subst j_3
     refine B_n (T_n (R_reg ?_))
     obtain ⟨O5, F22⟩ := nS F18
     refine Y f 1 fun _ f => ?_
     have f := f.st 82 (iW O5)
     refine Y f 1 fun _ f => eT ?_
     obtain rfl := sI F22
     exact ⟨⟨I4, (K2.1 + 1, G4), Z38, P39, L15⟩, Nat.lt_succ_self _, V13, (J10.trans J13), ⟨T2, D29⟩, f.kp, N85⟩
   ·have U6 := iff_f dI B15
    refine wp_exit (T_x (T_x ?_))
    obtain rfl := sI F23
    exact ⟨rfl, K2.2, (sI T2).symm, V10, J10, Z27, P28, L12, D22, f.kp, N67⟩
  ·rintro _ _ W47 ⟨rfl, G5, hq_, V14, J14, Z39, P40, L16, D30, f, N86⟩
   subst Q9
   refine B_x (T_n (RR (Z (v := .agg #[.int .i8 d0.fKind, .bool d0.fBool, .int .i64 d0.fNum, S d0.fText, .slice Z39 G5.length P40, .slice none 0 0]) f (Y34 (cs := [.int .i8 d0.fKind, .bool d0.fBool, .int .i64 d0.fNum, S d0.fText, .slice Z39 G5.length P40, .slice none 0 0]) rfl (ad := ⟨Q2, 0, none⟩) (own_cells (N86.ownCell 1 rfl) 0 rfl)) fun _ f => ?_)))
   obtain ⟨Z40, P41, V15, H7, J15, N87, B24⟩ := N86.rowSli (f := emb_TE0) (xs := G5) szd_TE0 D30
   have f := Frm.set f 83 (v := .agg #[.int .i8 d0.fKind, .bool d0.fBool, .int .i64 d0.fNum, S d0.fText, .slice Z39 G5.length P40, .slice none 0 0]) (v' := .agg #[.int .i8 d0.fKind, .bool d0.fBool, .int .i64 d0.fNum, S d0.fText, .slice Z40 G5.length P41, .slice none 0 0]) (by kernel_rfl) (by rw [H7])
   have N88 : Hp w0 V15 ((Ent.obj Q2 (.cells #[.int .i8 d0.fKind, .bool d0.fBool, .int .i64 d0.fNum, S d0.fText, .slice Z40 G5.length P41, .slice none 0 0] 26 (0, 0))) :: (Ent.obj Q1 (.cells #[.int .i8 0, .bool false, .int .i64 0, S [], .slice none 0 0, .slice none 0 0] 26 (0, 0))) :: H) W47 := by rw [H7] at N87; exact N87
   have N89 := N88.pl [1]
   refine Y28 (vs := [.int .i8 d0.fKind, .bool d0.fBool, .int .i64 d0.fNum, S d0.fText, .slice Z40 G5.length P41, .slice none 0 0]) (j := 0) f N89 rfl rfl (by simp [Value.oneCell', S]) (by simp) (by decide) (cs' := #[.int .i8 d0.fKind, .bool d0.fBool, .int .i64 d0.fNum, S d0.fText, .slice Z40 G5.length P41, .slice none 0 0]) (by kernel_rfl) fun W48 N90 _ f => eT (wp_ret (E_rv1 f rfl (Y10 (cs := [.int .i8 d0.fKind, .bool d0.fBool, .int .i64 d0.fNum, S d0.fText, .slice Z40 G5.length P41, .slice none 0 0]) (ad := ⟨Q1, 0, none⟩) f (own_cells (N90.ownCell 0 rfl) 0 rfl)) ?_))
   obtain rfl := sI F16
   exact ⟨_, rfl, V15, (J14.trans J15), (N90.dropN 2), ⟨[.int .i8 d0.fKind, .bool d0.fBool, .int .i64 d0.fNum, S d0.fText, .slice Z40 G5.length P41, .slice none 0 0], rfl, (TE0.shut B24 Sli.nil)⟩⟩
def tree_sorted_k (n : Nat) : Nat → TE0 → Option TE0
  | 0 => fun _ => none
  | k + 1 => tree_sorted_b n (tree_sorted_k n k)
def tree_sorted (n : Nat) (d0 : TE0) : Option TE0 := tree_sorted_k n n d0
theorem tree_sorted_ok (n : Nat) (M : Mem) (hG : GL M) (ad0 : Addr) (c0 : List Value) (d0 : TE0) (h0 : Rep M (emb_TE0 d0) c0) (q0 : ∀ j v, c0[j]? = some v → M.cell? (ad0.add j) = some v) (r : TE0) (hF : tree_sorted n d0 = some r) : Ok Tryz.prog M 70 [.pointer (some ad0)] (fun M' v => ∃ (c0 : List Value), v = .agg c0.toArray ∧ Rep M' (emb_TE0 r) c0) := by
 have key : ∀ (k : Nat) (M : Mem) (hG : GL M) (ad0 : Addr) (c0 : List Value) (d0 : TE0) (h0 : Rep M (emb_TE0 d0) c0) (q0 : ∀ j v, c0[j]? = some v → M.cell? (ad0.add j) = some v) (r : TE0) (hF : tree_sorted_k n k d0 = some r), Ok Tryz.prog M 70 [.pointer (some ad0)] (fun M' v => ∃ (c0 : List Value), v = .agg c0.toArray ∧ Rep M' (emb_TE0 r) c0) := by
  intro k
  induction k with
  | zero => intro M hG ad0 c0 d0 h0 q0 r hF; simp [tree_sorted_k] at hF
  | succ k ih => intro M hG ad0 c0 d0 h0 q0 r hF; exact tree_sorted_b_ok n (tree_sorted_k n k) ih M hG ad0 c0 d0 h0 q0 r hF
 exact key n M hG ad0 c0 d0 h0 q0 r hF
def cmp_isNaN (n : Nat) (d0 : Int) : Option Bool :=
  some ((false))
theorem cmp_isNaN_ok (n : Nat) (M : Mem) (d0 : Int) (r : Bool) (hF : cmp_isNaN n d0 = some r) : Ok Tryz.prog M 164 [.int .i8 d0] (fun _ v => v = .bool r) := by
 unfold cmp_isNaN at hF
 intro M1 hM0 w0 H w p0
 refine R_enter 6 Tryz.func164 rfl rfl (by simp) fun a0 f0 => RR (Y f0 1 fun _ f => eT (RR (Y f 2 fun _ f => Y f 1 fun _ f => ?_)))
 have f := Frm.set f 5 (v := .bool (!(decide (d0 = d0)))) (v' := .bool false) (by kernel_rfl) (cB (congrArg (!·) (decide_eq_true rfl)))
 refine Y f 1 fun _ f => eT (wp_ret (E_ret1 f rfl (by kernel_rfl : Vc.look _ 2 = some (.bool false)) ?_))
 obtain rfl := sI hF
 exact ⟨_, rfl, M1, (mR _), p0, rfl⟩
def cmp_Compare (n : Nat) (d0 : Int) (d1 : Int) : Option Int :=
  (cmp_isNaN n d0).bind fun X1 =>
  (cmp_isNaN n d1).bind fun X2 =>
  bif X1 then
    (bif X2 then
      (some ((0 : Int)))
    else
      some ((-1 : Int)))
  else
    bif X2 then
      (some ((1 : Int)))
    else
      bif (decide (d0 < d1)) then
        (some ((-1 : Int)))
      else
        bif (decide (d1 < d0)) then
          (some ((1 : Int)))
        else
          some ((0 : Int))
set_option maxRecDepth 20000 in
theorem cmp_Compare_ok (n : Nat) (M : Mem) (d0 : Int) (d1 : Int) (r : Int) (hF : cmp_Compare n d0 d1 = some r) : Ok Tryz.prog M 152 [.int .i8 d0, .int .i8 d1] (fun _ v => v = .int .i64 r) := by
 unfold cmp_Compare at hF
 intro M1 hM0 w0 H w p0
 refine R_enter 20 Tryz.func152 rfl rfl (by simp) fun a0 f0 => RR (Y f0 1 fun _ f => eT (RR (Y f 1 fun _ f => ?_)))
 obtain ⟨X1, S1, F1⟩ := bS hF
 refine Y18 f p0 (cmp_isNaN_ok n _ d0 X1 S1) fun W1 N1 _ f => Y f 1 fun _ f => eT (RR (Y f 1 fun _ f => ?_))
 obtain ⟨X2, S2, F2⟩ := bS F1
 refine Y18 f N1 (cmp_isNaN_ok n _ d1 X2 S2) fun W2 N2 _ f => Y f 1 fun _ f => eT (R_seq (RR (Y f 1 fun _ f => eT (RcF f F2 (fun B1 F3 => ?_) fun B1 F6 => ?_))))
 ·refine R_seq (RR (Y f 1 fun _ f => eT (RcF f F3 (fun B2 F4 => ?_) fun B2 F5 => ?_)))
  ·refine RR (Y f 1 fun _ f => eT (wp_ret (T_r (T_r (E_ret1 f rfl (by kernel_rfl : Vc.look _ 4 = some (.int .i64 0)) ?_)))))
   obtain rfl := sI F4
   exact ⟨_, rfl, M1, (mR _), N2, rfl⟩
  ·refine wp_skip (T_n (RR (Y f 1 fun _ f => eT (wp_ret (T_r (E_ret1 f rfl (by kernel_rfl : Vc.look _ 4 = some (.int .i64 (-1))) ?_))))))
   obtain rfl := sI F5
   exact ⟨_, rfl, M1, (mR _), N2, rfl⟩
 ·refine wp_skip (T_n (R_seq (RR (Y f 1 fun _ f => eT (RcF f F6 (fun B3 F7 => ?_) fun B3 F8 => ?_)))))
  ·refine RR (Y f 1 fun _ f => eT (wp_ret (T_r (E_ret1 f rfl (by kernel_rfl : Vc.look _ 4 = some (.int .i64 1)) ?_))))
   obtain rfl := sI F7
   exact ⟨_, rfl, M1, (mR _), N2, rfl⟩
  ·refine wp_skip (T_n (R_seq (RR (Y f 3 fun _ f => eT (RcF f F8 (fun B4 F9 => ?_) fun B4 F10 => ?_)))))
   ·have U7 := dI.1 B4
    refine RR (Y f 1 fun _ f => eT (wp_ret (T_r (E_ret1 f rfl (by kernel_rfl : Vc.look _ 4 = some (.int .i64 (-1))) ?_))))
    obtain rfl := sI F9
    exact ⟨_, rfl, M1, (mR _), N2, rfl⟩
   ·have U8 := iff_f dI B4
    refine wp_skip (T_n (R_seq (RR (Y f 3 fun _ f => eT (RcF f F10 (fun B5 F11 => ?_) fun B5 F12 => ?_)))))
    ·have U9 := dI.1 B5
     refine RR (Y f 1 fun _ f => eT (wp_ret (T_r (E_ret1 f rfl (by kernel_rfl : Vc.look _ 4 = some (.int .i64 1)) ?_))))
     obtain rfl := sI F11
     exact ⟨_, rfl, M1, (mR _), N2, rfl⟩
    ·have U10 := iff_f dI B5
     refine wp_skip (T_n (RR (Y f 1 fun _ f => eT (wp_ret (E_ret1 f rfl (by kernel_rfl : Vc.look _ 4 = some (.int .i64 0)) ?_)))))
     obtain rfl := sI F12
     exact ⟨_, rfl, M1, (mR _), N2, rfl⟩
def tree_bit (n : Nat) (d0 : Bool) : Option Int :=
  bif d0 then
    (some ((1 : Int)))
  else
    some ((0 : Int))
theorem tree_bit_ok (n : Nat) (M : Mem) (hG : GL M) (d0 : Bool) (r : Int) (hF : tree_bit n d0 = some r) : Ok Tryz.prog M 153 [.bool d0] (fun _ v => v = .int .i64 r) := by
 unfold tree_bit at hF
 intro M1 hM0 w0 H w p0
 replace hG := GL.mono hM0 hG
 refine R_enter 4 Tryz.func153 rfl rfl (by simp) fun a0 f0 => RR (Y f0 1 fun _ f => eT (R_seq (RR (Y f 1 fun _ f => eT (RcF f hF (fun B1 F1 => ?_) fun B1 F2 => ?_)))))
 ·refine RR (Y f 1 fun _ f => eT (wp_ret (T_r (E_ret1 f rfl (by kernel_rfl : Vc.look _ 2 = some (.int .i64 1)) ?_))))
  obtain rfl := sI F1
  exact ⟨_, rfl, M1, (mR _), p0, rfl⟩
 ·refine wp_skip (T_n (RR (Y f 1 fun _ f => eT (wp_ret (E_ret1 f rfl (by kernel_rfl : Vc.look _ 2 = some (.int .i64 0)) ?_)))))
  obtain rfl := sI F2
  exact ⟨_, rfl, M1, (mR _), p0, rfl⟩
def cmp_isNaN_2 (n : Nat) (d0 : Int) : Option Bool :=
  some ((false))
theorem cmp_isNaN_2_ok (n : Nat) (M : Mem) (hG : GL M) (d0 : Int) (r : Bool) (hF : cmp_isNaN_2 n d0 = some r) : Ok Tryz.prog M 165 [.int .i64 d0] (fun _ v => v = .bool r) := by
 unfold cmp_isNaN_2 at hF
 intro M1 hM0 w0 H w p0
 replace hG := GL.mono hM0 hG
 refine R_enter 6 Tryz.func165 rfl rfl (by simp) fun a0 f0 => RR (Y f0 1 fun _ f => eT (RR (Y f 2 fun _ f => Y f 1 fun _ f => ?_)))
 have f := Frm.set f 5 (v := .bool (!(decide (d0 = d0)))) (v' := .bool false) (by kernel_rfl) (cB (congrArg (!·) (decide_eq_true rfl)))
 refine Y f 1 fun _ f => eT (wp_ret (E_ret1 f rfl (by kernel_rfl : Vc.look _ 2 = some (.bool false)) ?_))
 obtain rfl := sI hF
 exact ⟨_, rfl, M1, (mR _), p0, rfl⟩
def cmp_Compare_2 (n : Nat) (d0 : Int) (d1 : Int) : Option Int :=
  (cmp_isNaN_2 n d0).bind fun X1 =>
  (cmp_isNaN_2 n d1).bind fun X2 =>
  bif X1 then
    (bif X2 then
      (some ((0 : Int)))
    else
      some ((-1 : Int)))
  else
    bif X2 then
      (some ((1 : Int)))
    else
      bif (decide (d0 < d1)) then
        (some ((-1 : Int)))
      else
        bif (decide (d1 < d0)) then
          (some ((1 : Int)))
        else
          some ((0 : Int))
set_option maxRecDepth 20000 in
theorem cmp_Compare_2_ok (n : Nat) (M : Mem) (hG : GL M) (d0 : Int) (d1 : Int) (r : Int) (hF : cmp_Compare_2 n d0 d1 = some r) : Ok Tryz.prog M 154 [.int .i64 d0, .int .i64 d1] (fun _ v => v = .int .i64 r) := by
 unfold cmp_Compare_2 at hF
 intro M1 hM0 w0 H w p0
 replace hG := GL.mono hM0 hG
 refine R_enter 20 Tryz.func154 rfl rfl (by simp) fun a0 f0 => RR (Y f0 1 fun _ f => eT (RR (Y f 1 fun _ f => ?_)))
 obtain ⟨X1, S1, F1⟩ := bS hF
 refine Y18 f p0 (cmp_isNaN_2_ok n _ hG d0 X1 S1) fun W1 N1 _ f => Y f 1 fun _ f => eT (RR (Y f 1 fun _ f => ?_))
 obtain ⟨X2, S2, F2⟩ := bS F1
 refine Y18 f N1 (cmp_isNaN_2_ok n _ hG d1 X2 S2) fun W2 N2 _ f => Y f 1 fun _ f => eT (R_seq (RR (Y f 1 fun _ f => eT (RcF f F2 (fun B1 F3 => ?_) fun B1 F6 => ?_))))
 ·refine R_seq (RR (Y f 1 fun _ f => eT (RcF f F3 (fun B2 F4 => ?_) fun B2 F5 => ?_)))
  ·refine RR (Y f 1 fun _ f => eT (wp_ret (T_r (T_r (E_ret1 f rfl (by kernel_rfl : Vc.look _ 4 = some (.int .i64 0)) ?_)))))
   obtain rfl := sI F4
   exact ⟨_, rfl, M1, (mR _), N2, rfl⟩
  ·refine wp_skip (T_n (RR (Y f 1 fun _ f => eT (wp_ret (T_r (E_ret1 f rfl (by kernel_rfl : Vc.look _ 4 = some (.int .i64 (-1))) ?_))))))
   obtain rfl := sI F5
   exact ⟨_, rfl, M1, (mR _), N2, rfl⟩
 ·refine wp_skip (T_n (R_seq (RR (Y f 1 fun _ f => eT (RcF f F6 (fun B3 F7 => ?_) fun B3 F8 => ?_)))))
  ·refine RR (Y f 1 fun _ f => eT (wp_ret (T_r (E_ret1 f rfl (by kernel_rfl : Vc.look _ 4 = some (.int .i64 1)) ?_))))
   obtain rfl := sI F7
   exact ⟨_, rfl, M1, (mR _), N2, rfl⟩
  ·refine wp_skip (T_n (R_seq (RR (Y f 3 fun _ f => eT (RcF f F8 (fun B4 F9 => ?_) fun B4 F10 => ?_)))))
   ·have U7 := dI.1 B4
    refine RR (Y f 1 fun _ f => eT (wp_ret (T_r (E_ret1 f rfl (by kernel_rfl : Vc.look _ 4 = some (.int .i64 (-1))) ?_))))
    obtain rfl := sI F9
    exact ⟨_, rfl, M1, (mR _), N2, rfl⟩
   ·have U8 := iff_f dI B4
    refine wp_skip (T_n (R_seq (RR (Y f 3 fun _ f => eT (RcF f F10 (fun B5 F11 => ?_) fun B5 F12 => ?_)))))
    ·have U9 := dI.1 B5
     refine RR (Y f 1 fun _ f => eT (wp_ret (T_r (E_ret1 f rfl (by kernel_rfl : Vc.look _ 4 = some (.int .i64 1)) ?_))))
     obtain rfl := sI F11
     exact ⟨_, rfl, M1, (mR _), N2, rfl⟩
    ·have U10 := iff_f dI B5
     refine wp_skip (T_n (RR (Y f 1 fun _ f => eT (wp_ret (E_ret1 f rfl (by kernel_rfl : Vc.look _ 4 = some (.int .i64 0)) ?_)))))
     obtain rfl := sI F12
     exact ⟨_, rfl, M1, (mR _), N2, rfl⟩
def cmp_Or_s1 (n : Nat) (d0 : List Int) (K1 : Int) : Option (Lp Int (Sum Int Unit)) :=
    bif (decide (K1 < ((d0.length : Nat) : Int))) then
      ((getI d0 K1).bind fun X1 =>
      bif (!(decide (X1 = 0))) then
        (some (.br (.inl X1)))
      else
        need (inR .i64 (K1 + 1)) <|
        some (.nx (K1 + 1)))
    else
      some (.br (.inr ()))
def cmp_Or (n : Nat) (d0 : List Int) : Option Int :=
  (loopF (cmp_Or_s1 n d0) n (0 : Int)).bind fun Q1 =>
  (match Q1 with 
  | .inl G1 => some (G1) 
  | .inr G2 => some ((0 : Int)))
theorem cmp_Or_ok (n : Nat) (M : Mem) (hG : GL M) (A0 : Option Addr) (cap0 : Nat) (d0 : List Int) (h0 : Sli M 1 (Dat.int .i64) A0 cap0 d0) (r : Int) (hF : cmp_Or n d0 = some r) : Ok Tryz.prog M 151 [.slice A0 d0.length cap0] (fun _ v => v = .int .i64 r) := by
 unfold cmp_Or at hF
 intro M1 hM0 w0 H w p0
 replace hG := GL.mono hM0 hG
 replace h0 := h0.mono hM0
 refine R_enter 18 Tryz.func151 rfl rfl (by simp) fun a0 f0 => RR (Y f0 1 fun _ f => eT (RR (Y f 1 fun _ f => eT (R_seq (RR (Y f 3 fun _ f => eT (wp_block ?_)))))))
 obtain ⟨Q1, hL_1, F1⟩ := bS hF
 refine wp_mono (Q := fun e a w => (e = .ret ∧ (∃ G1 : Int, Q1 = .inl G1 ∧ ∃ V2 : Mem, M1.le V2 ∧ Frm 18 [(2, .int .i64 G1)] a ∧ Hp w0 V2 (H) w)) ∨ (e = .exit 0 ∧ (∃ G2 : Unit, Q1 = .inr G2 ∧ ∃ V3 : Mem, M1.le V3 ∧ Frm 18 [(3, .int .i64 0)] a ∧ Hp w0 V3 (H) w))) (R_loop (n := 18) (w0 := w0) (M := M1) (fun (x : Nat × Int) => match x with | (I1, K1) => [(3, .int .i64 0), (6, .slice A0 d0.length cap0), (7, .int .i64 ((d0.length : Nat) : Int)), (8, .int .i64 K1)]) (fun (x : Nat × Int) => match x with | (I1, K1) => (H)) (fun (x : Nat × Int) (MM : Mem) => match x with | (I1, K1) => loopF (cmp_Or_s1 n d0) I1 K1 = some Q1) (fun (x : Nat × Int) => match x with | (I1, K1) => I1) (n, (0 : Int)) (f.kp) p0 hL_1 ?_) ?_
 ·rintro ⟨I1, K1⟩ V1 _ W1 J1 I_1 f N1
  have I_1L := I_1
  obtain ⟨I2, r_1, rfl, hs_1, T1⟩ := loop_step I_1L
  unfold cmp_Or_s1 at hs_1
  refine RR (Y f 1 fun _ f => eT (R_seq (RcF f hs_1 (fun B1 F2 => ?_) fun B1 F7 => ?_)))
  ·have U1 := dI.1 B1
   refine wp_skip (T_n (R_seq (wp_block (RR ?_))))
   obtain ⟨X1, S1, F3⟩ := bS F2
   obtain ⟨C1, c_1, e_1, -, D1, R1⟩ := Sli.at_ (h0.mono J1) S1
   obtain rfl : c_1 = [.int .i64 X1] := D1
   refine Z f (Y32 e_1 rfl (len := d0.length) (cap := cap0) (k := .i64) (i := K1) (e := 3) (sz := 1) (getI_nn S1) (getI_lt S1)) fun _ f => Y15 f N1 R1 0 rfl fun _ f => Y f 1 fun _ f => eT (RR (Y f 3 fun _ f => eT (RcF f F3 (fun B2 F4 => ?_) fun B2 F5 => ?_)))
   ·have U2 : ¬ (X1 = 0) := (not_iff dI).1 B2
    refine RR (Y f 2 fun _ f => eT (wp_ret (B_r (T_r (T_r ?_)))))
    obtain rfl := sI F4
    exact .inl ⟨rfl, X1, (sI T1).symm, V1, J1, f.kp, N1⟩
   ·have U3 : ¬ (¬ (X1 = 0)) := iff_f (not_iff dI) B2
    refine wp_skip (B_n (T_n (R_reg ?_)))
    obtain ⟨O1, F6⟩ := nS F5
    refine Y f 1 fun _ f => ?_
    have f := f.st 16 (iW O1)
    refine Y f 1 fun _ f => eT ?_
    obtain rfl := sI F6
    exact ⟨⟨I2, K1 + 1⟩, Nat.lt_succ_self _, V1, J1, T1, f.kp, N1⟩
  ·have U4 := iff_f dI B1
   refine wp_exit (T_x (T_x ?_))
   obtain rfl := sI F7
   exact .inr ⟨rfl, (), (sI T1).symm, V1, J1, f.kp, N1⟩
 ·rintro _ _ W4 (⟨rfl, G1, rfl, V2, J2, f, N2⟩ | ⟨rfl, G2, rfl, V3, J3, f, N3⟩)
  ·refine B_r (T_r (E_ret1 f rfl (by kernel_rfl : Vc.look _ 2 = some (.int .i64 G1)) ?_))
   obtain rfl := sI F1
   exact ⟨_, rfl, V2, J2, N2, rfl⟩
  ·refine B_x (T_n (RR (Y f 2 fun _ f => eT (wp_ret (E_ret1 f rfl (by kernel_rfl : Vc.look _ 2 = some (.int .i64 0)) ?_)))))
   obtain rfl := sI F1
   exact ⟨_, rfl, V3, J3, N3, rfl⟩
def tree_compare_s1 (n : Nat) (rec_tree_compare : TE0 → TE0 → Option Int) (d0 : TE0) (d1 : TE0) (K1 : Int) : Option (Lp Int (Sum Int Unit)) :=
    bif (decide (K1 < (min ((d0.fList.length : Nat) : Int) ((d1.fList.length : Nat) : Int)))) then
      (((bif (decide (d0.fKind = 5)) then
          ((getI d0.fKeys K1).bind fun X7 =>
          (getI d1.fKeys K1).bind fun X8 =>
          (h_Compare n X7 X8).bind fun X9 =>
          bif (!(decide (X9 = 0))) then
            (((some (.br (.inl X9)) : Option (Lp Int (Sum Int Unit)))).map Lp.br)
          else
            some (.nx ()))
        else
          some (.nx ()) : Option (Lp Unit (Lp Int (Sum Int Unit))))).bind fun j => joinF j fun G1 =>
      (getI d0.fList K1).bind fun X10 =>
      (getI d1.fList K1).bind fun X11 =>
      (rec_tree_compare X10 X11).bind fun X12 =>
      bif (!(decide (X12 = 0))) then
        (some (.br (.inl X12)))
      else
        need (inR .i64 (K1 + 1)) <|
        some (.nx (K1 + 1)))
    else
      some (.br (.inr ()))
def tree_compare_b (n : Nat) (rec_tree_compare : TE0 → TE0 → Option Int) (d0 : TE0) (d1 : TE0) : Option Int :=
  (cmp_Compare n d0.fKind d1.fKind).bind fun X1 =>
  (tree_bit n (d0.fBool)).bind fun X2 =>
  (tree_bit n (d1.fBool)).bind fun X3 =>
  need (inR .i64 (X2 - X3)) <|
  (cmp_Compare_2 n d0.fNum d1.fNum).bind fun X4 =>
  (h_Compare n d0.fText d1.fText).bind fun X5 =>
  (cmp_Or n [X1, X2 - X3, X4, X5]).bind fun X6 =>
  bif (!(decide (X6 = 0))) then
    (some (X6))
  else
    (loopF (tree_compare_s1 n rec_tree_compare d0 d1) n (0 : Int)).bind fun Q2 =>
    (match Q2 with 
    | .inl G2 => some (G2) 
    | .inr G3 => (cmp_Compare_2 n ((d0.fList.length : Nat) : Int) ((d1.fList.length : Nat) : Int)).bind fun X13 =>
      some (X13))
set_option maxRecDepth 20000 in
theorem tree_compare_b_ok (n : Nat) (rec_tree_compare : TE0 → TE0 → Option Int) (hrec_tree_compare : ∀ (M : Mem) (hG : GL M) (ad0 : Addr) (c0 : List Value) (d0 : TE0) (h0 : Rep M (emb_TE0 d0) c0) (q0 : ∀ j v, c0[j]? = some v → M.cell? (ad0.add j) = some v) (ad1 : Addr) (c1 : List Value) (d1 : TE0) (h1 : Rep M (emb_TE0 d1) c1) (q1 : ∀ j v, c1[j]? = some v → M.cell? (ad1.add j) = some v) (r : Int) (hF : rec_tree_compare d0 d1 = some r), Ok Tryz.prog M 135 [.pointer (some ad0), .pointer (some ad1)] (fun _ v => v = .int .i64 r)) (M : Mem) (hG : GL M) (ad0 : Addr) (c0 : List Value) (d0 : TE0) (h0 : Rep M (emb_TE0 d0) c0) (q0 : ∀ j v, c0[j]? = some v → M.cell? (ad0.add j) = some v) (ad1 : Addr) (c1 : List Value) (d1 : TE0) (h1 : Rep M (emb_TE0 d1) c1) (q1 : ∀ j v, c1[j]? = some v → M.cell? (ad1.add j) = some v) (r : Int) (hF : tree_compare_b n rec_tree_compare d0 d1 = some r) : Ok Tryz.prog M 135 [.pointer (some ad0), .pointer (some ad1)] (fun _ v => v = .int .i64 r) := by
 unfold tree_compare_b at hF
 intro M1 hM0 w0 H w p0
 replace hG := GL.mono hM0 hG
 replace h0 := Rep.mono hM0 _ _ h0
 replace q0 := fun j v h => hM0.cell (q0 j v h)
 replace h1 := Rep.mono hM0 _ _ h1
 replace q1 := fun j v h => hM0.cell (q1 j v h)
 obtain ⟨Z1, P1, Z2, P2, rfl, B1, B2⟩ := TE0.opn h0
 obtain ⟨Z3, P3, Z4, P4, rfl, B3, B4⟩ := TE0.opn h1
 refine R_enter 117 Tryz.func135 rfl rfl (by simp) fun a0 f0 => RR (Y f0 1 fun _ f => eT (R_seq (R_seq (R_drawQ 38 p0 (by kernel_rfl) (by kernel_rfl) (Y5 default f 3 fun _ f => Y4 f q0 0 rfl fun _ f => Y5 default f 3 fun _ f => Y4 f q1 0 rfl fun _ f => ?_)))))
 obtain ⟨X1, S1, F1⟩ := bS hF
 refine Y3 f (cmp_Compare_ok n _ d0.fKind d1.fKind X1 S1) fun _ f => Y5 default f 3 fun _ f => Y4 f q0 1 rfl fun _ f => ?_
 obtain ⟨X2, S2, F2⟩ := bS F1
 refine Y3 f (tree_bit_ok n _ hG (d0.fBool) X2 S2) fun _ f => Y5 default f 3 fun _ f => Y4 f q1 1 rfl fun _ f => ?_
 obtain ⟨X3, S3, F3⟩ := bS F2
 refine Y3 f (tree_bit_ok n _ hG (d1.fBool) X3 S3) fun _ f => ?_
 obtain ⟨O1, F4⟩ := nS F3
 refine Y2 (v := .int .i64 (IntKind.wrap .i64 (X2 - X3))) f (fun _ pq => by kernel_rfl) fun _ f => ?_
 have f := f.st 28 (iW O1)
 refine Y5 default f 3 fun _ f => Y4 f q0 2 rfl fun _ f => Y5 default f 3 fun _ f => Y4 f q1 2 rfl fun _ f => ?_
 obtain ⟨X4, S4, F5⟩ := bS F4
 refine Y3 f (cmp_Compare_2_ok n _ hG d0.fNum d1.fNum X4 S4) fun _ f => Y5 default f 3 fun _ f => Y4 f q0 3 rfl fun _ f => Y5 default f 3 fun _ f => Y4 f q1 3 rfl fun _ f => ?_
 obtain ⟨X5, S5, F6⟩ := bS F5
 refine Y3 f (h_Compare_ok n _ d0.fText d1.fText X5 S5) fun _ f => Q_end rfl ?_
 intro W1 N1
 refine V_allocS (k := 4) (c := 4) f N1 (.cells #[.int .i64 X1, .int .i64 (X2 - X3), .int .i64 X4, .int .i64 X5] 3 (0, 0)) (by kernel_rfl) (fun _ => by kernel_rfl) fun Q1 W7 N7 _ f => ?_
 have D1 : RepSeq M1 ([X1, X2 - X3, X4, X5].map (Dat.int .i64)) [.int .i64 X1, .int .i64 (X2 - X3), .int .i64 X4, .int .i64 X5] := ⟨_, _, rfl, rfl, ⟨_, _, rfl, rfl, ⟨_, _, rfl, rfl, ⟨_, _, rfl, rfl, rfl⟩⟩⟩⟩
 have N8 : Hp w0 M1 ((Ent.row 3 1 (.slice (some ⟨Q1, 0, none⟩) 4 4) [X1, X2 - X3, X4, X5].length [.int .i64 X1, .int .i64 (X2 - X3), .int .i64 X4, .int .i64 X5]) :: H) W7 := N7.objRow (n := 4) (cap := 4) (size := 1) (by decide) (by decide) (blk_eq (by decide) rfl) rfl rfl
 obtain ⟨V1, Z5, P5, J1, H1, N9, B5, hb_1⟩ := N8.lend (f := (Dat.int .i64)) (xs := [X1, X2 - X3, X4, X5]) (szd_int .i64) D1
 have f := f.st 47 (H1)
 obtain ⟨X6, S6, F7⟩ := bS F6
 refine Y18 f N9 (cmp_Or_ok n _ (GL.mono J1 hG) Z5 P5 [X1, X2 - X3, X4, X5] B5 X6 S6) fun W8 N10 _ f => ?_
 obtain ⟨V2, J2, N11⟩ := hb_1 _ _ _ (mR _) N10
 have f := f.st 47 (H1.symm)
 refine Y f 1 fun _ f => eT (RR (Y f 2 fun _ f => eT (RcF f F7 (fun B6 F8 => ?_) fun B6 F9 => ?_)))
 ·have U1 : ¬ (X6 = 0) := (not_iff dI).1 B6
  refine RR (Y f 2 fun _ f => eT (wp_ret (T_r (E_ret1 f rfl (by kernel_rfl : Vc.look _ 4 = some (.int .i64 X6)) ?_))))
  obtain rfl := sI F8
  exact ⟨_, rfl, V2, J2, (N11.dropN 1), rfl⟩
 ·have U2 : ¬ (¬ (X6 = 0)) := iff_f (not_iff dI) B6
  refine wp_skip (T_n (R_seq (R_seq (R_draw N11 (by kernel_rfl) (by kernel_rfl) (Y5 default f 3 fun _ f => Y4 f (fzu J2 q0) 4 rfl fun _ f => Y5 default f 4 fun _ f => Y4 f (fzu J2 q1) 4 rfl fun _ f => Y5 default f 1 fun _ f => Y2 (v := .int .i64 (min ((d0.fList.length : Nat) : Int) ((d1.fList.length : Nat) : Int))) f (fun _ pq => X_min (k := .i64) (a := ((d0.fList.length : Nat) : Int)) (b := ((d1.fList.length : Nat) : Int)) rfl (by kernel_rfl) (by kernel_rfl)) fun _ f => Y5 default f 1 fun _ f => Q_end rfl ?_)))))
  intro W9 N12
  refine T_n (wp_block ?_)
  obtain ⟨Q2, hL_1, F10⟩ := bS F9
  refine wp_mono (Q := fun e a w => (e = .ret ∧ (∃ G2 : Int, Q2 = .inl G2 ∧ ∃ V5 : Mem, V2.le V5 ∧ Frm 117 [(4, .int .i64 G2)] a ∧ Hp w0 V5 ((Ent.row 3 1 (.slice (some ⟨Q1, 0, none⟩) 4 4) [X1, X2 - X3, X4, X5].length [.int .i64 X1, .int .i64 (X2 - X3), .int .i64 X4, .int .i64 X5]) :: H) w)) ∨ (e = .exit 0 ∧ (∃ G3 : Unit, Q2 = .inr G3 ∧ ∃ V6 : Mem, V2.le V6 ∧ Frm 117 [(0, .pointer (some ad0)), (1, .pointer (some ad1))] a ∧ Hp w0 V6 ((Ent.row 3 1 (.slice (some ⟨Q1, 0, none⟩) 4 4) [X1, X2 - X3, X4, X5].length [.int .i64 X1, .int .i64 (X2 - X3), .int .i64 X4, .int .i64 X5]) :: H) w))) (R_loop (n := 117) (w0 := w0) (M := V2) (fun (x : Nat × Int) => match x with | (I1, K1) => [(0, .pointer (some ad0)), (1, .pointer (some ad1)), (62, .int .i64 (min ((d0.fList.length : Nat) : Int) ((d1.fList.length : Nat) : Int))), (63, .int .i64 K1)]) (fun (x : Nat × Int) => match x with | (I1, K1) => ((Ent.row 3 1 (.slice (some ⟨Q1, 0, none⟩) 4 4) [X1, X2 - X3, X4, X5].length [.int .i64 X1, .int .i64 (X2 - X3), .int .i64 X4, .int .i64 X5]) :: H)) (fun (x : Nat × Int) (MM : Mem) => match x with | (I1, K1) => loopF (tree_compare_s1 n rec_tree_compare d0 d1) I1 K1 = some Q2) (fun (x : Nat × Int) => match x with | (I1, K1) => I1) (n, (0 : Int)) (f.kp) N12 hL_1 ?_) ?_
  ·rintro ⟨I1, K1⟩ V3 _ W10 J3 I_1 f N13
   have I_1L := I_1
   obtain ⟨I2, r_1, rfl, hs_1, T1⟩ := loop_step I_1L
   unfold tree_compare_s1 at hs_1
   refine RR (Y f 1 fun _ f => eT (R_seq (RcF f hs_1 (fun B7 F11 => ?_) fun B7 F27 => ?_)))
   ·have U3 := dI.1 B7
    refine wp_skip (T_n (R_seq (wp_block (RR (Y f 2 fun _ f => eT (R_seq (RR (Y f 3 fun _ f => Y15 f N13 (fzu (J2.trans J3) q0) 0 rfl fun _ f => Y f 1 fun _ f => eT ?_))))))))
    obtain ⟨j_1, hj_1, F12⟩ := bS F11
    refine R_mid (fun a_56 W13 => ∃ G1 : Unit, j_1 = .nx G1 ∧ ∃ V4 : Mem, V3.le V4 ∧ Frm 117 [(0, .pointer (some ad0)), (1, .pointer (some ad1)), (6, .int .i64 K1), (62, .int .i64 (min ((d0.fList.length : Nat) : Int) ((d1.fList.length : Nat) : Int))), (63, .int .i64 K1)] a_56 ∧ Hp w0 V4 ((Ent.row 3 1 (.slice (some ⟨Q1, 0, none⟩) 4 4) [X1, X2 - X3, X4, X5].length [.int .i64 X1, .int .i64 (X2 - X3), .int .i64 X4, .int .i64 X5]) :: H) W13) ?_ ?_
    ·refine RcF f hj_1 (fun B8 F13 => ?_) fun B8 F20 => ?_
     ·have U4 := dI.1 B8
      refine R_seq (R_draw N13 (by kernel_rfl) (by kernel_rfl) (Y5 default f 3 fun _ f => Y4 f (fzu (J2.trans J3) q0) 5 rfl fun _ f => Y5 default f 1 fun _ f => ?_))
      obtain ⟨X7, S7, F14⟩ := bS F13
      obtain ⟨C1, c_1, e_1, -, D2, R1⟩ := Sli.at_ (B2.mono (J2.trans J3)) S7
      obtain rfl : c_1 = [S X7] := D2
      refine Y2 (v := .pointer (some (C1.add (K1.toNat * 1)))) f (fun _ pq => Y32 e_1 rfl (len := d0.fKeys.length) (cap := P2) (k := .i64) (i := K1) (e := 9) (sz := 1) (getI_nn S7) (getI_lt S7)) fun _ f => Y4 f R1 0 rfl fun _ f => Y5 default f 3 fun _ f => Y4 f (fzu (J2.trans J3) q1) 5 rfl fun _ f => Y5 default f 1 fun _ f => ?_
      obtain ⟨X8, S8, F15⟩ := bS F14
      obtain ⟨C2, c_2, e_2, -, D3, R2⟩ := Sli.at_ (B4.mono (J2.trans J3)) S8
      obtain rfl : c_2 = [S X8] := D3
      refine Y2 (v := .pointer (some (C2.add (K1.toNat * 1)))) f (fun _ pq => Y32 e_2 rfl (len := d1.fKeys.length) (cap := P4) (k := .i64) (i := K1) (e := 9) (sz := 1) (getI_nn S8) (getI_lt S8)) fun _ f => Y4 f R2 0 rfl fun _ f => ?_
      obtain ⟨X9, S9, F16⟩ := bS F15
      refine Y3 f (h_Compare_ok n _ X7 X8 X9 S9) fun _ f => Y5 default f 1 fun _ f => Q_end rfl ?_
      intro W12 N15
      refine T_n (RR (Y f 2 fun _ f => eT (RcF f F16 (fun B9 F17 => ?_) fun B9 F19 => ?_)))
      ·have U5 : ¬ (X9 = 0) := (not_iff dI).1 B9
       refine RR (Y f 2 fun _ f => eT (wp_ret ?_))
       have F18 := br_elim F17 F12
       refine T_r (T_r (B_r (T_r (T_r ?_))))
       obtain rfl := sI F18
       exact .inl ⟨rfl, X9, (sI T1).symm, V3, J3, f.kp, N15⟩
      ·have U6 : ¬ (¬ (X9 = 0)) := iff_f (not_iff dI) B9
       refine wp_skip (T_n ?_)
       exact ⟨(), (sI F19).symm, V3, (mR _), f.kp, N15⟩
     ·have U7 := iff_f dI B8
      refine wp_skip (T_n ?_)
      exact ⟨(), (sI F20).symm, V3, (mR _), f.kp, N13⟩
    ·rintro a_56 W13 ⟨G1, rfl, V4, J4, f, N16⟩
     refine T_n (R_seq (R_draw N16 (by kernel_rfl) (by kernel_rfl) (Y5 default f 3 fun _ f => Y4 f (fzu ((J2.trans J3).trans J4) q0) 4 rfl fun _ f => Y5 default f 1 fun _ f => ?_)))
     obtain ⟨X10, S10, F21⟩ := bS F12
     obtain ⟨C3, c_3, e_3, -, D4, R3⟩ := Sli.at_ (B1.mono ((J2.trans J3).trans J4)) S10
     obtain ⟨Z6, P6, Z7, P7, rfl, B10, B11⟩ := TE0.opn D4
     refine Y2 (v := .pointer (some (C3.add (K1.toNat * 6)))) f (fun _ pq => Y32 e_3 rfl (len := d0.fList.length) (cap := P1) (k := .i64) (i := K1) (e := 26) (sz := 6) (getI_nn S10) (getI_lt S10)) fun _ f => Y5 default f 3 fun _ f => Y4 f (fzu ((J2.trans J3).trans J4) q1) 4 rfl fun _ f => Y5 default f 1 fun _ f => ?_
     obtain ⟨X11, S11, F22⟩ := bS F21
     obtain ⟨C4, c_4, e_4, -, D5, R4⟩ := Sli.at_ (B3.mono ((J2.trans J3).trans J4)) S11
     obtain ⟨Z8, P8, Z9, P9, rfl, B12, B13⟩ := TE0.opn D5
     refine Y2 (v := .pointer (some (C4.add (K1.toNat * 6)))) f (fun _ pq => Y32 e_4 rfl (len := d1.fList.length) (cap := P3) (k := .i64) (i := K1) (e := 26) (sz := 6) (getI_nn S11) (getI_lt S11)) fun _ f => ?_
     obtain ⟨X12, S12, F23⟩ := bS F22
     refine Y3 f (hrec_tree_compare _ (GL.mono ((J2.trans J3).trans J4) hG) (C3.add (K1.toNat * 6)) [.int .i8 X10.fKind, .bool X10.fBool, .int .i64 X10.fNum, S X10.fText, .slice Z6 X10.fList.length P6, .slice Z7 X10.fKeys.length P7] X10 (TE0.shutx (x := X10) B10 B11) (fz_at (R3) 0 rfl) (C4.add (K1.toNat * 6)) [.int .i8 X11.fKind, .bool X11.fBool, .int .i64 X11.fNum, S X11.fText, .slice Z8 X11.fList.length P8, .slice Z9 X11.fKeys.length P9] X11 (TE0.shutx (x := X11) B12 B13) (fz_at (R4) 0 rfl) X12 S12) fun _ f => Y5 default f 1 fun _ f => Q_end rfl ?_
     intro W15 N18
     refine T_n (RR (Y f 2 fun _ f => eT (RcF f F23 (fun B14 F24 => ?_) fun B14 F25 => ?_)))
     ·have U8 : ¬ (X12 = 0) := (not_iff dI).1 B14
      refine RR (Y f 2 fun _ f => eT (wp_ret (B_r (T_r (T_r ?_)))))
      obtain rfl := sI F24
      exact .inl ⟨rfl, X12, (sI T1).symm, V4, (J3.trans J4), f.kp, N18⟩
     ·have U9 : ¬ (¬ (X12 = 0)) := iff_f (not_iff dI) B14
      refine wp_skip (B_n (T_n (R_reg ?_)))
      obtain ⟨O2, F26⟩ := nS F25
      refine Y f 1 fun _ f => ?_
      have f := f.st 105 (iW O2)
      refine Y f 1 fun _ f => eT ?_
      obtain rfl := sI F26
      exact ⟨⟨I2, K1 + 1⟩, Nat.lt_succ_self _, V4, (J3.trans J4), T1, f.kp, N18⟩
   ·have U10 := iff_f dI B7
    refine wp_exit (T_x (T_x ?_))
    obtain rfl := sI F27
    exact .inr ⟨rfl, (), (sI T1).symm, V3, J3, f.kp, N13⟩
  ·rintro _ _ W18 (⟨rfl, G2, rfl, V5, J5, f, N19⟩ | ⟨rfl, G3, rfl, V6, J6, f, N20⟩)
   ·refine B_r (T_r (E_ret1 f rfl (by kernel_rfl : Vc.look _ 4 = some (.int .i64 G2)) ?_))
    obtain rfl := sI F10
    exact ⟨_, rfl, V5, (J2.trans J5), (N19.dropN 1), rfl⟩
   ·refine B_x (T_n (R_seq (R_draw N20 (by kernel_rfl) (by kernel_rfl) (Y5 default f 3 fun _ f => Y4 f (fzu (J2.trans J6) q0) 4 rfl fun _ f => Y5 default f 4 fun _ f => Y4 f (fzu (J2.trans J6) q1) 4 rfl fun _ f => Y5 default f 1 fun _ f => ?_))))
    obtain ⟨X13, S13, F28⟩ := bS F10
    refine Y3 f (cmp_Compare_2_ok n _ (GL.mono (J2.trans J6) hG) ((d0.fList.length : Nat) : Int) ((d1.fList.length : Nat) : Int) X13 S13) fun _ f => Y5 default f 1 fun _ f => Q_end rfl ?_
    intro W20 N22
    refine T_n (wp_ret (E_ret1 f rfl (by kernel_rfl : Vc.look _ 4 = some (.int .i64 X13)) ?_))
    obtain rfl := sI F28
    exact ⟨_, rfl, V6, (J2.trans J6), (N22.dropN 1), rfl⟩
def tree_compare_k (n : Nat) : Nat → TE0 → TE0 → Option Int
  | 0 => fun _ _ => none
  | k + 1 => tree_compare_b n (tree_compare_k n k)
def tree_compare (n : Nat) (d0 : TE0) (d1 : TE0) : Option Int := tree_compare_k n n d0 d1
theorem tree_compare_ok (n : Nat) (M : Mem) (hG : GL M) (ad0 : Addr) (c0 : List Value) (d0 : TE0) (h0 : Rep M (emb_TE0 d0) c0) (q0 : ∀ j v, c0[j]? = some v → M.cell? (ad0.add j) = some v) (ad1 : Addr) (c1 : List Value) (d1 : TE0) (h1 : Rep M (emb_TE0 d1) c1) (q1 : ∀ j v, c1[j]? = some v → M.cell? (ad1.add j) = some v) (r : Int) (hF : tree_compare n d0 d1 = some r) : Ok Tryz.prog M 135 [.pointer (some ad0), .pointer (some ad1)] (fun _ v => v = .int .i64 r) := by
 have key : ∀ (k : Nat) (M : Mem) (hG : GL M) (ad0 : Addr) (c0 : List Value) (d0 : TE0) (h0 : Rep M (emb_TE0 d0) c0) (q0 : ∀ j v, c0[j]? = some v → M.cell? (ad0.add j) = some v) (ad1 : Addr) (c1 : List Value) (d1 : TE0) (h1 : Rep M (emb_TE0 d1) c1) (q1 : ∀ j v, c1[j]? = some v → M.cell? (ad1.add j) = some v) (r : Int) (hF : tree_compare_k n k d0 d1 = some r), Ok Tryz.prog M 135 [.pointer (some ad0), .pointer (some ad1)] (fun _ v => v = .int .i64 r) := by
  intro k
  induction k with
  | zero => intro M hG ad0 c0 d0 h0 q0 ad1 c1 d1 h1 q1 r hF; simp [tree_compare_k] at hF
  | succ k ih => intro M hG ad0 c0 d0 h0 q0 ad1 c1 d1 h1 q1 r hF; exact tree_compare_b_ok n (tree_compare_k n k) ih M hG ad0 c0 d0 h0 q0 ad1 c1 d1 h1 q1 r hF
 exact key n M hG ad0 c0 d0 h0 q0 ad1 c1 d1 h1 q1 r hF
def tree_compare_2_s1 (n : Nat) (d0_0 : Int) (d0_4 : List TE0) (d0_5 : List (List UInt8)) (d1_4 : List TE0) (d1_5 : List (List UInt8)) (K1 : Int) : Option (Lp Int (Sum Int Unit)) :=
    bif (decide (K1 < (min ((d0_4.length : Nat) : Int) ((d1_4.length : Nat) : Int)))) then
      (((bif (decide (d0_0 = 5)) then
          ((getI d0_5 K1).bind fun X7 =>
          (getI d1_5 K1).bind fun X8 =>
          (h_Compare n X7 X8).bind fun X9 =>
          bif (!(decide (X9 = 0))) then
            (((some (.br (.inl X9)) : Option (Lp Int (Sum Int Unit)))).map Lp.br)
          else
            some (.nx ()))
        else
          some (.nx ()) : Option (Lp Unit (Lp Int (Sum Int Unit))))).bind fun j => joinF j fun G1 =>
      (getI d0_4 K1).bind fun X10 =>
      (getI d1_4 K1).bind fun X11 =>
      (tree_compare n X10 X11).bind fun X12 =>
      bif (!(decide (X12 = 0))) then
        (some (.br (.inl X12)))
      else
        need (inR .i64 (K1 + 1)) <|
        some (.nx (K1 + 1)))
    else
      some (.br (.inr ()))
def tree_compare_2 (n : Nat) (d0_0 : Int) (d0_1 : Bool) (d0_2 : Int) (d0_3 : List UInt8) (d0_4 : List TE0) (d0_5 : List (List UInt8)) (d1_0 : Int) (d1_1 : Bool) (d1_2 : Int) (d1_3 : List UInt8) (d1_4 : List TE0) (d1_5 : List (List UInt8)) : Option (Int × Int × Bool × Int × List UInt8 × List TE0 × List (List UInt8) × Int × Bool × Int × List UInt8 × List TE0 × List (List UInt8)) :=
  (cmp_Compare n d0_0 d1_0).bind fun X1 =>
  (tree_bit n (d0_1)).bind fun X2 =>
  (tree_bit n (d1_1)).bind fun X3 =>
  need (inR .i64 (X2 - X3)) <|
  (cmp_Compare_2 n d0_2 d1_2).bind fun X4 =>
  (h_Compare n d0_3 d1_3).bind fun X5 =>
  (cmp_Or n [X1, X2 - X3, X4, X5]).bind fun X6 =>
  bif (!(decide (X6 = 0))) then
    (some ((X6, d0_0, (d0_1), d0_2, d0_3, d0_4, d0_5, d1_0, (d1_1), d1_2, d1_3, d1_4, d1_5)))
  else
    (loopF (tree_compare_2_s1 n d0_0 d0_4 d0_5 d1_4 d1_5) n (0 : Int)).bind fun Q2 =>
    (match Q2 with 
    | .inl G2 => some ((G2, d0_0, (d0_1), d0_2, d0_3, d0_4, d0_5, d1_0, (d1_1), d1_2, d1_3, d1_4, d1_5)) 
    | .inr G3 => (cmp_Compare_2 n ((d0_4.length : Nat) : Int) ((d1_4.length : Nat) : Int)).bind fun X13 =>
      some ((X13, d0_0, (d0_1), d0_2, d0_3, d0_4, d0_5, d1_0, (d1_1), d1_2, d1_3, d1_4, d1_5)))
set_option maxRecDepth 20000 in
theorem tree_compare_2_ok (n : Nat) (M : Mem) (hG : GL M) (b0 : Nat) (d0_0 : Int) (d0_1 : Bool) (d0_2 : Int) (d0_3 : List UInt8) (d0_4 : List TE0) (Z1 : Option Addr) (P1 : Nat) (B1 : Sli M 6 emb_TE0 Z1 P1 d0_4) (d0_5 : List (List UInt8)) (Z2 : Option Addr) (P2 : Nat) (B2 : Sli M 1 Dat.str Z2 P2 d0_5) (b1 : Nat) (d1_0 : Int) (d1_1 : Bool) (d1_2 : Int) (d1_3 : List UInt8) (d1_4 : List TE0) (Z3 : Option Addr) (P3 : Nat) (B3 : Sli M 6 emb_TE0 Z3 P3 d1_4) (d1_5 : List (List UInt8)) (Z4 : Option Addr) (P4 : Nat) (B4 : Sli M 1 Dat.str Z4 P4 d1_5) (r : Int × Int × Bool × Int × List UInt8 × List TE0 × List (List UInt8) × Int × Bool × Int × List UInt8 × List TE0 × List (List UInt8)) (hF : tree_compare_2 n d0_0 d0_1 d0_2 d0_3 d0_4 d0_5 d1_0 d1_1 d1_2 d1_3 d1_4 d1_5 = some r) : OkH Tryz.prog M [Ent.obj b0 (.cells #[.int .i8 d0_0, .bool d0_1, .int .i64 d0_2, S d0_3, .slice Z1 d0_4.length P1, .slice Z2 d0_5.length P2] 26 (0, 0)), Ent.obj b1 (.cells #[.int .i8 d1_0, .bool d1_1, .int .i64 d1_2, S d1_3, .slice Z3 d1_4.length P3, .slice Z4 d1_5.length P4] 26 (0, 0))] 135 [.pointer (some (⟨b0, 0, none⟩)), .pointer (some (⟨b1, 0, none⟩))] (fun M' E' v => ∃ (Z10 : Option Addr) (P10 : Nat) (Z11 : Option Addr) (P11 : Nat) (Z12 : Option Addr) (P12 : Nat) (Z13 : Option Addr) (P13 : Nat), v = .int .i64 r.1 ∧ E' = [Ent.obj b0 (.cells #[.int .i8 r.2.1, .bool r.2.2.1, .int .i64 r.2.2.2.1, S r.2.2.2.2.1, .slice Z10 r.2.2.2.2.2.1.length P10, .slice Z11 r.2.2.2.2.2.2.1.length P11] 26 (0, 0)), Ent.obj b1 (.cells #[.int .i8 r.2.2.2.2.2.2.2.1, .bool r.2.2.2.2.2.2.2.2.1, .int .i64 r.2.2.2.2.2.2.2.2.2.1, S r.2.2.2.2.2.2.2.2.2.2.1, .slice Z12 r.2.2.2.2.2.2.2.2.2.2.2.1.length P12, .slice Z13 r.2.2.2.2.2.2.2.2.2.2.2.2.length P13] 26 (0, 0))] ∧ Sli M' 6 emb_TE0 Z10 P10 r.2.2.2.2.2.1 ∧ Sli M' 1 Dat.str Z11 P11 r.2.2.2.2.2.2.1 ∧ Sli M' 6 emb_TE0 Z12 P12 r.2.2.2.2.2.2.2.2.2.2.2.1 ∧ Sli M' 1 Dat.str Z13 P13 r.2.2.2.2.2.2.2.2.2.2.2.2) := by
 unfold tree_compare_2 at hF
 intro M1 hM0 w0 H w p0
 replace hG := GL.mono hM0 hG
 replace B1 := B1.mono hM0
 replace B2 := B2.mono hM0
 replace B3 := B3.mono hM0
 replace B4 := B4.mono hM0
 refine R_enter 117 Tryz.func135 rfl rfl (by simp) fun a0 f0 => RR (Y f0 1 fun _ f => eT (R_seq (R_seq (R_drawQ 38 p0 (by kernel_rfl) (by kernel_rfl) (Y5 default f 3 fun _ f => Y2 (v := .int .i8 d0_0) f (fun _ pq => Y33 (v := .int .i8 d0_0) rfl (ad := ⟨b0, 0, none⟩) (pq.ownCell 0 rfl 0)) fun _ f => Y5 default f 3 fun _ f => Y2 (v := .int .i8 d1_0) f (fun _ pq => Y33 (v := .int .i8 d1_0) rfl (ad := ⟨b1, 0, none⟩) (pq.ownCell 1 rfl 0)) fun _ f => ?_)))))
 obtain ⟨X1, S1, F1⟩ := bS hF
 refine Y3 f (cmp_Compare_ok n _ d0_0 d1_0 X1 S1) fun _ f => Y5 default f 3 fun _ f => Y2 (v := .bool d0_1) f (fun _ pq => Y33 (v := .bool d0_1) rfl (ad := ⟨b0, 1, none⟩) (pq.ownCell 0 rfl 1)) fun _ f => ?_
 obtain ⟨X2, S2, F2⟩ := bS F1
 refine Y3 f (tree_bit_ok n _ hG (d0_1) X2 S2) fun _ f => Y5 default f 3 fun _ f => Y2 (v := .bool d1_1) f (fun _ pq => Y33 (v := .bool d1_1) rfl (ad := ⟨b1, 1, none⟩) (pq.ownCell 1 rfl 1)) fun _ f => ?_
 obtain ⟨X3, S3, F3⟩ := bS F2
 refine Y3 f (tree_bit_ok n _ hG (d1_1) X3 S3) fun _ f => ?_
 obtain ⟨O1, F4⟩ := nS F3
 refine Y2 (v := .int .i64 (IntKind.wrap .i64 (X2 - X3))) f (fun _ pq => by kernel_rfl) fun _ f => ?_
 have f := f.st 28 (iW O1)
 refine Y5 default f 3 fun _ f => Y2 (v := .int .i64 d0_2) f (fun _ pq => Y33 (v := .int .i64 d0_2) rfl (ad := ⟨b0, 2, none⟩) (pq.ownCell 0 rfl 2)) fun _ f => Y5 default f 3 fun _ f => Y2 (v := .int .i64 d1_2) f (fun _ pq => Y33 (v := .int .i64 d1_2) rfl (ad := ⟨b1, 2, none⟩) (pq.ownCell 1 rfl 2)) fun _ f => ?_
 obtain ⟨X4, S4, F5⟩ := bS F4
 refine Y3 f (cmp_Compare_2_ok n _ hG d0_2 d1_2 X4 S4) fun _ f => Y5 default f 3 fun _ f => Y2 (v := S d0_3) f (fun _ pq => Y33 (v := S d0_3) rfl (ad := ⟨b0, 3, none⟩) (pq.ownCell 0 rfl 3)) fun _ f => Y5 default f 3 fun _ f => Y2 (v := S d1_3) f (fun _ pq => Y33 (v := S d1_3) rfl (ad := ⟨b1, 3, none⟩) (pq.ownCell 1 rfl 3)) fun _ f => ?_
 obtain ⟨X5, S5, F6⟩ := bS F5
 refine Y3 f (h_Compare_ok n _ d0_3 d1_3 X5 S5) fun _ f => Q_end rfl ?_
 intro W1 N1
 refine V_allocS (k := 4) (c := 4) f N1 (.cells #[.int .i64 X1, .int .i64 (X2 - X3), .int .i64 X4, .int .i64 X5] 3 (0, 0)) (by kernel_rfl) (fun _ => by kernel_rfl) fun Q1 W7 N7 _ f => ?_
 have D1 : RepSeq M1 ([X1, X2 - X3, X4, X5].map (Dat.int .i64)) [.int .i64 X1, .int .i64 (X2 - X3), .int .i64 X4, .int .i64 X5] := ⟨_, _, rfl, rfl, ⟨_, _, rfl, rfl, ⟨_, _, rfl, rfl, ⟨_, _, rfl, rfl, rfl⟩⟩⟩⟩
 have N8 : Hp w0 M1 ((Ent.row 3 1 (.slice (some ⟨Q1, 0, none⟩) 4 4) [X1, X2 - X3, X4, X5].length [.int .i64 X1, .int .i64 (X2 - X3), .int .i64 X4, .int .i64 X5]) :: (Ent.obj b0 (.cells #[.int .i8 d0_0, .bool d0_1, .int .i64 d0_2, S d0_3, .slice Z1 d0_4.length P1, .slice Z2 d0_5.length P2] 26 (0, 0))) :: (Ent.obj b1 (.cells #[.int .i8 d1_0, .bool d1_1, .int .i64 d1_2, S d1_3, .slice Z3 d1_4.length P3, .slice Z4 d1_5.length P4] 26 (0, 0))) :: H) W7 := N7.objRow (n := 4) (cap := 4) (size := 1) (by decide) (by decide) (blk_eq (by decide) rfl) rfl rfl
 obtain ⟨V1, Z5, P5, J1, H1, N9, B5, hb_1⟩ := N8.lend (f := (Dat.int .i64)) (xs := [X1, X2 - X3, X4, X5]) (szd_int .i64) D1
 have f := f.st 47 (H1)
 obtain ⟨X6, S6, F7⟩ := bS F6
 refine Y18 f N9 (cmp_Or_ok n _ (GL.mono J1 hG) Z5 P5 [X1, X2 - X3, X4, X5] B5 X6 S6) fun W8 N10 _ f => ?_
 obtain ⟨V2, J2, N11⟩ := hb_1 _ _ _ (mR _) N10
 have f := f.st 47 (H1.symm)
 refine Y f 1 fun _ f => eT (RR (Y f 2 fun _ f => eT (RcF f F7 (fun B6 F8 => ?_) fun B6 F9 => ?_)))
 ·have U1 : ¬ (X6 = 0) := (not_iff dI).1 B6
  refine RR (Y f 2 fun _ f => eT (wp_ret (T_r (E_ret1 f rfl (by kernel_rfl : Vc.look _ 4 = some (.int .i64 X6)) ?_))))
  obtain rfl := sI F8
  exact ⟨_, rfl, V2, _, J2, (N11.dropN 1), ⟨Z1, P1, Z2, P2, Z3, P3, Z4, P4, rfl, rfl, (B1.mono J2), (B2.mono J2), (B3.mono J2), (B4.mono J2)⟩⟩
 ·have U2 : ¬ (¬ (X6 = 0)) := iff_f (not_iff dI) B6
  refine wp_skip (T_n (R_seq (R_seq (R_draw N11 (by kernel_rfl) (by kernel_rfl) (Y5 default f 3 fun _ f => Y2 (v := .slice Z1 d0_4.length P1) f (fun _ pq => Y33 (v := .slice Z1 d0_4.length P1) rfl (ad := ⟨b0, 4, none⟩) (pq.ownCell 1 rfl 4)) fun _ f => Y5 default f 4 fun _ f => Y2 (v := .slice Z3 d1_4.length P3) f (fun _ pq => Y33 (v := .slice Z3 d1_4.length P3) rfl (ad := ⟨b1, 4, none⟩) (pq.ownCell 2 rfl 4)) fun _ f => Y5 default f 1 fun _ f => Y2 (v := .int .i64 (min ((d0_4.length : Nat) : Int) ((d1_4.length : Nat) : Int))) f (fun _ pq => X_min (k := .i64) (a := ((d0_4.length : Nat) : Int)) (b := ((d1_4.length : Nat) : Int)) rfl (by kernel_rfl) (by kernel_rfl)) fun _ f => Y5 default f 1 fun _ f => Q_end rfl ?_)))))
  intro W9 N12
  refine T_n (wp_block ?_)
  obtain ⟨Q2, hL_1, F10⟩ := bS F9
  refine wp_mono (Q := fun e a w => (e = .ret ∧ (∃ G2 : Int, Q2 = .inl G2 ∧ ∃ V5 : Mem, V2.le V5 ∧ Frm 117 [(4, .int .i64 G2)] a ∧ Hp w0 V5 ((Ent.row 3 1 (.slice (some ⟨Q1, 0, none⟩) 4 4) [X1, X2 - X3, X4, X5].length [.int .i64 X1, .int .i64 (X2 - X3), .int .i64 X4, .int .i64 X5]) :: (Ent.obj b0 (.cells #[.int .i8 d0_0, .bool d0_1, .int .i64 d0_2, S d0_3, .slice Z1 d0_4.length P1, .slice Z2 d0_5.length P2] 26 (0, 0))) :: (Ent.obj b1 (.cells #[.int .i8 d1_0, .bool d1_1, .int .i64 d1_2, S d1_3, .slice Z3 d1_4.length P3, .slice Z4 d1_5.length P4] 26 (0, 0))) :: H) w)) ∨ (e = .exit 0 ∧ (∃ G3 : Unit, Q2 = .inr G3 ∧ ∃ V6 : Mem, V2.le V6 ∧ Frm 117 [(0, .pointer (some (⟨b0, 0, none⟩))), (1, .pointer (some (⟨b1, 0, none⟩)))] a ∧ Hp w0 V6 ((Ent.row 3 1 (.slice (some ⟨Q1, 0, none⟩) 4 4) [X1, X2 - X3, X4, X5].length [.int .i64 X1, .int .i64 (X2 - X3), .int .i64 X4, .int .i64 X5]) :: (Ent.obj b0 (.cells #[.int .i8 d0_0, .bool d0_1, .int .i64 d0_2, S d0_3, .slice Z1 d0_4.length P1, .slice Z2 d0_5.length P2] 26 (0, 0))) :: (Ent.obj b1 (.cells #[.int .i8 d1_0, .bool d1_1, .int .i64 d1_2, S d1_3, .slice Z3 d1_4.length P3, .slice Z4 d1_5.length P4] 26 (0, 0))) :: H) w))) (R_loop (n := 117) (w0 := w0) (M := V2) (fun (x : Nat × Int) => match x with | (I1, K1) => [(0, .pointer (some (⟨b0, 0, none⟩))), (1, .pointer (some (⟨b1, 0, none⟩))), (62, .int .i64 (min ((d0_4.length : Nat) : Int) ((d1_4.length : Nat) : Int))), (63, .int .i64 K1)]) (fun (x : Nat × Int) => match x with | (I1, K1) => ((Ent.row 3 1 (.slice (some ⟨Q1, 0, none⟩) 4 4) [X1, X2 - X3, X4, X5].length [.int .i64 X1, .int .i64 (X2 - X3), .int .i64 X4, .int .i64 X5]) :: (Ent.obj b0 (.cells #[.int .i8 d0_0, .bool d0_1, .int .i64 d0_2, S d0_3, .slice Z1 d0_4.length P1, .slice Z2 d0_5.length P2] 26 (0, 0))) :: (Ent.obj b1 (.cells #[.int .i8 d1_0, .bool d1_1, .int .i64 d1_2, S d1_3, .slice Z3 d1_4.length P3, .slice Z4 d1_5.length P4] 26 (0, 0))) :: H)) (fun (x : Nat × Int) (MM : Mem) => match x with | (I1, K1) => loopF (tree_compare_2_s1 n d0_0 d0_4 d0_5 d1_4 d1_5) I1 K1 = some Q2) (fun (x : Nat × Int) => match x with | (I1, K1) => I1) (n, (0 : Int)) (f.kp) N12 hL_1 ?_) ?_
  ·rintro ⟨I1, K1⟩ V3 _ W10 J3 I_1 f N13
   have I_1L := I_1
   obtain ⟨I2, r_1, rfl, hs_1, T1⟩ := loop_step I_1L
   unfold tree_compare_2_s1 at hs_1
   refine RR (Y f 1 fun _ f => eT (R_seq (RcF f hs_1 (fun B7 F11 => ?_) fun B7 F27 => ?_)))
   ·have U3 := dI.1 B7
    refine wp_skip (T_n (R_seq (wp_block (RR (Y f 2 fun _ f => eT (R_seq (RR (Y f 3 fun _ f => Z f (Y33 (v := .int .i8 d0_0) rfl (ad := ⟨b0, 0, none⟩) (N13.ownCell 1 rfl 0)) fun _ f => Y f 1 fun _ f => eT ?_))))))))
    obtain ⟨j_1, hj_1, F12⟩ := bS F11
    refine R_mid (fun a_56 W13 => ∃ G1 : Unit, j_1 = .nx G1 ∧ ∃ V4 : Mem, V3.le V4 ∧ Frm 117 [(0, .pointer (some (⟨b0, 0, none⟩))), (1, .pointer (some (⟨b1, 0, none⟩))), (6, .int .i64 K1), (62, .int .i64 (min ((d0_4.length : Nat) : Int) ((d1_4.length : Nat) : Int))), (63, .int .i64 K1)] a_56 ∧ Hp w0 V4 ((Ent.row 3 1 (.slice (some ⟨Q1, 0, none⟩) 4 4) [X1, X2 - X3, X4, X5].length [.int .i64 X1, .int .i64 (X2 - X3), .int .i64 X4, .int .i64 X5]) :: (Ent.obj b0 (.cells #[.int .i8 d0_0, .bool d0_1, .int .i64 d0_2, S d0_3, .slice Z1 d0_4.length P1, .slice Z2 d0_5.length P2] 26 (0, 0))) :: (Ent.obj b1 (.cells #[.int .i8 d1_0, .bool d1_1, .int .i64 d1_2, S d1_3, .slice Z3 d1_4.length P3, .slice Z4 d1_5.length P4] 26 (0, 0))) :: H) W13) ?_ ?_
    ·refine RcF f hj_1 (fun B8 F13 => ?_) fun B8 F20 => ?_
     ·have U4 := dI.1 B8
      refine R_seq (R_draw N13 (by kernel_rfl) (by kernel_rfl) (Y5 default f 3 fun _ f => Y2 (v := .slice Z2 d0_5.length P2) f (fun _ pq => Y33 (v := .slice Z2 d0_5.length P2) rfl (ad := ⟨b0, 5, none⟩) (pq.ownCell 1 rfl 5)) fun _ f => Y5 default f 1 fun _ f => ?_))
      obtain ⟨X7, S7, F14⟩ := bS F13
      obtain ⟨C1, c_1, e_1, -, D2, R1⟩ := Sli.at_ (B2.mono (J2.trans J3)) S7
      obtain rfl : c_1 = [S X7] := D2
      refine Y2 (v := .pointer (some (C1.add (K1.toNat * 1)))) f (fun _ pq => Y32 e_1 rfl (len := d0_5.length) (cap := P2) (k := .i64) (i := K1) (e := 9) (sz := 1) (getI_nn S7) (getI_lt S7)) fun _ f => Y4 f R1 0 rfl fun _ f => Y5 default f 3 fun _ f => Y2 (v := .slice Z4 d1_5.length P4) f (fun _ pq => Y33 (v := .slice Z4 d1_5.length P4) rfl (ad := ⟨b1, 5, none⟩) (pq.ownCell 2 rfl 5)) fun _ f => Y5 default f 1 fun _ f => ?_
      obtain ⟨X8, S8, F15⟩ := bS F14
      obtain ⟨C2, c_2, e_2, -, D3, R2⟩ := Sli.at_ (B4.mono (J2.trans J3)) S8
      obtain rfl : c_2 = [S X8] := D3
      refine Y2 (v := .pointer (some (C2.add (K1.toNat * 1)))) f (fun _ pq => Y32 e_2 rfl (len := d1_5.length) (cap := P4) (k := .i64) (i := K1) (e := 9) (sz := 1) (getI_nn S8) (getI_lt S8)) fun _ f => Y4 f R2 0 rfl fun _ f => ?_
      obtain ⟨X9, S9, F16⟩ := bS F15
      refine Y3 f (h_Compare_ok n _ X7 X8 X9 S9) fun _ f => Y5 default f 1 fun _ f => Q_end rfl ?_
      intro W12 N15
      refine T_n (RR (Y f 2 fun _ f => eT (RcF f F16 (fun B9 F17 => ?_) fun B9 F19 => ?_)))
      ·have U5 : ¬ (X9 = 0) := (not_iff dI).1 B9
       refine RR (Y f 2 fun _ f => eT (wp_ret ?_))
       have F18 := br_elim F17 F12
       refine T_r (T_r (B_r (T_r (T_r ?_))))
       obtain rfl := sI F18
       exact .inl ⟨rfl, X9, (sI T1).symm, V3, J3, f.kp, N15⟩
      ·have U6 : ¬ (¬ (X9 = 0)) := iff_f (not_iff dI) B9
       refine wp_skip (T_n ?_)
       exact ⟨(), (sI F19).symm, V3, (mR _), f.kp, N15⟩
     ·have U7 := iff_f dI B8
      refine wp_skip (T_n ?_)
      exact ⟨(), (sI F20).symm, V3, (mR _), f.kp, N13⟩
    ·rintro a_56 W13 ⟨G1, rfl, V4, J4, f, N16⟩
     refine T_n (R_seq (R_draw N16 (by kernel_rfl) (by kernel_rfl) (Y5 default f 3 fun _ f => Y2 (v := .slice Z1 d0_4.length P1) f (fun _ pq => Y33 (v := .slice Z1 d0_4.length P1) rfl (ad := ⟨b0, 4, none⟩) (pq.ownCell 1 rfl 4)) fun _ f => Y5 default f 1 fun _ f => ?_)))
     obtain ⟨X10, S10, F21⟩ := bS F12
     obtain ⟨C3, c_3, e_3, -, D4, R3⟩ := Sli.at_ (B1.mono ((J2.trans J3).trans J4)) S10
     obtain ⟨Z6, P6, Z7, P7, rfl, B10, B11⟩ := TE0.opn D4
     refine Y2 (v := .pointer (some (C3.add (K1.toNat * 6)))) f (fun _ pq => Y32 e_3 rfl (len := d0_4.length) (cap := P1) (k := .i64) (i := K1) (e := 26) (sz := 6) (getI_nn S10) (getI_lt S10)) fun _ f => Y5 default f 3 fun _ f => Y2 (v := .slice Z3 d1_4.length P3) f (fun _ pq => Y33 (v := .slice Z3 d1_4.length P3) rfl (ad := ⟨b1, 4, none⟩) (pq.ownCell 2 rfl 4)) fun _ f => Y5 default f 1 fun _ f => ?_
     obtain ⟨X11, S11, F22⟩ := bS F21
     obtain ⟨C4, c_4, e_4, -, D5, R4⟩ := Sli.at_ (B3.mono ((J2.trans J3).trans J4)) S11
     obtain ⟨Z8, P8, Z9, P9, rfl, B12, B13⟩ := TE0.opn D5
     refine Y2 (v := .pointer (some (C4.add (K1.toNat * 6)))) f (fun _ pq => Y32 e_4 rfl (len := d1_4.length) (cap := P3) (k := .i64) (i := K1) (e := 26) (sz := 6) (getI_nn S11) (getI_lt S11)) fun _ f => ?_
     obtain ⟨X12, S12, F23⟩ := bS F22
     refine Y3 f (tree_compare_ok n _ (GL.mono ((J2.trans J3).trans J4) hG) (C3.add (K1.toNat * 6)) [.int .i8 X10.fKind, .bool X10.fBool, .int .i64 X10.fNum, S X10.fText, .slice Z6 X10.fList.length P6, .slice Z7 X10.fKeys.length P7] X10 (TE0.shutx (x := X10) B10 B11) (fz_at (R3) 0 rfl) (C4.add (K1.toNat * 6)) [.int .i8 X11.fKind, .bool X11.fBool, .int .i64 X11.fNum, S X11.fText, .slice Z8 X11.fList.length P8, .slice Z9 X11.fKeys.length P9] X11 (TE0.shutx (x := X11) B12 B13) (fz_at (R4) 0 rfl) X12 S12) fun _ f => Y5 default f 1 fun _ f => Q_end rfl ?_
     intro W15 N18
     refine T_n (RR (Y f 2 fun _ f => eT (RcF f F23 (fun B14 F24 => ?_) fun B14 F25 => ?_)))
     ·have U8 : ¬ (X12 = 0) := (not_iff dI).1 B14
      refine RR (Y f 2 fun _ f => eT (wp_ret (B_r (T_r (T_r ?_)))))
      obtain rfl := sI F24
      exact .inl ⟨rfl, X12, (sI T1).symm, V4, (J3.trans J4), f.kp, N18⟩
     ·have U9 : ¬ (¬ (X12 = 0)) := iff_f (not_iff dI) B14
      refine wp_skip (B_n (T_n (R_reg ?_)))
      obtain ⟨O2, F26⟩ := nS F25
      refine Y f 1 fun _ f => ?_
      have f := f.st 105 (iW O2)
      refine Y f 1 fun _ f => eT ?_
      obtain rfl := sI F26
      exact ⟨⟨I2, K1 + 1⟩, Nat.lt_succ_self _, V4, (J3.trans J4), T1, f.kp, N18⟩
   ·have U10 := iff_f dI B7
    refine wp_exit (T_x (T_x ?_))
    obtain rfl := sI F27
    exact .inr ⟨rfl, (), (sI T1).symm, V3, J3, f.kp, N13⟩
  ·rintro _ _ W18 (⟨rfl, G2, rfl, V5, J5, f, N19⟩ | ⟨rfl, G3, rfl, V6, J6, f, N20⟩)
   ·refine B_r (T_r (E_ret1 f rfl (by kernel_rfl : Vc.look _ 4 = some (.int .i64 G2)) ?_))
    obtain rfl := sI F10
    exact ⟨_, rfl, V5, _, (J2.trans J5), (N19.dropN 1), ⟨Z1, P1, Z2, P2, Z3, P3, Z4, P4, rfl, rfl, (B1.mono (J2.trans J5)), (B2.mono (J2.trans J5)), (B3.mono (J2.trans J5)), (B4.mono (J2.trans J5))⟩⟩
   ·refine B_x (T_n (R_seq (R_draw N20 (by kernel_rfl) (by kernel_rfl) (Y5 default f 3 fun _ f => Y2 (v := .slice Z1 d0_4.length P1) f (fun _ pq => Y33 (v := .slice Z1 d0_4.length P1) rfl (ad := ⟨b0, 4, none⟩) (pq.ownCell 1 rfl 4)) fun _ f => Y5 default f 4 fun _ f => Y2 (v := .slice Z3 d1_4.length P3) f (fun _ pq => Y33 (v := .slice Z3 d1_4.length P3) rfl (ad := ⟨b1, 4, none⟩) (pq.ownCell 2 rfl 4)) fun _ f => Y5 default f 1 fun _ f => ?_))))
    obtain ⟨X13, S13, F28⟩ := bS F10
    refine Y3 f (cmp_Compare_2_ok n _ (GL.mono (J2.trans J6) hG) ((d0_4.length : Nat) : Int) ((d1_4.length : Nat) : Int) X13 S13) fun _ f => Y5 default f 1 fun _ f => Q_end rfl ?_
    intro W20 N22
    refine T_n (wp_ret (E_ret1 f rfl (by kernel_rfl : Vc.look _ 4 = some (.int .i64 X13)) ?_))
    obtain rfl := sI F28
    exact ⟨_, rfl, V6, _, (J2.trans J6), (N22.dropN 1), ⟨Z1, P1, Z2, P2, Z3, P3, Z4, P4, rfl, rfl, (B1.mono (J2.trans J6)), (B2.mono (J2.trans J6)), (B3.mono (J2.trans J6)), (B4.mono (J2.trans J6))⟩⟩
def tree_both (n : Nat) (d0 : TE0) (d1 : TE0) : Option (Int × Bool) :=
  (((tree_Check n d0).bind fun X1 =>
    bif (!(decide (X1 = 0))) then
      (some ((true)))
    else
      (tree_Check n d1).bind fun X2 =>
      some ((!(decide (X2 = 0)))) : Option Bool)).bind fun G1 =>
  bif G1 then
    (some (((0 : Int), (false))))
  else
    (tree_sorted n d0).bind fun X3 =>
    (tree_sorted n d1).bind fun X4 =>
    (tree_compare_2 n X3.fKind (X3.fBool) X3.fNum X3.fText X3.fList X3.fKeys X4.fKind (X4.fBool) X4.fNum X4.fText X4.fList X4.fKeys).bind fun X5 =>
    some ((X5.1, (true)))
theorem tree_both_ok (n : Nat) (M : Mem) (hG : GL M) (c0 : List Value) (d0 : TE0) (h0 : Rep M (emb_TE0 d0) c0) (c1 : List Value) (d1 : TE0) (h1 : Rep M (emb_TE0 d1) c1) (r : Int × Bool) (hF : tree_both n d0 d1 = some r) : Ok Tryz.prog M 127 [.agg c0.toArray, .agg c1.toArray] (fun _ v => v = .tuple #[.int .i64 r.1, .bool r.2]) := by
 unfold tree_both at hF
 intro M1 hM0 w0 H w p0
 replace hG := GL.mono hM0 hG
 replace h0 := Rep.mono hM0 _ _ h0
 replace h1 := Rep.mono hM0 _ _ h1
 obtain ⟨Z1, P1, Z2, P2, rfl, B1, B2⟩ := TE0.opn h0
 obtain ⟨Z3, P3, Z4, P4, rfl, B3, B4⟩ := TE0.opn h1
 refine R_enter 19 Tryz.func127 rfl rfl (by simp) fun a0 f0 => RR (Y13 (cs := #[.int .i8 d0.fKind, .bool d0.fBool, .int .i64 d0.fNum, S d0.fText, .slice Z1 d0.fList.length P1, .slice Z2 d0.fKeys.length P2]) (T := 26) f0 p0 fun Q1 V1 W1 J1 R1 N1 _ f => ?_)
 have R2 := fz_box R1
 refine Y13 (cs := #[.int .i8 d1.fKind, .bool d1.fBool, .int .i64 d1.fNum, S d1.fText, .slice Z3 d1.fList.length P3, .slice Z4 d1.fKeys.length P4]) (T := 26) f N1 fun Q2 V2 W2 J2 R3 N2 _ f => ?_
 have R4 := fz_box R3
 refine Y f 2 fun _ f => eT (R_seq (R_seq ?_))
 obtain ⟨j_1, hj_1, F1⟩ := bS hF
 refine R_mid (fun a_11 W5 => ∃ G1 : Bool, j_1 = G1 ∧ ∃ V3 : Mem, V2.le V3 ∧ Frm 19 [(2, .pointer (some (⟨Q1, 0, none⟩))), (3, .pointer (some (⟨Q2, 0, none⟩))), (15, .bool G1)] a_11 ∧ Hp w0 V3 (H) W5) ?_ ?_
 ·refine R_reg (Z (v := .agg #[.int .i8 d0.fKind, .bool d0.fBool, .int .i64 d0.fNum, S d0.fText, .slice Z1 d0.fList.length P1, .slice Z2 d0.fKeys.length P2]) f (Y34 (cs := [.int .i8 d0.fKind, .bool d0.fBool, .int .i64 d0.fNum, S d0.fText, .slice Z1 d0.fList.length P1, .slice Z2 d0.fKeys.length P2]) rfl (ad := ⟨Q1, 0, none⟩) (fun j v h => N2.cell ((fzu J2 R2) j v h))) fun _ f => ?_)
  obtain ⟨X1, S1, F2⟩ := bS hj_1
  refine Y18 f N2 (tree_Check_ok n _ (GL.mono (J1.trans J2) hG) _ d0 (TE0.shutx (x := d0) (B1.mono (J1.trans J2)) (B2.mono (J1.trans J2))) X1 S1) fun W3 N3 _ f => Y f 2 fun _ f => ?_
  rcases cE F2 with ⟨B5, F3⟩ | ⟨B5, F4⟩
  ·have U1 : ¬ (X1 = 0) := (not_iff dI).1 B5
   have f := f.st 11 (cB B5)
   refine Y f 4 fun _ f => eT ?_
   exact ⟨(true), (sI F3).symm, V2, (mR _), f.kp, N3⟩
  ·have U2 : ¬ (¬ (X1 = 0)) := iff_f (not_iff dI) B5
   have f := f.st 11 (cB B5)
   refine Z (v := .agg #[.int .i8 d1.fKind, .bool d1.fBool, .int .i64 d1.fNum, S d1.fText, .slice Z3 d1.fList.length P3, .slice Z4 d1.fKeys.length P4]) f (Y34 (cs := [.int .i8 d1.fKind, .bool d1.fBool, .int .i64 d1.fNum, S d1.fText, .slice Z3 d1.fList.length P3, .slice Z4 d1.fKeys.length P4]) rfl (ad := ⟨Q2, 0, none⟩) (fun j v h => N3.cell (R4 j v h))) fun _ f => ?_
   obtain ⟨X2, S2, F5⟩ := bS F4
   refine Y18 f N3 (tree_Check_ok n _ (GL.mono (J1.trans J2) hG) _ d1 (TE0.shutx (x := d1) (B3.mono (J1.trans J2)) (B4.mono (J1.trans J2))) X2 S2) fun W4 N4 _ f => Y f 2 fun _ f => eT ?_
   exact ⟨(!(decide (X2 = 0))), (sI F5).symm, V2, (mR _), f.kp, N4⟩
 ·rintro a_11 W5 ⟨G1, hq_1, V3, J3, f, N5⟩
  subst j_1
  refine T_n (RcF f F1 (fun B6 F6 => ?_) fun B6 F7 => ?_)
  ·refine RR (Y f 2 fun _ f => eT (wp_ret (T_r (E_ret2 f rfl (by kernel_rfl : Vc.look _ 4 = some (.int .i64 0)) (by kernel_rfl : Vc.look _ 5 = some (.bool false)) ?_))))
   obtain rfl := sI F6
   exact ⟨_, rfl, V3, ((J1.trans J2).trans J3), N5, rfl⟩
  ·refine wp_skip (T_n (RR ?_))
   obtain ⟨X3, S3, F8⟩ := bS F7
   refine Y16 f N5 (tree_sorted_ok n _ (GL.mono ((J1.trans J2).trans J3) hG) (⟨Q1, 0, none⟩) [.int .i8 d0.fKind, .bool d0.fBool, .int .i64 d0.fNum, S d0.fText, .slice Z1 d0.fList.length P1, .slice Z2 d0.fKeys.length P2] d0 (TE0.shutx (x := d0) (B1.mono ((J1.trans J2).trans J3)) (B2.mono ((J1.trans J2).trans J3))) (fz_at ((fzu (J2.trans J3) R2)) 0 rfl) X3 S3) fun _ V4 W6 J4 N6 q_1 _ f => ?_
   obtain ⟨c_1, rfl, D1⟩ := q_1
   obtain ⟨Z5, P5, Z6, P6, rfl, B7, B8⟩ := TE0.opn D1
   obtain ⟨X4, S4, F9⟩ := bS F8
   refine Y16 f N6 (tree_sorted_ok n _ (GL.mono (((J1.trans J2).trans J3).trans J4) hG) (⟨Q2, 0, none⟩) [.int .i8 d1.fKind, .bool d1.fBool, .int .i64 d1.fNum, S d1.fText, .slice Z3 d1.fList.length P3, .slice Z4 d1.fKeys.length P4] d1 (TE0.shutx (x := d1) (B3.mono (((J1.trans J2).trans J3).trans J4)) (B4.mono (((J1.trans J2).trans J3).trans J4))) (fz_at ((fzu (J3.trans J4) R4)) 0 rfl) X4 S4) fun _ V5 W7 J5 N7 q_2 _ f => ?_
   obtain ⟨c_2, rfl, D2⟩ := q_2
   obtain ⟨Z7, P7, Z8, P8, rfl, B9, B10⟩ := TE0.opn D2
   refine Y12 f N7 (.cells #[.int .i8 0, .bool false, .int .i64 0, S [], .slice none 0 0, .slice none 0 0] 26 (0, 0)) fun Q3 W8 N8 _ f => Y12 f N8 (.cells #[.int .i8 0, .bool false, .int .i64 0, S [], .slice none 0 0, .slice none 0 0] 26 (0, 0)) fun Q4 W9 N9 _ f => ?_
   have N10 := N9.pl [1]
   refine Y28 (vs := [.int .i8 X3.fKind, .bool X3.fBool, .int .i64 X3.fNum, S X3.fText, .slice Z5 X3.fList.length P5, .slice Z6 X3.fKeys.length P6]) (j := 0) f N10 rfl rfl (by simp [Value.oneCell', S]) (by simp) (by decide) (cs' := #[.int .i8 X3.fKind, .bool X3.fBool, .int .i64 X3.fNum, S X3.fText, .slice Z5 X3.fList.length P5, .slice Z6 X3.fKeys.length P6]) (by kernel_rfl) fun W10 N11 _ f => ?_
   have N12 := N11.pl [1]
   refine Y28 (vs := [.int .i8 X4.fKind, .bool X4.fBool, .int .i64 X4.fNum, S X4.fText, .slice Z7 X4.fList.length P7, .slice Z8 X4.fKeys.length P8]) (j := 0) f N12 rfl rfl (by simp [Value.oneCell', S]) (by simp) (by decide) (cs' := #[.int .i8 X4.fKind, .bool X4.fBool, .int .i64 X4.fNum, S X4.fText, .slice Z7 X4.fList.length P7, .slice Z8 X4.fKeys.length P8]) (by kernel_rfl) fun W11 N13 _ f => eT (RR ?_)
   obtain ⟨X5, S5, F10⟩ := bS F9
   have N15 := N13.pl [1]
   refine Y17 (E := [Ent.obj Q3 (.cells #[.int .i8 X3.fKind, .bool X3.fBool, .int .i64 X3.fNum, S X3.fText, .slice Z5 X3.fList.length P5, .slice Z6 X3.fKeys.length P6] 26 (0, 0)), Ent.obj Q4 (.cells #[.int .i8 X4.fKind, .bool X4.fBool, .int .i64 X4.fNum, S X4.fText, .slice Z7 X4.fList.length P7, .slice Z8 X4.fKeys.length P8] 26 (0, 0))]) (H := (H)) f N15 (tree_compare_2_ok n _ (GL.mono ((((J1.trans J2).trans J3).trans J4).trans J5) hG) Q3 X3.fKind (X3.fBool) X3.fNum X3.fText X3.fList Z5 P5 (B7.mono J5) X3.fKeys Z6 P6 (B8.mono J5) Q4 X4.fKind (X4.fBool) X4.fNum X4.fText X4.fList Z7 P7 B9 X4.fKeys Z8 P8 B10 X5 S5) fun _ V6 E_1 W12 J6 N14 q_3 _ f => ?_
   obtain ⟨Z9, P9, Z10, P10, Z11, P11, Z12, P12, rfl, rfl, B11, B12, B13, B14⟩ := q_3
   refine Y f 2 fun _ f => eT (wp_ret (E_ret2 f rfl (by kernel_rfl : Vc.look _ 4 = some (.int .i64 X5.1)) (by kernel_rfl : Vc.look _ 5 = some (.bool true)) ?_))
   obtain rfl := sI F10
   exact ⟨_, rfl, V6, (((((J1.trans J2).trans J3).trans J4).trans J5).trans J6), (N14.dropN 2), rfl⟩
def tree_Equal (n : Nat) (d0 : TE0) (d1 : TE0) : Option Bool :=
  (tree_both n d0 d1).bind fun X1 =>
  bif X1.2 then
    (some ((decide (X1.1 = 0))))
  else
    some ((false))
theorem tree_Equal_ok (n : Nat) (M : Mem) (hG : GL M) (c0 : List Value) (d0 : TE0) (h0 : Rep M (emb_TE0 d0) c0) (c1 : List Value) (d1 : TE0) (h1 : Rep M (emb_TE0 d1) c1) (r : Bool) (hF : tree_Equal n d0 d1 = some r) : Ok Tryz.prog M 115 [.agg c0.toArray, .agg c1.toArray] (fun _ v => v = .bool r) := by
 unfold tree_Equal at hF
 intro M1 hM0 w0 H w p0
 replace hG := GL.mono hM0 hG
 replace h0 := Rep.mono hM0 _ _ h0
 replace h1 := Rep.mono hM0 _ _ h1
 obtain ⟨Z1, P1, Z2, P2, rfl, B1, B2⟩ := TE0.opn h0
 obtain ⟨Z3, P3, Z4, P4, rfl, B3, B4⟩ := TE0.opn h1
 refine R_enter 18 Tryz.func115 rfl rfl (by simp) fun a0 f0 => RR (Y13 (cs := #[.int .i8 d0.fKind, .bool d0.fBool, .int .i64 d0.fNum, S d0.fText, .slice Z1 d0.fList.length P1, .slice Z2 d0.fKeys.length P2]) (T := 26) f0 p0 fun Q1 V1 W1 J1 R1 N1 _ f => ?_)
 have R2 := fz_box R1
 refine Y13 (cs := #[.int .i8 d1.fKind, .bool d1.fBool, .int .i64 d1.fNum, S d1.fText, .slice Z3 d1.fList.length P3, .slice Z4 d1.fKeys.length P4]) (T := 26) f N1 fun Q2 V2 W2 J2 R3 N2 _ f => ?_
 have R4 := fz_box R3
 refine Y f 1 fun _ f => eT (RR (Z (v := .agg #[.int .i8 d0.fKind, .bool d0.fBool, .int .i64 d0.fNum, S d0.fText, .slice Z1 d0.fList.length P1, .slice Z2 d0.fKeys.length P2]) f (Y34 (cs := [.int .i8 d0.fKind, .bool d0.fBool, .int .i64 d0.fNum, S d0.fText, .slice Z1 d0.fList.length P1, .slice Z2 d0.fKeys.length P2]) rfl (ad := ⟨Q1, 0, none⟩) (fun j v h => N2.cell ((fzu J2 R2) j v h))) fun _ f => Z (v := .agg #[.int .i8 d1.fKind, .bool d1.fBool, .int .i64 d1.fNum, S d1.fText, .slice Z3 d1.fList.length P3, .slice Z4 d1.fKeys.length P4]) f (Y34 (cs := [.int .i8 d1.fKind, .bool d1.fBool, .int .i64 d1.fNum, S d1.fText, .slice Z3 d1.fList.length P3, .slice Z4 d1.fKeys.length P4]) rfl (ad := ⟨Q2, 0, none⟩) (fun j v h => N2.cell (R4 j v h))) fun _ f => ?_))
 obtain ⟨X1, S1, F1⟩ := bS hF
 refine Y18 f N2 (tree_both_ok n _ (GL.mono (J1.trans J2) hG) _ d0 (TE0.shutx (x := d0) (B1.mono (J1.trans J2)) (B2.mono (J1.trans J2))) _ d1 (TE0.shutx (x := d1) (B3.mono (J1.trans J2)) (B4.mono (J1.trans J2))) X1 S1) fun W3 N3 _ f => Y f 5 fun _ f => eT (RR (Y f 2 fun _ f => ?_))
 rcases cE F1 with ⟨B5, F2⟩ | ⟨B5, F3⟩
 ·have f := f.st 14 (cB B5)
  refine Y f 4 fun _ f => eT (wp_ret (E_ret1 f rfl (by kernel_rfl : Vc.look _ 4 = some (.bool (decide (X1.1 = 0)))) ?_))
  obtain rfl := sI F2
  exact ⟨_, rfl, V2, (J1.trans J2), N3, rfl⟩
 ·have f := f.st 14 (cB B5)
  refine Y f 4 fun _ f => eT (wp_ret (E_ret1 f rfl (by kernel_rfl : Vc.look _ 4 = some (.bool false)) ?_))
  obtain rfl := sI F3
  exact ⟨_, rfl, V2, (J1.trans J2), N3, rfl⟩
end Go.Proofs.YtocefedhenhbfaaGreatDoor
end

section
namespace Go.Proofs.YtocefedhenhbfaaGreatDoor
open Go Go.Vc Go.RowKit
end Go.Proofs.YtocefedhenhbfaaGreatDoor
end

section
section
namespace Go.Proofs.YtocefedhenhbfaaGreatDoor
open Go Go.Vc Go.RowKit
def Small : Nat → TE0 → Prop
  | 0, _ => False
  | d + 1, v => v.fList.length ≤ 3000 ∧ v.fKeys.length ≤ 3000 ∧ v.fText.length ≤ 5000 ∧ (∀ k ∈ v.fKeys, k.length ≤ 5000) ∧ ∀ x ∈ v.fList, Small d x
theorem walkVs_app : ∀ (l m : List TE0), walkVs (l ++ m) = walkVs l ++ walkVs m
 | [], m => by simp [walkVs]
 | x :: r, m => by simp [walkVs, walkVs_app r m]
theorem walkVs_take {l : List TE0} {i : Nat} {x : TE0} (h : l[i]? = some x) : walkVs (l.take (i + 1)) = walkVs (l.take i) ++ walkV x := by
 rw [List.take_add_one, h, walkVs_app]
 simp [walkVs]
theorem weight_ok {n : Nat} (hn : 3000 < n) : ∀ (k d : Nat) (v : TE0), d < k → d ≤ 1000 → ∃ W : Int, ref03_weight_k n k v (d : Int) = some W ∧ 0 ≤ W ∧ W ≤ 30010001 + 10000 * d ∧ (W ≤ 5000 → Small d v ∧ ((walkV v).length : Int) ≤ W)
 | 0, d, v, h, _ => absurd h (by omega)
 | k + 1, d, v, h, hd => by
  show ∃ W : Int, ref03_weight_b n (ref03_weight_k n k) v (d : Int) = some W ∧ _
  unfold ref03_weight_b
  by_cases h0 : d = 0 ∨ 3000 < v.fList.length ∨ 3000 < v.fKeys.length
  ·have e : (bif decide ((d : Int) = 0) then some true else bif decide ((3000 : Int) < ((v.fList.length : Nat) : Int)) then some true else some (decide ((3000 : Int) < ((v.fKeys.length : Nat) : Int))) : Option Bool) = some true := by
    by_cases a : (d : Int) = 0
    ·rw [decide_eq_true a, cT]
    ·rw [decide_eq_false a, cF]
     by_cases b : (3000 : Int) < ((v.fList.length : Nat) : Int)
     ·rw [decide_eq_true b, cT]
     ·rw [decide_eq_false b, cF, decide_eq_true (by omega)]
   rw [e, bnd, cT]
   exact ⟨10000, rfl, by omega, by omega, fun h => absurd h (by omega)⟩
  ·have e : (bif decide ((d : Int) = 0) then some true else bif decide ((3000 : Int) < ((v.fList.length : Nat) : Int)) then some true else some (decide ((3000 : Int) < ((v.fKeys.length : Nat) : Int))) : Option Bool) = some false := by
    rw [decide_eq_false (by omega), cF, decide_eq_false (by omega), cF, decide_eq_false (by omega)]
   rw [e, bnd, cF]
   obtain ⟨base, hbase⟩ : ∃ base : Int, base = (1 : Int) + (min (v.fText.length : Int) (10000 : Int)) := ⟨_, rfl⟩
   rw [← hbase, need_i (by omega) (by omega)]
   obtain ⟨y, hy, hy1, hy2, hy3⟩ := loop_inv (step := ref03_weight_s1 n v) (n := n) (s0 := (base, (0 : Int)))
    (fun k s => s.2 = (k : Int) ∧ base ≤ s.1 ∧ s.1 ≤ base + 10000 * k ∧ (s.1 ≤ 5000 → ∀ j, j < k → (v.fKeys.getD j []).length ≤ 5000))
    (fun b => base ≤ b ∧ b ≤ base + 10000 * v.fKeys.length ∧ (b ≤ 5000 → ∀ j, j < v.fKeys.length → (v.fKeys.getD j []).length ≤ 5000)) v.fKeys.length
    ⟨rfl, Int.le_refl _, by simp, fun _ j hj => absurd hj (by omega)⟩
    (fun q s hq hI => by
     obtain ⟨t, i⟩ := s
     obtain ⟨h1, h2, h3, h4⟩ := hI
     have h1' : i = (q : Int) := h1
     subst h1'
     left
     refine ⟨(t + min ((v.fKeys.getD q []).length : Int) 10000, (q : Int) + 1), ?_, by simp, ?_, ?_, ?_⟩
     ·show ref03_weight_s1 n v (t, (q : Int)) = _
      unfold ref03_weight_s1
      dsimp only at h2 h3 ⊢
      rw [decide_eq_true (by omega), cT, getI_at [] hq, bnd, need_i (by omega) (by omega), need_i (by omega) (by omega)]
     ·dsimp only at h2 ⊢; omega
     ·dsimp only at h3 ⊢; push_cast; omega
     ·dsimp only at h4 ⊢
      intro hle j hj
      by_cases hjq : j = q
      ·subst hjq; omega
      ·exact h4 (by omega) j (by omega))
    (fun s hI => by
     obtain ⟨t, i⟩ := s
     obtain ⟨h1, h2, h3, h4⟩ := hI
     have h1' : i = (v.fKeys.length : Int) := h1
     subst h1'
     refine ⟨t, ?_, h2, h3, h4⟩
     unfold ref03_weight_s1
     dsimp only
     rw [decide_eq_false (by omega), cF])
    (by omega)
   rw [hy, bnd]
   obtain ⟨z, hz, hz1, hz2, hz3⟩ := loop_inv (step := ref03_weight_s2 n (ref03_weight_k n k) v (d : Int)) (n := n) (s0 := (y, (0 : Int)))
    (fun k s => s.2 = (k : Int) ∧ y ≤ s.1 ∧ s.1 ≤ 30010001 + 10000 * d ∧ (s.1 ≤ 5000 → (∀ j x, j < k → v.fList[j]? = some x → Small (d - 1) x) ∧ ((walkVs (v.fList.take k)).length : Int) + 1 ≤ s.1))
    (fun b => y ≤ b ∧ b ≤ 30010001 + 10000 * d ∧ (b ≤ 5000 → (∀ j x, j < v.fList.length → v.fList[j]? = some x → Small (d - 1) x) ∧ ((walkVs v.fList).length : Int) + 1 ≤ b)) v.fList.length
    ⟨rfl, Int.le_refl _, by omega, fun _ => ⟨fun j x hj => absurd hj (by omega), by simp [walkVs]; omega⟩⟩
    (fun q s hq hI => by
     obtain ⟨t, i⟩ := s
     obtain ⟨h1, h2, h3, h4⟩ := hI
     have h1' : i = (q : Int) := h1
     subst h1'
     dsimp only at h2 h3 h4
     by_cases ht : t ≤ 10000
     ·left
      have hx : v.fList[q]? = some v.fList[q] := List.getElem?_eq_getElem hq
      obtain ⟨W, w1, w2, w3, w4⟩ := weight_ok hn k (d - 1) v.fList[q] (by omega) (by omega)
      have hd1 : ((d - 1 : Nat) : Int) = (d : Int) - 1 := by omega
      rw [hd1] at w1
      refine ⟨(t + W, (q : Int) + 1), ?_, by simp, ?_, ?_, ?_⟩
      ·show ref03_weight_s2 n (ref03_weight_k n k) v (d : Int) (t, (q : Int)) = _
       unfold ref03_weight_s2
       dsimp only
       have hg : getI v.fList (q : Int) = some v.fList[q] := by simp [getI]
       rw [decide_eq_true (by omega), cT, bnd, decide_eq_true ht, cT, hg, bnd, need_i (by omega) (by omega), w1, bnd, need_i (by omega) (by omega), need_i (by omega) (by omega)]
      ·dsimp only; omega
      ·dsimp only; omega
      ·dsimp only
       intro hle
       obtain ⟨s1, s2⟩ := h4 (by omega)
       obtain ⟨c1, c2⟩ := w4 (by omega)
       refine ⟨fun j x hj hjx => ?_, ?_⟩
       ·by_cases hjq : j = q
        ·subst hjq
         rw [hx] at hjx
         exact Option.some.inj hjx ▸ c1
        ·exact s1 j x (by omega) hjx
       ·rw [walkVs_take hx, List.length_append]
        omega
     ·right
      refine ⟨t, ?_, h2, h3, fun hle => absurd hle (by omega)⟩
      unfold ref03_weight_s2
      dsimp only
      rw [decide_eq_true (by omega), cT, bnd, decide_eq_false ht, cF])
    (fun s hI => by
     obtain ⟨t, i⟩ := s
     obtain ⟨h1, h2, h3, h4⟩ := hI
     have h1' : i = (v.fList.length : Int) := h1
     subst h1'
     dsimp only at h2 h3 h4
     rw [List.take_length] at h4
     refine ⟨t, ?_, h2, h3, h4⟩
     unfold ref03_weight_s2
     dsimp only
     rw [decide_eq_false (by omega), cF, bnd, cF])
    (by omega)
   rw [hz, bnd]
   refine ⟨z, rfl, by omega, hz2, fun hle => ?_⟩
   obtain ⟨s1, s2⟩ := hz3 hle
   have s3 := hy3 (by omega)
   obtain ⟨d, rfl⟩ : ∃ e, d = e + 1 := ⟨d - 1, by omega⟩
   refine ⟨⟨by omega, by omega, by omega, fun q hq => ?_, fun x hx => ?_⟩, ?_⟩
   ·obtain ⟨j, hj, rfl⟩ := List.getElem_of_mem hq
    have := s3 j hj
    simpa [hj] using this
   ·obtain ⟨j, hj, rfl⟩ := List.getElem_of_mem hx
    exact s1 j _ hj (List.getElem?_eq_getElem hj)
   ·rw [walkV_eq, List.length_cons]
    push_cast
    omega
end Go.Proofs.YtocefedhenhbfaaGreatDoor
end
section
namespace Go.Proofs.YtocefedhenhbfaaGreatDoor
open Go Go.Vc
theorem and_tab : ((List.range 256).all fun c => bAnd .i64 (c : Int) 31 == ((c % 32 : Nat) : Int) && (bAnd .i64 (c : Int) 15 == ((c % 16 : Nat) : Int) && bAnd .i64 (c : Int) 7 == ((c % 8 : Nat) : Int))) = true := by kernel_rfl
theorem and_low (c : UInt8) : bAnd .i64 (c.toNat : Int) 31 = ((c.toNat % 32 : Nat) : Int) ∧ bAnd .i64 (c.toNat : Int) 15 = ((c.toNat % 16 : Nat) : Int) ∧ bAnd .i64 (c.toNat : Int) 7 = ((c.toNat % 8 : Nat) : Int) := by
 have h := List.all_eq_true.1 and_tab c.toNat (List.mem_range.2 c.toNat_lt)
 simp only [Bool.and_eq_true, beq_iff_eq] at h
 exact h
theorem one_s1 {n : Nat} {s : List UInt8} {i k : Nat} {y : Int × Int × Int} {r w : Nat} (hy : y.1 = (w : Int)) (hk : k < w) (hi : i + w ≤ s.length) (hs : s.length < 1000000) (hr : r < 1000000000) :
  ref01_One_s1 n s i y ((r : Int), (k : Int)) = some (if (s.getD (i + k) 0).toNat / 64 = 2 then .nx (((64 * r + (s.getD (i + k) 0).toNat % 64 : Nat) : Int), ((k + 1 : Nat) : Int)) else .br (.inl ())) := by
 unfold ref01_One_s1
 dsimp only
 have e : (i : Int) + (k : Int) = ((i + k : Nat) : Int) := by omega
 rw [hy, decide_eq_true (by omega : (k : Int) < (w : Int)), cT, need_i (by omega) (by omega), e, getI_at 0 (by omega), bnd]
 have hb := (s.getD (i + k) 0).toNat_lt
 generalize (s.getD (i + k) 0) = b at hb ⊢
 by_cases h1 : b.toNat < 128
 ·rw [decide_eq_true (by omega : (b.toNat : Int) < 128), cT, bnd, cT, if_neg (by omega)]
 ·rw [decide_eq_false (by omega : ¬ (b.toNat : Int) < 128), cF, bnd]
  by_cases h2 : 191 < b.toNat
  ·rw [decide_eq_true (by omega : (191 : Int) < (b.toNat : Int)), cT, if_neg (by omega)]
  ·rw [decide_eq_false (by omega : ¬ (191 : Int) < (b.toNat : Int)), cF, if_pos (by omega), need_i (by omega) (by omega), need_i (by omega) (by omega), need_i (by omega) (by omega), need_i (by omega) (by omega)]
   congr 3
   ·omega
theorem one_s1e {n : Nat} {s : List UInt8} {i : Nat} {y : Int × Int × Int} {r : Int} {w : Nat} (hy : y.1 = (w : Int)) :
  ref01_One_s1 n s i y (r, (w : Int)) = some (.br (.inr r)) := by
 unfold ref01_One_s1
 dsimp only
 rw [hy, decide_eq_false (by omega : ¬ (w : Int) < (w : Int)), cF]
def contB (s : List UInt8) (i : Nat) : Bool := decide ((s.getD i 0).toNat / 64 = 2)
theorem one_l2 {n : Nat} {s : List UInt8} {i : Nat} {y : Int × Int × Int} {r : Nat} (hy : y.1 = 2) (hi : i + 2 ≤ s.length) (hs : s.length < 1000000) (hr : r < 100) (hn : 5 ≤ n) :
  loopF (ref01_One_s1 n s i y) n ((r : Int), (1 : Int)) = some (if contB s (i + 1) then .inr (((64 * r + (s.getD (i + 1) 0).toNat % 64 : Nat) : Int)) else .inl ()) := by
 obtain ⟨n, rfl⟩ : ∃ q, n = q + 5 := ⟨n - 5, by omega⟩
 have h1 := one_s1 (n := n + 5) (k := 1) (w := 2) hy (by omega) hi hs (by omega : r < 1000000000)
 rw [show ((1 : Nat) : Int) = 1 from rfl] at h1
 rw [loopF, h1, bnd]
 unfold contB
 by_cases h2 : (s.getD (i + 1) 0).toNat / 64 = 2
 ·rw [if_pos h2, if_pos (by simpa using h2)]
  show loopF _ (n + 4) _ = _
  rw [loopF, one_s1e (w := 2) hy, bnd]
 ·rw [if_neg h2, if_neg (by simpa using h2)]
theorem one_l3 {n : Nat} {s : List UInt8} {i : Nat} {y : Int × Int × Int} {r : Nat} (hy : y.1 = 3) (hi : i + 3 ≤ s.length) (hs : s.length < 1000000) (hr : r < 100) (hn : 5 ≤ n) :
  loopF (ref01_One_s1 n s i y) n ((r : Int), (1 : Int)) = some (if contB s (i + 1) && contB s (i + 2) then .inr (((64 * (64 * r + (s.getD (i + 1) 0).toNat % 64) + (s.getD (i + 2) 0).toNat % 64 : Nat) : Int)) else .inl ()) := by
 obtain ⟨n, rfl⟩ : ∃ q, n = q + 5 := ⟨n - 5, by omega⟩
 have h1 := one_s1 (n := n + 5) (k := 1) (w := 3) hy (by omega) hi hs (by omega : r < 1000000000)
 rw [show ((1 : Nat) : Int) = 1 from rfl] at h1
 rw [loopF, h1, bnd]
 unfold contB
 by_cases h2 : (s.getD (i + 1) 0).toNat / 64 = 2
 ·rw [if_pos h2]
  show loopF _ (n + 4) _ = _
  rw [loopF, one_s1 (n := n + 5) (k := 2) (w := 3) hy (by omega) hi hs (by omega), bnd]
  by_cases h3 : (s.getD (i + 2) 0).toNat / 64 = 2
  ·rw [if_pos h3, if_pos (by simp only [h2, h3]; rfl)]
   show loopF _ (n + 3) _ = _
   rw [loopF, one_s1e (w := 3) hy, bnd]
  ·rw [if_neg h3, if_neg (by simp only [h2, h3]; decide)]
 ·rw [if_neg h2, if_neg (by simp only [h2]; simp)]
theorem one_l4 {n : Nat} {s : List UInt8} {i : Nat} {y : Int × Int × Int} {r : Nat} (hy : y.1 = 4) (hi : i + 4 ≤ s.length) (hs : s.length < 1000000) (hr : r < 100) (hn : 5 ≤ n) :
  loopF (ref01_One_s1 n s i y) n ((r : Int), (1 : Int)) = some (if contB s (i + 1) && (contB s (i + 2) && contB s (i + 3)) then .inr (((64 * (64 * (64 * r + (s.getD (i + 1) 0).toNat % 64) + (s.getD (i + 2) 0).toNat % 64) + (s.getD (i + 3) 0).toNat % 64 : Nat) : Int)) else .inl ()) := by
 obtain ⟨n, rfl⟩ : ∃ q, n = q + 5 := ⟨n - 5, by omega⟩
 have h1 := one_s1 (n := n + 5) (k := 1) (w := 4) hy (by omega) hi hs (by omega : r < 1000000000)
 rw [show ((1 : Nat) : Int) = 1 from rfl] at h1
 rw [loopF, h1, bnd]
 unfold contB
 by_cases h2 : (s.getD (i + 1) 0).toNat / 64 = 2
 ·rw [if_pos h2]
  show loopF _ (n + 4) _ = _
  rw [loopF, one_s1 (n := n + 5) (k := 2) (w := 4) hy (by omega) hi hs (by omega), bnd]
  by_cases h3 : (s.getD (i + 2) 0).toNat / 64 = 2
  ·rw [if_pos h3]
   show loopF _ (n + 3) _ = _
   rw [loopF, one_s1 (n := n + 5) (k := 3) (w := 4) hy (by omega) hi hs (by omega), bnd]
   by_cases h4 : (s.getD (i + 3) 0).toNat / 64 = 2
   ·rw [if_pos h4, if_pos (by simp only [h2, h3, h4]; rfl)]
    show loopF _ (n + 2) _ = _
    rw [loopF, one_s1e (w := 4) hy, bnd]
   ·rw [if_neg h4, if_neg (by simp only [h2, h3, h4]; decide)]
  ·rw [if_neg h3, if_neg (by simp only [h2, h3]; simp)]
 ·rw [if_neg h2, if_neg (by simp only [h2]; simp)]
theorem one_ref {n : Nat} {s : List UInt8} {i : Nat} (hi : i < s.length) (hs : s.length < 1000000) (hn : 5 ≤ n) :
  ref01_One n s i = some (if (Lib.decodeL (s.drop i)).1 = 65533 ∧ (Lib.decodeL (s.drop i)).2 = 1 then (0, 0) else (((Lib.decodeL (s.drop i)).1 : Int), ((Lib.decodeL (s.drop i)).2 : Int))) := by
 rw [Lib.decodeL_N, List.length_drop, Lib.getD_dropU, Lib.getD_dropU, Lib.getD_dropU, Lib.getD_dropU, Nat.add_zero]
 unfold ref01_One
 rw [decide_eq_false (by omega : ¬ (i : Int) < 0), cF, decide_eq_false (by omega : ¬ (s.length : Int) ≤ (i : Int)), bnd, cF, getI_at 0 hi, bnd]
 have hb0 := (s.getD i 0).toNat_lt
 have hb1 := (s.getD (i + 1) 0).toNat_lt
 have hb2 := (s.getD (i + 2) 0).toNat_lt
 have hb3 := (s.getD (i + 3) 0).toNat_lt
 obtain ⟨a1, a2, a3⟩ := and_low (s.getD i 0)
 by_cases h0 : (s.getD i 0).toNat < 128
 ·rw [decide_eq_true (by omega : ((s.getD i 0).toNat : Int) < 128), cT, Lib.decodeN_ascii _ _ _ _ _ h0]
  rw [mpS, bnd, jB, if_neg (by dsimp only; omega)]
  rfl
 rw [decide_eq_false (by omega : ¬ ((s.getD i 0).toNat : Int) < 128), cF]
 generalize hD : Lib.decodeN (s.length - i) (s.getD i 0).toNat (s.getD (i + 1) 0).toNat (s.getD (i + 2) 0).toNat (s.getD (i + 3) 0).toNat = D
 have hB : D = (65533, 1) → some ((0 : Int), (0 : Int)) = some (if D.1 = 65533 ∧ D.2 = 1 then (0, 0) else ((D.1 : Int), (D.2 : Int))) := fun e => by rw [e]; rfl
 have hG : ∀ (R w : Nat), D = (R, w) → 1 < w → some ((R : Int), (w : Int)) = some (if D.1 = 65533 ∧ D.2 = 1 then (0, 0) else ((D.1 : Int), (D.2 : Int))) := fun R w e hw => by rw [e, if_neg (by dsimp only; omega)]
 have bad : (s.getD i 0).toNat < 192 ∨ 248 ≤ (s.getD i 0).toNat → D = (65533, 1) := fun hb => by
  rw [← hD]
  unfold Lib.decodeN
  rw [if_neg h0, if_neg (by omega), if_neg (by omega), if_neg (by omega)]
 by_cases h1 : 192 ≤ (s.getD i 0).toNat
 case neg =>
  rw [decide_eq_false (by omega : ¬ (192 : Int) ≤ ((s.getD i 0).toNat : Int)), cF, bnd, cF, decide_eq_false (by omega : ¬ (224 : Int) ≤ ((s.getD i 0).toNat : Int)), cF, bnd, cF, decide_eq_false (by omega : ¬ (240 : Int) ≤ ((s.getD i 0).toNat : Int)), cF, bnd, cF, mpS, bnd, jB]
  exact hB (bad (by omega))
 rw [decide_eq_true (by omega : (192 : Int) ≤ ((s.getD i 0).toNat : Int)), cT]
 by_cases h2 : (s.getD i 0).toNat < 224
 ·rw [decide_eq_true (by omega : ((s.getD i 0).toNat : Int) < 224), bnd, cT, a1, bnd]
  rw [jN]
  dsimp only
  rw [need_i (by omega) (by omega)]
  unfold Lib.decodeN at hD
  rw [if_neg h0] at hD
  by_cases hl : s.length < i + 2
  ·rw [decide_eq_true (by omega : (s.length : Int) < (i : Int) + 2), cT]
   exact hB (by rw [← hD, if_neg (by omega), if_neg (by omega), if_neg (by omega)])
  rw [decide_eq_false (by omega : ¬ (s.length : Int) < (i : Int) + 2), cF, one_l2 rfl (by omega) hs (by omega) hn, bnd]
  unfold contB
  by_cases hc : (s.getD (i + 1) 0).toNat / 64 = 2
  ·rw [if_pos (by simp only [hc]; rfl)]
   rw [if_pos ⟨by omega, by omega, hc⟩] at hD
   dsimp only
   generalize hR : (64 * ((s.getD i 0).toNat % 32) + (s.getD (i + 1) 0).toNat % 64) = R
   rw [show (s.getD i 0).toNat % 32 * 64 + (s.getD (i + 1) 0).toNat % 64 = R by omega] at hD
   have hR2 : R < 2048 := by omega
   by_cases hv : R ≥ 128
   ·rw [if_pos hv] at hD
    rw [decide_eq_false (by omega : ¬ (R : Int) < 128), cF, decide_eq_false (by omega : ¬ (1114111 : Int) < (R : Int)), cF, decide_eq_false (by omega : ¬ (55296 : Int) ≤ (R : Int)), cF, bnd, cF]
    exact hG R 2 hD.symm (by omega)
   ·rw [if_neg hv] at hD
    rw [decide_eq_true (by omega : (R : Int) < 128), cT, bnd, cT]
    exact hB hD.symm
  ·rw [if_neg (by simp only [hc]; decide)]
   exact hB (by rw [← hD, if_neg (by omega), if_neg (by omega), if_neg (by omega)])
 rw [decide_eq_false (by omega : ¬ ((s.getD i 0).toNat : Int) < 224), bnd, cF, decide_eq_true (by omega : (224 : Int) ≤ ((s.getD i 0).toNat : Int)), cT]
 by_cases h3 : (s.getD i 0).toNat < 240
 ·rw [decide_eq_true (by omega : ((s.getD i 0).toNat : Int) < 240), bnd, cT, a2, bnd]
  rw [jN]
  dsimp only
  rw [need_i (by omega) (by omega)]
  unfold Lib.decodeN at hD
  rw [if_neg h0, if_neg (by omega)] at hD
  by_cases hl : s.length < i + 3
  ·rw [decide_eq_true (by omega : (s.length : Int) < (i : Int) + 3), cT]
   exact hB (by rw [← hD, if_neg (by omega), if_neg (by omega)])
  rw [decide_eq_false (by omega : ¬ (s.length : Int) < (i : Int) + 3), cF, one_l3 rfl (by omega) hs (by omega) hn, bnd]
  unfold contB
  by_cases hc : (s.getD (i + 1) 0).toNat / 64 = 2 ∧ (s.getD (i + 2) 0).toNat / 64 = 2
  ·rw [if_pos (by simp only [hc]; rfl)]
   rw [if_pos ⟨by omega, ⟨by omega, hc.1⟩, by omega, hc.2⟩] at hD
   dsimp only
   generalize hR : (64 * (64 * ((s.getD i 0).toNat % 16) + (s.getD (i + 1) 0).toNat % 64) + (s.getD (i + 2) 0).toNat % 64) = R
   rw [show (s.getD i 0).toNat % 16 * 4096 + (s.getD (i + 1) 0).toNat % 64 * 64 + (s.getD (i + 2) 0).toNat % 64 = R by omega] at hD
   have hR2 : R < 65536 := by omega
   by_cases hv : R < 2048
   ·rw [decide_eq_true (by omega : (R : Int) < 2048), cT, bnd, cT]
    exact hB (by rw [← hD, if_neg (by omega)])
   rw [decide_eq_false (by omega : ¬ (R : Int) < 2048), cF, decide_eq_false (by omega : ¬ (1114111 : Int) < (R : Int)), cF]
   by_cases hv2 : 55296 ≤ R
   ·rw [decide_eq_true (by omega : (55296 : Int) ≤ (R : Int)), cT, bnd]
    by_cases hv3 : R ≤ 57343
    ·rw [decide_eq_true (by omega : (R : Int) ≤ 57343), cT]
     exact hB (by rw [← hD, if_neg (by omega)])
    ·rw [decide_eq_false (by omega : ¬ (R : Int) ≤ 57343), cF]
     exact hG R 3 (by rw [← hD, if_pos (by omega)]) (by omega)
   ·rw [decide_eq_false (by omega : ¬ (55296 : Int) ≤ (R : Int)), cF, bnd, cF]
    exact hG R 3 (by rw [← hD, if_pos (by omega)]) (by omega)
  ·rw [if_neg (by simp only [Bool.and_eq_true, decide_eq_true_eq]; exact hc)]
   exact hB (by rw [← hD, if_neg (by omega), if_neg (by omega)])
 rw [decide_eq_false (by omega : ¬ ((s.getD i 0).toNat : Int) < 240), bnd, cF, decide_eq_true (by omega : (240 : Int) ≤ ((s.getD i 0).toNat : Int)), cT]
 by_cases h4 : (s.getD i 0).toNat < 248
 ·rw [decide_eq_true (by omega : ((s.getD i 0).toNat : Int) < 248), bnd, cT, a3, bnd]
  rw [jN]
  dsimp only
  rw [need_i (by omega) (by omega)]
  unfold Lib.decodeN at hD
  rw [if_neg h0, if_neg (by omega), if_neg (by omega)] at hD
  by_cases hl : s.length < i + 4
  ·rw [decide_eq_true (by omega : (s.length : Int) < (i : Int) + 4), cT]
   exact hB (by rw [← hD, if_neg (by omega)])
  rw [decide_eq_false (by omega : ¬ (s.length : Int) < (i : Int) + 4), cF, one_l4 rfl (by omega) hs (by omega) hn, bnd]
  unfold contB
  by_cases hc : (s.getD (i + 1) 0).toNat / 64 = 2 ∧ (s.getD (i + 2) 0).toNat / 64 = 2 ∧ (s.getD (i + 3) 0).toNat / 64 = 2
  ·rw [if_pos (by simp only [hc]; rfl)]
   rw [if_pos ⟨by omega, ⟨by omega, hc.1⟩, ⟨by omega, hc.2.1⟩, by omega, hc.2.2⟩] at hD
   dsimp only
   generalize hR : (64 * (64 * (64 * ((s.getD i 0).toNat % 8) + (s.getD (i + 1) 0).toNat % 64) + (s.getD (i + 2) 0).toNat % 64) + (s.getD (i + 3) 0).toNat % 64) = R
   rw [show (s.getD i 0).toNat % 8 * 262144 + (s.getD (i + 1) 0).toNat % 64 * 4096 + (s.getD (i + 2) 0).toNat % 64 * 64 + (s.getD (i + 3) 0).toNat % 64 = R by omega] at hD
   have hR2 : R < 16777216 := by omega
   by_cases hv : R < 65536
   ·rw [decide_eq_true (by omega : (R : Int) < 65536), cT, bnd, cT]
    exact hB (by rw [← hD, if_neg (by omega)])
   rw [decide_eq_false (by omega : ¬ (R : Int) < 65536), cF]
   by_cases hv2 : 1114111 < R
   ·rw [decide_eq_true (by omega : (1114111 : Int) < (R : Int)), cT, bnd, cT]
    exact hB (by rw [← hD, if_neg (by omega)])
   ·rw [decide_eq_false (by omega : ¬ (1114111 : Int) < (R : Int)), cF, decide_eq_true (by omega : (55296 : Int) ≤ (R : Int)), cT, bnd, decide_eq_false (by omega : ¬ (R : Int) ≤ 57343), cF]
    exact hG R 4 (by rw [← hD, if_pos (by omega)]) (by omega)
  ·rw [if_neg (by simp only [Bool.and_eq_true, decide_eq_true_eq]; exact hc)]
   exact hB (by rw [← hD, if_neg (by omega)])
 rw [decide_eq_false (by omega : ¬ ((s.getD i 0).toNat : Int) < 248), bnd, cF, mpS, bnd, jB]
 exact hB (bad (by omega))
theorem valid_loop {n : Nat} {s : List UInt8} (hs : s.length < 1000000) (hn : 5 ≤ n) : ∀ (m i : Nat), s.length ≤ i + m → i ≤ s.length → ∀ q, m < q → loopF (ref01_Valid_s1 n s) q (i : Int) = some (if Lib.validD (s.drop i) then .inr () else .inl ())
 | 0, i, hm, hi, q, hq => by
  obtain ⟨q, rfl⟩ : ∃ r, q = r + 1 := ⟨q - 1, by omega⟩
  have e : s.drop i = [] := List.drop_eq_nil_of_le (by omega)
  rw [loopF, e]
  unfold ref01_Valid_s1
  rw [decide_eq_false (by omega), cF, bnd]
  rfl
 | m + 1, i, hm, hi, q, hq => by
  obtain ⟨q, rfl⟩ : ∃ r, q = r + 1 := ⟨q - 1, by omega⟩
  by_cases hlt : i < s.length
  ·have hne : s.drop i ≠ [] := fun e => by
    have := congrArg List.length e
    rw [List.length_drop] at this
    simp at this
    omega
   have hst : ref01_Valid_s1 n s (i : Int) = some (if (Lib.decodeL (s.drop i)).1 = 65533 ∧ (Lib.decodeL (s.drop i)).2 = 1 then .br (.inl ()) else .nx (((i + (Lib.decodeL (s.drop i)).2 : Nat) : Int))) := by
    unfold ref01_Valid_s1
    rw [decide_eq_true (by omega : (i : Int) < (s.length : Int)), cT, one_ref hlt hs hn, bnd]
    by_cases hb : (Lib.decodeL (s.drop i)).1 = 65533 ∧ (Lib.decodeL (s.drop i)).2 = 1
    ·rw [if_pos hb, if_pos hb]
     rfl
    ·rw [if_neg hb, if_neg hb]
     have hw := Lib.decodeL_width (s.drop i)
     have hw4 : (Lib.decodeL (s.drop i)).2 ≤ 4 := by
      rcases dec_cases (s.drop i) hne with ⟨e, _⟩ | ⟨r, w, e, h1, h2, h3, _⟩
      ·rw [e]; decide
      ·rw [e]; exact h3
     dsimp only
     rw [decide_eq_false (by omega), cF, need_i (by omega) (by omega)]
     rfl
   rw [loopF, hst, bnd, Lib.validD_step _ hne]
   by_cases hb : (Lib.decodeL (s.drop i)).1 = 65533 ∧ (Lib.decodeL (s.drop i)).2 = 1
   ·rw [if_pos hb, if_pos hb]
    rfl
   ·rw [if_neg hb, if_neg hb]
    have hw := Lib.decodeL_width (s.drop i)
    have hle : (Lib.decodeL (s.drop i)).2 ≤ s.length - i := by
     rcases dec_cases (s.drop i) hne with ⟨e, _⟩ | ⟨r, w, e, h1, _⟩
     ·rw [e] at hb; exact absurd ⟨rfl, rfl⟩ hb
     ·rw [e]; rw [List.length_drop] at h1; exact h1
    dsimp only
    rw [valid_loop hs hn m _ (by omega) (by omega) q (by omega), List.drop_drop]
  ·have e : s.drop i = [] := List.drop_eq_nil_of_le (by omega)
   rw [loopF, e]
   unfold ref01_Valid_s1
   rw [decide_eq_false (by omega), cF, bnd]
   rfl
theorem valid_ref {n : Nat} {s : List UInt8} (hs : s.length < 1000000) (hn : 5 ≤ n) (hl : s.length < n) : ref01_Valid n s = some (Lib.validD s) := by
 unfold ref01_Valid
 have h := valid_loop hs hn s.length 0 (by omega) (by omega) n hl
 rw [show ((0 : Nat) : Int) = 0 from rfl, List.drop_zero] at h
 rw [h, bnd]
 cases Lib.validD s <;> rfl
end Go.Proofs.YtocefedhenhbfaaGreatDoor
end
section
namespace Go.Proofs.YtocefedhenhbfaaGreatDoor
open Go Go.Vc Go.RowKit
theorem great_ok {n : Nat} (hn : 3000 < n) (v : TE0) : ∃ g, ref03_Great n v = some g ∧ (g = false → Small 30 v ∧ (walkV v).length ≤ 5000) := by
 obtain ⟨W, w1, w2, w3, w4⟩ := weight_ok hn n 30 v (by omega) (by omega)
 refine ⟨decide ((5000 : Int) < W), ?_, fun h => ?_⟩
 ·unfold ref03_Great ref03_weight
  have e : ((30 : Nat) : Int) = 30 := rfl
  rw [e] at w1
  rw [w1, bnd]
 ·have h' := of_decide_eq_false h
  obtain ⟨a, b⟩ := w4 (by omega)
  exact ⟨a, by omega⟩
theorem wvs_mem : ∀ {l : List TE0} {x : TE0}, x ∈ l → (walkV x).length ≤ (walkVs l).length
 | y :: r, x, h => by
  rw [walkVs, List.length_append]
  rcases List.mem_cons.1 h with rfl | h
  ·omega
  ·have := wvs_mem h
   omega
theorem same_k_ok {n : Nat} (hn : 3000 < n) : ∀ (k d : Nat) (v : TE0), d ≤ k → Small d v → ref03_Same_k n k v v = some true
 | _, 0, v, _, h => h.elim
 | 0, d + 1, v, h, _ => absurd h (by omega)
 | k + 1, d + 1, v, hk, hs => by
  obtain ⟨h1, h2, h3, h4, h5⟩ := hs
  show ref03_Same_b n (ref03_Same_k n k) v v = _
  unfold ref03_Same_b
  rw [decide_eq_true rfl, decide_eq_true rfl, decide_eq_true rfl, decide_eq_true rfl, decide_eq_true rfl, beq_self_eq_true, Bool.not_true, cF, cF, cF, cF, cF, bnd, cF]
  have a1 := loop_all (step := ref03_Same_s1 n v v) (n := n) (fun q => (q : Int)) v.fKeys.length (.inr ()) (fun q hq => by
   unfold ref03_Same_s1
   rw [decide_eq_true (by omega), cT, getI_at [] hq, bnd, bnd, decide_eq_true rfl, Bool.not_true, cF, need_i (by omega) (by omega)]
   rfl) (by
   unfold ref03_Same_s1
   rw [decide_eq_false (by omega), cF]) (by omega)
  have a2 := loop_all (step := ref03_Same_s2 n (ref03_Same_k n k) v v) (n := n) (fun q => (q : Int)) v.fList.length (.inr ()) (fun q hq => by
   have hg : getI v.fList (q : Int) = some v.fList[q] := by simp [getI]
   unfold ref03_Same_s2
   rw [decide_eq_true (by omega), cT, hg, bnd, bnd, same_k_ok hn k d v.fList[q] (by omega) (h5 _ (List.getElem_mem hq)), bnd, Bool.not_true, cF, need_i (by omega) (by omega)]
   rfl) (by
   unfold ref03_Same_s2
   rw [decide_eq_false (by omega), cF]) (by omega)
  have e0 : ((0 : Nat) : Int) = 0 := rfl
  simp only [e0] at a1 a2
  rw [a1, bnd]
  dsimp only
  rw [a2, bnd]
end Go.Proofs.YtocefedhenhbfaaGreatDoor
end
section
namespace Go.Proofs.YtocefedhenhbfaaGreatDoor
open Go Go.Vc Go.RowKit
def thenC (a b : Int) : Int := bif decide (a = 0) then b else a
def cmpI (a b : Int) : Int := bif decide (a < b) then -1 else bif decide (b < a) then 1 else 0
def bitI (b : Bool) : Int := bif b then 1 else 0
theorem thenC0 (b : Int) : thenC 0 b = b := rfl
theorem thenCn {a : Int} (b : Int) (h : a ≠ 0) : thenC a b = a := by unfold thenC; rw [decide_eq_false h, cF]
mutual
def cmpV : TE0 → TE0 → Int
  | ⟨k, b, n, t, l, ks⟩, w => thenC (cmpI k w.fKind) (thenC (cmpI (bitI b) (bitI w.fBool)) (thenC (cmpI n w.fNum) (thenC (Lib.compareBytes t w.fText) (cmpVs (decide (k = 5)) l ks w.fList w.fKeys))))
def cmpVs (o : Bool) : List TE0 → List (List UInt8) → List TE0 → List (List UInt8) → Int
  | [], _, [], _ => 0
  | [], _, _ :: _, _ => -1
  | _ :: _, _, [], _ => 1
  | x :: l, ks, y :: m, js => thenC (bif o then Lib.compareBytes (ks.headD []) (js.headD []) else 0) (thenC (cmpV x y) (cmpVs o l ks.tail m js.tail))
end
theorem cmpV_eq (v w : TE0) : cmpV v w = thenC (cmpI v.fKind w.fKind) (thenC (cmpI (bitI v.fBool) (bitI w.fBool)) (thenC (cmpI v.fNum w.fNum) (thenC (Lib.compareBytes v.fText w.fText) (cmpVs (decide (v.fKind = 5)) v.fList v.fKeys w.fList w.fKeys)))) := by
 cases v; rw [cmpV]
theorem cmpI_cases (a b : Int) : (a < b ∧ cmpI a b = -1) ∨ (a = b ∧ cmpI a b = 0) ∨ (b < a ∧ cmpI a b = 1) := by
 unfold cmpI
 rcases Int.lt_trichotomy a b with h | h | h
 ·exact .inl ⟨h, by rw [decide_eq_true h, cT]⟩
 ·subst h; exact .inr (.inl ⟨rfl, by rw [decide_eq_false (by omega), cF, cF]⟩)
 ·exact .inr (.inr ⟨h, by rw [decide_eq_false (by omega), cF, decide_eq_true h, cT]⟩)
theorem cmpI_zero {a b : Int} (h : cmpI a b = 0) : a = b := by
 unfold cmpI at h
 by_cases h1 : a < b
 ·rw [decide_eq_true h1, cT] at h; omega
 ·rw [decide_eq_false h1, cF] at h
  by_cases h2 : b < a
  ·rw [decide_eq_true h2, cT] at h; omega
  ·omega
theorem cmpI_self (a : Int) : cmpI a a = 0 := by unfold cmpI; rw [decide_eq_false (by omega), cF, cF]
theorem thenC_zero {a b : Int} (h : thenC a b = 0) : a = 0 ∧ b = 0 := by
 by_cases e : a = 0
 ·subst e; exact ⟨rfl, h⟩
 ·rw [thenCn b e] at h; exact absurd h e
theorem cmpI_range (a b : Int) : -1 ≤ cmpI a b ∧ cmpI a b ≤ 1 := by
 have := cmpI_cases a b
 omega
theorem cb_range : ∀ a b : List UInt8, -1 ≤ Lib.compareBytes a b ∧ Lib.compareBytes a b ≤ 1
 | [], [] => by simp [Lib.compareBytes]
 | [], _ :: _ => by simp [Lib.compareBytes]
 | _ :: _, [] => by simp [Lib.compareBytes]
 | x :: r, y :: s => by
  have := cb_range r s
  unfold Lib.compareBytes
  split
  ·omega
  ·split <;> omega
end Go.Proofs.YtocefedhenhbfaaGreatDoor
end
section
namespace Go.Proofs.YtocefedhenhbfaaGreatDoor
open Go Go.Vc Go.RowKit
def PlainV (v : TE0) : Prop := 0 ≤ v.fKind ∧ v.fKind ≤ 5 ∧ (v.fBool = true → v.fKind = 1) ∧ (v.fNum ≠ 0 → v.fKind = 2) ∧ (v.fText ≠ [] → v.fKind = 3) ∧ (v.fList.length ≠ 0 → v.fKind = 4 ∨ v.fKind = 5) ∧ (v.fKind = 5 → v.fKeys.length = v.fList.length) ∧ (v.fKind ≠ 5 → v.fKeys.length = 0)
instance (v : TE0) : Decidable (PlainV v) := by unfold PlainV; exact inferInstance
def aloneV (v : TE0) : Int :=
  if PlainV v then (if v.fNum < -9007199254740992 ∨ 9007199254740992 < v.fNum then 20 else if Lib.validD v.fText = true ∧ ∀ k ∈ v.fKeys, Lib.validD k = true then (if v.fKeys.Nodup then 0 else 41) else 10) else 2
def NumOut (v : TE0) : Prop := v.fNum < -9007199254740992 ∨ 9007199254740992 < v.fNum
def TextsOk (v : TE0) : Prop := Lib.validD v.fText = true ∧ ∀ k ∈ v.fKeys, Lib.validD k = true
theorem alone_2 {v : TE0} (h : ¬ PlainV v) : aloneV v = 2 := if_neg h
theorem alone_20 {v : TE0} (h : PlainV v) (hn : NumOut v) : aloneV v = 20 := (if_pos h).trans (if_pos hn)
theorem alone_10 {v : TE0} (h : PlainV v) (hn : ¬ NumOut v) (ht : ¬ TextsOk v) : aloneV v = 10 := ((if_pos h).trans (if_neg hn)).trans (if_neg ht)
theorem alone_41 {v : TE0} (h : PlainV v) (hn : ¬ NumOut v) (ht : TextsOk v) (hd : ¬ v.fKeys.Nodup) : aloneV v = 41 := (((if_pos h).trans (if_neg hn)).trans (if_pos ht)).trans (if_neg hd)
theorem alone_0 {v : TE0} (h : PlainV v) (hn : ¬ NumOut v) (ht : TextsOk v) (hd : v.fKeys.Nodup) : aloneV v = 0 := (((if_pos h).trans (if_neg hn)).trans (if_pos ht)).trans (if_pos hd)
theorem alone_ok {v : TE0} (h : aloneV v = 0) : PlainV v ∧ ¬ NumOut v ∧ TextsOk v ∧ v.fKeys.Nodup := by
 by_cases h1 : PlainV v
 ·by_cases h2 : NumOut v
  ·rw [alone_20 h1 h2] at h; omega
  ·by_cases h3 : TextsOk v
   ·by_cases h4 : v.fKeys.Nodup
    ·exact ⟨h1, h2, h3, h4⟩
    ·rw [alone_41 h1 h2 h3 h4] at h; omega
   ·rw [alone_10 h1 h2 h3] at h; omega
 ·rw [alone_2 h1] at h; omega
def Wide (v : TE0) : Prop := v.fList.length ≤ 3000 ∧ v.fKeys.length ≤ 3000 ∧ v.fText.length ≤ 5000 ∧ ∀ k ∈ v.fKeys, k.length ≤ 5000
theorem Small.wide : ∀ {d : Nat} {v : TE0}, Small d v → Wide v
 | _ + 1, _, h => ⟨h.1, h.2.1, h.2.2.1, h.2.2.2.1⟩
theorem plain_ref {n : Nat} (v : TE0) : ref03_plain n v = some (decide (PlainV v)) := by
  unfold ref03_plain
  by_cases h0 : v.fKind < 0
  · rw [decide_eq_true h0, cT, bnd, cT, decide_eq_false (fun h => by have := h.1; omega)]
  rw [decide_eq_false h0, cF, bnd]
  by_cases h5 : 5 < v.fKind
  · rw [decide_eq_true h5, cT, decide_eq_false (fun h => by have := h.2.1; omega)]
  rw [decide_eq_false h5, cF]
  have key : ((bif v.fBool then
        (bif (!(decide (v.fKind = 1))) then
          (some ((true)))
        else
          bif (!(decide (v.fNum = 0))) then
            (bif (!(decide (v.fKind = 2))) then
              (some ((true)))
            else
              bif (!(decide (v.fText = []))) then
                (some ((!(decide (v.fKind = 3)))))
              else
                some ((false)))
          else
            bif (!(decide (v.fText = []))) then
              (some ((!(decide (v.fKind = 3)))))
            else
              some ((false)))
      else
        bif (!(decide (v.fNum = 0))) then
          (bif (!(decide (v.fKind = 2))) then
            (some ((true)))
          else
            bif (!(decide (v.fText = []))) then
              (some ((!(decide (v.fKind = 3)))))
            else
              some ((false)))
        else
          bif (!(decide (v.fText = []))) then
            (some ((!(decide (v.fKind = 3)))))
          else
            some ((false)) : Option Bool)) = some (!decide ((v.fBool = true → v.fKind = 1) ∧ (v.fNum ≠ 0 → v.fKind = 2) ∧ (v.fText ≠ [] → v.fKind = 3))) := by
    cases v.fBool <;> by_cases h1 : v.fKind = 1 <;> by_cases h2 : v.fKind = 2 <;> by_cases h3 : v.fKind = 3 <;> by_cases hn : v.fNum = 0 <;> by_cases ht : v.fText = [] <;> simp [h1, h2, h3, hn, ht]
  rw [key, bnd]
  by_cases hk : (v.fBool = true → v.fKind = 1) ∧ (v.fNum ≠ 0 → v.fKind = 2) ∧ (v.fText ≠ [] → v.fKind = 3)
  · rw [decide_eq_true hk, Bool.not_true, cF]
    by_cases hl : v.fList.length = 0
    · rw [decide_eq_false (by omega), cF, bnd, cF]
      by_cases e5 : v.fKind = 5
      · rw [decide_eq_true e5, cT]
        refine congrArg some (decide_eq_decide.2 ?_)
        unfold PlainV
        constructor
        · intro h; exact ⟨by omega, by omega, hk.1, hk.2.1, hk.2.2, fun h => absurd hl h, fun _ => by omega, fun h => absurd e5 h⟩
        · intro h; have := h.2.2.2.2.2.2.1 e5; omega
      · rw [decide_eq_false e5, cF]
        refine congrArg some (decide_eq_decide.2 ?_)
        unfold PlainV
        constructor
        · intro h; exact ⟨by omega, by omega, hk.1, hk.2.1, hk.2.2, fun h => absurd hl h, fun h => absurd h e5, fun _ => by omega⟩
        · intro h; have := h.2.2.2.2.2.2.2 e5; omega
    · rw [decide_eq_true (by omega), cT]
      by_cases e4 : v.fKind = 4
      · rw [decide_eq_true e4, Bool.not_true, cF, bnd, cF, decide_eq_false (by omega), cF]
        refine congrArg some (decide_eq_decide.2 ?_)
        unfold PlainV
        constructor
        · intro h; exact ⟨by omega, by omega, hk.1, hk.2.1, hk.2.2, fun h => .inl e4, fun h => by omega, fun _ => by omega⟩
        · intro h; have := h.2.2.2.2.2.2.2 (by omega); omega
      · rw [decide_eq_false e4, Bool.not_false, cT]
        by_cases e5 : v.fKind = 5
        · rw [decide_eq_true e5, Bool.not_true, bnd, cF, cT]
          refine congrArg some (decide_eq_decide.2 ?_)
          unfold PlainV
          constructor
          · intro h; exact ⟨by omega, by omega, hk.1, hk.2.1, hk.2.2, fun h => .inr e5, fun _ => by omega, fun h => absurd e5 h⟩
          · intro h; have := h.2.2.2.2.2.2.1 e5; omega
        · rw [decide_eq_false e5, Bool.not_false, bnd, cT, decide_eq_false]
          intro h
          have := h.2.2.2.2.2.1 hl
          omega
  · rw [decide_eq_false hk, Bool.not_false, cT, decide_eq_false]
    intro h
    exact hk ⟨h.2.2.1, h.2.2.2.1, h.2.2.2.2.1⟩
theorem mem_take_succ {α : Type} {l : List α} {i : Nat} {x : α} (h : l[i]? = some x) (y : α) : y ∈ l.take (i + 1) ↔ y ∈ l.take i ∨ y = x := by
 rw [List.take_add_one, h, List.mem_append]
 simp
theorem nodup_take_succ {α : Type} {l : List α} {i : Nat} {x : α} (h : l[i]? = some x) : (l.take (i + 1)).Nodup ↔ (l.take i).Nodup ∧ x ∉ l.take i := by
 rw [List.take_add_one, h]
 simp only [Option.toList_some, List.nodup_append]
 constructor
 ·rintro ⟨h1, _, h3⟩
  exact ⟨h1, fun hx => h3 x hx x (by simp) rfl⟩
 ·rintro ⟨h1, h2⟩
  refine ⟨h1, by simp, fun a ha b hb => ?_⟩
  simp only [List.mem_singleton] at hb
  subst hb
  intro e
  exact h2 (e ▸ ha)
theorem nodup_of_take {α : Type} {l : List α} (i : Nat) (h : l.Nodup) : (l.take i).Nodup := (List.take_sublist i l).nodup h
theorem keys_ref {n : Nat} (hn : 6000 < n) {v : TE0} (hw : Wide v) : loopF (ref03_wrong_s1 n v) n (0 : Int) = some (bif v.fKeys.any (fun k => !Lib.validD k) then .inl () else .inr ()) := by
 rw [← any_range [] (fun k => !Lib.validD k) v.fKeys]
 refine loop_any (fun k => !Lib.validD (v.fKeys.getD k [])) v.fKeys.length _ _ (fun k hk => ?_) ?_ (by have := hw.2.1; omega)
 ·unfold ref03_wrong_s1
  have hm : v.fKeys.getD k [] ∈ v.fKeys := by simp [List.getD, hk]
  have hl := hw.2.2.2 _ hm
  rw [decide_eq_true (by omega), cT, getI_at [] hk, bnd, valid_ref (by omega) (by omega) (by omega), bnd]
  cases Lib.validD (v.fKeys.getD k []) with
  | true => rw [Bool.not_true, cF, need_i (by omega) (by have := hw.2.1; omega)]; simp
  | false => rw [Bool.not_false, cT]; simp
 ·unfold ref03_wrong_s1
  rw [decide_eq_false (by omega), cF]
theorem twice_in {n : Nat} (hn : 6000 < n) {v : TE0} (hw : Wide v) {i : Nat} (hi : i < v.fKeys.length) : loopF (ref03_wrong_s3 n v (i : Int)) n (0 : Int) = some (bif (List.range i).any (fun k => decide (v.fKeys.getD k [] = v.fKeys.getD i [])) then .inl () else .inr ()) := by
 refine loop_any (fun k => decide (v.fKeys.getD k [] = v.fKeys.getD i [])) i _ _ (fun k hk => ?_) ?_ (by have := hw.2.1; omega)
 ·unfold ref03_wrong_s3
  rw [decide_eq_true (by omega), cT, getI_at [] (by omega), bnd, getI_at [] hi, bnd]
  by_cases h : v.fKeys.getD k [] = v.fKeys.getD i []
  ·rw [decide_eq_true h, cT]; simp
  ·rw [decide_eq_false h, cF, need_i (by omega) (by have := hw.2.1; omega)]; simp
 ·unfold ref03_wrong_s3
  rw [decide_eq_false (by omega), cF]
theorem any_take {l : List (List UInt8)} {i : Nat} (hi : i < l.length) : (List.range i).any (fun k => decide (l.getD k [] = l.getD i [])) = decide (l[i] ∈ l.take i) := by
 rw [Bool.eq_iff_iff, List.any_eq_true, decide_eq_true_eq, List.mem_take_iff_getElem]
 constructor
 ·rintro ⟨k, hk, h⟩
  have hk' : k < i := by simpa using hk
  refine ⟨k, by omega, ?_⟩
  have := of_decide_eq_true h
  simpa [List.getD, hi, (by omega : k < l.length)] using this
 ·rintro ⟨k, hk, h⟩
  refine ⟨k, List.mem_range.2 (by omega), ?_⟩
  simpa [List.getD, hi, (by omega : k < l.length)] using h
theorem twice_ref {n : Nat} (hn : 6000 < n) {v : TE0} (hw : Wide v) : loopF (ref03_wrong_s2 n v) n (0 : Int) = some (bif decide v.fKeys.Nodup then .inr () else .inl ()) := by
 obtain ⟨b, hb, hp⟩ := loop_inv (step := ref03_wrong_s2 n v) (n := n) (s0 := (0 : Int)) (fun k s => s = (k : Int) ∧ (v.fKeys.take k).Nodup)
  (fun b => b = bif decide v.fKeys.Nodup then .inr () else .inl ()) v.fKeys.length ⟨rfl, by simp⟩
  (fun q s hq hI => by
   obtain ⟨rfl, hnd⟩ := hI
   unfold ref03_wrong_s2
   rw [decide_eq_true (by omega), cT, twice_in hn hw hq, bnd, any_take hq]
   have hx : v.fKeys[q]? = some v.fKeys[q] := List.getElem?_eq_getElem hq
   by_cases hm : v.fKeys[q] ∈ v.fKeys.take q
   ·rw [decide_eq_true hm, cT]
    refine .inr ⟨_, rfl, ?_⟩
    rw [decide_eq_false, cF]
    intro h
    exact ((nodup_take_succ hx).1 (nodup_of_take (q + 1) h)).2 hm
   ·rw [decide_eq_false hm, cF]
    dsimp only
    rw [need_i (by omega) (by have := hw.2.1; omega)]
    exact .inl ⟨_, rfl, by omega, (nodup_take_succ hx).2 ⟨hnd, hm⟩⟩)
  (fun s hI => by
   obtain ⟨rfl, hnd⟩ := hI
   rw [List.take_length] at hnd
   unfold ref03_wrong_s2
   rw [decide_eq_false (by omega), cF]
   exact ⟨_, rfl, by rw [decide_eq_true hnd, cT]⟩) (by have := hw.2.1; omega)
 rw [hb, hp]
def faultL : List TE0 → Int
  | [] => 0
  | x :: r => if aloneV x = 0 then faultL r else aloneV x
theorem faultL_app : ∀ l m : List TE0, faultL (l ++ m) = if faultL l = 0 then faultL m else faultL l
 | [], m => by simp [faultL]
 | x :: l, m => by
  rw [List.cons_append, faultL, faultL, faultL_app l m]
  by_cases h : aloneV x = 0
  ·rw [if_pos h, if_pos h]
  ·rw [if_neg h, if_neg h, if_neg h]
theorem faultL_cons_walk (v : TE0) : faultL (walkV v) = if aloneV v = 0 then faultL (walkVs v.fList) else aloneV v := by rw [walkV_eq, faultL]
theorem faultL_take {l : List TE0} {i : Nat} {x : TE0} (h : l[i]? = some x) : faultL (walkVs (l.take (i + 1))) = if faultL (walkVs (l.take i)) = 0 then faultL (walkV x) else faultL (walkVs (l.take i)) := by rw [walkVs_take h, faultL_app]
theorem wrong_ref {n : Nat} (hn : 6000 < n) : ∀ (k d : Nat) (v : TE0), d ≤ k → Small d v → ref03_wrong_k n k v = some (faultL (walkV v))
 | _, 0, v, _, h => h.elim
 | 0, d + 1, v, h, _ => absurd h (by omega)
 | k + 1, d + 1, v, hk, hs => by
  have hw := hs.wide
  obtain ⟨h1, h2, h3, h4, h5⟩ := hs
  show ref03_wrong_b n (ref03_wrong_k n k) v = _
  unfold ref03_wrong_b
  rw [faultL_cons_walk, plain_ref, bnd]
  by_cases hp : PlainV v
  ·rw [decide_eq_true hp, Bool.not_true, cF]
   by_cases hnum : NumOut v
   ·rw [alone_20 hp hnum, if_neg (by decide)]
    rcases hnum with hm | hm
    ·rw [decide_eq_true hm, cT, bnd, cT]
    ·by_cases hm' : v.fNum < -9007199254740992
     ·omega
     ·rw [decide_eq_false hm', cF, bnd, decide_eq_true hm, cT]
   ·have hnum' : ¬ (v.fNum < -9007199254740992 ∨ 9007199254740992 < v.fNum) := hnum
    rw [decide_eq_false (by omega), cF, bnd, decide_eq_false (by omega), cF, valid_ref (by omega) (by omega) (by omega), bnd, keys_ref hn hw, twice_ref hn hw]
    cases hv : Lib.validD v.fText with
    | false =>
     rw [Bool.not_false, cT, alone_10 hp hnum (fun h => by rw [h.1] at hv; cases hv), if_neg (by decide)]
    | true =>
     rw [Bool.not_true, cF, bnd]
     by_cases ha : ∀ k ∈ v.fKeys, Lib.validD k = true
     ·have : v.fKeys.any (fun k => !Lib.validD k) = false := by
       rw [List.any_eq_false]
       intro x hx
       simp [ha x hx]
      rw [this, cF]
      dsimp only
      rw [bnd]
      by_cases hd : v.fKeys.Nodup
      ·rw [decide_eq_true hd, cT, alone_0 hp hnum ⟨hv, ha⟩ hd, if_pos rfl]
       dsimp only
       obtain ⟨b, hb, hpost⟩ := loop_inv (step := ref03_wrong_s4 n (ref03_wrong_k n k) v) (n := n) (s0 := (0 : Int)) (fun q s => s = (q : Int) ∧ faultL (walkVs (v.fList.take q)) = 0)
        (fun b => match b with | .inl e => e = faultL (walkVs v.fList) | .inr () => faultL (walkVs v.fList) = 0) v.fList.length ⟨rfl, by simp [walkVs, faultL]⟩
        (fun q s hq hI => by
         obtain ⟨rfl, hf⟩ := hI
         have hx : v.fList[q]? = some v.fList[q] := List.getElem?_eq_getElem hq
         have hg : getI v.fList (q : Int) = some v.fList[q] := by simp [getI]
         have hft := faultL_take hx
         rw [if_pos hf] at hft
         unfold ref03_wrong_s4
         rw [decide_eq_true (by omega), cT, hg, bnd, wrong_ref hn k d _ (by omega) (h5 _ (List.getElem_mem hq)), bnd]
         by_cases he : faultL (walkV v.fList[q]) = 0
         ·rw [decide_eq_true he, Bool.not_true, cF, need_i (by omega) (by omega)]
          exact .inl ⟨_, rfl, by omega, by rw [hft]; exact he⟩
         ·rw [decide_eq_false he, Bool.not_false, cT]
          refine .inr ⟨_, rfl, ?_⟩
          have hsplit : walkVs v.fList = walkVs (v.fList.take (q + 1)) ++ walkVs (v.fList.drop (q + 1)) := by rw [← walkVs_app, List.take_append_drop]
          dsimp only
          rw [hsplit, faultL_app, hft, if_neg he])
        (fun s hI => by
         obtain ⟨rfl, hf⟩ := hI
         rw [List.take_length] at hf
         unfold ref03_wrong_s4
         rw [decide_eq_false (by omega), cF]
         exact ⟨_, rfl, hf⟩) (by omega)
       rw [hb, bnd]
       cases b with
       | inl e => dsimp only at hpost ⊢; rw [hpost]
       | inr u => dsimp only at hpost ⊢; rw [hpost]
      ·rw [decide_eq_false hd, cF, alone_41 hp hnum ⟨hv, ha⟩ hd, if_neg (by decide)]
     ·rw [alone_10 hp hnum (fun h => ha h.2), if_neg (by decide)]
      have : v.fKeys.any (fun k => !Lib.validD k) = true := by
       rw [List.any_eq_true]
       apply Classical.byContradiction
       intro h
       apply ha
       intro k hk
       cases hvk : Lib.validD k with
       | true => rfl
       | false => exact absurd ⟨k, hk, by simp [hvk]⟩ h
      rw [this, cT]
  ·rw [decide_eq_false hp, Bool.not_false, cT, alone_2 hp, if_neg (by decide)]
end Go.Proofs.YtocefedhenhbfaaGreatDoor
end
section
namespace Go.Proofs.YtocefedhenhbfaaGreatDoor
open Go Go.Vc Go.RowKit
theorem valid_run {n : Nat} {s : List UInt8} (h : s.length < 1000000) : runes_Valid n s = some (Lib.validD s) := by
 unfold runes_Valid h_ValidString
 rw [need_t (by omega), bnd]
theorem contains_run {n : Nat} (hn : 6000 < n) {v : TE0} (hw : Wide v) : slices_ContainsFuncstring_string n v.fKeys = some (v.fKeys.any (fun k => !Lib.validD k)) := by
 unfold slices_ContainsFuncstring_string slices_IndexFuncstring_string
 have hl := hw.2.1
 have hd : ∀ k : Nat, k < v.fKeys.length → slices_IndexFuncstring_string_s1 n v.fKeys (k : Int) = some (if !Lib.validD (v.fKeys.getD k []) then .br (.inl (k : Int)) else .nx ((k : Int) + 1)) := fun k hk => by
  unfold slices_IndexFuncstring_string_s1 tree_alone_1
  have hm : v.fKeys.getD k [] ∈ v.fKeys := by simp [List.getD, hk]
  have := hw.2.2.2 _ hm
  rw [decide_eq_true (by omega), cT, getI_at [] hk, bnd, valid_run (by omega), bnd, bnd]
  cases Lib.validD (v.fKeys.getD k []) with
  | true => rw [Bool.not_true, cF, need_i (by omega) (by omega)]; rfl
  | false => rw [Bool.not_false, cT]; rfl
 obtain ⟨b, hb, hp⟩ := loop_inv (step := slices_IndexFuncstring_string_s1 n v.fKeys) (n := n) (s0 := (0 : Int)) (fun q s => s = (q : Int) ∧ ∀ k ∈ v.fKeys.take q, Lib.validD k = true)
  (fun b => match b with | .inl i => 0 ≤ i ∧ v.fKeys.any (fun k => !Lib.validD k) = true | .inr () => v.fKeys.any (fun k => !Lib.validD k) = false) v.fKeys.length ⟨rfl, by simp⟩
  (fun q s hq hI => by
   obtain ⟨rfl, hf⟩ := hI
   have hx : v.fKeys[q]? = some v.fKeys[q] := List.getElem?_eq_getElem hq
   rw [hd q hq]
   have hg : v.fKeys.getD q [] = v.fKeys[q] := by simp [List.getD, hq]
   rw [hg]
   cases hv : Lib.validD v.fKeys[q] with
   | true =>
    refine .inl ⟨_, rfl, by omega, fun k hk => ?_⟩
    rcases (mem_take_succ hx k).1 hk with h | h
    ·exact hf k h
    ·rw [h]; exact hv
   | false =>
    refine .inr ⟨_, rfl, by omega, ?_⟩
    rw [List.any_eq_true]
    exact ⟨_, List.getElem_mem hq, by simp [hv]⟩)
  (fun s hI => by
   obtain ⟨rfl, hf⟩ := hI
   rw [List.take_length] at hf
   unfold slices_IndexFuncstring_string_s1
   rw [decide_eq_false (by omega), cF]
   refine ⟨_, rfl, ?_⟩
   dsimp only
   rw [List.any_eq_false]
   intro x hx
   simp [hf x hx]) (by omega)
 rw [hb, bnd]
 cases b with
 | inl i => dsimp only at hp ⊢; rw [bnd, hp.2, decide_eq_true hp.1]
 | inr u => dsimp only at hp ⊢; rw [bnd, hp]; rfl
theorem twice_run {n : Nat} (hn : 6000 < n) {v : TE0} (hw : Wide v) : ∃ b, loopF (tree_alone_s1 n v) n ((0 : Int), ([] : List ((List UInt8) × Bool))) = some b ∧ (match b with | .inl _ => ¬ v.fKeys.Nodup | .inr _ => v.fKeys.Nodup) := by
 have hl := hw.2.1
 refine loop_inv (step := tree_alone_s1 n v) (n := n) (fun q s => s.1 = (q : Int) ∧ (∀ x, (mget s.2 x).getD false = decide (x ∈ v.fKeys.take q)) ∧ (v.fKeys.take q).Nodup)
  (fun b => match b with | .inl _ => ¬ v.fKeys.Nodup | .inr _ => v.fKeys.Nodup) v.fKeys.length ⟨rfl, fun x => by simp [mget], by simp⟩
  (fun q s hq hI => ?_) (fun s hI => ?_) (by omega)
 ·obtain ⟨i, m⟩ := s
  obtain ⟨h1, h2, h3⟩ := hI
  have h1' : i = (q : Int) := h1
  subst h1'
  dsimp only at h2
  have hx : v.fKeys[q]? = some v.fKeys[q] := List.getElem?_eq_getElem hq
  have hg : getI v.fKeys (q : Int) = some v.fKeys[q] := by simp [getI]
  unfold tree_alone_s1
  dsimp only
  rw [decide_eq_true (by omega), cT, hg, bnd, h2]
  by_cases hm : v.fKeys[q] ∈ v.fKeys.take q
  ·rw [decide_eq_true hm, cT]
   exact .inr ⟨_, rfl, fun h => ((nodup_take_succ hx).1 (nodup_of_take (q + 1) h)).2 hm⟩
  ·rw [decide_eq_false hm, cF, need_i (by omega) (by omega)]
   refine .inl ⟨_, rfl, by dsimp only; omega, fun x => ?_, (nodup_take_succ hx).2 ⟨h3, hm⟩⟩
   dsimp only
   rw [mget_mput]
   by_cases hxe : v.fKeys[q] = x
   ·rw [if_pos hxe, decide_eq_true ((mem_take_succ hx x).2 (.inr hxe.symm))]; rfl
   ·rw [if_neg hxe, h2]
    refine decide_eq_decide.2 ?_
    rw [mem_take_succ hx]
    exact ⟨.inl, fun h => h.elim id fun h => absurd h.symm hxe⟩
 ·obtain ⟨i, m⟩ := s
  obtain ⟨h1, h2, h3⟩ := hI
  have h1' : i = (v.fKeys.length : Int) := h1
  subst h1'
  rw [List.take_length] at h3
  unfold tree_alone_s1
  dsimp only
  rw [decide_eq_false (by omega), cF]
  exact ⟨_, rfl, h3⟩
theorem alone_run {n : Nat} (hn : 6000 < n) {v : TE0} (hw : Wide v) : tree_alone n v = some (aloneV v) := by
 obtain ⟨hl, hk, ht, hkk⟩ := id hw
 unfold tree_alone
 -- the rest: either 2 at once, or what is left
 have tail : ∀ y : Bool × Int × List UInt8 × List TE0 × List (List UInt8), y.2.2.2.1.length ≤ 3000 → y.2.2.2.2.length ≤ 3000 → (PlainV v ↔ (y.1 = false ∧ y.2.1 = 0 ∧ y.2.2.1 = [] ∧ y.2.2.2.1.length = 0 ∧ y.2.2.2.2.length = 0)) →
   (((((bif y.1 then
    (some ((true)))
   else
    bif (!(decide (y.2.1 = 0))) then
     (some ((true)))
    else
     bif (!(decide (y.2.2.1 = []))) then
      (some ((true)))
     else
      need (inR .i64 (((y.2.2.2.1.length : Nat) : Int) + ((y.2.2.2.2.length : Nat) : Int))) <|
      some ((decide ((0 : Int) < (((y.2.2.2.1.length : Nat) : Int) + ((y.2.2.2.2.length : Nat) : Int))))) : Option Bool)).bind fun y_2 =>
  bif y_2 then
   (((some ((2 : Int)) : Option Int)).map Lp.br)
  else
   ((bif (decide (v.fNum < (-9007199254740992))) then
     (some ((true)))
    else
     some ((decide ((9007199254740992 : Int) < v.fNum))) : Option Bool)).bind fun y_3 =>
   bif y_3 then
    (((some ((20 : Int)) : Option Int)).map Lp.br)
   else
    (runes_Valid n v.fText).bind fun x_1 =>
    bif !x_1 then
     (((some ((10 : Int)) : Option Int)).map Lp.br)
    else
     (slices_ContainsFuncstring_string n v.fKeys).bind fun x_2 =>
     bif x_2 then
      (((some ((10 : Int)) : Option Int)).map Lp.br)
     else
      some (.nx ()) : Option (Lp Unit Int))).bind fun j => joinF j fun _ =>
 (loopF (tree_alone_s1 n v) n ((0 : Int), ([] : List ((List UInt8) × Bool)))).bind fun b_2 =>
 (match b_2 with 
 | .inl y_5 => some ((41 : Int)) 
 | .inr y_6 => some ((0 : Int)))) = some (aloneV v) := by
  intro y hy1 hy2 hy
  have e : (bif y.1 then
    (some ((true)))
   else
    bif (!(decide (y.2.1 = 0))) then
     (some ((true)))
    else
     bif (!(decide (y.2.2.1 = []))) then
      (some ((true)))
     else
      need (inR .i64 (((y.2.2.2.1.length : Nat) : Int) + ((y.2.2.2.2.length : Nat) : Int))) <|
      some ((decide ((0 : Int) < (((y.2.2.2.1.length : Nat) : Int) + ((y.2.2.2.2.length : Nat) : Int))))) : Option Bool) = some (!decide (PlainV v)) := by
   rw [need_i (by omega) (by omega)]
   by_cases hp : PlainV v
   ·obtain ⟨a1, a2, a3, a4, a5⟩ := hy.1 hp
    rw [a1, cF, decide_eq_true a2, Bool.not_true, cF, decide_eq_true a3, Bool.not_true, cF, decide_eq_false (by omega), decide_eq_true hp]; rfl
   ·rw [decide_eq_false hp, Bool.not_false]
    cases hb : y.1 with
    | true => rw [cT]
    | false =>
     rw [cF]
     by_cases h2 : y.2.1 = 0
     ·rw [decide_eq_true h2, Bool.not_true, cF]
      by_cases h3 : y.2.2.1 = []
      ·rw [decide_eq_true h3, Bool.not_true, cF, decide_eq_true]
       by_cases h4 : y.2.2.2.1.length = 0
       ·by_cases h5 : y.2.2.2.2.length = 0
        ·exact absurd (hy.2 ⟨hb, h2, h3, h4, h5⟩) hp
        ·omega
       ·omega
      ·rw [decide_eq_false h3, Bool.not_false, cT]
     ·rw [decide_eq_false h2, Bool.not_false, cT]
  rw [e, bnd]
  by_cases hp : PlainV v
  ·rw [decide_eq_true hp, Bool.not_true, cF]
   by_cases hnum : NumOut v
   ·rw [alone_20 hp hnum]
    rcases hnum with hm | hm
    ·rw [decide_eq_true hm, cT, bnd, cT, mpS, bnd, jB]
    ·by_cases hm' : v.fNum < -9007199254740992
     ·omega
     ·rw [decide_eq_false hm', cF, bnd, decide_eq_true hm, cT, mpS, bnd, jB]
   ·have hnum' : ¬ (v.fNum < -9007199254740992 ∨ 9007199254740992 < v.fNum) := hnum
    rw [decide_eq_false (by omega), cF, bnd, decide_eq_false (by omega), cF, valid_run (by omega), bnd, contains_run hn hw]
    cases hv : Lib.validD v.fText with
    | false => rw [Bool.not_false, cT, mpS, bnd, jB, alone_10 hp hnum (fun h => by rw [h.1] at hv; cases hv)]
    | true =>
     rw [Bool.not_true, cF, bnd]
     by_cases ha : ∀ k ∈ v.fKeys, Lib.validD k = true
     ·have : v.fKeys.any (fun k => !Lib.validD k) = false := by
       rw [List.any_eq_false]
       intro x hx
       simp [ha x hx]
      rw [this, cF, bnd, jN]
      obtain ⟨b, hb, hpost⟩ := twice_run hn hw
      rw [hb, bnd]
      cases b with
      | inl m => dsimp only at hpost ⊢; rw [alone_41 hp hnum ⟨hv, ha⟩ hpost]
      | inr m => dsimp only at hpost ⊢; rw [alone_0 hp hnum ⟨hv, ha⟩ hpost]
     ·have : v.fKeys.any (fun k => !Lib.validD k) = true := by
       rw [List.any_eq_true]
       apply Classical.byContradiction
       intro h
       apply ha
       intro k hk
       cases hvk : Lib.validD k with
       | true => rfl
       | false => exact absurd ⟨k, hk, by simp [hvk]⟩ h
      rw [this, cT, mpS, bnd, jB, alone_10 hp hnum (fun h => ha h.2)]
  ·rw [decide_eq_false hp, Bool.not_false, cT, mpS, bnd, jB, alone_2 hp]
 have len0 : ∀ {α : Type} {l : List α}, l = [] ↔ l.length = 0 := fun {α l} => by simp
 by_cases h0 : v.fKind = 0
 ·rw [decide_eq_true h0, cT, bnd, jN]
  refine tail _ hl hk ?_
  unfold PlainV
  dsimp only
  rw [h0]
  constructor
  ·rintro ⟨_, _, a, b, c, d, _, e⟩
   refine ⟨?_, ?_, ?_, ?_, e (by omega)⟩
   ·cases hb : v.fBool with
    | false => rfl
    | true => have := a hb; omega
   ·apply Classical.byContradiction; intro h; have := b h; omega
   ·apply Classical.byContradiction; intro h; have := c h; omega
   ·apply Classical.byContradiction; intro h; have := d h; omega
  ·rintro ⟨a, b, c, d, e⟩
   exact ⟨by omega, by omega, fun h => (by rw [a] at h; cases h), fun h => absurd b h, fun h => absurd c h, fun h => absurd d h, fun h => by omega, fun _ => e⟩
 rw [decide_eq_false h0, cF]
 by_cases h1 : v.fKind = 1
 ·rw [decide_eq_true h1, cT, bnd, jN]
  refine tail _ hl hk ?_
  unfold PlainV
  dsimp only
  rw [h1]
  constructor
  ·rintro ⟨_, _, a, b, c, d, _, e⟩
   refine ⟨rfl, ?_, ?_, ?_, e (by omega)⟩
   ·apply Classical.byContradiction; intro h; have := b h; omega
   ·apply Classical.byContradiction; intro h; have := c h; omega
   ·apply Classical.byContradiction; intro h; have := d h; omega
  ·rintro ⟨_, b, c, d, e⟩
   exact ⟨by omega, by omega, fun _ => rfl, fun h => absurd b h, fun h => absurd c h, fun h => absurd d h, fun h => by omega, fun _ => e⟩
 rw [decide_eq_false h1, cF]
 by_cases h2 : v.fKind = 2
 ·rw [decide_eq_true h2, cT, bnd, jN]
  refine tail _ hl hk ?_
  unfold PlainV
  dsimp only
  rw [h2]
  constructor
  ·rintro ⟨_, _, a, b, c, d, _, e⟩
   refine ⟨?_, rfl, ?_, ?_, e (by omega)⟩
   ·cases hb : v.fBool with
    | false => rfl
    | true => have := a hb; omega
   ·apply Classical.byContradiction; intro h; have := c h; omega
   ·apply Classical.byContradiction; intro h; have := d h; omega
  ·rintro ⟨a, _, c, d, e⟩
   exact ⟨by omega, by omega, fun h => (by rw [a] at h; cases h), fun _ => rfl, fun h => absurd c h, fun h => absurd d h, fun h => by omega, fun _ => e⟩
 rw [decide_eq_false h2, cF]
 by_cases h3 : v.fKind = 3
 ·rw [decide_eq_true h3, cT, bnd, jN]
  refine tail _ hl hk ?_
  unfold PlainV
  dsimp only
  rw [h3]
  constructor
  ·rintro ⟨_, _, a, b, c, d, _, e⟩
   refine ⟨?_, ?_, rfl, ?_, e (by omega)⟩
   ·cases hb : v.fBool with
    | false => rfl
    | true => have := a hb; omega
   ·apply Classical.byContradiction; intro h; have := b h; omega
   ·apply Classical.byContradiction; intro h; have := d h; omega
  ·rintro ⟨a, b, _, d, e⟩
   exact ⟨by omega, by omega, fun h => (by rw [a] at h; cases h), fun h => absurd b h, fun _ => rfl, fun h => absurd d h, fun h => by omega, fun _ => e⟩
 rw [decide_eq_false h3, cF]
 by_cases h4 : v.fKind = 4
 ·rw [decide_eq_true h4, cT, bnd, jN]
  refine tail _ (by simp) hk ?_
  unfold PlainV
  dsimp only
  rw [h4]
  constructor
  ·rintro ⟨_, _, a, b, c, d, _, e⟩
   refine ⟨?_, ?_, ?_, rfl, e (by omega)⟩
   ·cases hb : v.fBool with
    | false => rfl
    | true => have := a hb; omega
   ·apply Classical.byContradiction; intro h; have := b h; omega
   ·apply Classical.byContradiction; intro h; have := c h; omega
  ·rintro ⟨a, b, c, _, e⟩
   exact ⟨by omega, by omega, fun h => (by rw [a] at h; cases h), fun h => absurd b h, fun h => absurd c h, fun _ => .inl rfl, fun h => by omega, fun _ => e⟩
 rw [decide_eq_false h4, cF]
 by_cases h5 : v.fKind = 5
 ·rw [decide_eq_true h5, cT]
  by_cases hkl : v.fKeys.length = v.fList.length
  ·rw [decide_eq_true (by omega), Bool.not_true, cF, bnd, jN]
   refine tail _ (by simp) (by simp) ?_
   unfold PlainV
   dsimp only
   rw [h5]
   constructor
   ·rintro ⟨_, _, a, b, c, d, _, e⟩
    refine ⟨?_, ?_, ?_, rfl, rfl⟩
    ·cases hb : v.fBool with
     | false => rfl
     | true => have := a hb; omega
    ·apply Classical.byContradiction; intro h; have := b h; omega
    ·apply Classical.byContradiction; intro h; have := c h; omega
   ·rintro ⟨a, b, c, _, _⟩
    exact ⟨by omega, by omega, fun h => (by rw [a] at h; cases h), fun h => absurd b h, fun h => absurd c h, fun _ => .inr rfl, fun _ => hkl, fun h => absurd rfl h⟩
  ·rw [decide_eq_false (by omega), Bool.not_false, cT, mpS, bnd, jB, alone_2 (fun h => hkl (h.2.2.2.2.2.2.1 h5))]
 ·rw [decide_eq_false h5, cF, mpS, bnd, jB, alone_2]
  intro h
  have a := h.1
  have b := h.2.1
  omega
end Go.Proofs.YtocefedhenhbfaaGreatDoor
end
section
namespace Go.Proofs.YtocefedhenhbfaaGreatDoor
open Go Go.Vc Go.RowKit
mutual
def depthV : TE0 → Nat
  | ⟨_, _, _, _, l, _⟩ => depthVs l + 1
def depthVs : List TE0 → Nat
  | [] => 0
  | x :: r => max (depthV x) (depthVs r)
end
theorem depthV_eq (v : TE0) : depthV v = depthVs v.fList + 1 := by cases v; rw [depthV]
theorem depthVs_app : ∀ l m : List TE0, depthVs (l ++ m) = max (depthVs l) (depthVs m)
 | [], m => by simp [depthVs]
 | x :: l, m => by rw [List.cons_append, depthVs, depthVs, depthVs_app l m]; omega
theorem depthVs_take {l : List TE0} {i : Nat} {x : TE0} (h : l[i]? = some x) : depthVs (l.take (i + 1)) = max (depthVs (l.take i)) (depthV x) := by
 rw [List.take_add_one, h, depthVs_app]
 simp [depthVs]
theorem depthVs_mem : ∀ {l : List TE0} {x : TE0}, x ∈ l → depthV x ≤ depthVs l
 | y :: r, x, h => by
  rw [depthVs]
  rcases List.mem_cons.1 h with rfl | h
  ·omega
  ·have := depthVs_mem h
   omega
theorem depthV_pos (v : TE0) : 1 ≤ depthV v := by rw [depthV_eq]; omega
theorem depth_run {n : Nat} (hn : 6000 < n) : ∀ (k d : Nat) (v : TE0) (left : Nat), d ≤ k → Small d v → left ≤ 1000 → tree_depth_k n k v (left : Int) = some ((min (depthV v) (left + 1) : Nat) : Int)
 | _, 0, v, _, _, h, _ => h.elim
 | 0, d + 1, v, _, h, _, _ => absurd h (by omega)
 | k + 1, d + 1, v, left, hk, hs, hle => by
  obtain ⟨h1, h2, h3, h4, h5⟩ := hs
  show tree_depth_b n (tree_depth_k n k) v left = _
  unfold tree_depth_b
  have := loop_all (step := tree_depth_s1 n (tree_depth_k n k) v (left : Int)) (n := n) (fun q => (((min (depthVs (v.fList.take q)) left : Nat) : Int), (q : Int))) v.fList.length ((min (depthVs v.fList) left : Nat) : Int) (fun q hq => by
   have hx : v.fList[q]? = some v.fList[q] := List.getElem?_eq_getElem hq
   have hg : getI v.fList (q : Int) = some v.fList[q] := by simp [getI]
   unfold tree_depth_s1
   dsimp only
   rw [decide_eq_true (by omega), cT]
   by_cases hl : left = 0
   ·subst hl
    rw [decide_eq_false (by omega), cF, need_i (by omega) (by omega)]
    simp
   ·have hl1 : ((left : Nat) : Int) - 1 = ((left - 1 : Nat) : Int) := by omega
    rw [decide_eq_true (by omega), cT, hg, bnd, need_i (by omega) (by omega), hl1, depth_run hn k d _ (left - 1) (by omega) (h5 _ (List.getElem_mem hq)) (by omega), bnd, need_i (by omega) (by omega), depthVs_take hx]
    congr 3
    omega) (by
   unfold tree_depth_s1
   dsimp only
   rw [decide_eq_false (by omega), cF, List.take_length]) (by omega)
  have e0 : ((0 : Nat) : Int) = 0 := rfl
  simp only [List.take_zero, depthVs, Nat.zero_min, e0] at this
  rw [this, bnd, need_i (by omega) (by omega), depthV_eq]
  congr 1
  omega
theorem deeper_ref {n : Nat} (hn : 6000 < n) : ∀ (k d : Nat) (v : TE0) (left : Nat), d ≤ k → Small d v → left ≤ 1000 → ref03_deeper_k n k v (left : Int) = some (decide (left < depthV v))
 | _, 0, v, _, _, h, _ => h.elim
 | 0, d + 1, v, _, h, _, _ => absurd h (by omega)
 | k + 1, d + 1, v, left, hk, hs, hle => by
  obtain ⟨h1, h2, h3, h4, h5⟩ := hs
  show ref03_deeper_b n (ref03_deeper_k n k) v left = _
  unfold ref03_deeper_b
  by_cases hl : left = 0
  ·subst hl
   have := depthV_pos v
   rw [decide_eq_true (by omega), cT, decide_eq_true (by omega)]
  rw [decide_eq_false (by omega), cF]
  obtain ⟨b, hb, hp⟩ := loop_inv (step := ref03_deeper_s1 n (ref03_deeper_k n k) v (left : Int)) (n := n) (s0 := (0 : Int)) (fun q s => s = (q : Int) ∧ depthVs (v.fList.take q) < left) (fun b => match b with | .inl _ => left ≤ depthVs v.fList | .inr _ => depthVs v.fList < left) v.fList.length ⟨rfl, by simp [depthVs]; omega⟩ (fun q s hq hI => by
   obtain ⟨rfl, hI⟩ := hI
   have hx : v.fList[q]? = some v.fList[q] := List.getElem?_eq_getElem hq
   have hg : getI v.fList (q : Int) = some v.fList[q] := by simp [getI]
   have hm : v.fList[q] ∈ v.fList := List.getElem_mem hq
   have hdm := depthVs_mem hm
   unfold ref03_deeper_s1
   have hl1 : ((left : Nat) : Int) - 1 = ((left - 1 : Nat) : Int) := by omega
   rw [decide_eq_true (by omega), cT, hg, bnd, need_i (by omega) (by omega), hl1, deeper_ref hn k d _ (left - 1) (by omega) (h5 _ hm) (by omega), bnd]
   by_cases hd : left - 1 < depthV v.fList[q]
   ·rw [decide_eq_true hd, cT]
    refine .inr ⟨_, rfl, ?_⟩
    dsimp only
    omega
   ·rw [decide_eq_false hd, cF, need_i (by omega) (by omega)]
    refine .inl ⟨_, rfl, by omega, ?_⟩
    rw [depthVs_take hx]
    omega) (fun s hI => by
   obtain ⟨rfl, hI⟩ := hI
   rw [List.take_length] at hI
   unfold ref03_deeper_s1
   rw [decide_eq_false (by omega), cF]
   exact ⟨_, rfl, hI⟩) (by omega)
  rw [hb, bnd]
  have := depthV_eq v
  cases b with
  | inl u => dsimp only at hp ⊢; rw [decide_eq_true (by omega)]
  | inr u => dsimp only at hp ⊢; rw [decide_eq_false (by omega)]
theorem count_ref {n : Nat} (hn : 6000 < n) : ∀ (k d : Nat) (v : TE0), d ≤ k → Small d v → (walkV v).length ≤ 5900 → ref03_Count_k n k v = some ((walkV v).length : Int)
 | _, 0, v, _, h, _ => h.elim
 | 0, d + 1, v, h, _, _ => absurd h (by omega)
 | k + 1, d + 1, v, hk, hs, hlen => by
  obtain ⟨h1, h2, h3, h4, h5⟩ := hs
  show ref03_Count_b n (ref03_Count_k n k) v = _
  unfold ref03_Count_b
  have hwl : (walkV v).length = (walkVs v.fList).length + 1 := by rw [walkV_eq, List.length_cons]
  have := loop_all (step := ref03_Count_s1 n (ref03_Count_k n k) v) (n := n) (fun q => (((walkVs (v.fList.take q)).length : Int) + 1, (q : Int))) v.fList.length ((walkVs v.fList).length + 1 : Int) (fun q hq => by
   have hx : v.fList[q]? = some v.fList[q] := List.getElem?_eq_getElem hq
   have hg : getI v.fList (q : Int) = some v.fList[q] := by simp [getI]
   have hm : v.fList[q] ∈ v.fList := List.getElem_mem hq
   have hw1 := walkVs_mem hm
   have hw2 : (walkVs (v.fList.take q)).length ≤ (walkVs v.fList).length := by
    have := congrArg List.length (walkVs_app (v.fList.take q) (v.fList.drop q))
    rw [List.take_append_drop, List.length_append] at this
    omega
   unfold ref03_Count_s1
   dsimp only
   rw [decide_eq_true (by omega), cT, hg, bnd, count_ref hn k d _ (by omega) (h5 _ hm) (by omega), bnd, need_i (by omega) (by omega), need_i (by omega) (by omega), walkVs_take hx, List.length_append]
   congr 3
   push_cast
   omega) (by
   unfold ref03_Count_s1
   dsimp only
   rw [decide_eq_false (by omega), cF, List.take_length]) (by omega)
  have e0 : ((0 : Nat) : Int) = 0 := rfl
  have e1 : (0 : Int) + 1 = 1 := rfl
  simp only [List.take_zero, walkVs, List.length_nil, e0, e1] at this
  rw [this, bnd, hwl]
  rfl
structure Fine (v : TE0) : Prop where
  small : Small 60 v
  few : (walkV v).length ≤ 5900
theorem Small.le : ∀ {d e : Nat} {v : TE0}, d ≤ e → Small d v → Small e v
 | 0, _, _, _, h => h.elim
 | d + 1, 0, _, hde, _ => absurd hde (by omega)
 | d + 1, e + 1, _, hde, h => ⟨h.1, h.2.1, h.2.2.1, h.2.2.2.1, fun x hx => Small.le (by omega) (h.2.2.2.2 x hx)⟩
theorem Fine.wide {v : TE0} (h : Fine v) : Wide v := h.small.wide
theorem Fine.part {v x : TE0} (h : Fine v) (hx : x ∈ v.fList) : Fine x := by
 refine ⟨Small.le (d := 59) (by omega) (h.small.2.2.2.2 x hx), ?_⟩
 have := walkVs_mem hx
 have := h.few
 rw [walkV_eq, List.length_cons] at this
 omega
theorem small_walk : ∀ {d : Nat} {v x : TE0}, Small d v → x ∈ walkV v → Small d x
 | d + 1, v, x, h, hx => by
  rw [walkV_eq] at hx
  rcases List.mem_cons.1 hx with rfl | hx
  ·exact h
  ·have key : ∀ l : List TE0, (∀ y ∈ l, Small d y) → x ∈ walkVs l → Small d x := by
    intro l
    induction l with
    | nil => intro _ hx; simp [walkVs] at hx
    | cons y r ih =>
     intro hl hx
     rw [walkVs, List.mem_append] at hx
     rcases hx with hx | hx
     ·exact small_walk (hl y List.mem_cons_self) hx
     ·exact ih (fun z hz => hl z (List.mem_cons_of_mem _ hz)) hx
   exact Small.le (by omega) (key _ h.2.2.2.2 hx)
def checkV (v : TE0) : Int := if 24 < depthV v then 30 else if faultL (walkV v) = 0 then (if 4096 < (walkV v).length then 3 else 0) else faultL (walkV v)
theorem check_ref {n : Nat} (hn : 6000 < n) {v : TE0} (h : Fine v) : ref03_Check n v = some (checkV v) := by
 unfold ref03_Check ref03_deeper ref03_wrong ref03_Count checkV
 have e : ((24 : Nat) : Int) = 24 := rfl
 have := deeper_ref hn n 60 v 24 (by omega) h.small (by omega)
 rw [e] at this
 rw [this, bnd]
 by_cases hd : 24 < depthV v
 ·rw [decide_eq_true hd, cT, if_pos hd]
 ·rw [decide_eq_false hd, cF, if_neg hd, wrong_ref hn n 60 v (by omega) h.small, bnd]
  by_cases hf : faultL (walkV v) = 0
  ·rw [if_pos hf, decide_eq_true hf, Bool.not_true, cF, count_ref hn n 60 v (by omega) h.small h.few, bnd]
   by_cases hc : 4096 < (walkV v).length
   ·rw [if_pos hc, decide_eq_true (by omega), cT]
   ·rw [if_neg hc, decide_eq_false (by omega), cF]
  ·rw [if_neg hf, decide_eq_false hf, Bool.not_false, cT]
theorem check_fold {n : Nat} (hn : 6000 < n) : ∀ (l : List TE0) (s : Nat), (∀ x ∈ l, Wide x) → s + l.length ≤ 6000 → ∃ j, foldY (tree_Check_s1 n) l (s : Int) = some j ∧ (match j with | .nx t => faultL l = 0 ∧ t = ((s + l.length : Nat) : Int) | .br b => faultL l ≠ 0 ∧ b.2 = faultL l)
 | [], s, _, _ => ⟨_, rfl, rfl, by simp⟩
 | x :: r, s, hw, hl => by
  rw [List.length_cons] at hl
  unfold foldY faultL
  have e : tree_Check_s1 n (s : Int) x = if aloneV x = 0 then some (.nx ((s + 1 : Nat) : Int)) else some (.br ((s : Int), aloneV x)) := by
   unfold tree_Check_s1
   have ex : (⟨x.fKind, (x.fBool), x.fNum, x.fText, x.fList, x.fKeys⟩ : TE0) = x := by cases x; rfl
   try rw [ex]
   rw [alone_run hn (hw x List.mem_cons_self), bnd]
   by_cases h : aloneV x = 0
   ·rw [if_pos h, decide_eq_true h, Bool.not_true, cF, need_i (by omega) (by omega)]
    congr 2
   ·rw [if_neg h, decide_eq_false h, Bool.not_false, cT]
  rw [e]
  by_cases h : aloneV x = 0
  ·rw [if_pos h, if_pos h, bnd]
   obtain ⟨j, hj, hp⟩ := check_fold hn r (s + 1) (fun y hy => hw y (List.mem_cons_of_mem _ hy)) (by omega)
   refine ⟨j, hj, ?_⟩
   cases j with
   | nx t => dsimp only at hp ⊢; exact ⟨hp.1, by rw [hp.2, List.length_cons]; omega⟩
   | br b => exact hp
  ·rw [if_neg h, if_neg h, bnd]
   exact ⟨_, rfl, h, rfl⟩
theorem check_run {n : Nat} (hn : 6000 < n) {v : TE0} (h : Fine v) : tree_Check n v = some (checkV v) := by
 unfold tree_Check tree_depth checkV
 have e : ((24 : Nat) : Int) = 24 := rfl
 have hd0 := depth_run hn n 60 v 24 (by omega) h.small (by omega)
 rw [e] at hd0
 rw [hd0, bnd]
 by_cases hd : 24 < depthV v
 ·rw [decide_eq_true (by omega), cT, if_pos hd]
 ·rw [decide_eq_false (by omega), cF, if_neg hd, need_t (by have := h.few; omega)]
  obtain ⟨j, hj, hp⟩ := check_fold hn (walkV v) 0 (fun x hx => (small_walk h.small hx).wide) (by have := h.few; omega)
  have e0 : ((0 : Nat) : Int) = 0 := rfl
  rw [e0] at hj
  rw [hj, bnd]
  cases j with
  | nx t =>
   dsimp only at hp ⊢
   rw [if_pos hp.1]
   by_cases hc : 4096 < (walkV v).length
   ·rw [if_pos hc, decide_eq_true (by omega), cT]
   ·rw [if_neg hc, decide_eq_false (by omega), cF]
  | br b =>
   dsimp only at hp ⊢
   rw [if_neg hp.1, hp.2]
end Go.Proofs.YtocefedhenhbfaaGreatDoor
end
section
namespace Go.Proofs.YtocefedhenhbfaaGreatDoor
open Go Go.Vc Go.RowKit
theorem less_cb : ∀ a b : List UInt8, Op.bytesLess a b = decide (Lib.compareBytes a b < 0)
 | [], [] => by simp [Op.bytesLess, Lib.compareBytes]
 | [], _ :: _ => by simp [Op.bytesLess, Lib.compareBytes]
 | _ :: _, [] => by simp [Op.bytesLess, Lib.compareBytes]
 | x :: r, y :: s => by
  unfold Op.bytesLess Lib.compareBytes
  rw [less_cb r s]
  by_cases h1 : x < y
  ·simp [h1]
  ·by_cases h2 : y < x
   ·have hne : (x == y) = false := by
     rw [beq_eq_false_iff_ne]
     intro e
     rw [e, UInt8.lt_iff_toNat_lt] at h2
     omega
    simp [h1, h2, hne]
   ·have hxy : x = y := UInt8.toNat_inj.1 (by rw [UInt8.lt_iff_toNat_lt] at h1 h2; omega)
    simp [h1, h2, hxy]
abbrev KV := List UInt8 × TE0
def leK (p q : KV) : Bool := !(decide (Lib.compareBytes q.1 p.1 < 0))
def insP (p : KV) : List KV → List KV
  | [] => [p]
  | q :: r => bif leK p q then p :: q :: r else q :: insP p r
def isortP : List KV → List KV
  | [] => []
  | p :: r => insP p (isortP r)
theorem insP_perm (p : KV) : ∀ l, (insP p l).Perm (p :: l)
 | [] => List.Perm.refl _
 | q :: r => by
  unfold insP
  cases leK p q with
  | true => exact List.Perm.refl _
  | false => exact ((insP_perm p r).cons q).trans (List.Perm.swap p q r)
theorem isortP_perm : ∀ l, (isortP l).Perm l
 | [] => List.Perm.refl _
 | p :: r => (insP_perm p _).trans ((isortP_perm r).cons p)
theorem leK_iff {p q : KV} : leK p q = true ↔ Lib.compareBytes p.1 q.1 ≤ 0 := by
 have := cb_anti p.1 q.1
 simp only [leK, Bool.not_eq_true', decide_eq_false_iff_not]
 omega
theorem leK_trans {a b c : KV} (h1 : leK a b = true) (h2 : leK b c = true) : leK a c = true := leK_iff.2 (cb_trans _ _ _ (leK_iff.1 h1) (leK_iff.1 h2)).1
theorem leK_total (a b : KV) : leK a b = true ∨ leK b a = true := by
 rw [leK_iff, leK_iff]
 have := cb_anti a.1 b.1
 omega
theorem insP_sorted (x : KV) : ∀ l, l.Pairwise (fun a b => leK a b = true) → (insP x l).Pairwise (fun a b => leK a b = true)
 | [], _ => by simp [insP]
 | y :: r, h => by
  obtain ⟨h1, h2⟩ := List.pairwise_cons.1 h
  unfold insP
  cases hxy : leK x y with
  | true => exact List.pairwise_cons.2 ⟨fun z hz => by
    rcases List.mem_cons.1 hz with rfl | hz
    ·exact hxy
    ·exact leK_trans hxy (h1 z hz), h⟩
  | false =>
   refine List.pairwise_cons.2 ⟨fun z hz => ?_, insP_sorted x r h2⟩
   rcases List.mem_cons.1 ((insP_perm x r).mem_iff.1 hz) with rfl | hz
   ·exact (leK_total z y).resolve_left (by simp [hxy])
   ·exact h1 z hz
theorem isortP_sorted : ∀ l, (isortP l).Pairwise (fun a b => leK a b = true)
 | [] => List.Pairwise.nil
 | x :: r => insP_sorted x _ (isortP_sorted r)
theorem nodup_key : ∀ {l : List KV} {p q : KV}, (l.map (·.1)).Nodup → p ∈ l → q ∈ l → p.1 = q.1 → p = q
 | x :: r, p, q, h, hp, hq, e => by
  rw [List.map_cons, List.nodup_cons] at h
  rcases List.mem_cons.1 hp with hp | hp <;> rcases List.mem_cons.1 hq with hq | hq
  ·rw [hp, hq]
  ·have : x.1 ∈ r.map (·.1) := by rw [← hp, e]; exact List.mem_map_of_mem hq
   exact absurd this h.1
  ·have : x.1 ∈ r.map (·.1) := by rw [← hq, ← e]; exact List.mem_map_of_mem hp
   exact absurd this h.1
  ·exact nodup_key h.2 hp hq e
theorem sorted_one {l m : List KV} (hn : (m.map (·.1)).Nodup) (hp : l.Perm m) (hl : l.Pairwise (fun a b => leK a b = true)) : l = isortP m := by
 refine List.Perm.eq_of_pairwise (le := fun a b => leK a b = true) (fun a b ha hb h1 h2 => ?_) hl (isortP_sorted m) (hp.trans (isortP_perm m).symm)
 have ia := hp.mem_iff.1 ha
 have ib := (isortP_perm m).mem_iff.1 hb
 have e1 := leK_iff.1 h1
 have e2 := leK_iff.1 h2
 have e3 := cb_anti a.1 b.1
 exact nodup_key hn ia ib (cb_eq _ _ (by omega))
theorem ins_map (keys : List (List UInt8)) (f : Int → KV) (hf : ∀ i, (f i).1 = keys.getD i.toNat []) (x : Int) : ∀ l, (ins (keyLe keys) x l).map f = insP (f x) (l.map f)
 | [] => rfl
 | y :: r => by
  have e : leK (f x) (f y) = keyLe keys x y := by unfold leK keyLe; rw [hf, hf]
  unfold ins
  rw [List.map_cons, insP, e]
  cases keyLe keys x y with
  | true => rfl
  | false => rw [cF, cF, List.map_cons, ins_map keys f hf x r]
theorem isort_map (keys : List (List UInt8)) (f : Int → KV) (hf : ∀ i, (f i).1 = keys.getD i.toNat []) : ∀ l, (isort (keyLe keys) l).map f = isortP (l.map f)
 | [] => rfl
 | x :: r => by
  unfold isort
  rw [ins_map keys f hf, isort_map keys f hf r, List.map_cons, isortP]
mutual
def sortV : TE0 → TE0
  | ⟨k, b, n, t, l, ks⟩ => bif decide (k = 5) then ⟨k, b, n, t, (isortP (ks.zip (sortVs l))).map (·.2), (isortP (ks.zip (sortVs l))).map (·.1)⟩ else ⟨k, b, n, t, sortVs l, []⟩
def sortVs : List TE0 → List TE0
  | [] => []
  | x :: r => sortV x :: sortVs r
end
theorem sortVs_map : ∀ l, sortVs l = l.map sortV
 | [] => rfl
 | x :: r => by rw [sortVs, sortVs_map r, List.map_cons]
def pairsV (v : TE0) : List KV := isortP (v.fKeys.zip (v.fList.map sortV))
theorem sortV_5 {v : TE0} (h : v.fKind = 5) : sortV v = ⟨v.fKind, v.fBool, v.fNum, v.fText, (pairsV v).map (·.2), (pairsV v).map (·.1)⟩ := by
 cases v with
 | mk k b n t l ks =>
  dsimp only at h
  rw [sortV, sortVs_map, decide_eq_true h, cT]
  rfl
theorem sortV_n {v : TE0} (h : v.fKind ≠ 5) : sortV v = ⟨v.fKind, v.fBool, v.fNum, v.fText, v.fList.map sortV, []⟩ := by
 cases v with
 | mk k b n t l ks =>
  dsimp only at h
  rw [sortV, sortVs_map, decide_eq_false h, cF]
def OkV (v : TE0) : Prop := faultL (walkV v) = 0
theorem faultL_zero : ∀ {l : List TE0}, faultL l = 0 ↔ ∀ x ∈ l, aloneV x = 0
 | [] => by simp [faultL]
 | x :: r => by
  rw [faultL]
  by_cases h : aloneV x = 0
  ·rw [if_pos h, faultL_zero (l := r)]
   simp [h]
  ·rw [if_neg h]
   constructor
   ·intro e; exact absurd e h
   ·intro e; exact absurd (e x List.mem_cons_self) h
theorem mem_walkVs {x : TE0} : ∀ {l : List TE0}, x ∈ walkVs l ↔ ∃ y ∈ l, x ∈ walkV y
 | [] => by simp [walkVs]
 | y :: r => by
  rw [walkVs, List.mem_append, mem_walkVs (l := r)]
  simp
theorem OkV_iff {v : TE0} : OkV v ↔ aloneV v = 0 ∧ ∀ x ∈ v.fList, OkV x := by
 unfold OkV
 rw [faultL_zero, walkV_eq]
 constructor
 ·intro h
  refine ⟨h v List.mem_cons_self, fun x hx => ?_⟩
  rw [faultL_zero]
  intro y hy
  exact h y (List.mem_cons_of_mem _ (mem_walkVs.2 ⟨x, hx, hy⟩))
 ·rintro ⟨h1, h2⟩ x hx
  rcases List.mem_cons.1 hx with rfl | hx
  ·exact h1
  ·obtain ⟨y, hy, hxy⟩ := mem_walkVs.1 hx
   exact faultL_zero.1 (h2 y hy) x hxy
theorem checkV_ok {v : TE0} (h : checkV v = 0) : OkV v ∧ depthV v ≤ 24 ∧ (walkV v).length ≤ 4096 := by
 unfold checkV at h
 by_cases h1 : 24 < depthV v
 ·rw [if_pos h1] at h; omega
 ·rw [if_neg h1] at h
  by_cases h2 : faultL (walkV v) = 0
  ·rw [if_pos h2] at h
   by_cases h3 : 4096 < (walkV v).length
   ·rw [if_pos h3] at h; omega
   ·exact ⟨h2, by omega, by omega⟩
  ·rw [if_neg h2] at h; exact absurd h h2
def upto (n : Nat) : List Int := (List.range n).map Int.ofNat
theorem upto_succ (q : Nat) : upto (q + 1) = upto q ++ [(q : Int)] := by unfold upto; rw [List.range_succ, List.map_append]; rfl
theorem upto_len (q : Nat) : (upto q).length = q := by simp [upto]
theorem order_run {n : Nat} (hn : 6000 < n) {v : TE0} (hw : v.fKeys.length ≤ 3000) (hd : v.fKeys.Nodup) : tree_order n v = some (isort (keyLe v.fKeys) (upto v.fKeys.length)) := by
 unfold tree_order
 rw [need_t ⟨by omega, by omega, by omega⟩]
 have := loop_all (step := tree_order_s1 n v) (n := n) (fun q => (upto q ++ List.replicate (v.fKeys.length - q) (0 : Int), (q : Int))) v.fKeys.length (upto v.fKeys.length) (fun q hq => by
  unfold tree_order_s1
  dsimp only
  have hll : (List.replicate ((v.fKeys.length : Nat) : Int).toNat (0 : Int)).length = v.fKeys.length := by simp
  have hg : getI (upto q ++ List.replicate (v.fKeys.length - q) (0 : Int)) (q : Int) = some 0 := by
   rw [getI_at (k := q) 0 (by simp [upto_len]; omega)]
   rw [List.getD_eq_getElem?_getD, List.getElem?_append_right (by rw [upto_len]; omega), upto_len]
   simp [(by omega : 0 < v.fKeys.length - q)]
  rw [hll, decide_eq_true (by omega), cT, hg, bnd, need_i (by omega) (by omega)]
  congr 3
  have e : v.fKeys.length - q = (v.fKeys.length - (q + 1)) + 1 := by omega
  rw [Int.toNat_natCast, e, List.replicate_succ, List.set_append_right _ _ (by rw [upto_len]; omega), upto_len, Nat.sub_self, List.set_cons_zero, upto_succ, List.append_assoc]
  rfl) (by
  unfold tree_order_s1
  dsimp only
  have hll : (List.replicate ((v.fKeys.length : Nat) : Int).toNat (0 : Int)).length = v.fKeys.length := by simp
  rw [hll, decide_eq_false (by omega), cF, Nat.sub_self, List.replicate_zero, List.append_nil]) (by omega)
 have e0 : ((0 : Nat) : Int) = 0 := rfl
 have e1 : upto 0 = [] := rfl
 simp only [e1, e0, Nat.sub_zero, List.nil_append] at this
 rw [Int.toNat_natCast, this, bnd]
 unfold h_sortKeys
 rw [need_t, need_t (by rw [upto_len]; omega), bnd]
 refine ⟨hd, fun i hi => ?_⟩
 simp only [upto, List.mem_map, List.mem_range] at hi
 obtain ⟨j, hj, rfl⟩ := hi
 have : Int.ofNat j = (j : Int) := rfl
 omega
theorem map_take_succ {α β : Type} (f : α → β) {l : List α} {i : Nat} {x : α} (h : l[i]? = some x) : (l.take (i + 1)).map f = (l.take i).map f ++ [f x] := by
 rw [List.take_add_one, h]
 simp
theorem zip_upto (ks : List (List UInt8)) (l : List TE0) (hl : ks.length = l.length) (g : TE0 → TE0) (z : TE0) : (upto ks.length).map (fun i => (ks.getD i.toNat [], g (l.getD i.toNat z))) = ks.zip (l.map g) := by
 apply List.ext_getElem
 ·simp [upto, hl]
 ·intro i h1 h2
  simp [upto_len] at h1
  have h3 : i < l.length := by omega
  simp [upto, List.getD, h1, h3]
theorem sorted_run {n : Nat} (hn : 6000 < n) : ∀ (k d : Nat) (v : TE0), d ≤ k → Small d v → OkV v → tree_sorted_k n k v = some (sortV v)
 | _, 0, v, _, h, _ => h.elim
 | 0, d + 1, v, h, _, _ => absurd h (by omega)
 | k + 1, d + 1, v, hk, hs, hok => by
  obtain ⟨h1, h2, h3, h4, h5⟩ := hs
  obtain ⟨ha, hl⟩ := OkV_iff.1 hok
  obtain ⟨hp, _, _, hnd⟩ := alone_ok ha
  show tree_sorted_b n (tree_sorted_k n k) v = _
  unfold tree_sorted_b
  have ih : ∀ x ∈ v.fList, tree_sorted_k n k x = some (sortV x) := fun x hx => sorted_run hn k d x (by omega) (h5 x hx) (hl x hx)
  by_cases hkind : v.fKind = 5
  ·have hkl : v.fKeys.length = v.fList.length := hp.2.2.2.2.2.2.1 hkind
   rw [decide_eq_true hkind, cT, order_run hn h2 hnd, bnd]
   obtain ⟨idx, hidx⟩ : ∃ idx, idx = isort (keyLe v.fKeys) (upto v.fKeys.length) := ⟨_, rfl⟩
   rw [← hidx]
   have hperm : idx.Perm (upto v.fKeys.length) := hidx ▸ isort_perm _ _
   have hlen : idx.length = v.fKeys.length := by rw [hperm.length_eq, upto_len]
   have hin : ∀ i ∈ idx, ∃ j : Nat, i = (j : Int) ∧ j < v.fKeys.length := fun i hi => by
    have := hperm.mem_iff.1 hi
    simp only [upto, List.mem_map, List.mem_range] at this
    obtain ⟨j, hj, rfl⟩ := this
    exact ⟨j, rfl, hj⟩
   obtain ⟨f, hf⟩ : ∃ f : Int → KV, f = fun i => (v.fKeys.getD i.toNat [], sortV (v.fList.getD i.toNat v)) := ⟨_, rfl⟩
   have := loop_all (step := tree_sorted_s1 n (tree_sorted_k n k) v idx) (n := n) (fun q => ((q : Int), ((idx.take q).map f).map (·.2), ((idx.take q).map f).map (·.1))) idx.length ((idx.map f).map (·.2), (idx.map f).map (·.1)) (fun q hq => by
    have hx : idx[q]? = some idx[q] := List.getElem?_eq_getElem hq
    obtain ⟨j, hj, hjl⟩ := hin _ (List.getElem_mem hq)
    rw [hj] at hx
    have hg : getI idx (q : Int) = some (j : Int) := by simp [getI, hx]
    have hgk : getI v.fKeys (j : Int) = some (f j).1 := by rw [getI_at [] hjl, hf]; rfl
    have hgl : getI v.fList (j : Int) = some (v.fList.getD j v) := getI_at v (by omega)
    have hm : v.fList.getD j v ∈ v.fList := by simp [List.getD, (by omega : j < v.fList.length)]
    have ef : sortV (v.fList.getD j v) = (f j).2 := by rw [hf]; rfl
    unfold tree_sorted_s1
    dsimp only
    have ev : ∀ x : TE0, (⟨x.fKind, (x.fBool), x.fNum, x.fText, x.fList, x.fKeys⟩ : TE0) = x := fun x => by cases x; rfl
    have hlq : ((idx.take q).map f).length ≤ 3000 := by simp; omega
    rw [decide_eq_true (by omega), cT, hg, bnd, hgk, bnd, need_t (by rw [List.length_map]; omega), bnd, hgl, bnd, ih _ hm, bnd, need_t (by rw [List.length_map]; omega), bnd, need_i (by omega) (by omega), ev, ef, map_take_succ f hx, List.map_append, List.map_append]
    rfl) (by
    unfold tree_sorted_s1
    dsimp only
    rw [decide_eq_false (by omega), cF, List.take_length]) (by omega)
   have e0 : ((0 : Nat) : Int) = 0 := rfl
   simp only [List.take_zero, List.map_nil, e0] at this
   rw [this, bnd, sortV_5 hkind]
   have e : idx.map f = pairsV v := by
    rw [hidx, isort_map v.fKeys f (fun i => by rw [hf]), hf]
    unfold pairsV
    rw [zip_upto v.fKeys v.fList hkl sortV v]
   rw [e]
  ·rw [decide_eq_false hkind, cF]
   have := loop_all (step := tree_sorted_s2 n (tree_sorted_k n k) v) (n := n) (fun q => ((q : Int), (v.fList.take q).map sortV)) v.fList.length (v.fList.map sortV) (fun q hq => by
    have hx : v.fList[q]? = some v.fList[q] := List.getElem?_eq_getElem hq
    have hg : getI v.fList (q : Int) = some v.fList[q] := by simp [getI]
    unfold tree_sorted_s2
    dsimp only
    have ev : ∀ x : TE0, (⟨x.fKind, (x.fBool), x.fNum, x.fText, x.fList, x.fKeys⟩ : TE0) = x := fun x => by cases x; rfl
    rw [decide_eq_true (by omega), cT, hg, bnd, ih _ (List.getElem_mem hq), bnd, need_t (by simp; omega), bnd, need_i (by omega) (by omega), ev, map_take_succ sortV hx]
    rfl) (by
    unfold tree_sorted_s2
    dsimp only
    rw [decide_eq_false (by omega), cF, List.take_length]) (by omega)
   have e0 : ((0 : Nat) : Int) = 0 := rfl
   simp only [List.take_zero, List.map_nil, e0] at this
   rw [this, bnd, sortV_n hkind]
end Go.Proofs.YtocefedhenhbfaaGreatDoor
end
section
namespace Go.Proofs.YtocefedhenhbfaaGreatDoor
open Go Go.Vc Go.RowKit
theorem pairs_perm (v : TE0) : (pairsV v).Perm (v.fKeys.zip (v.fList.map sortV)) := isortP_perm _
theorem pairs_snd {v : TE0} (h : v.fKeys.length = v.fList.length) : ((pairsV v).map (·.2)).Perm (v.fList.map sortV) := by
 have := (pairs_perm v).map (·.2)
 rwa [List.map_snd_zip (by simp [h])] at this
theorem pairs_fst {v : TE0} (h : v.fKeys.length = v.fList.length) : ((pairsV v).map (·.1)).Perm v.fKeys := by
 have := (pairs_perm v).map (·.1)
 rwa [List.map_fst_zip (by simp [h])] at this
theorem plain_len {v : TE0} (h : PlainV v) (hk : v.fKind = 5) : v.fKeys.length = v.fList.length := h.2.2.2.2.2.2.1 hk
theorem sort_perm {v : TE0} (h : PlainV v) : (sortV v).fList.Perm (v.fList.map sortV) := by
 by_cases hk : v.fKind = 5
 ·rw [sortV_5 hk]; exact pairs_snd (plain_len h hk)
 ·rw [sortV_n hk]
theorem sort_keys {v : TE0} (h : PlainV v) : (sortV v).fKeys.Perm v.fKeys := by
 by_cases hk : v.fKind = 5
 ·rw [sortV_5 hk]; exact pairs_fst (plain_len h hk)
 ·rw [sortV_n hk]
  have := h.2.2.2.2.2.2.2 hk
  have e : v.fKeys = [] := by simpa using this
  rw [e]
theorem sort_kind (v : TE0) : (sortV v).fKind = v.fKind := by
 by_cases hk : v.fKind = 5
 ·rw [sortV_5 hk]
 ·rw [sortV_n hk]
theorem sort_bool (v : TE0) : (sortV v).fBool = v.fBool := by
 by_cases hk : v.fKind = 5
 ·rw [sortV_5 hk]
 ·rw [sortV_n hk]
theorem sort_num (v : TE0) : (sortV v).fNum = v.fNum := by
 by_cases hk : v.fKind = 5
 ·rw [sortV_5 hk]
 ·rw [sortV_n hk]
theorem sort_text (v : TE0) : (sortV v).fText = v.fText := by
 by_cases hk : v.fKind = 5
 ·rw [sortV_5 hk]
 ·rw [sortV_n hk]
theorem OkV.plain {v : TE0} (h : OkV v) : PlainV v := (alone_ok (OkV_iff.1 h).1).1
theorem OkV.part {v x : TE0} (h : OkV v) (hx : x ∈ v.fList) : OkV x := (OkV_iff.1 h).2 x hx
theorem sort_small : ∀ {d : Nat} {v : TE0}, Small d v → OkV v → Small d (sortV v)
 | d + 1, v, h, hok => by
  have hp := hok.plain
  have h1 := sort_perm hp
  have h2 := sort_keys hp
  refine ⟨by rw [h1.length_eq, List.length_map]; exact h.1, by rw [h2.length_eq]; exact h.2.1, by rw [sort_text]; exact h.2.2.1, fun k hk => h.2.2.2.1 k (h2.mem_iff.1 hk), fun x hx => ?_⟩
  obtain ⟨y, hy, rfl⟩ := List.mem_map.1 (h1.mem_iff.1 hx)
  exact sort_small (h.2.2.2.2 y hy) (hok.part hy)
theorem sort_ok : ∀ (m : Nat) {v : TE0}, SizeOf.sizeOf v < m → OkV v → OkV (sortV v)
 | 0, v, hm, _ => absurd hm (by omega)
 | m + 1, v, hm, hok => by
  have hp := hok.plain
  obtain ⟨_, hn, ht, hd⟩ := alone_ok (OkV_iff.1 hok).1
  have h1 := sort_perm hp
  have h2 := sort_keys hp
  rw [OkV_iff]
  constructor
  ·refine alone_0 ?_ ?_ ?_ ?_
   ·obtain ⟨a, b, c, d, e, f, g, i⟩ := hp
    refine ⟨by rw [sort_kind]; exact a, by rw [sort_kind]; exact b, by rw [sort_kind, sort_bool]; exact c, by rw [sort_kind, sort_num]; exact d, by rw [sort_kind, sort_text]; exact e, ?_, ?_, ?_⟩
    ·rw [sort_kind, h1.length_eq, List.length_map]; exact f
    ·rw [sort_kind, h1.length_eq, List.length_map, h2.length_eq]; exact g
    ·rw [sort_kind, h2.length_eq]; exact i
   ·unfold NumOut; rw [sort_num]; exact hn
   ·unfold TextsOk; rw [sort_text]; exact ⟨ht.1, fun k hk => ht.2 k (h2.mem_iff.1 hk)⟩
   ·exact h2.nodup_iff.2 hd
  ·intro x hx
   obtain ⟨y, hy, rfl⟩ := List.mem_map.1 (h1.mem_iff.1 hx)
   exact sort_ok m (by have := part_small hy; omega) (hok.part hy)
theorem OkV.sort {v : TE0} (h : OkV v) : OkV (sortV v) := sort_ok _ (Nat.lt_succ_self _) h
def lenW (l : List TE0) : List Nat := l.map fun x => (walkV x).length
theorem walkVs_sum : ∀ l : List TE0, (walkVs l).length = (lenW l).sum
 | [] => rfl
 | x :: r => by rw [walkVs, List.length_append, walkVs_sum r]; rfl
theorem sort_count : ∀ (m : Nat) {v : TE0}, SizeOf.sizeOf v < m → OkV v → (walkV (sortV v)).length = (walkV v).length
 | 0, v, hm, _ => absurd hm (by omega)
 | m + 1, v, hm, hok => by
  rw [walkV_eq, walkV_eq v, List.length_cons, List.length_cons, walkVs_sum, walkVs_sum]
  have h1 := (sort_perm hok.plain).map fun x => (walkV x).length
  have e : (lenW (sortV v).fList).sum = (lenW (v.fList.map sortV)).sum := h1.sum_nat
  rw [e]
  unfold lenW
  rw [List.map_map]
  congr 2
  refine List.map_congr_left fun x hx => ?_
  exact sort_count m (by have := part_small hx; omega) (hok.part hx)
theorem Fine.sort {v : TE0} (h : Fine v) (hok : OkV v) : Fine (sortV v) := ⟨sort_small h.small hok, by rw [sort_count _ (Nat.lt_succ_self _) hok]; exact h.few⟩
theorem cmpC_run {n : Nat} (a b : Int) : cmp_Compare n a b = some (cmpI a b) := by
 unfold cmp_Compare cmp_isNaN cmpI
 rw [bnd, bnd, cF, cF]
 by_cases h : a < b
 ·rw [decide_eq_true h, cT, cT]
 ·rw [decide_eq_false h, cF, cF]
  by_cases h2 : b < a
  ·rw [decide_eq_true h2, cT, cT]
  ·rw [decide_eq_false h2, cF, cF]
theorem cmpC2_run {n : Nat} (a b : Int) : cmp_Compare_2 n a b = some (cmpI a b) := by
 unfold cmp_Compare_2 cmp_isNaN_2 cmpI
 rw [bnd, bnd, cF, cF]
 by_cases h : a < b
 ·rw [decide_eq_true h, cT, cT]
 ·rw [decide_eq_false h, cF, cF]
  by_cases h2 : b < a
  ·rw [decide_eq_true h2, cT, cT]
  ·rw [decide_eq_false h2, cF, cF]
theorem bit_run {n : Nat} (a : Bool) : tree_bit n a = some (bitI a) := by unfold tree_bit bitI; cases a <;> rfl
theorem or_run {n : Nat} (hn : 6000 < n) (a b c d : Int) : cmp_Or n [a, b, c, d] = some (thenC a (thenC b (thenC c d))) := by
 obtain ⟨m, rfl⟩ : ∃ m, n = m + 5 := ⟨n - 5, by omega⟩
 have st : ∀ (x : Int) (i : Nat), [a, b, c, d][i]? = some x → cmp_Or_s1 (m + 5) [a, b, c, d] (i : Int) = bif decide (x = 0) then some (.nx ((i : Int) + 1)) else some (.br (.inl x)) := fun x i hx => by
  have hi : i < 4 := by
   have := (List.getElem?_eq_some_iff.1 hx).1
   simpa using this
  unfold cmp_Or_s1
  have hg : getI [a, b, c, d] (i : Int) = some x := by simp [getI, hx]
  rw [decide_eq_true (by simp; omega), cT, hg, bnd]
  by_cases h : x = 0
  ·rw [decide_eq_true h, Bool.not_true, cF, cT, need_i (by omega) (by omega)]
  ·rw [decide_eq_false h, Bool.not_false, cT, cF]
 have s0 := st a 0 rfl
 have s1 := st b 1 rfl
 have s2 := st c 2 rfl
 have s3 := st d 3 rfl
 have e0 : ((0 : Nat) : Int) = 0 := rfl
 have e1 : ((0 : Nat) : Int) + 1 = ((1 : Nat) : Int) := rfl
 have e2 : ((1 : Nat) : Int) + 1 = ((2 : Nat) : Int) := rfl
 have e3 : ((2 : Nat) : Int) + 1 = ((3 : Nat) : Int) := rfl
 have e4 : ((3 : Nat) : Int) + 1 = 4 := rfl
 rw [e1] at s0
 rw [e2] at s1
 rw [e3] at s2
 rw [e4] at s3
 have s4 : cmp_Or_s1 (m + 5) [a, b, c, d] 4 = some (.br (.inr ())) := by
  unfold cmp_Or_s1
  rw [decide_eq_false (by simp), cF]
 unfold cmp_Or
 rw [← e0]
 unfold loopF
 rw [s0]
 by_cases ha : a = 0
 ·rw [decide_eq_true ha, cT, bnd, ha, thenC0]
  dsimp only
  unfold loopF
  rw [← ha, s1]
  by_cases hb : b = 0
  ·rw [decide_eq_true hb, cT, bnd]
   have : thenC b (thenC c d) = thenC c d := by rw [hb, thenC0]
   rw [this]
   dsimp only
   unfold loopF
   rw [s2]
   by_cases hc : c = 0
   ·rw [decide_eq_true hc, cT, bnd]
    have : thenC c d = d := by rw [hc, thenC0]
    rw [this]
    dsimp only
    unfold loopF
    rw [s3]
    by_cases hd : d = 0
    ·rw [decide_eq_true hd, cT, bnd]
     dsimp only
     unfold loopF
     rw [s4, bnd]
     dsimp only
     rw [bnd, hd]
     rfl
    ·rw [decide_eq_false hd, cF, bnd]
     dsimp only
     rw [bnd]
   ·rw [decide_eq_false hc, cF, bnd, thenCn d hc]
    dsimp only
    rw [bnd]
  ·rw [decide_eq_false hb, cF, bnd, thenCn _ hb]
   dsimp only
   rw [bnd]
 ·rw [decide_eq_false ha, cF, bnd, thenCn _ ha]
  dsimp only
  rw [bnd]
theorem cmpVs_drop (o : Bool) {l : List TE0} {ks : List (List UInt8)} {m : List TE0} {js : List (List UInt8)} {q : Nat} (h1 : q < l.length) (h2 : q < m.length) :
  cmpVs o (l.drop q) (ks.drop q) (m.drop q) (js.drop q) = thenC (bif o then Lib.compareBytes (ks.getD q []) (js.getD q []) else 0) (thenC (cmpV l[q] m[q]) (cmpVs o (l.drop (q + 1)) (ks.drop (q + 1)) (m.drop (q + 1)) (js.drop (q + 1)))) := by
 have hh : ∀ ks : List (List UInt8), (ks.drop q).headD [] = ks.getD q [] := fun ks => by
  rw [List.headD_eq_head?_getD, List.head?_drop, List.getD_eq_getElem?_getD]
 rw [List.drop_eq_getElem_cons h1, List.drop_eq_getElem_cons h2, cmpVs, hh, hh, List.tail_drop, List.tail_drop]
theorem cmpVs_end (o : Bool) {l : List TE0} {ks : List (List UInt8)} {m : List TE0} {js : List (List UInt8)} {q : Nat} (h : q = min l.length m.length) :
  cmpVs o (l.drop q) (ks.drop q) (m.drop q) (js.drop q) = cmpI (l.length : Int) (m.length : Int) := by
 rcases Nat.lt_trichotomy l.length m.length with hl | hl | hl
 ·rw [List.drop_of_length_le (l := l) (by omega), List.drop_eq_getElem_cons (l := m) (by omega : q < m.length), cmpVs]
  have := cmpI_cases (l.length : Int) (m.length : Int)
  omega
 ·rw [List.drop_of_length_le (l := l) (by omega), List.drop_of_length_le (l := m) (by omega), cmpVs]
  have := cmpI_cases (l.length : Int) (m.length : Int)
  omega
 ·rw [List.drop_of_length_le (l := m) (by omega), List.drop_eq_getElem_cons (l := l) (by omega : q < l.length), cmpVs]
  have := cmpI_cases (l.length : Int) (m.length : Int)
  omega
theorem compare_loop {n : Nat} (hn : 6000 < n) (rec : TE0 → TE0 → Option Int) (v w : TE0) (hv : v.fList.length ≤ 3000) (hk : v.fKind = 5 → v.fKeys.length = v.fList.length ∧ w.fKeys.length = w.fList.length) (hr : ∀ x ∈ v.fList, ∀ y ∈ w.fList, rec x y = some (cmpV x y)) :
  ∃ b, loopF (tree_compare_s1 n rec v w) n (0 : Int) = some b ∧ (match b with | .inl c => c ≠ 0 ∧ cmpVs (decide (v.fKind = 5)) v.fList v.fKeys w.fList w.fKeys = c | .inr _ => cmpVs (decide (v.fKind = 5)) v.fList v.fKeys w.fList w.fKeys = cmpI (v.fList.length : Int) (w.fList.length : Int)) := by
 refine loop_inv (step := tree_compare_s1 n rec v w) (n := n) (fun q s => s = (q : Int) ∧ cmpVs (decide (v.fKind = 5)) v.fList v.fKeys w.fList w.fKeys = cmpVs (decide (v.fKind = 5)) (v.fList.drop q) (v.fKeys.drop q) (w.fList.drop q) (w.fKeys.drop q)) _ (min v.fList.length w.fList.length) ⟨rfl, by simp only [List.drop_zero]⟩ (fun q s hq hI => ?_) (fun s hI => ?_) (by omega)
 ·obtain ⟨rfl, hI⟩ := hI
  have h1 : q < v.fList.length := by omega
  have h2 : q < w.fList.length := by omega
  rw [cmpVs_drop _ h1 h2] at hI
  have hg1 : getI v.fList (q : Int) = some v.fList[q] := by simp [getI]
  have hg2 : getI w.fList (q : Int) = some w.fList[q] := by simp [getI]
  have tail : ∀ (h0 : cmpVs (decide (v.fKind = 5)) v.fList v.fKeys w.fList w.fKeys = thenC (cmpV v.fList[q] w.fList[q]) (cmpVs (decide (v.fKind = 5)) (v.fList.drop (q + 1)) (v.fKeys.drop (q + 1)) (w.fList.drop (q + 1)) (w.fKeys.drop (q + 1)))) (t : Option (Lp Int (Sum Int Unit))), t = ((getI v.fList (q : Int)).bind fun x_10 =>
   (getI w.fList (q : Int)).bind fun x_11 =>
   (rec x_10 x_11).bind fun x_12 =>
   bif (!(decide (x_12 = 0))) then
    (some (.br (.inl x_12)))
   else
    need (inR .i64 ((q : Int) + 1)) <|
    some (.nx ((q : Int) + 1))) → (∃ s', t = some (.nx s') ∧ (s' = ((q + 1 : Nat) : Int) ∧ cmpVs (decide (v.fKind = 5)) v.fList v.fKeys w.fList w.fKeys = cmpVs (decide (v.fKind = 5)) (v.fList.drop (q + 1)) (v.fKeys.drop (q + 1)) (w.fList.drop (q + 1)) (w.fKeys.drop (q + 1)))) ∨ ∃ b, t = some (.br b) ∧ (match b with | .inl c => c ≠ 0 ∧ cmpVs (decide (v.fKind = 5)) v.fList v.fKeys w.fList w.fKeys = c | .inr _ => cmpVs (decide (v.fKind = 5)) v.fList v.fKeys w.fList w.fKeys = cmpI (v.fList.length : Int) (w.fList.length : Int)) := by
   intro h0 t ht
   rw [hg1, bnd, hg2, bnd, hr _ (List.getElem_mem h1) _ (List.getElem_mem h2), bnd] at ht
   by_cases hc : cmpV v.fList[q] w.fList[q] = 0
   ·rw [decide_eq_true hc, Bool.not_true, cF, need_i (by omega) (by omega)] at ht
    rw [hc, thenC0] at h0
    exact .inl ⟨_, ht, by omega, h0⟩
   ·rw [decide_eq_false hc, Bool.not_false, cT] at ht
    rw [thenCn _ hc] at h0
    exact .inr ⟨_, ht, hc, h0⟩
  unfold tree_compare_s1
  rw [decide_eq_true (by omega), cT]
  by_cases hkind : v.fKind = 5
  ·obtain ⟨k1, k2⟩ := hk hkind
   rw [decide_eq_true hkind, cT] at hI
   rw [decide_eq_true hkind, cT, getI_at [] (by omega), bnd, getI_at [] (by omega), bnd]
   unfold h_Compare
   rw [bnd]
   by_cases hc : Lib.compareBytes (v.fKeys.getD q []) (w.fKeys.getD q []) = 0
   ·rw [decide_eq_true hc, Bool.not_true, cF, bnd, jN]
    rw [hc, thenC0] at hI
    have := tail (by rw [decide_eq_true hkind]; exact hI) _ rfl
    rw [decide_eq_true hkind] at this
    exact this
   ·rw [decide_eq_false hc, Bool.not_false, cT, mpS, bnd, jB]
    rw [thenCn _ hc] at hI
    exact .inr ⟨_, rfl, hc, hI⟩
  ·rw [decide_eq_false hkind, cF] at hI
   rw [decide_eq_false hkind, cF, bnd, jN]
   rw [thenC0] at hI
   have := tail (by rw [decide_eq_false hkind]; exact hI) _ rfl
   rw [decide_eq_false hkind] at this
   exact this
 ·obtain ⟨rfl, hI⟩ := hI
  unfold tree_compare_s1
  rw [decide_eq_false (by omega), cF]
  refine ⟨_, rfl, ?_⟩
  dsimp only
  rw [hI, cmpVs_end _ rfl]
theorem bit_cmp (a b : Bool) : bitI a - bitI b = cmpI (bitI a) (bitI b) := by cases a <;> cases b <;> rfl
theorem compare_b {n : Nat} (hn : 6000 < n) (rec : TE0 → TE0 → Option Int) (v w : TE0) (hv : v.fList.length ≤ 3000) (hok : OkV v) (how : OkV w) (hr : ∀ x ∈ v.fList, ∀ y ∈ w.fList, rec x y = some (cmpV x y)) : tree_compare_b n rec v w = some (cmpV v w) := by
 unfold tree_compare_b h_Compare
 rw [cmpC_run, bnd, bit_run, bnd, bit_run, bnd, bit_cmp, need_i (by have := cmpI_range (bitI v.fBool) (bitI w.fBool); omega) (by have := cmpI_range (bitI v.fBool) (bitI w.fBool); omega), cmpC2_run, bnd, bnd, or_run hn, bnd, cmpV_eq]
 generalize hA : cmpI v.fKind w.fKind = A
 generalize hB : cmpI (bitI v.fBool) (bitI w.fBool) = B
 generalize hC : cmpI v.fNum w.fNum = C
 generalize hD : Lib.compareBytes v.fText w.fText = D
 have assoc : ∀ E, thenC A (thenC B (thenC C (thenC D E))) = thenC (thenC A (thenC B (thenC C D))) E := fun E => by
  by_cases a : A = 0
  ·subst a
   rw [thenC0, thenC0]
   by_cases b : B = 0
   ·rw [b, thenC0, thenC0]
    by_cases c : C = 0
    ·rw [c, thenC0, thenC0]
    ·rw [thenCn _ c, thenCn D c, thenCn _ c]
   ·rw [thenCn _ b, thenCn _ b, thenCn _ b]
  ·rw [thenCn _ a, thenCn _ a, thenCn _ a]
 rw [assoc]
 by_cases hx : thenC A (thenC B (thenC C D)) = 0
 ·have ha := (thenC_zero hx).1
  rw [decide_eq_true hx, Bool.not_true, cF, hx, thenC0]
  have hkk : v.fKind = w.fKind := cmpI_zero (hA.trans ha)
  obtain ⟨b, hb, hp⟩ := compare_loop hn rec v w hv (fun hk => ⟨plain_len hok.plain hk, plain_len how.plain (by rw [← hkk]; exact hk)⟩) hr
  rw [hb, bnd]
  cases b with
  | inl c => dsimp only at hp ⊢; rw [hp.2]
  | inr u => dsimp only at hp ⊢; rw [cmpC2_run, bnd, hp]
 ·rw [decide_eq_false hx, Bool.not_false, cT, thenCn _ hx]
theorem compare_run {n : Nat} (hn : 6000 < n) : ∀ (k d : Nat) (v w : TE0), d ≤ k → Small d v → OkV v → OkV w → tree_compare_k n k v w = some (cmpV v w)
 | _, 0, v, _, _, h, _, _ => h.elim
 | 0, d + 1, v, _, h, _, _, _ => absurd h (by omega)
 | k + 1, d + 1, v, w, hk, hs, hok, how => compare_b hn _ v w hs.1 hok how fun x hx y hy => compare_run hn k d x y (by omega) (hs.2.2.2.2 x hx) (hok.part hx) (how.part hy)
end Go.Proofs.YtocefedhenhbfaaGreatDoor
end
section
namespace Go.Proofs.YtocefedhenhbfaaGreatDoor
open Go Go.Vc Go.RowKit
theorem great_fine {n : Nat} (hn : 6000 < n) (v : TE0) : ∃ g, ref03_Great n v = some g ∧ (g = false → Fine v ∧ Small 30 v ∧ (walkV v).length ≤ 5000) := by
 obtain ⟨g, h1, h2⟩ := great_ok (n := n) (by omega) v
 exact ⟨g, h1, fun h => ⟨⟨Small.le (by omega) (h2 h).1, by have := (h2 h).2; omega⟩, h2 h⟩⟩
def eqV (a b : TE0) : Bool := decide (checkV a = 0) && (decide (checkV b = 0) && decide (cmpV (sortV a) (sortV b) = 0))
theorem sortedT_run {n : Nat} (hn : 6000 < n) {v : TE0} (h : Fine v) (hok : OkV v) : tree_sorted n v = some (sortV v) := sorted_run hn n 60 v (by omega) h.small hok
theorem compareT_run {n : Nat} (hn : 6000 < n) {v w : TE0} (h : Fine v) (hok : OkV v) (how : OkV w) : tree_compare n v w = some (cmpV v w) := compare_run hn n 60 v w (by omega) h.small hok how
theorem compare2_run {n : Nat} (hn : 6000 < n) {v w : TE0} (h : Fine v) (hok : OkV v) (how : OkV w) : ∃ z, tree_compare_2 n v.fKind (v.fBool) v.fNum v.fText v.fList v.fKeys w.fKind (w.fBool) w.fNum w.fText w.fList w.fKeys = some z ∧ z.1 = cmpV v w := by
 have key : (tree_compare_2 n v.fKind (v.fBool) v.fNum v.fText v.fList v.fKeys w.fKind (w.fBool) w.fNum w.fText w.fList w.fKeys).map (·.1) = tree_compare_b n (tree_compare n) v w := by
  have hs : tree_compare_2_s1 n v.fKind v.fList v.fKeys w.fList w.fKeys = tree_compare_s1 n (tree_compare n) v w := rfl
  unfold tree_compare_2 tree_compare_b
  rw [hs, cmpC_run, bnd, bnd, bit_run, bnd, bnd, bit_run, bnd, bnd]
  unfold need
  split
  ·rw [cmpC2_run, bnd, bnd]
   unfold h_Compare
   rw [bnd, bnd, or_run hn, bnd, bnd]
   generalize thenC _ _ = x
   by_cases hx : x = 0
   ·rw [decide_eq_true hx, Bool.not_true, cF, cF]
    cases loopF (tree_compare_s1 n (tree_compare n) v w) n (0 : Int) with
    | none => rfl
    | some b =>
     rw [bnd, bnd]
     cases b with
     | inl c => rfl
     | inr u => dsimp only; rw [cmpC2_run, bnd, bnd]; rfl
   ·rw [decide_eq_false hx, Bool.not_false, cT, cT]; rfl
  ·rfl
 rw [compare_b hn (tree_compare n) v w h.wide.1 hok how (fun x hx y hy => compareT_run hn (h.part hx) (hok.part hx) (how.part hy))] at key
 obtain ⟨z, hz, e⟩ := Option.map_eq_some_iff.1 key
 exact ⟨z, hz, e⟩
theorem both_run {n : Nat} (hn : 6000 < n) {v w : TE0} (h : Fine v) (h' : Fine w) : tree_both n v w = some (if checkV v = 0 ∧ checkV w = 0 then (cmpV (sortV v) (sortV w), true) else (0, false)) := by
 unfold tree_both
 rw [check_run hn h, bnd]
 by_cases a : checkV v = 0
 ·rw [decide_eq_true a, Bool.not_true, cF, check_run hn h', bnd]
  by_cases b : checkV w = 0
  ·rw [decide_eq_true b, Bool.not_true, bnd, cF, if_pos ⟨a, b⟩]
   have oa := (checkV_ok a).1
   have ob := (checkV_ok b).1
   rw [sortedT_run hn h oa, bnd, sortedT_run hn h' ob, bnd]
   obtain ⟨z, hz, e⟩ := compare2_run hn (h.sort oa) oa.sort ob.sort
   rw [hz, bnd, e]
  ·rw [decide_eq_false b, Bool.not_false, bnd, cT, if_neg (fun x => b x.2)]
 ·rw [decide_eq_false a, Bool.not_false, cT, bnd, cT, if_neg (fun x => a x.1)]
theorem Equal_run {n : Nat} (hn : 6000 < n) {v w : TE0} (h : Fine v) (h' : Fine w) : tree_Equal n v w = some (eqV v w) := by
 unfold tree_Equal eqV
 rw [both_run hn h h', bnd]
 by_cases a : checkV v = 0
 ·by_cases b : checkV w = 0
  ·rw [if_pos ⟨a, b⟩, decide_eq_true a, decide_eq_true b]; rfl
  ·rw [if_neg (fun x => b x.2), decide_eq_true a, decide_eq_false b]; rfl
 ·rw [if_neg (fun x => a x.1), decide_eq_false a]; rfl
def placeV (key : List UInt8) : List (List UInt8) → Option Nat
  | [] => none
  | k :: r => if k = key then some 0 else (placeV key r).map (· + 1)
theorem place_some : ∀ {key : List UInt8} {l : List (List UInt8)} {i : Nat}, placeV key l = some i → l[i]? = some key ∧ ∀ j, j < i → l[j]? ≠ some key
 | key, k :: r, i, h => by
  rw [placeV] at h
  by_cases e : k = key
  ·rw [if_pos e] at h
   obtain rfl := Option.some.inj h
   exact ⟨by rw [e]; rfl, fun j hj => absurd hj (by omega)⟩
  ·rw [if_neg e] at h
   obtain ⟨j, hj, rfl⟩ := Option.map_eq_some_iff.1 h
   obtain ⟨h1, h2⟩ := place_some hj
   refine ⟨by simpa using h1, fun q hq => ?_⟩
   cases q with
   | zero => simpa using e
   | succ q => simpa using h2 q (by omega)
theorem place_none : ∀ {key : List UInt8} {l : List (List UInt8)}, placeV key l = none → key ∉ l
 | key, [], _ => by simp
 | key, k :: r, h => by
  rw [placeV] at h
  by_cases e : k = key
  ·rw [if_pos e] at h; cases h
  ·rw [if_neg e] at h
   have := place_none (Option.map_eq_none_iff.1 h)
   simp only [List.mem_cons, not_or]
   exact ⟨fun h => e h.symm, this⟩
theorem place_lt {key : List UInt8} {l : List (List UInt8)} {i : Nat} (h : placeV key l = some i) : i < l.length := (List.getElem?_eq_some_iff.1 (place_some h).1).1
theorem place_first {key : List UInt8} {l : List (List UInt8)} {q : Nat} (hq : l[q]? = some key) (hf : ∀ j, j < q → l[j]? ≠ some key) : placeV key l = some q := by
 cases h : placeV key l with
 | none => exact absurd (List.mem_of_getElem? hq) (place_none h)
 | some i =>
  obtain ⟨a, b⟩ := place_some h
  rcases Nat.lt_trichotomy i q with hl | hl | hl
  ·exact absurd a (hf i hl)
  ·rw [hl]
  ·exact absurd hq (b q hl)
theorem same_gen {n : Nat} (hn : 6000 < n) : ∀ (k d : Nat) (v w : TE0), d ≤ k → Small d v → ∃ b, ref03_Same_k n k v w = some b ∧ (b = true ↔ v = w)
 | _, 0, v, _, _, h => h.elim
 | 0, d + 1, v, _, h, _ => absurd h (by omega)
 | k + 1, d + 1, v, w, hk, hs => by
  obtain ⟨h1, h2, h3, h4, h5⟩ := hs
  show ∃ b, ref03_Same_b n (ref03_Same_k n k) v w = some b ∧ _
  unfold ref03_Same_b
  by_cases hA : v.fKind = w.fKind
  case neg => exact ⟨false, by rw [decide_eq_false hA, Bool.not_false, cT, bnd, cT], by simp; exact fun e => hA (e ▸ rfl)⟩
  by_cases hB : v.fBool = w.fBool
  case neg =>
   have hbe : (v.fBool == w.fBool) = false := by simpa using hB
   exact ⟨false, by rw [decide_eq_true hA, Bool.not_true, cF, hbe, Bool.not_false, cT, bnd, cT], by simp; exact fun e => hB (e ▸ rfl)⟩
  have hbe : (v.fBool == w.fBool) = true := by simpa using hB
  by_cases hC : v.fNum = w.fNum
  case neg => exact ⟨false, by rw [decide_eq_true hA, Bool.not_true, cF, hbe, Bool.not_true, cF, decide_eq_false hC, Bool.not_false, cT, bnd, cT], by simp; exact fun e => hC (e ▸ rfl)⟩
  by_cases hD : v.fText = w.fText
  case neg => exact ⟨false, by rw [decide_eq_true hA, Bool.not_true, cF, hbe, Bool.not_true, cF, decide_eq_true hC, Bool.not_true, cF, decide_eq_false hD, Bool.not_false, cT, bnd, cT], by simp; exact fun e => hD (e ▸ rfl)⟩
  by_cases hE : v.fList.length = w.fList.length
  case neg => exact ⟨false, by rw [decide_eq_true hA, Bool.not_true, cF, hbe, Bool.not_true, cF, decide_eq_true hC, Bool.not_true, cF, decide_eq_true hD, Bool.not_true, cF, decide_eq_false (by omega), Bool.not_false, cT, bnd, cT], by simp; exact fun e => hE (e ▸ rfl)⟩
  by_cases hG : v.fKeys.length = w.fKeys.length
  case neg => exact ⟨false, by rw [decide_eq_true hA, Bool.not_true, cF, hbe, Bool.not_true, cF, decide_eq_true hC, Bool.not_true, cF, decide_eq_true hD, Bool.not_true, cF, decide_eq_true (by omega), Bool.not_true, cF, decide_eq_false (by omega), Bool.not_false, bnd, cT], by simp; exact fun e => hG (e ▸ rfl)⟩
  rw [decide_eq_true hA, Bool.not_true, cF, hbe, Bool.not_true, cF, decide_eq_true hC, Bool.not_true, cF, decide_eq_true hD, Bool.not_true, cF, decide_eq_true (by omega), Bool.not_true, cF, decide_eq_true (by omega), Bool.not_true, bnd, cF]
  obtain ⟨b, hb, hp⟩ := loop_inv (step := ref03_Same_s1 n v w) (n := n) (s0 := (0 : Int)) (fun q s => s = (q : Int) ∧ ∀ j, j < q → v.fKeys[j]? = w.fKeys[j]?)
   (fun b => match b with | .inl _ => v.fKeys ≠ w.fKeys | .inr _ => v.fKeys = w.fKeys) v.fKeys.length ⟨rfl, fun j hj => absurd hj (by omega)⟩ (fun q s hq hI => by
    obtain ⟨rfl, hI⟩ := hI
    have hq2 : q < w.fKeys.length := by omega
    have hg : getI v.fKeys (q : Int) = some v.fKeys[q] := by simp [getI]
    have hg2 : getI w.fKeys (q : Int) = some w.fKeys[q] := by simp [getI]
    unfold ref03_Same_s1
    rw [decide_eq_true (by omega), cT, hg, bnd, hg2, bnd]
    by_cases h : v.fKeys[q] = w.fKeys[q]
    ·rw [decide_eq_true h, Bool.not_true, cF, need_i (by omega) (by omega)]
     refine .inl ⟨_, rfl, by omega, fun j hj => ?_⟩
     by_cases hjq : j = q
     ·subst hjq; simp [hq, hq2, h]
     ·exact hI j (by omega)
    ·rw [decide_eq_false h, Bool.not_false, cT]
     refine .inr ⟨_, rfl, ?_⟩
     dsimp only
     intro e
     exact h (by simp [e])) (fun s hI => by
    obtain ⟨rfl, hI⟩ := hI
    unfold ref03_Same_s1
    rw [decide_eq_false (by omega), cF]
    refine ⟨_, rfl, ?_⟩
    dsimp only
    apply List.ext_getElem?
    intro j
    by_cases hj : j < v.fKeys.length
    ·exact hI j hj
    ·rw [List.getElem?_eq_none (by omega), List.getElem?_eq_none (by omega)]) (by omega)
  rw [hb, bnd]
  cases b with
  | inl u => exact ⟨false, rfl, by simp; exact fun e => hp (e ▸ rfl)⟩
  | inr u =>
   dsimp only at hp ⊢
   obtain ⟨b, hb, hp2⟩ := loop_inv (step := ref03_Same_s2 n (ref03_Same_k n k) v w) (n := n) (s0 := (0 : Int)) (fun q s => s = (q : Int) ∧ ∀ j, j < q → v.fList[j]? = w.fList[j]?)
    (fun b => match b with | .inl _ => v.fList ≠ w.fList | .inr _ => v.fList = w.fList) v.fList.length ⟨rfl, fun j hj => absurd hj (by omega)⟩ (fun q s hq hI => by
     obtain ⟨rfl, hI⟩ := hI
     have hq2 : q < w.fList.length := by omega
     have hg : getI v.fList (q : Int) = some v.fList[q] := by simp [getI]
     have hg2 : getI w.fList (q : Int) = some w.fList[q] := by simp [getI]
     obtain ⟨b, hb, hbi⟩ := same_gen hn k d v.fList[q] w.fList[q] (by omega) (h5 _ (List.getElem_mem hq))
     unfold ref03_Same_s2
     rw [decide_eq_true (by omega), cT, hg, bnd, hg2, bnd, hb, bnd]
     cases b with
     | true =>
      have h := hbi.1 rfl
      rw [Bool.not_true, cF, need_i (by omega) (by omega)]
      refine .inl ⟨_, rfl, by omega, fun j hj => ?_⟩
      by_cases hjq : j = q
      ·subst hjq; simp [hq, hq2, h]
      ·exact hI j (by omega)
     | false =>
      rw [Bool.not_false, cT]
      refine .inr ⟨_, rfl, ?_⟩
      dsimp only
      intro e
      have := hbi.2 (by simp [e])
      cases this) (fun s hI => by
     obtain ⟨rfl, hI⟩ := hI
     unfold ref03_Same_s2
     rw [decide_eq_false (by omega), cF]
     refine ⟨_, rfl, ?_⟩
     dsimp only
     apply List.ext_getElem?
     intro j
     by_cases hj : j < v.fList.length
     ·exact hI j hj
     ·rw [List.getElem?_eq_none (by omega), List.getElem?_eq_none (by omega)]) (by omega)
   rw [hb, bnd]
   cases b with
   | inl u => exact ⟨false, rfl, by simp; exact fun e => hp2 (e ▸ rfl)⟩
   | inr u =>
    refine ⟨true, rfl, by simp only [true_iff]; cases v; cases w; dsimp only at *; rw [hA, hB, hC, hD, hp, hp2]⟩
theorem Same_run {n : Nat} (hn : 6000 < n) {d : Nat} (hd : d ≤ 6000) (v w : TE0) (h : Small d v) : ∃ b, ref03_Same n v w = some b ∧ (b = true ↔ v = w) := same_gen hn n d v w (by omega) h
end Go.Proofs.YtocefedhenhbfaaGreatDoor
end
end

section
namespace Go.Proofs.YtocefedhenhbfaaGreatDoor
open Go Go.Vc Go.RowKit
def ref09_Great_s1 (n : Nat) (d0 : List TC0) (K1 : Int) : Option (Lp Int (Sum Unit Unit)) :=
    bif (decide (K1 < ((d0.length : Nat) : Int))) then
      ((getI d0 K1).bind fun X1 =>
      bif (decide ((200 : Int) < (X1.fName.length : Int))) then
        (some (.br (.inl ())))
      else
        (getI d0 K1).bind fun X2 =>
        (ref03_Great n (⟨X2.fV.fKind, (X2.fV.fBool), X2.fV.fNum, X2.fV.fText, X2.fV.fList, X2.fV.fKeys⟩ : TE0)).bind fun X3 =>
        bif X3 then
          (some (.br (.inl ())))
        else
          need (inR .i64 (K1 + 1)) <|
          some (.nx (K1 + 1)))
    else
      some (.br (.inr ()))
def ref09_Great (n : Nat) (d0 : List TC0) : Option Bool :=
  bif (decide ((60 : Int) < ((d0.length : Nat) : Int))) then
    (some ((true)))
  else
    (loopF (ref09_Great_s1 n d0) n (0 : Int)).bind fun Q1 =>
    (match Q1 with 
    | .inl G1 => some ((true)) 
    | .inr G2 => some ((false)))
set_option maxRecDepth 20000 in
theorem ref09_Great_ok (n : Nat) (M : Mem) (hG : GL M) (A0 : Option Addr) (cap0 : Nat) (d0 : List TC0) (h0 : Sli M 8 emb_TC0 A0 cap0 d0) (r : Bool) (hF : ref09_Great n d0 = some r) : Ok Tryz.prog M 18 [.slice A0 d0.length cap0] (fun _ v => v = .bool r) := by
 unfold ref09_Great at hF
 intro M1 hM0 w0 H w p0
 replace hG := GL.mono hM0 hG
 replace h0 := h0.mono hM0
 refine R_enter 28 Tryz.func18 rfl rfl (by simp) fun a0 f0 => RR (Y f0 1 fun _ f => eT (R_seq (RR (Y f 3 fun _ f => eT (RcF f hF (fun B1 F1 => ?_) fun B1 F2 => ?_)))))
 ·have U1 := dI.1 B1
  refine RR (Y f 1 fun _ f => eT (wp_ret (T_r (E_ret1 f rfl (by kernel_rfl : Vc.look _ 2 = some (.bool true)) ?_))))
  obtain rfl := sI F1
  exact ⟨_, rfl, M1, (mR _), p0, rfl⟩
 ·have U2 := iff_f dI B1
  refine wp_skip (T_n (R_seq (RR (Y f 1 fun _ f => eT (wp_block ?_)))))
  obtain ⟨Q1, hL_1, F3⟩ := bS F2
  refine wp_mono (Q := fun e a w => (e = .ret ∧ (∃ G1 : Unit, Q1 = .inl G1 ∧ ∃ V2 : Mem, M1.le V2 ∧ Frm 28 [(2, .bool true)] a ∧ Hp w0 V2 (H) w)) ∨ (e = .exit 0 ∧ (∃ G2 : Unit, Q1 = .inr G2 ∧ ∃ V3 : Mem, M1.le V3 ∧ Frm 28 [] a ∧ Hp w0 V3 (H) w))) (R_loop (n := 28) (w0 := w0) (M := M1) (fun (x : Nat × Int) => match x with | (I1, K1) => [(0, .slice A0 d0.length cap0), (3, .int .i64 K1)]) (fun (x : Nat × Int) => match x with | (I1, K1) => (H)) (fun (x : Nat × Int) (MM : Mem) => match x with | (I1, K1) => loopF (ref09_Great_s1 n d0) I1 K1 = some Q1) (fun (x : Nat × Int) => match x with | (I1, K1) => I1) (n, (0 : Int)) (f.kp) p0 hL_1 ?_) ?_
  ·rintro ⟨I1, K1⟩ V1 _ W1 J1 I_1 f N1
   have I_1L := I_1
   obtain ⟨I2, r_1, rfl, hs_1, T1⟩ := loop_step I_1L
   unfold ref09_Great_s1 at hs_1
   refine R_seq (RR (Y f 4 fun _ f => eT (RcF f hs_1 (fun B2 F4 => ?_) fun B2 F13 => ?_)))
   ·have U3 := dI.1 B2
    refine wp_skip (T_n (R_seq (wp_block (RR (Y f 2 fun _ f => ?_)))))
    obtain ⟨X1, S1, F5⟩ := bS F4
    obtain ⟨C1, c_1, e_1, -, D1, R1⟩ := Sli.at_ (h0.mono J1) S1
    obtain ⟨Z1, P1, Z2, P2, rfl, B3, B4⟩ := TC0.opn D1
    refine Z f (Y32 e_1 rfl (len := d0.length) (cap := cap0) (k := .i64) (i := K1) (e := 77) (sz := 8) (getI_nn S1) (getI_lt S1)) fun _ f => Y f 1 fun _ f => Y15 f N1 R1 0 rfl fun _ f => Y f 3 fun _ f => ?_
    rcases cE F5 with ⟨B5, F6⟩ | ⟨B5, F7⟩
    ·have U4 := dI.1 B5
     have f := f.st 20 (cB B5)
     refine Y f 7 fun _ f => eT (Y8 f (RR (Y f 1 fun _ f => eT (wp_ret (B_r (T_r (T_r ?_)))))))
     obtain rfl := sI F6
     exact .inl ⟨rfl, (), (sI T1).symm, V1, J1, f.kp, N1⟩
    ·have U5 := iff_f dI B5
     have f := f.st 20 (cB B5)
     refine Y f 2 fun _ f => ?_
     obtain ⟨X2, S2, F8⟩ := bS F7
     obtain ⟨C2, c_2, e_2, -, D2, R2⟩ := Sli.at_ (h0.mono J1) S2
     obtain ⟨Z3, P3, Z4, P4, rfl, B6, B7⟩ := TC0.opn D2
     refine Z f (Y32 e_2 rfl (len := d0.length) (cap := cap0) (k := .i64) (i := K1) (e := 77) (sz := 8) (getI_nn S2) (getI_lt S2)) fun _ f => Y f 1 fun _ f => Z (v := .agg #[.int .i8 X2.fV.fKind, .bool X2.fV.fBool, .int .i64 X2.fV.fNum, S X2.fV.fText, .slice Z3 X2.fV.fList.length P3, .slice Z4 X2.fV.fKeys.length P4]) f (Y34 (cs := [.int .i8 X2.fV.fKind, .bool X2.fV.fBool, .int .i64 X2.fV.fNum, S X2.fV.fText, .slice Z3 X2.fV.fList.length P3, .slice Z4 X2.fV.fKeys.length P4]) rfl (ad := (C2.add (K1.toNat * 8)).add 2) (fz_part (base := C2.add (K1.toNat * 8)) (fun j v h => N1.cell (R2 j v h)) 2 rfl)) fun _ f => ?_
     obtain ⟨X3, S3, F9⟩ := bS F8
     refine Y18 f N1 (ref03_Great_ok n _ _ (⟨X2.fV.fKind, (X2.fV.fBool), X2.fV.fNum, X2.fV.fText, X2.fV.fList, X2.fV.fKeys⟩ : TE0) (TE0.shut B6 B7) X3 S3) fun W2 N2 _ f => Y f 1 fun _ f => eT (RcF f F9 (fun B8 F10 => ?_) fun B8 F11 => ?_)
     ·refine RR (Y f 1 fun _ f => eT (wp_ret (B_r (T_r (T_r ?_)))))
      obtain rfl := sI F10
      exact .inl ⟨rfl, (), (sI T1).symm, V1, J1, f.kp, N2⟩
     ·refine wp_skip (B_n (T_n (R_reg (Y f 1 fun _ f => ?_))))
      obtain ⟨O1, F12⟩ := nS F11
      refine Y f 1 fun _ f => ?_
      have f := f.st 12 (iW O1)
      refine Y f 1 fun _ f => eT ?_
      obtain rfl := sI F12
      exact ⟨⟨I2, K1 + 1⟩, Nat.lt_succ_self _, V1, J1, T1, f.kp, N2⟩
   ·have U8 := iff_f dI B2
    refine wp_exit (T_x (T_x ?_))
    obtain rfl := sI F13
    exact .inr ⟨rfl, (), (sI T1).symm, V1, J1, f.kp, N1⟩
  ·rintro _ _ W5 (⟨rfl, G1, rfl, V2, J2, f, N3⟩ | ⟨rfl, G2, rfl, V3, J3, f, N4⟩)
   ·refine B_r (T_r (E_ret1 f rfl (by kernel_rfl : Vc.look _ 2 = some (.bool true)) ?_))
    obtain rfl := sI F3
    exact ⟨_, rfl, V2, J2, N3, rfl⟩
   ·refine B_x (T_n (RR (Y f 1 fun _ f => eT (wp_ret (E_ret1 f rfl (by kernel_rfl : Vc.look _ 2 = some (.bool false)) ?_)))))
    obtain rfl := sI F3
    exact ⟨_, rfl, V3, J3, N4, rfl⟩
end Go.Proofs.YtocefedhenhbfaaGreatDoor
end

section
namespace Go.Vc
open Go Go.RowKit
variable {dd : List Deferred}
def idV (v : Value) : Value := v
def RepMap {κ δ : Type} (M : Mem) (emb : δ → Dat) : List (κ × δ) → List (κ × Value) → Prop
  | [], m => m = []
  | p :: r, m => ∃ cs m', m = (p.1, Value.agg cs.toArray) :: m' ∧ Rep M (emb p.2) cs ∧ RepMap M emb r m'
section
variable {κ δ : Type} {M M' : Mem} {emb : δ → Dat}
theorem RepMap.mono (h : M.le M') : ∀ {d : List (κ × δ)} {m : List (κ × Value)}, RepMap M emb d m → RepMap M' emb d m
 | [], _, hr => hr
 | p :: r, m, ⟨cs, m', h1, h2, h3⟩ => ⟨cs, m', h1, Rep.mono h _ _ h2, RepMap.mono h h3⟩
theorem RepMap.nil : RepMap M emb ([] : List (κ × δ)) [] := rfl
variable [DecidableEq κ]
theorem RepMap.put {k : κ} {x : δ} {cs : List Value} (hx : Rep M (emb x) cs) : ∀ {d : List (κ × δ)} {m : List (κ × Value)}, RepMap M emb d m → RepMap M emb (mput d k x) (mput m k (.agg cs.toArray))
 | [], m, h => by
  have : m = [] := h
  subst this
  exact ⟨cs, [], rfl, hx, rfl⟩
 | p :: r, m, ⟨c, m', h1, h2, h3⟩ => by
  subst h1
  unfold mput
  by_cases hk : p.1 = k
  ·rw [if_pos hk, if_pos hk]
   exact ⟨cs, m', rfl, hx, h3⟩
  ·rw [if_neg hk, if_neg hk]
   exact ⟨c, _, rfl, h2, RepMap.put hx h3⟩
theorem RepMap.isSome {k : κ} : ∀ {d : List (κ × δ)} {m : List (κ × Value)}, RepMap M emb d m → (mget m k).isSome = (mget d k).isSome
 | [], m, h => by
  have : m = [] := h
  subst this; rfl
 | p :: r, m, ⟨c, m', h1, h2, h3⟩ => by
  subst h1
  unfold mget
  by_cases hk : p.1 = k
  ·rw [if_pos hk, if_pos hk]; rfl
  ·rw [if_neg hk, if_neg hk]; exact RepMap.isSome h3
theorem RepMap.get {k : κ} {z : δ} {zc : List Value} (hz : Rep M (emb z) zc) : ∀ {d : List (κ × δ)} {m : List (κ × Value)}, RepMap M emb d m → ∃ cs, (mget m k).getD (.agg zc.toArray) = .agg cs.toArray ∧ Rep M (emb ((mget d k).getD z)) cs
 | [], m, h => by
  have : m = [] := h
  subst this
  exact ⟨zc, rfl, hz⟩
 | p :: r, m, ⟨c, m', h1, h2, h3⟩ => by
  subst h1
  unfold mget
  by_cases hk : p.1 = k
  ·rw [if_pos hk, if_pos hk]; exact ⟨c, rfl, h2⟩
  ·rw [if_neg hk, if_neg hk]; exact RepMap.get hz h3
end
theorem Hp.fzObj {w0 w : World} {M : Mem} {H : List Ent} {b : Nat} {o : Obj} (h : Hp w0 M (.obj b o :: H) w) : ∃ M', M.le M' ∧ Hp w0 M' H w ∧ M' b = some o :=
 ⟨_, h.freeze.1, h.freeze.2, by simp [Mem.add]⟩
section
variable {κ : Type} [DecidableEq κ] {P : Program} {ek : κ → Value} {w : World}
theorem X_lookupR2 {o : Oper} {ρ : Operand → Value} {t kt et : TypeId} {x ix : Operand} {b : Nat} {m : List (κ × Value)} {k : κ} {z v : Value} {i : Bool} (hv : (mget m k).getD z = v) (hi : (mget m k).isSome = i) (ho : o.op = .lookup t x ix true) (hx : ρ x = .map (some b)) (hk : ρ ix = ek k) (ht : P.underlying t = some (.map kt et)) (K : KeyLaw P kt ek)
  (hz : (P.info? et).bind (·.zero) = some z) (hb : w.heap[b]? = some (mapO ek idV m)) : (execOp ρ o).run P w = .ok (.value (.tuple #[v, .bool i])) w := by
 subst hv; subst hi
 exact X_lookup2 (ev := idV) ho hx hk ht K hz hb
end
section
variable {α : Type}
def insAll (x : α) : List α → List (List α)
  | [] => [[x]]
  | y :: l => (x :: y :: l) :: (insAll x l).map (y :: ·)
def permsL : List α → List (List α)
  | [] => [[]]
  | x :: l => (permsL l).flatMap (insAll x)
theorem mem_insAll {x : α} : ∀ (a b : List α), a ++ x :: b ∈ insAll x (a ++ b)
 | [], [] => by simp [insAll]
 | [], y :: b => by simp [insAll]
 | y :: a, b => by
  simp only [List.cons_append, insAll, List.mem_cons, List.mem_map]
  exact .inr ⟨_, mem_insAll a b, rfl⟩
theorem insAll_perm {x : α} : ∀ {l r : List α}, r ∈ insAll x l → r.Perm (x :: l)
 | [], r, h => by simp [insAll] at h; subst h; exact .refl _
 | y :: l, r, h => by
  simp only [insAll, List.mem_cons, List.mem_map] at h
  rcases h with rfl | ⟨r', h1, rfl⟩
  ·exact .refl _
  ·exact ((insAll_perm h1).cons y).trans (.swap x y l)
theorem permsL_of : ∀ {all l : List α}, l.Perm all → l ∈ permsL all
 | [], l, h => by simp [permsL, h.eq_nil]
 | x :: all, l, h => by
  obtain ⟨a, b, rfl⟩ := List.append_of_mem (h.symm.subset List.mem_cons_self)
  have h2 : (a ++ b).Perm all := List.Perm.cons_inv (a := x) (List.perm_middle.symm.trans h)
  exact List.mem_flatMap.2 ⟨_, permsL_of h2, mem_insAll a b⟩
theorem permsL_perm : ∀ {all l : List α}, l ∈ permsL all → l.Perm all
 | [], l, h => by simp [permsL] at h; subst h; exact .refl _
 | x :: all, l, h => by
  obtain ⟨r, h1, h2⟩ := List.mem_flatMap.1 h
  exact (insAll_perm h2).trans ((permsL_perm h1).cons x)
end
section
variable {π σ β : Type}
def foldO (E : σ → Option (Lp σ β)) (Y : π → σ → Option (Lp σ β)) : List π → σ → Option β
  | [], s => (E s).bind fun r => match r with | .nx _ => none | .br b => some b
  | p :: l, s => (Y p s).bind fun r => match r with | .nx s' => foldO E Y l s' | .br b => some b
def foldP [DecidableEq β] (E : σ → Option (Lp σ β)) (Y : π → σ → Option (Lp σ β)) (all : List π) (s : σ) : Option β :=
  need (∀ l ∈ permsL all, foldO E Y l s = foldO E Y all s) (foldO E Y all s)
def todoD (m : List π) (seen : Array Nat) : List (π × Nat) := m.zipIdx.filter fun p => !seen.contains p.2
def leftD (m : List π) (seen : Array Nat) : List π := (todoD m seen).map (·.1)
theorem leftD_start (m : List π) : leftD m #[] = m := by
 unfold leftD todoD
 have : (m.zipIdx.filter fun p => !(#[] : Array Nat).contains p.2) = m.zipIdx := List.filter_eq_self.2 (fun p _ => by simp)
 rw [this]; simp
variable {E : σ → Option (Lp σ β)} {Y : π → σ → Option (Lp σ β)} {m : List π} {seen : Array Nat} {s : σ} {b : β}
theorem foldP_start [DecidableEq β] (h : foldP E Y m s = some b) : ∀ l, l.Perm (leftD m #[]) → foldO E Y l s = some b := by
 intro l hl
 rw [leftD_start] at hl
 obtain ⟨h1, h2⟩ := need_some h
 rw [h1 l (permsL_of hl)]; exact h2
theorem foldP_run [DecidableEq β] (h : ∀ l, l.Perm m → foldO E Y l s = some b) : foldP E Y m s = some b := by
 unfold foldP
 rw [need_t (fun l hl => by rw [h l (permsL_perm hl), h m (.refl _)]), h m (.refl _)]
theorem foldO_end (h : ∀ l, l.Perm (leftD m seen) → foldO E Y l s = some b) (h0 : leftD m seen = []) : ∃ r, E s = some r ∧ (match r with | .nx _ => none | .br b => some b) = some b := by
 have := h [] (by rw [h0])
 exact Option.bind_eq_some_iff.1 this
theorem perm_pick {j : Nat} {p : π} : ∀ {Z : List (π × Nat)}, (Z.map (·.2)).Nodup → (p, j) ∈ Z → Z.Perm ((p, j) :: Z.filter fun q => !(q.2 == j))
 | [], _, h => by simp at h
 | z :: Z, hn, h => by
  simp only [List.map_cons, List.nodup_cons] at hn
  rcases List.mem_cons.1 h with rfl | h
  ·rw [List.filter_cons_of_neg (by simp)]
   have : (Z.filter fun q => !(q.2 == j)) = Z := List.filter_eq_self.2 (fun q hq => by
    have : q.2 ≠ j := fun e => hn.1 (List.mem_map.2 ⟨q, hq, e⟩)
    simp [this])
   rw [this]
  ·have hz : z.2 ≠ j := fun e => hn.1 (e ▸ List.mem_map.2 ⟨_, h, rfl⟩)
   rw [List.filter_cons_of_pos (by simp [hz])]
   exact ((perm_pick hn.2 h).cons z).trans (.swap _ _ _)
theorem zipIdx_nodup : ∀ (m : List π) (n : Nat), ((m.zipIdx n).map (·.2)).Nodup ∧ ∀ q ∈ m.zipIdx n, n ≤ q.2
 | [], n => ⟨by simp, by simp⟩
 | x :: m, n => by
  obtain ⟨h1, h2⟩ := zipIdx_nodup m (n + 1)
  simp only [List.zipIdx_cons, List.map_cons, List.nodup_cons, List.mem_cons]
  refine ⟨⟨fun h => ?_, h1⟩, fun q hq => ?_⟩
  ·obtain ⟨q, hq, e⟩ := List.mem_map.1 h
   have := h2 q hq; omega
  ·rcases hq with rfl | hq
   ·exact Nat.le_refl _
   ·have := h2 q hq; omega
theorem todoD_push {p : π} {j : Nat} (h : (p, j) ∈ todoD m seen) : (todoD m seen).Perm ((p, j) :: todoD m (seen.push j)) := by
 have hn : ((todoD m seen).map (·.2)).Nodup := List.Nodup.sublist (List.Sublist.map _ List.filter_sublist) (zipIdx_nodup m 0).1
 have := perm_pick hn h
 have e : todoD m (seen.push j) = (todoD m seen).filter fun q => !(q.2 == j) := by
  unfold todoD
  rw [List.filter_filter]
  congr 1
  funext q
  by_cases hq : q.2 = j <;> simp [hq, Array.contains_push]
 rw [e]; exact this
theorem leftD_push {p : π} {j : Nat} (h : (p, j) ∈ todoD m seen) : (leftD m seen).Perm (p :: leftD m (seen.push j)) := (todoD_push h).map _
theorem leftD_lt {p : π} {j : Nat} (h : (p, j) ∈ todoD m seen) : (leftD m (seen.push j)).length < (leftD m seen).length := by
 rw [(leftD_push h).length_eq]; simp
theorem foldO_go {p : π} {j : Nat} (hj : (p, j) ∈ todoD m seen) (h : ∀ l, l.Perm (leftD m seen) → foldO E Y l s = some b) :
  ∃ r, Y p s = some r ∧ (match r with | .nx s' => ∀ l, l.Perm (leftD m (seen.push j)) → foldO E Y l s' = some b | .br b' => some b' = some b) := by
 have h2 : ∀ l, l.Perm (leftD m (seen.push j)) → foldO E Y (p :: l) s = some b := fun l hl => h _ ((hl.cons p).trans (leftD_push hj).symm)
 obtain ⟨r, h3, h4⟩ := Option.bind_eq_some_iff.1 (h2 _ (.refl _))
 refine ⟨r, h3, ?_⟩
 cases r with
 | nx s' =>
  intro l hl
  have := h2 l hl
  unfold foldO at this
  rw [h3] at this
  exact this
 | br b' => exact h4
end
section
variable {κ V : Type} {ek : κ → Value} {ev : V → Value} {P : Program} {ops : Array Oper} {n : Nat} {Q : Exit → Act → World → Prop} {L : Fr} {a : Act} {w0 w : World} {M : Mem} {H : List Ent}
def KMapAt (M : Mem) (o : Option Nat) (ek : κ → Value) (ev : V → Value) (m : List (κ × V)) : Prop := (∃ b, o = some b ∧ M b = some (mapO ek ev m)) ∨ (o = none ∧ m = [])
theorem KMapAt.mono {M M' : Mem} (h : M.le M') {o : Option Nat} {m : List (κ × V)} : KMapAt M o ek ev m → KMapAt M' o ek ev m
 | .inl ⟨b, h1, h2⟩ => .inl ⟨b, h1, h _ _ h2⟩
 | .inr h1 => .inr h1
theorem todo_mapO (m : List (κ × V)) (seen : Array Nat) : todo (m.map fun p => (p.1, ev p.2)) seen = (todoD m seen).map fun q => ((q.1.1, ev q.1.2), q.2) := by
 unfold todo todoD
 rw [List.zipIdx_map, List.filter_map]
 rfl
theorem W_rangeM {o : Oper} {rest : List Oper} {d : Nat} {t kt et : TypeId} {x : Operand} {ob : Option Nat} {m : List (κ × V)} (hK : KMapAt M ob ek ev m) (hf : Frm n L a dd) (hp : Hp w0 M H w) (hw : wantedL ops L o = some true) (hr : readyL L o = true)
  (hd : o.dst = some d) (hdn : Nat.blt d n = true) (ho : o.op = .range t x) (hx : Vc.ev L x = .map ob) (ht : P.underlying t = some (.map kt et))
  (hk : ∀ r w', Hp w0 M (.obj r (.mapIter ob m.length #[] m.length) :: H) w' → ∀ a', Frm n ((d, .pointer (some ⟨r, 0, none⟩)) :: L) a' dd → wpList P ops Q rest a' w') : wpList P ops Q (o :: rest) a w := by
 rcases hK with ⟨b, rfl, hb⟩ | ⟨rfl, rfl⟩
 ·refine W_range (enc := ek) (m := m.map fun (p : κ × V) => (p.1, ev p.2)) hf hp hw hr hd hdn ho hx ht (hp.mem _ (mapO ek ev m) hb) ?_
  rw [List.length_map]; exact hk
 ·exact W_range_nil hf hp hw hr hd hdn ho hx ht hk
theorem X_next_nil' {ρ : Operand → Value} {o : Oper} {x : Operand} {r : Nat} {seen : Array Nat} (ho : o.op = .next x false) (hx : ρ x = .pointer (some ⟨r, 0, none⟩)) (hr : w.heap[r]? = some (.mapIter none 0 seen 0)) :
  (execOp ρ o).run P w = .ok (.value (.tuple #[.bool false])) w := by
 have hg : (getObj r).run P w = .ok (.mapIter none 0 seen 0) w := run_getObj hr (by intro _ _ _ h; cases h)
 unfold execOp
 simp only [ho, hx, Instr.next, Sem.run_bind, hg, Result.andThen_ok]
 rfl
theorem W_nextM {o : Oper} {rest : List Oper} {d : Nat} {x : Operand} {r : Nat} {ob : Option Nat} {m : List (κ × V)} {seen : Array Nat} (hK : KMapAt M ob ek ev m) (hf : Frm n L a dd) (hp : Hp w0 M (.obj r (.mapIter ob m.length seen m.length) :: H) w) (hw : wantedL ops L o = some true) (hr : readyL L o = true)
  (hd : o.dst = some d) (hdn : Nat.blt d n = true) (ho : o.op = .next x false) (hx : Vc.ev L x = .pointer (some ⟨r, 0, none⟩))
  (hover : leftD m seen = [] → ∀ w', Hp w0 M (.obj r (.mapIter ob m.length seen m.length) :: H) w' → ∀ a', Frm n ((d, .tuple #[.bool false]) :: L) a' dd → wpList P ops Q rest a' w')
  (hstep : ∀ (p : κ × V) (j : Nat), (p, j) ∈ todoD m seen → ∀ w', Hp w0 M (.obj r (.mapIter ob m.length (seen.push j) m.length) :: H) w' → ∀ a', Frm n ((d, .tuple #[.bool true, ek p.1, ev p.2]) :: L) a' dd → wpList P ops Q rest a' w') :
  wpList P ops Q (o :: rest) a w := by
 rcases hK with ⟨b, rfl, hb⟩ | ⟨rfl, rfl⟩
 ·have hl : (m.map fun p => (p.1, ev p.2)).length = m.length := List.length_map ..
  have hp' := hp
  rw [← hl] at hp'
  refine W_next (enc := ek) (m := m.map fun (p : κ × V) => (p.1, ev p.2)) hf hp' hw hr hd hdn ho hx (hp.mem _ (mapO ek ev m) hb) ?_ ?_
  ·rw [todo_mapO, hl]
   intro h0
   exact hover (by unfold leftD; rw [List.map_eq_nil_iff] at h0 ⊢; exact h0)
  ·rw [todo_mapO, hl]
   intro q hq
   obtain ⟨z, hz, rfl⟩ := List.mem_map.1 hq
   exact hstep z.1 z.2 hz
 ·exact W_eq hf hw hr hd hdn (X_next_nil' ho hx (hp.ownObj 0 rfl)) (hover rfl w hp)
theorem todoD_get {π : Type} {m : List π} {seen : Array Nat} {p : π} {j : Nat} (h : (p, j) ∈ todoD m seen) : m[j]? = some p := by
 obtain ⟨h1, h2⟩ := List.mem_filter.1 h
 have h3 := List.mem_zipIdx h1
 obtain ⟨a, b, c⟩ := h3
 simp only [Nat.sub_zero] at c
 rw [c]
 exact List.getElem?_eq_getElem _
theorem X_entryM {ρ : Operand → Value} {o : Oper} {x : Operand} {r j : Nat} {ob : Option Nat} {m : List (κ × V)} {seen : Array Nat} {p : κ × V} (hK : KMapAt M ob ek ev m) (hp : Hp w0 M H w) (hj : (p, j) ∈ todoD m seen) (i : Nat) (he : H[i]? = some (.obj r (.mapIter ob m.length (seen.push j) m.length)))
  (ho : o.op = .entry x) (hx : ρ x = .pointer (some ⟨r, 0, none⟩)) : (execOp ρ o).run P w = .ok (.value (.tuple #[ek p.1, ev p.2])) w := by
 rcases hK with ⟨b, rfl, hb⟩ | ⟨rfl, rfl⟩
 ·have hl : (m.map fun p => (p.1, ev p.2)).length = m.length := List.length_map ..
  have hr := hp.ownObj i he
  rw [← hl] at hr
  exact X_entry (enc := ek) (m := m.map fun (p : κ × V) => (p.1, ev p.2)) (p := (p.1, ev p.2)) ho hx hr (hp.mem _ (mapO ek ev m) hb) (by rw [List.getElem?_map, todoD_get hj]; rfl)
 ·simp [todoD] at hj
end
end Go.Vc
end

section
namespace Go.Proofs.YtocefedhenhbfaaGreatDoor
open Go Go.Vc Go.RowKit
def kDisk : List UInt8 := [68, 105, 115, 107]
def kNet : List UInt8 := [78, 101, 116]
def kNode : List UInt8 := [78, 111, 100, 101]
def kRule : List UInt8 := [82, 117, 108, 101]
def dDisk : List (List UInt8 × TG0) := [([83, 105, 122, 101], ⟨[83, 105, 122, 101], 2, false⟩), ([84, 97, 103, 115], ⟨[84, 97, 103, 115], 4, false⟩), ([75, 105, 110, 100], ⟨[75, 105, 110, 100], 3, true⟩)]
def dNet : List (List UInt8 × TG0) := [([76, 97, 98, 101, 108], ⟨[76, 97, 98, 101, 108], 3, false⟩), ([82, 97, 110, 103, 101], ⟨[82, 97, 110, 103, 101], 3, true⟩)]
def dNode : List (List UInt8 × TG0) := [([67, 111, 117, 110, 116], ⟨[67, 111, 117, 110, 116], 2, false⟩), ([68, 105, 115, 107], ⟨[68, 105, 115, 107], 3, false⟩), ([73, 109, 97, 103, 101], ⟨[73, 109, 97, 103, 101], 3, true⟩), ([78, 101, 116], ⟨[78, 101, 116], 3, true⟩)]
def dRule : List (List UInt8 × TG0) := [([78, 111, 100, 101], ⟨[78, 111, 100, 101], 3, false⟩), ([80, 111, 114, 116], ⟨[80, 111, 114, 116], 2, true⟩)]
def propsD (kind : List UInt8) : List (List UInt8 × TG0) := bif decide (kDisk = kind) then dDisk else bif decide (kNet = kind) then dNet else bif decide (kNode = kind) then dNode else bif decide (kRule = kind) then dRule else []
def kindIn (kind : List UInt8) : Bool := decide (kDisk = kind) || (decide (kNet = kind) || (decide (kNode = kind) || decide (kRule = kind)))
def specE (x : TG0) : Value := .agg #[S x.fName, .int .i8 x.fKind, .bool x.fReplace]
def mapE (o : Option Nat) : Value := .map o
def allB (b1 b2 b3 b4 : Nat) : List (List UInt8 × Option Nat) := [(kDisk, some b1), (kNet, some b2), (kNode, some b3), (kRule, some b4)]
def blkOf (b1 b2 b3 b4 : Nat) (kind : List UInt8) : Option Nat := bif decide (kDisk = kind) then some b1 else bif decide (kNet = kind) then some b2 else bif decide (kNode = kind) then some b3 else bif decide (kRule = kind) then some b4 else none
structure AllAt (M : Mem) (b0 b1 b2 b3 b4 : Nat) : Prop where
  h0 : M b0 = some (mapO S mapE (allB b1 b2 b3 b4))
  h1 : M b1 = some (mapO S specE dDisk)
  h2 : M b2 = some (mapO S specE dNet)
  h3 : M b3 = some (mapO S specE dNode)
  h4 : M b4 = some (mapO S specE dRule)
theorem AllAt.mono {M M' : Mem} {b0 b1 b2 b3 b4 : Nat} (hM : M.le M') (h : AllAt M b0 b1 b2 b3 b4) : AllAt M' b0 b1 b2 b3 b4 := ⟨hM _ _ h.h0, hM _ _ h.h1, hM _ _ h.h2, hM _ _ h.h3, hM _ _ h.h4⟩
theorem mget_allB (b1 b2 b3 b4 : Nat) (kind : List UInt8) : (mget (allB b1 b2 b3 b4) kind).getD none = blkOf b1 b2 b3 b4 kind ∧ (mget (allB b1 b2 b3 b4) kind).isSome = kindIn kind := by
 unfold allB blkOf kindIn mget mget mget mget mget
 dsimp only
 by_cases h1 : kDisk = kind
 ·rw [if_pos h1, decide_eq_true h1]; exact ⟨rfl, rfl⟩
 rw [if_neg h1, decide_eq_false h1, cond_false, Bool.false_or]
 by_cases h2 : kNet = kind
 ·rw [if_pos h2, decide_eq_true h2]; exact ⟨rfl, rfl⟩
 rw [if_neg h2, decide_eq_false h2, cond_false, Bool.false_or]
 by_cases h3 : kNode = kind
 ·rw [if_pos h3, decide_eq_true h3]; exact ⟨rfl, rfl⟩
 rw [if_neg h3, decide_eq_false h3, cond_false, Bool.false_or]
 by_cases h4 : kRule = kind
 ·rw [if_pos h4, decide_eq_true h4]; exact ⟨rfl, rfl⟩
 rw [if_neg h4, decide_eq_false h4]
 exact ⟨rfl, rfl⟩
section
variable {P : Program} {ρ : Operand → Value} {o : Oper} {w0 w : World} {M : Mem} {H : List Ent} {b0 b1 b2 b3 b4 : Nat}
theorem X_all2 {t kt et : TypeId} {x ix : Operand} {k : List UInt8} (hA : AllAt M b0 b1 b2 b3 b4) (hp : Hp w0 M H w) (ho : o.op = .lookup t x ix true) (hx : ρ x = .map (some b0)) (hk : ρ ix = S k) (ht : P.underlying t = some (.map kt et)) (K : KeyLaw P kt S) (hz : (P.info? et).bind (·.zero) = some (.map none)) :
  (execOp ρ o).run P w = .ok (.value (.tuple #[.map (blkOf b1 b2 b3 b4 k), .bool (kindIn k)])) w := by
 have := X_lookup2 (ek := S) (ev := mapE) (m := allB b1 b2 b3 b4) (k := k) (z := none) ho hx hk ht K hz (hp.mem _ _ hA.h0)
 rw [(mget_allB b1 b2 b3 b4 k).1, (mget_allB b1 b2 b3 b4 k).2] at this
 exact this
theorem X_all1 {t kt et : TypeId} {x ix : Operand} {k : List UInt8} (hA : AllAt M b0 b1 b2 b3 b4) (hp : Hp w0 M H w) (ho : o.op = .lookup t x ix false) (hx : ρ x = .map (some b0)) (hk : ρ ix = S k) (ht : P.underlying t = some (.map kt et)) (K : KeyLaw P kt S) (hz : (P.info? et).bind (·.zero) = some (.map none)) :
  (execOp ρ o).run P w = .ok (.value (.map (blkOf b1 b2 b3 b4 k))) w := by
 have := X_lookup1 (ek := S) (ev := mapE) (m := allB b1 b2 b3 b4) (k := k) (z := none) ho hx hk ht K hz (hp.mem _ _ hA.h0)
 rw [(mget_allB b1 b2 b3 b4 k).1] at this
 exact this
theorem blk_at (hA : AllAt M b0 b1 b2 b3 b4) (kind : List UInt8) : (∃ b, blkOf b1 b2 b3 b4 kind = some b ∧ M b = some (mapO S specE (propsD kind))) ∨ (blkOf b1 b2 b3 b4 kind = none ∧ propsD kind = [] ∧ kindIn kind = false) := by
 unfold blkOf propsD kindIn
 by_cases h1 : kDisk = kind
 ·rw [decide_eq_true h1]; exact .inl ⟨b1, rfl, hA.h1⟩
 rw [decide_eq_false h1, cond_false, cond_false, Bool.false_or]
 by_cases h2 : kNet = kind
 ·rw [decide_eq_true h2]; exact .inl ⟨b2, rfl, hA.h2⟩
 rw [decide_eq_false h2, cond_false, cond_false, Bool.false_or]
 by_cases h3 : kNode = kind
 ·rw [decide_eq_true h3]; exact .inl ⟨b3, rfl, hA.h3⟩
 rw [decide_eq_false h3, cond_false, cond_false, Bool.false_or]
 by_cases h4 : kRule = kind
 ·rw [decide_eq_true h4]; exact .inl ⟨b4, rfl, hA.h4⟩
 rw [decide_eq_false h4]
 exact .inr ⟨rfl, rfl, rfl⟩
theorem kmap_of (hA : AllAt M b0 b1 b2 b3 b4) (kind : List UInt8) : KMapAt M (blkOf b1 b2 b3 b4 kind) S specE (propsD kind) := by
 rcases blk_at hA kind with h | ⟨h1, h2, _⟩
 ·exact .inl h
 ·exact .inr ⟨h1, h2⟩
def specAt (kind prop : List UInt8) : Option TG0 := mget (propsD kind) prop
theorem X_prop2 {t kt et : TypeId} {x ix : Operand} {k kind : List UInt8} {z : TG0} (hA : AllAt M b0 b1 b2 b3 b4) (hp : Hp w0 M H w) (ho : o.op = .lookup t x ix true) (hx : ρ x = .map (blkOf b1 b2 b3 b4 kind)) (hk : ρ ix = S k) (ht : P.underlying t = some (.map kt et)) (K : KeyLaw P kt S) (hz : (P.info? et).bind (·.zero) = some (specE z)) :
  (execOp ρ o).run P w = .ok (.value (.tuple #[specE ((specAt kind k).getD z), .bool (specAt kind k).isSome])) w := by
 rcases blk_at hA kind with ⟨b, h1, h2⟩ | ⟨h1, h2, _⟩
 ·rw [h1] at hx
  exact X_lookup2 (ek := S) (ev := specE) (m := propsD kind) (k := k) (z := z) ho hx hk ht K hz (hp.mem _ _ h2)
 ·rw [h1] at hx
  have := X_lookup_nil (ok := true) (enc := S) (k := k) ho hx hk ht K hz (w := w)
  rw [this]
  unfold specAt
  rw [h2]
  rfl
end
theorem X_lookupL {P : Program} {o : Oper} {ρ : Operand → Value} {w : World} {κ V : Type} [DecidableEq κ] {ek : κ → Value} {ev : V → Value} {t kt et : TypeId} {x ix : Operand} {b : Nat} {m : List (κ × V)} {k : κ} {z v : V} (ho : o.op = .lookup t x ix false) (hx : ρ x = .map (some b)) (hk : ρ ix = ek k) (ht : P.underlying t = some (.map kt et)) (K : KeyLaw P kt ek)
  (hz : (P.info? et).bind (·.zero) = some (ev z)) (hv : (mget m k).getD z = v) (hb : w.heap[b]? = some (mapO ek ev m)) : (execOp ρ o).run P w = .ok (.value (ev v)) w := by
 subst hv
 exact X_lookup1 ho hx hk ht K hz hb
theorem W_mapputL {P : Program} {ops : Array Oper} {n : Nat} {Q : Exit → Act → World → Prop} {L : Fr} {a : Act} {w0 w : World} {M : Mem} {H : List Ent} {κ V : Type} [DecidableEq κ] {ek : κ → Value} {ev : V → Value} {o : Oper} {rest : List Oper} {t kt et : TypeId} {x ix y : Operand} {b : Nat} {m m2 : List (κ × V)} {k : κ} {v : V} (hm : mput m k v = m2) (hf : Frm n L a) (hp : Hp w0 M (.obj b (mapO ek ev m) :: H) w) (hw : wantedL ops L o = some true) (hr : readyL L o = true) (hd : o.dst = none)
  (ho : o.op = .mapUpdate t x ix y ∨ o.op = .insert t x ix y) (hx : Vc.ev L x = .map (some b)) (hk : Vc.ev L ix = ek k) (hv : Vc.ev L y = ev v) (ht : P.underlying t = some (.map kt et)) (K : KeyLaw P kt ek)
  (hq : ∀ w', Hp w0 M (.obj b (mapO ek ev m2) :: H) w' → ∀ a', Frm n L a' → wpList P ops Q rest a' w') : wpList P ops Q (o :: rest) a w := by
 subst hm
 exact W_mapput hf hp hw hr hd ho hx hk hv ht K hq
theorem fzObj {w0 w : World} {M : Mem} {H : List Ent} {b : Nat} {o : Obj} (h : Hp w0 M (.obj b o :: H) w) : ∃ M', M.le M' ∧ Hp w0 M' H w ∧ M' b = some o :=
 ⟨_, h.freeze.1, h.freeze.2, by simp [Mem.add]⟩
theorem rounds_go {P : Program} {Q : Exit → Act → World → Prop} {c : Code} {n : Nat} {a : Act} {w : World} (h : c.wp P (Exit.then (Code.rounds P c Q n) Q) a w) : Code.rounds P c Q (n + 1) a w := h
set_option maxRecDepth 100000 in
set_option maxHeartbeats 4000000 in
theorem all_ok (M : Mem) : Ok Tryz.prog M 82 [] (fun M' v => ∃ b0 b1 b2 b3 b4, v = .map (some b0) ∧ AllAt M' b0 b1 b2 b3 b4) := by
 intro M1 hM0 w0 H w p0
 refine R_enter 47 Tryz.func82 rfl rfl (by simp) fun a0 f0 => RR (Y f0 1 fun _ f => eT (RR (W_newmap S mapE f p0 (by kernel_rfl) (by kernel_rfl) rfl rfl rfl fun o1 W1 N1 _ f => W_newmap S specE f N1 (by kernel_rfl) (by kernel_rfl) rfl rfl rfl fun o2 W2 N2 _ f => ?_)))
 have N3 := N2.pl [1]
 refine W_mapputL (ek := S) (ev := mapE) (m := ([] : List (List UInt8 × Option Nat))) (k := [68, 105, 115, 107]) (v := some o2) (m2 := [([68, 105, 115, 107], some o2)]) (kt := 9) (et := 130) (by kernel_rfl) f N3 (by kernel_rfl) (by kernel_rfl) rfl (.inr rfl) (by kernel_rfl) (by kernel_rfl) (by kernel_rfl) (by kernel_rfl) (strKey (by kernel_rfl)) fun W3 N4 _ f => W_newmap S specE f N4 (by kernel_rfl) (by kernel_rfl) rfl rfl rfl fun o3 W4 N5 _ f => ?_
 have N6 := N5.pl [1]
 refine W_mapputL (ek := S) (ev := mapE) (m := [([68, 105, 115, 107], some o2)]) (k := [78, 101, 116]) (v := some o3) (m2 := [([68, 105, 115, 107], some o2), ([78, 101, 116], some o3)]) (kt := 9) (et := 130) (by kernel_rfl) f N6 (by kernel_rfl) (by kernel_rfl) rfl (.inr rfl) (by kernel_rfl) (by kernel_rfl) (by kernel_rfl) (by kernel_rfl) (strKey (by kernel_rfl)) fun W5 N7 _ f => W_newmap S specE f N7 (by kernel_rfl) (by kernel_rfl) rfl rfl rfl fun o4 W6 N8 _ f => ?_
 have N9 := N8.pl [1]
 refine W_mapputL (ek := S) (ev := mapE) (m := [([68, 105, 115, 107], some o2), ([78, 101, 116], some o3)]) (k := [78, 111, 100, 101]) (v := some o4) (m2 := [([68, 105, 115, 107], some o2), ([78, 101, 116], some o3), ([78, 111, 100, 101], some o4)]) (kt := 9) (et := 130) (by kernel_rfl) f N9 (by kernel_rfl) (by kernel_rfl) rfl (.inr rfl) (by kernel_rfl) (by kernel_rfl) (by kernel_rfl) (by kernel_rfl) (strKey (by kernel_rfl)) fun W7 N10 _ f => W_newmap S specE f N10 (by kernel_rfl) (by kernel_rfl) rfl rfl rfl fun o5 W8 N11 _ f => ?_
 have N12 := N11.pl [1]
 refine W_mapputL (ek := S) (ev := mapE) (m := [([68, 105, 115, 107], some o2), ([78, 101, 116], some o3), ([78, 111, 100, 101], some o4)]) (k := [82, 117, 108, 101]) (v := some o5) (m2 := [([68, 105, 115, 107], some o2), ([78, 101, 116], some o3), ([78, 111, 100, 101], some o4), ([82, 117, 108, 101], some o5)]) (kt := 9) (et := 130) (by kernel_rfl) f N12 (by kernel_rfl) (by kernel_rfl) rfl (.inr rfl) (by kernel_rfl) (by kernel_rfl) (by kernel_rfl) (by kernel_rfl) (strKey (by kernel_rfl)) fun W9 N13 _ f => Y f 2 fun _ f => eT (R_seq (RR (Y f 24 fun _ f => eT (wp_block (wp_loop_rounds 12 (rounds_go (RR (Y f 1 fun _ f => eT (R_seq (Y8 f (wp_skip (T_n (R_seq (wp_block (RR (Y f 1 fun _ f => Y12 f N13 (.cells #[S [], S [], .int .i8 0, .bool false] 159 (0, 0)) fun Q1 W10 N14 _ f => Y28 (vs := [S [68, 105, 115, 107], S [83, 105, 122, 101], .int .i8 2, .bool false]) (j := 0) f N14 rfl rfl (by simp [Value.oneCell', S]) (by simp) (by decide) (cs' := #[S [68, 105, 115, 107], S [83, 105, 122, 101], .int .i8 2, .bool false]) rfl fun W11 N15 _ f => eT (R_reg (Y f 2 fun _ f => Z f (Y33 (v := S [68, 105, 115, 107]) rfl (ad := ⟨Q1, 0, none⟩) (N15.ownCell 0 rfl 0)) fun _ f => Z (v := .map (some o2)) f (X_lookupL (ek := S) (ev := mapE) (m := [([68, 105, 115, 107], some o2), ([78, 101, 116], some o3), ([78, 111, 100, 101], some o4), ([82, 117, 108, 101], some o5)]) (k := [68, 105, 115, 107]) (z := none) (v := some o2) (kt := 9) (et := 130) rfl (by kernel_rfl) (by kernel_rfl) (by kernel_rfl) (strKey (by kernel_rfl)) (by kernel_rfl) (by kernel_rfl) (N15.ownObj 1 rfl)) fun _ f => Y f 2 fun _ f => Z f (Y33 (v := S [83, 105, 122, 101]) rfl (ad := ⟨Q1, 1, none⟩) (N15.ownCell 0 rfl 1)) fun _ f => Y f 1 fun _ f => Z (v := .agg #[S [83, 105, 122, 101], .int .i8 2, .bool false]) f (Y34 (cs := [S [83, 105, 122, 101], .int .i8 2, .bool false]) rfl (ad := ⟨Q1, 1, none⟩) (own_cells (N15.ownCell 0 rfl) 1 rfl)) fun _ f => ?_))))))))))))))))))
 have N16 := N15.pl [5]
 refine W_mapputL (ek := S) (ev := specE) (m := ([] : List (List UInt8 × TG0))) (k := [83, 105, 122, 101]) (v := ⟨[83, 105, 122, 101], 2, false⟩) (m2 := [([83, 105, 122, 101], ⟨[83, 105, 122, 101], 2, false⟩)]) (kt := 9) (et := 135) (by kernel_rfl) f N16 (by kernel_rfl) (by kernel_rfl) rfl (.inl rfl) (by kernel_rfl) (by kernel_rfl) (by kernel_rfl) (by kernel_rfl) (strKey (by kernel_rfl)) fun W12 N17 _ f => W_end rfl (B_n (T_n (R_reg (Y f 2 fun _ f => eT (rounds_go (RR (Y f 1 fun _ f => eT (R_seq (Y8 f (wp_skip (T_n (R_seq (wp_block (RR (Y f 1 fun _ f => Y12 f N17 (.cells #[S [], S [], .int .i8 0, .bool false] 159 (0, 0)) fun Q2 W13 N18 _ f => Y28 (vs := [S [68, 105, 115, 107], S [84, 97, 103, 115], .int .i8 4, .bool false]) (j := 0) f N18 rfl rfl (by simp [Value.oneCell', S]) (by simp) (by decide) (cs' := #[S [68, 105, 115, 107], S [84, 97, 103, 115], .int .i8 4, .bool false]) rfl fun W14 N19 _ f => eT (R_reg (Y f 2 fun _ f => Z f (Y33 (v := S [68, 105, 115, 107]) rfl (ad := ⟨Q2, 0, none⟩) (N19.ownCell 0 rfl 0)) fun _ f => Z (v := .map (some o2)) f (X_lookupL (ek := S) (ev := mapE) (m := [([68, 105, 115, 107], some o2), ([78, 101, 116], some o3), ([78, 111, 100, 101], some o4), ([82, 117, 108, 101], some o5)]) (k := [68, 105, 115, 107]) (z := none) (v := some o2) (kt := 9) (et := 130) rfl (by kernel_rfl) (by kernel_rfl) (by kernel_rfl) (strKey (by kernel_rfl)) (by kernel_rfl) (by kernel_rfl) (N19.ownObj 3 rfl)) fun _ f => Y f 2 fun _ f => Z f (Y33 (v := S [84, 97, 103, 115]) rfl (ad := ⟨Q2, 1, none⟩) (N19.ownCell 0 rfl 1)) fun _ f => Y f 1 fun _ f => Z (v := .agg #[S [84, 97, 103, 115], .int .i8 4, .bool false]) f (Y34 (cs := [S [84, 97, 103, 115], .int .i8 4, .bool false]) rfl (ad := ⟨Q2, 1, none⟩) (own_cells (N19.ownCell 0 rfl) 1 rfl)) fun _ f => ?_)))))))))))))))))
 have N20 := N19.pl [1]
 refine W_mapputL (ek := S) (ev := specE) (m := [([83, 105, 122, 101], ⟨[83, 105, 122, 101], 2, false⟩)]) (k := [84, 97, 103, 115]) (v := ⟨[84, 97, 103, 115], 4, false⟩) (m2 := [([83, 105, 122, 101], ⟨[83, 105, 122, 101], 2, false⟩), ([84, 97, 103, 115], ⟨[84, 97, 103, 115], 4, false⟩)]) (kt := 9) (et := 135) (by kernel_rfl) f N20 (by kernel_rfl) (by kernel_rfl) rfl (.inl rfl) (by kernel_rfl) (by kernel_rfl) (by kernel_rfl) (by kernel_rfl) (strKey (by kernel_rfl)) fun W15 N21 _ f => W_end rfl (B_n (T_n (R_reg (Y f 2 fun _ f => eT (rounds_go (RR (Y f 1 fun _ f => eT (R_seq (Y8 f (wp_skip (T_n (R_seq (wp_block (RR (Y f 1 fun _ f => Y12 f N21 (.cells #[S [], S [], .int .i8 0, .bool false] 159 (0, 0)) fun Q3 W16 N22 _ f => Y28 (vs := [S [68, 105, 115, 107], S [75, 105, 110, 100], .int .i8 3, .bool true]) (j := 0) f N22 rfl rfl (by simp [Value.oneCell', S]) (by simp) (by decide) (cs' := #[S [68, 105, 115, 107], S [75, 105, 110, 100], .int .i8 3, .bool true]) rfl fun W17 N23 _ f => eT (R_reg (Y f 2 fun _ f => Z f (Y33 (v := S [68, 105, 115, 107]) rfl (ad := ⟨Q3, 0, none⟩) (N23.ownCell 0 rfl 0)) fun _ f => Z (v := .map (some o2)) f (X_lookupL (ek := S) (ev := mapE) (m := [([68, 105, 115, 107], some o2), ([78, 101, 116], some o3), ([78, 111, 100, 101], some o4), ([82, 117, 108, 101], some o5)]) (k := [68, 105, 115, 107]) (z := none) (v := some o2) (kt := 9) (et := 130) rfl (by kernel_rfl) (by kernel_rfl) (by kernel_rfl) (strKey (by kernel_rfl)) (by kernel_rfl) (by kernel_rfl) (N23.ownObj 4 rfl)) fun _ f => Y f 2 fun _ f => Z f (Y33 (v := S [75, 105, 110, 100]) rfl (ad := ⟨Q3, 1, none⟩) (N23.ownCell 0 rfl 1)) fun _ f => Y f 1 fun _ f => Z (v := .agg #[S [75, 105, 110, 100], .int .i8 3, .bool true]) f (Y34 (cs := [S [75, 105, 110, 100], .int .i8 3, .bool true]) rfl (ad := ⟨Q3, 1, none⟩) (own_cells (N23.ownCell 0 rfl) 1 rfl)) fun _ f => ?_)))))))))))))))))
 have N24 := N23.pl [1]
 refine W_mapputL (ek := S) (ev := specE) (m := [([83, 105, 122, 101], ⟨[83, 105, 122, 101], 2, false⟩), ([84, 97, 103, 115], ⟨[84, 97, 103, 115], 4, false⟩)]) (k := [75, 105, 110, 100]) (v := ⟨[75, 105, 110, 100], 3, true⟩) (m2 := [([83, 105, 122, 101], ⟨[83, 105, 122, 101], 2, false⟩), ([84, 97, 103, 115], ⟨[84, 97, 103, 115], 4, false⟩), ([75, 105, 110, 100], ⟨[75, 105, 110, 100], 3, true⟩)]) (kt := 9) (et := 135) (by kernel_rfl) f N24 (by kernel_rfl) (by kernel_rfl) rfl (.inl rfl) (by kernel_rfl) (by kernel_rfl) (by kernel_rfl) (by kernel_rfl) (strKey (by kernel_rfl)) fun W18 N25 _ f => W_end rfl (B_n (T_n (R_reg (Y f 2 fun _ f => eT (rounds_go (RR (Y f 1 fun _ f => eT (R_seq (Y8 f (wp_skip (T_n (R_seq (wp_block (RR (Y f 1 fun _ f => Y12 f N25 (.cells #[S [], S [], .int .i8 0, .bool false] 159 (0, 0)) fun Q4 W19 N26 _ f => Y28 (vs := [S [78, 101, 116], S [76, 97, 98, 101, 108], .int .i8 3, .bool false]) (j := 0) f N26 rfl rfl (by simp [Value.oneCell', S]) (by simp) (by decide) (cs' := #[S [78, 101, 116], S [76, 97, 98, 101, 108], .int .i8 3, .bool false]) rfl fun W20 N27 _ f => eT (R_reg (Y f 2 fun _ f => Z f (Y33 (v := S [78, 101, 116]) rfl (ad := ⟨Q4, 0, none⟩) (N27.ownCell 0 rfl 0)) fun _ f => Z (v := .map (some o3)) f (X_lookupL (ek := S) (ev := mapE) (m := [([68, 105, 115, 107], some o2), ([78, 101, 116], some o3), ([78, 111, 100, 101], some o4), ([82, 117, 108, 101], some o5)]) (k := [78, 101, 116]) (z := none) (v := some o3) (kt := 9) (et := 130) rfl (by kernel_rfl) (by kernel_rfl) (by kernel_rfl) (strKey (by kernel_rfl)) (by kernel_rfl) (by kernel_rfl) (N27.ownObj 5 rfl)) fun _ f => Y f 2 fun _ f => Z f (Y33 (v := S [76, 97, 98, 101, 108]) rfl (ad := ⟨Q4, 1, none⟩) (N27.ownCell 0 rfl 1)) fun _ f => Y f 1 fun _ f => Z (v := .agg #[S [76, 97, 98, 101, 108], .int .i8 3, .bool false]) f (Y34 (cs := [S [76, 97, 98, 101, 108], .int .i8 3, .bool false]) rfl (ad := ⟨Q4, 1, none⟩) (own_cells (N27.ownCell 0 rfl) 1 rfl)) fun _ f => ?_)))))))))))))))))
 have N28 := N27.pl [8]
 refine W_mapputL (ek := S) (ev := specE) (m := ([] : List (List UInt8 × TG0))) (k := [76, 97, 98, 101, 108]) (v := ⟨[76, 97, 98, 101, 108], 3, false⟩) (m2 := [([76, 97, 98, 101, 108], ⟨[76, 97, 98, 101, 108], 3, false⟩)]) (kt := 9) (et := 135) (by kernel_rfl) f N28 (by kernel_rfl) (by kernel_rfl) rfl (.inl rfl) (by kernel_rfl) (by kernel_rfl) (by kernel_rfl) (by kernel_rfl) (strKey (by kernel_rfl)) fun W21 N29 _ f => W_end rfl (B_n (T_n (R_reg (Y f 2 fun _ f => eT (rounds_go (RR (Y f 1 fun _ f => eT (R_seq (Y8 f (wp_skip (T_n (R_seq (wp_block (RR (Y f 1 fun _ f => Y12 f N29 (.cells #[S [], S [], .int .i8 0, .bool false] 159 (0, 0)) fun Q5 W22 N30 _ f => Y28 (vs := [S [78, 101, 116], S [82, 97, 110, 103, 101], .int .i8 3, .bool true]) (j := 0) f N30 rfl rfl (by simp [Value.oneCell', S]) (by simp) (by decide) (cs' := #[S [78, 101, 116], S [82, 97, 110, 103, 101], .int .i8 3, .bool true]) rfl fun W23 N31 _ f => eT (R_reg (Y f 2 fun _ f => Z f (Y33 (v := S [78, 101, 116]) rfl (ad := ⟨Q5, 0, none⟩) (N31.ownCell 0 rfl 0)) fun _ f => Z (v := .map (some o3)) f (X_lookupL (ek := S) (ev := mapE) (m := [([68, 105, 115, 107], some o2), ([78, 101, 116], some o3), ([78, 111, 100, 101], some o4), ([82, 117, 108, 101], some o5)]) (k := [78, 101, 116]) (z := none) (v := some o3) (kt := 9) (et := 130) rfl (by kernel_rfl) (by kernel_rfl) (by kernel_rfl) (strKey (by kernel_rfl)) (by kernel_rfl) (by kernel_rfl) (N31.ownObj 7 rfl)) fun _ f => Y f 2 fun _ f => Z f (Y33 (v := S [82, 97, 110, 103, 101]) rfl (ad := ⟨Q5, 1, none⟩) (N31.ownCell 0 rfl 1)) fun _ f => Y f 1 fun _ f => Z (v := .agg #[S [82, 97, 110, 103, 101], .int .i8 3, .bool true]) f (Y34 (cs := [S [82, 97, 110, 103, 101], .int .i8 3, .bool true]) rfl (ad := ⟨Q5, 1, none⟩) (own_cells (N31.ownCell 0 rfl) 1 rfl)) fun _ f => ?_)))))))))))))))))
 have N32 := N31.pl [1]
 refine W_mapputL (ek := S) (ev := specE) (m := [([76, 97, 98, 101, 108], ⟨[76, 97, 98, 101, 108], 3, false⟩)]) (k := [82, 97, 110, 103, 101]) (v := ⟨[82, 97, 110, 103, 101], 3, true⟩) (m2 := [([76, 97, 98, 101, 108], ⟨[76, 97, 98, 101, 108], 3, false⟩), ([82, 97, 110, 103, 101], ⟨[82, 97, 110, 103, 101], 3, true⟩)]) (kt := 9) (et := 135) (by kernel_rfl) f N32 (by kernel_rfl) (by kernel_rfl) rfl (.inl rfl) (by kernel_rfl) (by kernel_rfl) (by kernel_rfl) (by kernel_rfl) (strKey (by kernel_rfl)) fun W24 N33 _ f => W_end rfl (B_n (T_n (R_reg (Y f 2 fun _ f => eT (rounds_go (RR (Y f 1 fun _ f => eT (R_seq (Y8 f (wp_skip (T_n (R_seq (wp_block (RR (Y f 1 fun _ f => Y12 f N33 (.cells #[S [], S [], .int .i8 0, .bool false] 159 (0, 0)) fun Q6 W25 N34 _ f => Y28 (vs := [S [78, 111, 100, 101], S [67, 111, 117, 110, 116], .int .i8 2, .bool false]) (j := 0) f N34 rfl rfl (by simp [Value.oneCell', S]) (by simp) (by decide) (cs' := #[S [78, 111, 100, 101], S [67, 111, 117, 110, 116], .int .i8 2, .bool false]) rfl fun W26 N35 _ f => eT (R_reg (Y f 2 fun _ f => Z f (Y33 (v := S [78, 111, 100, 101]) rfl (ad := ⟨Q6, 0, none⟩) (N35.ownCell 0 rfl 0)) fun _ f => Z (v := .map (some o4)) f (X_lookupL (ek := S) (ev := mapE) (m := [([68, 105, 115, 107], some o2), ([78, 101, 116], some o3), ([78, 111, 100, 101], some o4), ([82, 117, 108, 101], some o5)]) (k := [78, 111, 100, 101]) (z := none) (v := some o4) (kt := 9) (et := 130) rfl (by kernel_rfl) (by kernel_rfl) (by kernel_rfl) (strKey (by kernel_rfl)) (by kernel_rfl) (by kernel_rfl) (N35.ownObj 8 rfl)) fun _ f => Y f 2 fun _ f => Z f (Y33 (v := S [67, 111, 117, 110, 116]) rfl (ad := ⟨Q6, 1, none⟩) (N35.ownCell 0 rfl 1)) fun _ f => Y f 1 fun _ f => Z (v := .agg #[S [67, 111, 117, 110, 116], .int .i8 2, .bool false]) f (Y34 (cs := [S [67, 111, 117, 110, 116], .int .i8 2, .bool false]) rfl (ad := ⟨Q6, 1, none⟩) (own_cells (N35.ownCell 0 rfl) 1 rfl)) fun _ f => ?_)))))))))))))))))
 have N36 := N35.pl [10]
 refine W_mapputL (ek := S) (ev := specE) (m := ([] : List (List UInt8 × TG0))) (k := [67, 111, 117, 110, 116]) (v := ⟨[67, 111, 117, 110, 116], 2, false⟩) (m2 := [([67, 111, 117, 110, 116], ⟨[67, 111, 117, 110, 116], 2, false⟩)]) (kt := 9) (et := 135) (by kernel_rfl) f N36 (by kernel_rfl) (by kernel_rfl) rfl (.inl rfl) (by kernel_rfl) (by kernel_rfl) (by kernel_rfl) (by kernel_rfl) (strKey (by kernel_rfl)) fun W27 N37 _ f => W_end rfl (B_n (T_n (R_reg (Y f 2 fun _ f => eT (rounds_go (RR (Y f 1 fun _ f => eT (R_seq (Y8 f (wp_skip (T_n (R_seq (wp_block (RR (Y f 1 fun _ f => Y12 f N37 (.cells #[S [], S [], .int .i8 0, .bool false] 159 (0, 0)) fun Q7 W28 N38 _ f => Y28 (vs := [S [78, 111, 100, 101], S [68, 105, 115, 107], .int .i8 3, .bool false]) (j := 0) f N38 rfl rfl (by simp [Value.oneCell', S]) (by simp) (by decide) (cs' := #[S [78, 111, 100, 101], S [68, 105, 115, 107], .int .i8 3, .bool false]) rfl fun W29 N39 _ f => eT (R_reg (Y f 2 fun _ f => Z f (Y33 (v := S [78, 111, 100, 101]) rfl (ad := ⟨Q7, 0, none⟩) (N39.ownCell 0 rfl 0)) fun _ f => Z (v := .map (some o4)) f (X_lookupL (ek := S) (ev := mapE) (m := [([68, 105, 115, 107], some o2), ([78, 101, 116], some o3), ([78, 111, 100, 101], some o4), ([82, 117, 108, 101], some o5)]) (k := [78, 111, 100, 101]) (z := none) (v := some o4) (kt := 9) (et := 130) rfl (by kernel_rfl) (by kernel_rfl) (by kernel_rfl) (strKey (by kernel_rfl)) (by kernel_rfl) (by kernel_rfl) (N39.ownObj 10 rfl)) fun _ f => Y f 2 fun _ f => Z f (Y33 (v := S [68, 105, 115, 107]) rfl (ad := ⟨Q7, 1, none⟩) (N39.ownCell 0 rfl 1)) fun _ f => Y f 1 fun _ f => Z (v := .agg #[S [68, 105, 115, 107], .int .i8 3, .bool false]) f (Y34 (cs := [S [68, 105, 115, 107], .int .i8 3, .bool false]) rfl (ad := ⟨Q7, 1, none⟩) (own_cells (N39.ownCell 0 rfl) 1 rfl)) fun _ f => ?_)))))))))))))))))
 have N40 := N39.pl [1]
 refine W_mapputL (ek := S) (ev := specE) (m := [([67, 111, 117, 110, 116], ⟨[67, 111, 117, 110, 116], 2, false⟩)]) (k := [68, 105, 115, 107]) (v := ⟨[68, 105, 115, 107], 3, false⟩) (m2 := [([67, 111, 117, 110, 116], ⟨[67, 111, 117, 110, 116], 2, false⟩), ([68, 105, 115, 107], ⟨[68, 105, 115, 107], 3, false⟩)]) (kt := 9) (et := 135) (by kernel_rfl) f N40 (by kernel_rfl) (by kernel_rfl) rfl (.inl rfl) (by kernel_rfl) (by kernel_rfl) (by kernel_rfl) (by kernel_rfl) (strKey (by kernel_rfl)) fun W30 N41 _ f => W_end rfl (B_n (T_n (R_reg (Y f 2 fun _ f => eT (rounds_go (RR (Y f 1 fun _ f => eT (R_seq (Y8 f (wp_skip (T_n (R_seq (wp_block (RR (Y f 1 fun _ f => Y12 f N41 (.cells #[S [], S [], .int .i8 0, .bool false] 159 (0, 0)) fun Q8 W31 N42 _ f => Y28 (vs := [S [78, 111, 100, 101], S [73, 109, 97, 103, 101], .int .i8 3, .bool true]) (j := 0) f N42 rfl rfl (by simp [Value.oneCell', S]) (by simp) (by decide) (cs' := #[S [78, 111, 100, 101], S [73, 109, 97, 103, 101], .int .i8 3, .bool true]) rfl fun W32 N43 _ f => eT (R_reg (Y f 2 fun _ f => Z f (Y33 (v := S [78, 111, 100, 101]) rfl (ad := ⟨Q8, 0, none⟩) (N43.ownCell 0 rfl 0)) fun _ f => Z (v := .map (some o4)) f (X_lookupL (ek := S) (ev := mapE) (m := [([68, 105, 115, 107], some o2), ([78, 101, 116], some o3), ([78, 111, 100, 101], some o4), ([82, 117, 108, 101], some o5)]) (k := [78, 111, 100, 101]) (z := none) (v := some o4) (kt := 9) (et := 130) rfl (by kernel_rfl) (by kernel_rfl) (by kernel_rfl) (strKey (by kernel_rfl)) (by kernel_rfl) (by kernel_rfl) (N43.ownObj 11 rfl)) fun _ f => Y f 2 fun _ f => Z f (Y33 (v := S [73, 109, 97, 103, 101]) rfl (ad := ⟨Q8, 1, none⟩) (N43.ownCell 0 rfl 1)) fun _ f => Y f 1 fun _ f => Z (v := .agg #[S [73, 109, 97, 103, 101], .int .i8 3, .bool true]) f (Y34 (cs := [S [73, 109, 97, 103, 101], .int .i8 3, .bool true]) rfl (ad := ⟨Q8, 1, none⟩) (own_cells (N43.ownCell 0 rfl) 1 rfl)) fun _ f => ?_)))))))))))))))))
 have N44 := N43.pl [1]
 refine W_mapputL (ek := S) (ev := specE) (m := [([67, 111, 117, 110, 116], ⟨[67, 111, 117, 110, 116], 2, false⟩), ([68, 105, 115, 107], ⟨[68, 105, 115, 107], 3, false⟩)]) (k := [73, 109, 97, 103, 101]) (v := ⟨[73, 109, 97, 103, 101], 3, true⟩) (m2 := [([67, 111, 117, 110, 116], ⟨[67, 111, 117, 110, 116], 2, false⟩), ([68, 105, 115, 107], ⟨[68, 105, 115, 107], 3, false⟩), ([73, 109, 97, 103, 101], ⟨[73, 109, 97, 103, 101], 3, true⟩)]) (kt := 9) (et := 135) (by kernel_rfl) f N44 (by kernel_rfl) (by kernel_rfl) rfl (.inl rfl) (by kernel_rfl) (by kernel_rfl) (by kernel_rfl) (by kernel_rfl) (strKey (by kernel_rfl)) fun W33 N45 _ f => W_end rfl (B_n (T_n (R_reg (Y f 2 fun _ f => eT (rounds_go (RR (Y f 1 fun _ f => eT (R_seq (Y8 f (wp_skip (T_n (R_seq (wp_block (RR (Y f 1 fun _ f => Y12 f N45 (.cells #[S [], S [], .int .i8 0, .bool false] 159 (0, 0)) fun Q9 W34 N46 _ f => Y28 (vs := [S [78, 111, 100, 101], S [78, 101, 116], .int .i8 3, .bool true]) (j := 0) f N46 rfl rfl (by simp [Value.oneCell', S]) (by simp) (by decide) (cs' := #[S [78, 111, 100, 101], S [78, 101, 116], .int .i8 3, .bool true]) rfl fun W35 N47 _ f => eT (R_reg (Y f 2 fun _ f => Z f (Y33 (v := S [78, 111, 100, 101]) rfl (ad := ⟨Q9, 0, none⟩) (N47.ownCell 0 rfl 0)) fun _ f => Z (v := .map (some o4)) f (X_lookupL (ek := S) (ev := mapE) (m := [([68, 105, 115, 107], some o2), ([78, 101, 116], some o3), ([78, 111, 100, 101], some o4), ([82, 117, 108, 101], some o5)]) (k := [78, 111, 100, 101]) (z := none) (v := some o4) (kt := 9) (et := 130) rfl (by kernel_rfl) (by kernel_rfl) (by kernel_rfl) (strKey (by kernel_rfl)) (by kernel_rfl) (by kernel_rfl) (N47.ownObj 12 rfl)) fun _ f => Y f 2 fun _ f => Z f (Y33 (v := S [78, 101, 116]) rfl (ad := ⟨Q9, 1, none⟩) (N47.ownCell 0 rfl 1)) fun _ f => Y f 1 fun _ f => Z (v := .agg #[S [78, 101, 116], .int .i8 3, .bool true]) f (Y34 (cs := [S [78, 101, 116], .int .i8 3, .bool true]) rfl (ad := ⟨Q9, 1, none⟩) (own_cells (N47.ownCell 0 rfl) 1 rfl)) fun _ f => ?_)))))))))))))))))
 have N48 := N47.pl [1]
 refine W_mapputL (ek := S) (ev := specE) (m := [([67, 111, 117, 110, 116], ⟨[67, 111, 117, 110, 116], 2, false⟩), ([68, 105, 115, 107], ⟨[68, 105, 115, 107], 3, false⟩), ([73, 109, 97, 103, 101], ⟨[73, 109, 97, 103, 101], 3, true⟩)]) (k := [78, 101, 116]) (v := ⟨[78, 101, 116], 3, true⟩) (m2 := [([67, 111, 117, 110, 116], ⟨[67, 111, 117, 110, 116], 2, false⟩), ([68, 105, 115, 107], ⟨[68, 105, 115, 107], 3, false⟩), ([73, 109, 97, 103, 101], ⟨[73, 109, 97, 103, 101], 3, true⟩), ([78, 101, 116], ⟨[78, 101, 116], 3, true⟩)]) (kt := 9) (et := 135) (by kernel_rfl) f N48 (by kernel_rfl) (by kernel_rfl) rfl (.inl rfl) (by kernel_rfl) (by kernel_rfl) (by kernel_rfl) (by kernel_rfl) (strKey (by kernel_rfl)) fun W36 N49 _ f => W_end rfl (B_n (T_n (R_reg (Y f 2 fun _ f => eT (rounds_go (RR (Y f 1 fun _ f => eT (R_seq (Y8 f (wp_skip (T_n (R_seq (wp_block (RR (Y f 1 fun _ f => Y12 f N49 (.cells #[S [], S [], .int .i8 0, .bool false] 159 (0, 0)) fun Q10 W37 N50 _ f => Y28 (vs := [S [82, 117, 108, 101], S [78, 111, 100, 101], .int .i8 3, .bool false]) (j := 0) f N50 rfl rfl (by simp [Value.oneCell', S]) (by simp) (by decide) (cs' := #[S [82, 117, 108, 101], S [78, 111, 100, 101], .int .i8 3, .bool false]) rfl fun W38 N51 _ f => eT (R_reg (Y f 2 fun _ f => Z f (Y33 (v := S [82, 117, 108, 101]) rfl (ad := ⟨Q10, 0, none⟩) (N51.ownCell 0 rfl 0)) fun _ f => Z (v := .map (some o5)) f (X_lookupL (ek := S) (ev := mapE) (m := [([68, 105, 115, 107], some o2), ([78, 101, 116], some o3), ([78, 111, 100, 101], some o4), ([82, 117, 108, 101], some o5)]) (k := [82, 117, 108, 101]) (z := none) (v := some o5) (kt := 9) (et := 130) rfl (by kernel_rfl) (by kernel_rfl) (by kernel_rfl) (strKey (by kernel_rfl)) (by kernel_rfl) (by kernel_rfl) (N51.ownObj 13 rfl)) fun _ f => Y f 2 fun _ f => Z f (Y33 (v := S [78, 111, 100, 101]) rfl (ad := ⟨Q10, 1, none⟩) (N51.ownCell 0 rfl 1)) fun _ f => Y f 1 fun _ f => Z (v := .agg #[S [78, 111, 100, 101], .int .i8 3, .bool false]) f (Y34 (cs := [S [78, 111, 100, 101], .int .i8 3, .bool false]) rfl (ad := ⟨Q10, 1, none⟩) (own_cells (N51.ownCell 0 rfl) 1 rfl)) fun _ f => ?_)))))))))))))))))
 have N52 := N51.pl [14]
 refine W_mapputL (ek := S) (ev := specE) (m := ([] : List (List UInt8 × TG0))) (k := [78, 111, 100, 101]) (v := ⟨[78, 111, 100, 101], 3, false⟩) (m2 := [([78, 111, 100, 101], ⟨[78, 111, 100, 101], 3, false⟩)]) (kt := 9) (et := 135) (by kernel_rfl) f N52 (by kernel_rfl) (by kernel_rfl) rfl (.inl rfl) (by kernel_rfl) (by kernel_rfl) (by kernel_rfl) (by kernel_rfl) (strKey (by kernel_rfl)) fun W39 N53 _ f => W_end rfl (B_n (T_n (R_reg (Y f 2 fun _ f => eT (rounds_go (RR (Y f 1 fun _ f => eT (R_seq (Y8 f (wp_skip (T_n (R_seq (wp_block (RR (Y f 1 fun _ f => Y12 f N53 (.cells #[S [], S [], .int .i8 0, .bool false] 159 (0, 0)) fun Q11 W40 N54 _ f => Y28 (vs := [S [82, 117, 108, 101], S [80, 111, 114, 116], .int .i8 2, .bool true]) (j := 0) f N54 rfl rfl (by simp [Value.oneCell', S]) (by simp) (by decide) (cs' := #[S [82, 117, 108, 101], S [80, 111, 114, 116], .int .i8 2, .bool true]) rfl fun W41 N55 _ f => eT (R_reg (Y f 2 fun _ f => Z f (Y33 (v := S [82, 117, 108, 101]) rfl (ad := ⟨Q11, 0, none⟩) (N55.ownCell 0 rfl 0)) fun _ f => Z (v := .map (some o5)) f (X_lookupL (ek := S) (ev := mapE) (m := [([68, 105, 115, 107], some o2), ([78, 101, 116], some o3), ([78, 111, 100, 101], some o4), ([82, 117, 108, 101], some o5)]) (k := [82, 117, 108, 101]) (z := none) (v := some o5) (kt := 9) (et := 130) rfl (by kernel_rfl) (by kernel_rfl) (by kernel_rfl) (strKey (by kernel_rfl)) (by kernel_rfl) (by kernel_rfl) (N55.ownObj 15 rfl)) fun _ f => Y f 2 fun _ f => Z f (Y33 (v := S [80, 111, 114, 116]) rfl (ad := ⟨Q11, 1, none⟩) (N55.ownCell 0 rfl 1)) fun _ f => Y f 1 fun _ f => Z (v := .agg #[S [80, 111, 114, 116], .int .i8 2, .bool true]) f (Y34 (cs := [S [80, 111, 114, 116], .int .i8 2, .bool true]) rfl (ad := ⟨Q11, 1, none⟩) (own_cells (N55.ownCell 0 rfl) 1 rfl)) fun _ f => ?_)))))))))))))))))
 have N56 := N55.pl [1]
 refine W_mapputL (ek := S) (ev := specE) (m := [([78, 111, 100, 101], ⟨[78, 111, 100, 101], 3, false⟩)]) (k := [80, 111, 114, 116]) (v := ⟨[80, 111, 114, 116], 2, true⟩) (m2 := [([78, 111, 100, 101], ⟨[78, 111, 100, 101], 3, false⟩), ([80, 111, 114, 116], ⟨[80, 111, 114, 116], 2, true⟩)]) (kt := 9) (et := 135) (by kernel_rfl) f N56 (by kernel_rfl) (by kernel_rfl) rfl (.inl rfl) (by kernel_rfl) (by kernel_rfl) (by kernel_rfl) (by kernel_rfl) (strKey (by kernel_rfl)) fun W42 N57 _ f => W_end rfl (B_n (T_n (R_reg (Y f 2 fun _ f => eT (rounds_go (RR (Y f 1 fun _ f => eT (R_seq (Y7 f (wp_exit (T_x (T_x (B_x (T_n (RR (Y f 2 fun _ f => eT (wp_ret ?_)))))))))))))))))
 have N58 := N57.pl [15]
 obtain ⟨V1, J1, N59, B1⟩ := fzObj N58
 have N60 := N59.pl [11]
 obtain ⟨V2, J2, N61, B2⟩ := fzObj N60
 have N62 := N61.pl [8]
 obtain ⟨V3, J3, N63, B3⟩ := fzObj N62
 have N64 := N63.pl [3]
 obtain ⟨V4, J4, N65, B4⟩ := fzObj N64
 obtain ⟨V5, J5, N66, B5⟩ := fzObj N65
 refine E_ret1 f rfl (by kernel_rfl : Vc.look _ 0 = some (.map (some o1))) ?_
 exact ⟨_, rfl, V5, ((((J1.trans J2).trans J3).trans J4).trans J5), (N66.dropN 11), o1, o2, o3, o4, o5, rfl, ⟨((((J2.trans J3).trans J4).trans J5) _ _ B1), (((J3.trans J4).trans J5) _ _ B2), ((J4.trans J5) _ _ B3), (J5 _ _ B4), B5⟩⟩
def schema_Find (n : Nat) (d0 : List UInt8) (d1 : List UInt8) : Option (TG0 × Bool) :=
  some ((((specAt d0 d1).getD z_TG0), ((specAt d0 d1).isSome)))
theorem schema_Find_ok (n : Nat) (M : Mem) (hG : GL M) (d0 : List UInt8) (d1 : List UInt8) (r : TG0 × Bool) (hF : schema_Find n d0 d1 = some r) : Ok Tryz.prog M 83 [S d0, S d1] (fun M' v => ∃ (c0 : List Value), v = .tuple #[.agg c0.toArray, .bool r.2] ∧ Rep M' (emb_TG0 r.1) c0) := by
 unfold schema_Find at hF
 intro M1 hM0 w0 H w p0
 replace hG := GL.mono hM0 hG
 refine R_enter 18 Tryz.func83 rfl rfl (by simp) fun a0 f0 => RR (Y12 f0 p0 (.cells #[S [], .int .i8 0, .bool false] 135 (0, 0)) fun Q1 W1 N1 _ f => Y f 1 fun _ f => eT (RR (Y16 f N1 (all_ok _) fun _ V1 W2 J1 N2 q_1 _ f => ?_)))
 obtain ⟨Q2, Q3, Q4, Q5, Q6, rfl, hA_1⟩ := q_1
 refine Y f 1 fun _ f => Z (v := .map (blkOf Q3 Q4 Q5 Q6 d0)) f (X_all1 (k := d0) (kt := 9) (et := 130) hA_1 N2 rfl (by kernel_rfl) (by kernel_rfl) (by kernel_rfl) (strKey (by kernel_rfl)) (by kernel_rfl)) fun _ f => Y f 1 fun _ f => Z (v := .tuple #[.agg #[S ((specAt d0 d1).getD z_TG0).fName, .int .i8 ((specAt d0 d1).getD z_TG0).fKind, .bool ((specAt d0 d1).getD z_TG0).fReplace], .bool (specAt d0 d1).isSome]) f (X_prop2 (k := d1) (kind := d0) (z := z_TG0) (kt := 9) (et := 135) hA_1 N2 rfl (by kernel_rfl) (by kernel_rfl) (by kernel_rfl) (strKey (by kernel_rfl)) (by kernel_rfl)) fun _ f => Y f 3 fun _ f => Y12 f N2 (.cells #[S [], .int .i8 0, .bool false] 135 (0, 0)) fun Q7 W3 N3 _ f => Y28 (vs := [S ((specAt d0 d1).getD z_TG0).fName, .int .i8 ((specAt d0 d1).getD z_TG0).fKind, .bool ((specAt d0 d1).getD z_TG0).fReplace]) (j := 0) f N3 rfl rfl (by simp [Value.oneCell', S]) (by simp) (by decide) (cs' := #[S ((specAt d0 d1).getD z_TG0).fName, .int .i8 ((specAt d0 d1).getD z_TG0).fKind, .bool ((specAt d0 d1).getD z_TG0).fReplace]) (by kernel_rfl) fun W4 N4 _ f => Y f 1 fun _ f => eT (RR (Z (v := .agg #[S ((specAt d0 d1).getD z_TG0).fName, .int .i8 ((specAt d0 d1).getD z_TG0).fKind, .bool ((specAt d0 d1).getD z_TG0).fReplace]) f (Y34 (cs := [S ((specAt d0 d1).getD z_TG0).fName, .int .i8 ((specAt d0 d1).getD z_TG0).fKind, .bool ((specAt d0 d1).getD z_TG0).fReplace]) rfl (ad := ⟨Q7, 0, none⟩) (own_cells (N4.ownCell 0 rfl) 0 rfl)) fun _ f => Y f 1 fun _ f => ?_))
 have N5 := N4.pl [1]
 refine Y28 (vs := [S ((specAt d0 d1).getD z_TG0).fName, .int .i8 ((specAt d0 d1).getD z_TG0).fKind, .bool ((specAt d0 d1).getD z_TG0).fReplace]) (j := 0) f N5 rfl rfl (by simp [Value.oneCell', S]) (by simp) (by decide) (cs' := #[S ((specAt d0 d1).getD z_TG0).fName, .int .i8 ((specAt d0 d1).getD z_TG0).fKind, .bool ((specAt d0 d1).getD z_TG0).fReplace]) (by kernel_rfl) fun W5 N6 _ f => Y f 1 fun _ f => eT (wp_ret (E_rv2 f rfl (Y10 (cs := [S ((specAt d0 d1).getD z_TG0).fName, .int .i8 ((specAt d0 d1).getD z_TG0).fKind, .bool ((specAt d0 d1).getD z_TG0).fReplace]) (ad := ⟨Q1, 0, none⟩) f (own_cells (N6.ownCell 0 rfl) 0 rfl)) (Y11 (v := .bool (specAt d0 d1).isSome) f) ?_))
 obtain rfl := sI hF
 exact ⟨_, rfl, V1, J1, (N6.dropN 2), ⟨[S ((specAt d0 d1).getD z_TG0).fName, .int .i8 ((specAt d0 d1).getD z_TG0).fKind, .bool ((specAt d0 d1).getD z_TG0).fReplace], rfl, (TG0.shutx (x := ((specAt d0 d1).getD z_TG0)) )⟩⟩
def print_Word (n : Nat) (d0 : List UInt8) : Option Bool :=
  bif (decide ((d0.length : Int) ≤ 64)) then
    ((runes_Valid n d0).bind fun X1 =>
    some ((X1)))
  else
    some ((false))
theorem print_Word_ok (n : Nat) (M : Mem) (hG : GL M) (d0 : List UInt8) (r : Bool) (hF : print_Word n d0 = some r) : Ok Tryz.prog M 15 [S d0] (fun _ v => v = .bool r) := by
 unfold print_Word at hF
 intro M1 hM0 w0 H w p0
 replace hG := GL.mono hM0 hG
 refine R_enter 10 Tryz.func15 rfl rfl (by simp) fun a0 f0 => RR (Y f0 1 fun _ f => eT (RR (Y f 4 fun _ f => ?_)))
 rcases cE hF with ⟨B1, F1⟩ | ⟨B1, F3⟩
 ·have U1 := dI.1 B1
  have f := f.st 6 (cB B1)
  refine Y f 1 fun _ f => ?_
  obtain ⟨X1, S1, F2⟩ := bS F1
  refine Y18 f p0 (runes_Valid_ok n _ hG d0 X1 S1) fun W1 N1 _ f => Y f 2 fun _ f => eT (wp_ret (E_ret1 f rfl (by kernel_rfl : Vc.look _ 2 = some (.bool X1)) ?_))
  obtain rfl := sI F2
  exact ⟨_, rfl, M1, (mR _), N1, rfl⟩
 ·have U2 := iff_f dI B1
  have f := f.st 6 (cB B1)
  refine Y f 4 fun _ f => eT (wp_ret (E_ret1 f rfl (by kernel_rfl : Vc.look _ 2 = some (.bool false)) ?_))
  obtain rfl := sI F3
  exact ⟨_, rfl, M1, (mR _), p0, rfl⟩
end Go.Proofs.YtocefedhenhbfaaGreatDoor
end
