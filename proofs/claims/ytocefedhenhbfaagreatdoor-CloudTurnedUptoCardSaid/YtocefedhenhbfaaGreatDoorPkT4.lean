/-
  Texts of this claim, packed (what nothing names is left out): S3, SchemaP2, S5, SchemaP3, SchemaP4, SchemaP5, Q2h, Q2g, Q2i, TreeR, R1, AllN, SchemaP6, Num, NumC, TextC, Num2. Own work, partly printed by own programs. No condition.
-/
import Derived.Test.YtocefedhenhbfaaGreatDoorPkT3
import Derived.Test.YtocefedhenhbfaaGreatDoorPkT1
import Derived.Test.YtocefedhenhbfaaGreatDoorPkT2
import Derived.Test.YtocefedhenhbfaaGreatDoorRows
import GoSem.Op.String
set_option linter.unusedVariables false
set_option linter.unusedSimpArgs false
set_option maxHeartbeats 2000000
section
namespace Go.Proofs.YtocefedhenhbfaaGreatDoor
open Go Go.Vc Go.RowKit
def schema_value_1_2 (n : Nat) (rec_schema_value : TE0 → Int → Option Bool) (d0 : TE0) : Option Bool :=
  (rec_schema_value d0 (3 : Int)).bind fun X1 =>
  some ((!X1))
theorem schema_value_1_2_ok (n : Nat) (rec_schema_value : TE0 → Int → Option Bool) (hrec_schema_value : ∀ (M : Mem) (hG : GL M) (ad0 : Addr) (c0 : List Value) (d0 : TE0) (h0 : Rep M (emb_TE0 d0) c0) (q0 : ∀ j v, c0[j]? = some v → M.cell? (ad0.add j) = some v) (d1 : Int) (r : Bool) (hF : rec_schema_value d0 d1 = some r), Ok Tryz.prog M 84 [.pointer (some ad0), .int .i8 d1] (fun _ v => v = .bool r)) (M : Mem) (hG : GL M) (c0 : List Value) (d0 : TE0) (h0 : Rep M (emb_TE0 d0) c0) (r : Bool) (hF : schema_value_1_2 n rec_schema_value d0 = some r) : Ok Tryz.prog M 106 [.agg c0.toArray] (fun _ v => v = .bool r) := by
 unfold schema_value_1_2 at hF
 intro M1 hM0 w0 H w p0
 replace hG := GL.mono hM0 hG
 replace h0 := Rep.mono hM0 _ _ h0
 obtain ⟨Z1, P1, Z2, P2, rfl, B1, B2⟩ := TE0.opn h0
 refine R_enter 5 Tryz.func106 rfl rfl (by simp) fun a0 f0 => RR (Y13 (cs := #[.int .i8 d0.fKind, .bool d0.fBool, .int .i64 d0.fNum, S d0.fText, .slice Z1 d0.fList.length P1, .slice Z2 d0.fKeys.length P2]) (T := 26) f0 p0 fun Q1 V1 W1 J1 R1 N1 _ f => ?_)
 have R2 := fz_box R1
 refine Y f 1 fun _ f => eT (RR ?_)
 obtain ⟨X1, S1, F1⟩ := bS hF
 refine Y18 f N1 (hrec_schema_value _ (GL.mono J1 hG) (⟨Q1, 0, none⟩) [.int .i8 d0.fKind, .bool d0.fBool, .int .i64 d0.fNum, S d0.fText, .slice Z1 d0.fList.length P1, .slice Z2 d0.fKeys.length P2] d0 (TE0.shutx (x := d0) (B1.mono J1) (B2.mono J1)) (fz_at (R2) 0 rfl) (3 : Int) X1 S1) fun W2 N2 _ f => Y f 2 fun _ f => eT (wp_ret (E_ret1 f rfl (by kernel_rfl : Vc.look _ 2 = some (.bool !X1)) ?_))
 obtain rfl := sI F1
 exact ⟨_, rfl, V1, J1, N2, rfl⟩
def slices_IndexFuncapi_Value_api_Value_2_s1 (n : Nat) (rec_schema_value : TE0 → Int → Option Bool) (d0 : List TE0) (K1 : Int) : Option (Lp Int (Sum Int Unit)) :=
    bif (decide (K1 < ((d0.length : Nat) : Int))) then
      ((getI d0 K1).bind fun X1 =>
      (schema_value_1_2 n rec_schema_value X1).bind fun X2 =>
      bif X2 then
        (some (.br (.inl K1)))
      else
        need (inR .i64 (K1 + 1)) <|
        some (.nx (K1 + 1)))
    else
      some (.br (.inr ()))
def slices_IndexFuncapi_Value_api_Value_2 (n : Nat) (rec_schema_value : TE0 → Int → Option Bool) (d0 : List TE0) : Option Int :=
  (loopF (slices_IndexFuncapi_Value_api_Value_2_s1 n rec_schema_value d0) n (0 : Int)).bind fun Q1 =>
  (match Q1 with 
  | .inl G1 => some (G1) 
  | .inr G2 => some ((-1 : Int)))
theorem slices_IndexFuncapi_Value_api_Value_2_ok (n : Nat) (rec_schema_value : TE0 → Int → Option Bool) (hrec_schema_value : ∀ (M : Mem) (hG : GL M) (ad0 : Addr) (c0 : List Value) (d0 : TE0) (h0 : Rep M (emb_TE0 d0) c0) (q0 : ∀ j v, c0[j]? = some v → M.cell? (ad0.add j) = some v) (d1 : Int) (r : Bool) (hF : rec_schema_value d0 d1 = some r), Ok Tryz.prog M 84 [.pointer (some ad0), .int .i8 d1] (fun _ v => v = .bool r)) (M : Mem) (hG : GL M) (A0 : Option Addr) (cap0 : Nat) (d0 : List TE0) (h0 : Sli M 6 emb_TE0 A0 cap0 d0) (r : Int) (hF : slices_IndexFuncapi_Value_api_Value_2 n rec_schema_value d0 = some r) : Ok Tryz.prog M 125 [.slice A0 d0.length cap0, .func (.func 106) #[] #[]] (fun _ v => v = .int .i64 r) := by
 unfold slices_IndexFuncapi_Value_api_Value_2 at hF
 intro M1 hM0 w0 H w p0
 replace hG := GL.mono hM0 hG
 replace h0 := h0.mono hM0
 refine R_enter 19 Tryz.func125 rfl rfl (by simp) fun a0 f0 => RR (Y f0 1 fun _ f => eT (R_seq (RR (Y f 3 fun _ f => eT (wp_block ?_)))))
 obtain ⟨Q1, hL_1, F1⟩ := bS hF
 refine wp_mono (Q := fun e a w => (e = .ret ∧ (∃ G1 : Int, Q1 = .inl G1 ∧ ∃ V2 : Mem, M1.le V2 ∧ Frm 19 [(4, .int .i64 G1)] a ∧ Hp w0 V2 (H) w)) ∨ (e = .exit 0 ∧ (∃ G2 : Unit, Q1 = .inr G2 ∧ ∃ V3 : Mem, M1.le V3 ∧ Frm 19 [] a ∧ Hp w0 V3 (H) w))) (R_loop (n := 19) (w0 := w0) (M := M1) (fun (x : Nat × Int) => match x with | (I1, K1) => [(0, .slice A0 d0.length cap0), (1, .func (.func 106) #[] #[]), (7, .int .i64 ((d0.length : Nat) : Int)), (8, .int .i64 K1)]) (fun (x : Nat × Int) => match x with | (I1, K1) => (H)) (fun (x : Nat × Int) (MM : Mem) => match x with | (I1, K1) => loopF (slices_IndexFuncapi_Value_api_Value_2_s1 n rec_schema_value d0) I1 K1 = some Q1) (fun (x : Nat × Int) => match x with | (I1, K1) => I1) (n, (0 : Int)) (f.kp) p0 hL_1 ?_) ?_
 ·rintro ⟨I1, K1⟩ V1 _ W1 J1 I_1 f N1
  have I_1L := I_1
  obtain ⟨I2, r_1, rfl, hs_1, T1⟩ := loop_step I_1L
  unfold slices_IndexFuncapi_Value_api_Value_2_s1 at hs_1
  refine RR (Y f 1 fun _ f => eT (R_seq (RcF f hs_1 (fun B1 F2 => ?_) fun B1 F8 => ?_)))
  ·have U1 := dI.1 B1
   refine wp_skip (T_n (R_seq (wp_block (RR (Y f 2 fun _ f => eT (RR (Y f 3 fun _ f => ?_)))))))
   obtain ⟨X1, S1, F3⟩ := bS F2
   obtain ⟨C1, c_1, e_1, -, D1, R1⟩ := Sli.at_ (h0.mono J1) S1
   obtain ⟨Z1, P1, Z2, P2, rfl, B2, B3⟩ := TE0.opn D1
   refine Z f (Y32 e_1 rfl (len := d0.length) (cap := cap0) (k := .i64) (i := K1) (e := 26) (sz := 6) (getI_nn S1) (getI_lt S1)) fun _ f => Z (v := .agg #[.int .i8 X1.fKind, .bool X1.fBool, .int .i64 X1.fNum, S X1.fText, .slice Z1 X1.fList.length P1, .slice Z2 X1.fKeys.length P2]) f (Y34 (cs := [.int .i8 X1.fKind, .bool X1.fBool, .int .i64 X1.fNum, S X1.fText, .slice Z1 X1.fList.length P1, .slice Z2 X1.fKeys.length P2]) rfl (ad := C1.add (K1.toNat * 6)) (fun j v h => N1.cell (R1 j v h))) fun _ f => ?_
   obtain ⟨X2, S2, F4⟩ := bS F3
   refine Y18 f N1 (schema_value_1_2_ok n rec_schema_value hrec_schema_value _ (GL.mono J1 hG) _ X1 (TE0.shutx (x := X1) B2 B3) X2 S2) fun W2 N2 _ f => eT (RcF f F4 (fun B4 F5 => ?_) fun B4 F6 => ?_)
   ·refine RR (Y f 2 fun _ f => eT (wp_ret (B_r (T_r (T_r ?_)))))
    obtain rfl := sI F5
    exact .inl ⟨rfl, K1, (sI T1).symm, V1, J1, f.kp, N2⟩
   ·refine wp_skip (B_n (T_n (R_reg ?_)))
    obtain ⟨O1, F7⟩ := nS F6
    refine Y f 1 fun _ f => ?_
    have f := f.st 18 (iW O1)
    refine Y f 1 fun _ f => eT ?_
    obtain rfl := sI F7
    exact ⟨⟨I2, K1 + 1⟩, Nat.lt_succ_self _, V1, J1, T1, f.kp, N2⟩
  ·have U4 := iff_f dI B1
   refine wp_exit (T_x (T_x ?_))
   obtain rfl := sI F8
   exact .inr ⟨rfl, (), (sI T1).symm, V1, J1, f.kp, N1⟩
 ·rintro _ _ W5 (⟨rfl, G1, rfl, V2, J2, f, N3⟩ | ⟨rfl, G2, rfl, V3, J3, f, N4⟩)
  ·refine B_r (T_r (E_ret1 f rfl (by kernel_rfl : Vc.look _ 4 = some (.int .i64 G1)) ?_))
   obtain rfl := sI F1
   exact ⟨_, rfl, V2, J2, N3, rfl⟩
  ·refine B_x (T_n (RR (Y f 1 fun _ f => eT (wp_ret (E_ret1 f rfl (by kernel_rfl : Vc.look _ 4 = some (.int .i64 (-1))) ?_)))))
   obtain rfl := sI F1
   exact ⟨_, rfl, V3, J3, N4, rfl⟩
def slices_ContainsFuncapi_Value_api_Value_2 (n : Nat) (rec_schema_value : TE0 → Int → Option Bool) (d0 : List TE0) : Option Bool :=
  (slices_IndexFuncapi_Value_api_Value_2 n rec_schema_value d0).bind fun X1 =>
  some ((decide ((0 : Int) ≤ X1)))
theorem slices_ContainsFuncapi_Value_api_Value_2_ok (n : Nat) (rec_schema_value : TE0 → Int → Option Bool) (hrec_schema_value : ∀ (M : Mem) (hG : GL M) (ad0 : Addr) (c0 : List Value) (d0 : TE0) (h0 : Rep M (emb_TE0 d0) c0) (q0 : ∀ j v, c0[j]? = some v → M.cell? (ad0.add j) = some v) (d1 : Int) (r : Bool) (hF : rec_schema_value d0 d1 = some r), Ok Tryz.prog M 84 [.pointer (some ad0), .int .i8 d1] (fun _ v => v = .bool r)) (M : Mem) (hG : GL M) (A0 : Option Addr) (cap0 : Nat) (d0 : List TE0) (h0 : Sli M 6 emb_TE0 A0 cap0 d0) (r : Bool) (hF : slices_ContainsFuncapi_Value_api_Value_2 n rec_schema_value d0 = some r) : Ok Tryz.prog M 105 [.slice A0 d0.length cap0, .func (.func 106) #[] #[]] (fun _ v => v = .bool r) := by
 unfold slices_ContainsFuncapi_Value_api_Value_2 at hF
 intro M1 hM0 w0 H w p0
 replace hG := GL.mono hM0 hG
 replace h0 := h0.mono hM0
 refine R_enter 9 Tryz.func105 rfl rfl (by simp) fun a0 f0 => RR (Y f0 1 fun _ f => eT (RR (Y f 2 fun _ f => ?_)))
 obtain ⟨X1, S1, F1⟩ := bS hF
 refine Y18 f p0 (slices_IndexFuncapi_Value_api_Value_2_ok n rec_schema_value hrec_schema_value _ hG A0 cap0 d0 h0 X1 S1) fun W1 N1 _ f => Y f 2 fun _ f => eT (wp_ret (E_ret1 f rfl (by kernel_rfl : Vc.look _ 4 = some (.bool (decide ((0 : Int) ≤ X1)))) ?_))
 obtain rfl := sI F1
 exact ⟨_, rfl, M1, (mR _), N1, rfl⟩
def schema_value_b (n : Nat) (rec_schema_value : TE0 → Int → Option Bool) (d0 : TE0) (d1 : Int) : Option Bool :=
  ((bif (!(decide (d0.fKind = d1))) then
      (some ((true)))
    else
      (tree_Check n d0).bind fun X1 =>
      some ((!(decide (X1 = 0)))) : Option Bool)).bind fun G1 =>
  bif G1 then
    (some ((false)))
  else
    bif (decide (d1 = 3)) then
      ((print_Word n d0.fText).bind fun X2 =>
      some ((X2)))
    else
      bif (decide (d1 = 4)) then
        (bif (decide (((d0.fList.length : Nat) : Int) ≤ 8)) then
          ((slices_ContainsFuncapi_Value_api_Value_2 n rec_schema_value d0.fList).bind fun X3 =>
          some ((!X3)))
        else
          some ((false)))
      else
        some ((true))
set_option maxRecDepth 20000 in
theorem schema_value_b_ok (n : Nat) (rec_schema_value : TE0 → Int → Option Bool) (hrec_schema_value : ∀ (M : Mem) (hG : GL M) (ad0 : Addr) (c0 : List Value) (d0 : TE0) (h0 : Rep M (emb_TE0 d0) c0) (q0 : ∀ j v, c0[j]? = some v → M.cell? (ad0.add j) = some v) (d1 : Int) (r : Bool) (hF : rec_schema_value d0 d1 = some r), Ok Tryz.prog M 84 [.pointer (some ad0), .int .i8 d1] (fun _ v => v = .bool r)) (M : Mem) (hG : GL M) (ad0 : Addr) (c0 : List Value) (d0 : TE0) (h0 : Rep M (emb_TE0 d0) c0) (q0 : ∀ j v, c0[j]? = some v → M.cell? (ad0.add j) = some v) (d1 : Int) (r : Bool) (hF : schema_value_b n rec_schema_value d0 d1 = some r) : Ok Tryz.prog M 84 [.pointer (some ad0), .int .i8 d1] (fun _ v => v = .bool r) := by
 unfold schema_value_b at hF
 intro M1 hM0 w0 H w p0
 replace hG := GL.mono hM0 hG
 replace h0 := Rep.mono hM0 _ _ h0
 replace q0 := fun j v h => hM0.cell (q0 j v h)
 obtain ⟨Z1, P1, Z2, P2, rfl, B1, B2⟩ := TE0.opn h0
 refine R_enter 42 Tryz.func84 rfl rfl (by simp) fun a0 f0 => RR (Y f0 1 fun _ f => eT (R_seq (R_seq ?_)))
 obtain ⟨j_1, hj_1, F1⟩ := bS hF
 refine R_mid (fun a_10 W2 => ∃ G1 : Bool, j_1 = G1 ∧ ∃ V1 : Mem, M1.le V1 ∧ Frm 42 [(0, .pointer (some ad0)), (1, .int .i8 d1), (17, .bool G1)] a_10 ∧ Hp w0 V1 (H) W2) ?_ ?_
 ·refine R_reg (Y f 3 fun _ f => Y15 f p0 q0 0 rfl fun _ f => Y f 3 fun _ f => ?_)
  rcases cE hj_1 with ⟨B3, F2⟩ | ⟨B3, F3⟩
  ·have U1 : ¬ (d0.fKind = d1) := (not_iff dI).1 B3
   have f := f.st 11 (cB B3)
   refine Y f 6 fun _ f => eT ?_
   exact ⟨(true), (sI F2).symm, M1, (mR _), f.kp, p0⟩
  ·have U2 : ¬ (¬ (d0.fKind = d1)) := iff_f (not_iff dI) B3
   have f := f.st 11 (cB B3)
   refine Y f 2 fun _ f => Z (v := .agg #[.int .i8 d0.fKind, .bool d0.fBool, .int .i64 d0.fNum, S d0.fText, .slice Z1 d0.fList.length P1, .slice Z2 d0.fKeys.length P2]) f (Y34 (cs := [.int .i8 d0.fKind, .bool d0.fBool, .int .i64 d0.fNum, S d0.fText, .slice Z1 d0.fList.length P1, .slice Z2 d0.fKeys.length P2]) rfl (ad := ad0) (fun j v h => p0.cell (q0 j v h))) fun _ f => ?_
   obtain ⟨X1, S1, F4⟩ := bS F3
   refine Y18 f p0 (tree_Check_ok n _ hG _ d0 (TE0.shutx (x := d0) B1 B2) X1 S1) fun W1 N1 _ f => Y f 2 fun _ f => eT ?_
   exact ⟨(!(decide (X1 = 0))), (sI F4).symm, M1, (mR _), f.kp, N1⟩
 ·rintro a_10 W2 ⟨G1, hq_1, V1, J1, f, N2⟩
  subst j_1
  refine T_n (RcF f F1 (fun B4 F5 => ?_) fun B4 F6 => ?_)
  ·refine RR (Y f 1 fun _ f => eT (wp_ret (T_r (E_ret1 f rfl (by kernel_rfl : Vc.look _ 4 = some (.bool false)) ?_))))
   obtain rfl := sI F5
   exact ⟨_, rfl, V1, J1, N2, rfl⟩
  ·refine wp_skip (T_n (R_seq (RR (Y f 1 fun _ f => eT (wp_block (RR (Y f 2 fun _ f => eT (RcF f F6 (fun B5 F7 => ?_) fun B5 F9 => ?_))))))))
   ·have U5 := dI.1 B5
    refine RR (Y f 3 fun _ f => Y15 f N2 (fzu J1 q0) 3 rfl fun _ f => ?_)
    obtain ⟨X2, S2, F8⟩ := bS F7
    refine Y18 f N2 (print_Word_ok n _ (GL.mono J1 hG) d0.fText X2 S2) fun W3 N3 _ f => Y f 1 fun _ f => eT (wp_ret (B_r (T_r (E_ret1 f rfl (by kernel_rfl : Vc.look _ 4 = some (.bool X2)) ?_))))
    obtain rfl := sI F8
    exact ⟨_, rfl, V1, J1, N3, rfl⟩
   ·have U6 := iff_f dI B5
    refine RR (Y f 2 fun _ f => eT (RcF f F9 (fun B6 F10 => ?_) fun B6 F14 => ?_))
    ·have U7 := dI.1 B6
     refine RR (Y f 3 fun _ f => Y15 f N2 (fzu J1 q0) 4 rfl fun _ f => Y f 3 fun _ f => ?_)
     rcases cE F10 with ⟨B7, F11⟩ | ⟨B7, F13⟩
     ·have U8 := dI.1 B7
      have f := f.st 34 (cB B7)
      refine Y f 3 fun _ f => Y15 f N2 (fzu J1 q0) 4 rfl fun _ f => ?_
      obtain ⟨X3, S3, F12⟩ := bS F11
      refine Y18 f N2 (slices_ContainsFuncapi_Value_api_Value_2_ok n rec_schema_value hrec_schema_value _ (GL.mono J1 hG) Z1 P1 d0.fList (B1.mono J1) X3 S3) fun W4 N4 _ f => Y f 3 fun _ f => eT (wp_ret (B_r (T_r (E_ret1 f rfl (by kernel_rfl : Vc.look _ 4 = some (.bool !X3)) ?_))))
      obtain rfl := sI F12
      exact ⟨_, rfl, V1, J1, N4, rfl⟩
     ·have U9 := iff_f dI B7
      have f := f.st 34 (cB B7)
      refine Y f 8 fun _ f => eT (wp_ret (B_r (T_r (E_ret1 f rfl (by kernel_rfl : Vc.look _ 4 = some (.bool false)) ?_))))
      obtain rfl := sI F13
      exact ⟨_, rfl, V1, J1, N2, rfl⟩
    ·have U10 := iff_f dI B6
     refine wp_skip (B_n (T_n (RR (Y f 1 fun _ f => eT (wp_ret (E_ret1 f rfl (by kernel_rfl : Vc.look _ 4 = some (.bool true)) ?_))))))
     obtain rfl := sI F14
     exact ⟨_, rfl, V1, J1, N2, rfl⟩
def schema_value_k (n : Nat) : Nat → TE0 → Int → Option Bool
  | 0 => fun _ _ => none
  | k + 1 => schema_value_b n (schema_value_k n k)
def schema_value (n : Nat) (d0 : TE0) (d1 : Int) : Option Bool := schema_value_k n n d0 d1
theorem schema_value_ok (n : Nat) (M : Mem) (hG : GL M) (ad0 : Addr) (c0 : List Value) (d0 : TE0) (h0 : Rep M (emb_TE0 d0) c0) (q0 : ∀ j v, c0[j]? = some v → M.cell? (ad0.add j) = some v) (d1 : Int) (r : Bool) (hF : schema_value n d0 d1 = some r) : Ok Tryz.prog M 84 [.pointer (some ad0), .int .i8 d1] (fun _ v => v = .bool r) := by
 have key : ∀ (k : Nat) (M : Mem) (hG : GL M) (ad0 : Addr) (c0 : List Value) (d0 : TE0) (h0 : Rep M (emb_TE0 d0) c0) (q0 : ∀ j v, c0[j]? = some v → M.cell? (ad0.add j) = some v) (d1 : Int) (r : Bool) (hF : schema_value_k n k d0 d1 = some r), Ok Tryz.prog M 84 [.pointer (some ad0), .int .i8 d1] (fun _ v => v = .bool r) := by
  intro k
  induction k with
  | zero => intro M hG ad0 c0 d0 h0 q0 d1 r hF; simp [schema_value_k] at hF
  | succ k ih => intro M hG ad0 c0 d0 h0 q0 d1 r hF; exact schema_value_b_ok n (schema_value_k n k) ih M hG ad0 c0 d0 h0 q0 d1 r hF
 exact key n M hG ad0 c0 d0 h0 q0 d1 r hF
def schema_empty (n : Nat) (d0 : TE0) : Option Bool :=
  bif (decide (d0.fKind = 0)) then
    ((tree_Check n d0).bind fun X1 =>
    some ((decide (X1 = 0))))
  else
    some ((false))
theorem schema_empty_ok (n : Nat) (M : Mem) (hG : GL M) (ad0 : Addr) (c0 : List Value) (d0 : TE0) (h0 : Rep M (emb_TE0 d0) c0) (q0 : ∀ j v, c0[j]? = some v → M.cell? (ad0.add j) = some v) (r : Bool) (hF : schema_empty n d0 = some r) : Ok Tryz.prog M 85 [.pointer (some ad0)] (fun _ v => v = .bool r) := by
 unfold schema_empty at hF
 intro M1 hM0 w0 H w p0
 replace hG := GL.mono hM0 hG
 replace h0 := Rep.mono hM0 _ _ h0
 replace q0 := fun j v h => hM0.cell (q0 j v h)
 obtain ⟨Z1, P1, Z2, P2, rfl, B1, B2⟩ := TE0.opn h0
 refine R_enter 15 Tryz.func85 rfl rfl (by simp) fun a0 f0 => RR (Y f0 1 fun _ f => eT (RR (Y f 3 fun _ f => Y15 f p0 q0 0 rfl fun _ f => Y f 2 fun _ f => ?_)))
 rcases cE hF with ⟨B3, F1⟩ | ⟨B3, F3⟩
 ·have U1 := dI.1 B3
  have f := f.st 8 (cB B3)
  refine Y f 2 fun _ f => Z (v := .agg #[.int .i8 d0.fKind, .bool d0.fBool, .int .i64 d0.fNum, S d0.fText, .slice Z1 d0.fList.length P1, .slice Z2 d0.fKeys.length P2]) f (Y34 (cs := [.int .i8 d0.fKind, .bool d0.fBool, .int .i64 d0.fNum, S d0.fText, .slice Z1 d0.fList.length P1, .slice Z2 d0.fKeys.length P2]) rfl (ad := ad0) (fun j v h => p0.cell (q0 j v h))) fun _ f => ?_
  obtain ⟨X1, S1, F2⟩ := bS F1
  refine Y18 f p0 (tree_Check_ok n _ hG _ d0 (TE0.shutx (x := d0) B1 B2) X1 S1) fun W1 N1 _ f => Y f 3 fun _ f => eT (wp_ret (E_ret1 f rfl (by kernel_rfl : Vc.look _ 2 = some (.bool (decide (X1 = 0)))) ?_))
  obtain rfl := sI F2
  exact ⟨_, rfl, M1, (mR _), N1, rfl⟩
 ·have U2 := iff_f dI B3
  have f := f.st 8 (cB B3)
  refine Y f 7 fun _ f => eT (wp_ret (E_ret1 f rfl (by kernel_rfl : Vc.look _ 2 = some (.bool false)) ?_))
  obtain rfl := sI F3
  exact ⟨_, rfl, M1, (mR _), p0, rfl⟩
def schema_Check_s1 (n : Nat) (d0 : List UInt8) (d1 : List TC0) (K1 : Int) : Option (Lp Int (Sum Unit Unit)) :=
    bif (decide (K1 < ((d1.length : Nat) : Int))) then
      ((getI d1 K1).bind fun X1 =>
      (schema_Find n d0 X1.fName).bind fun X2 =>
      (schema_value n X1.fV X2.1.fKind).bind fun X3 =>
      ((bif X1.fUnknown then
          (bif (!(decide (X2.1.fKind = 2))) then
            ((schema_empty n X1.fV).bind fun X4 =>
            some ((X4)))
          else
            some ((false)))
        else
          some ((X3)) : Option Bool)).bind fun G1 =>
      bif !X2.2 then
        (some (.br (.inl ())))
      else
        bif !G1 then
          (some (.br (.inl ())))
        else
          bif (decide ((0 : Int) < K1)) then
            (need (inR .i64 (K1 - 1)) <|
            (getI d1 (K1 - 1)).bind fun X5 =>
            bif (Op.bytesLess X1.fName X5.fName || X1.fName == X5.fName) then
              (some (.br (.inl ())))
            else
              need (inR .i64 (K1 + 1)) <|
              some (.nx (K1 + 1)))
          else
            need (inR .i64 (K1 + 1)) <|
            some (.nx (K1 + 1)))
    else
      some (.br (.inr ()))
def schema_Check (n : Nat) (d0 : List UInt8) (d1 : List TC0) : Option Int :=
  bif (!(kindIn d0)) then
    (some ((90 : Int)))
  else
    (loopF (schema_Check_s1 n d0 d1) n (0 : Int)).bind fun Q6 =>
    (match Q6 with 
    | .inl G2 => some ((91 : Int)) 
    | .inr G3 => some ((0 : Int)))
set_option maxRecDepth 20000 in
theorem schema_Check_ok (n : Nat) (M : Mem) (hG : GL M) (d0 : List UInt8) (A1 : Option Addr) (cap1 : Nat) (d1 : List TC0) (h1 : Sli M 8 emb_TC0 A1 cap1 d1) (r : Int) (hF : schema_Check n d0 d1 = some r) : Ok Tryz.prog M 61 [S d0, .slice A1 d1.length cap1] (fun _ v => v = .int .i64 r) := by
 unfold schema_Check at hF
 intro M1 hM0 w0 H w p0
 replace hG := GL.mono hM0 hG
 replace h1 := h1.mono hM0
 refine R_enter 69 Tryz.func61 rfl rfl (by simp) fun a0 f0 => RR (Y f0 1 fun _ f => eT (R_seq (RR (Y16 f p0 (all_ok _) fun _ V1 W1 J1 N1 q_1 _ f => ?_))))
 obtain ⟨Q1, Q2, Q3, Q4, Q5, rfl, hA_1⟩ := q_1
 refine Y f 1 fun _ f => Z (v := .tuple #[.map (blkOf Q2 Q3 Q4 Q5 d0), .bool (kindIn d0)]) f (X_all2 (k := d0) (kt := 9) (et := 130) hA_1 N1 rfl (by kernel_rfl) (by kernel_rfl) (by kernel_rfl) (strKey (by kernel_rfl)) (by kernel_rfl)) fun _ f => Y f 5 fun _ f => eT (RR (Y f 2 fun _ f => eT (RcF f hF (fun B1 F1 => ?_) fun B1 F2 => ?_)))
 ·have U1 : (kindIn d0) = false := by simpa using B1
  refine RR (Y f 1 fun _ f => eT (wp_ret (T_r (E_ret1 f rfl (by kernel_rfl : Vc.look _ 4 = some (.int .i64 90)) ?_))))
  obtain rfl := sI F1
  exact ⟨_, rfl, V1, J1, N1, rfl⟩
 ·have U2 : (kindIn d0) = true := by simpa using B1
  refine wp_skip (T_n (R_seq (RR (Y f 3 fun _ f => eT (wp_block ?_)))))
  obtain ⟨Q6, hL_1, F3⟩ := bS F2
  refine wp_mono (Q := fun e a w => (e = .ret ∧ (∃ G2 : Unit, Q6 = .inl G2 ∧ ∃ V6 : Mem, V1.le V6 ∧ Frm 69 [(4, .int .i64 91)] a ∧ Hp w0 V6 (H) w)) ∨ (e = .exit 0 ∧ (∃ G3 : Unit, Q6 = .inr G3 ∧ ∃ V7 : Mem, V1.le V7 ∧ Frm 69 [] a ∧ Hp w0 V7 (H) w))) (R_loop (n := 69) (w0 := w0) (M := V1) (fun (x : Nat × Int) => match x with | (I1, K1) => [(0, S d0), (1, .slice A1 d1.length cap1), (20, .slice A1 d1.length cap1), (21, .int .i64 ((d1.length : Nat) : Int)), (22, .int .i64 K1)]) (fun (x : Nat × Int) => match x with | (I1, K1) => (H)) (fun (x : Nat × Int) (MM : Mem) => match x with | (I1, K1) => loopF (schema_Check_s1 n d0 d1) I1 K1 = some Q6) (fun (x : Nat × Int) => match x with | (I1, K1) => I1) (n, (0 : Int)) (f.kp) N1 hL_1 ?_) ?_
  ·rintro ⟨I1, K1⟩ V2 _ W2 J2 I_1 f N2
   have I_1L := I_1
   obtain ⟨I2, r_1, rfl, hs_1, T1⟩ := loop_step I_1L
   unfold schema_Check_s1 at hs_1
   refine RR (Y f 1 fun _ f => eT (R_seq (RcF f hs_1 (fun B2 F4 => ?_) fun B2 F26 => ?_)))
   ·have U3 := dI.1 B2
    refine wp_skip (T_n (R_seq (wp_block (RR (Y f 1 fun _ f => ?_)))))
    obtain ⟨X1, S1, F5⟩ := bS F4
    obtain ⟨C1, c_1, e_1, -, D1, R1⟩ := Sli.at_ (h1.mono (J1.trans J2)) S1
    obtain ⟨Z1, P1, Z2, P2, rfl, B3, B4⟩ := TC0.opn D1
    refine Z f (Y32 e_1 rfl (len := d1.length) (cap := cap1) (k := .i64) (i := K1) (e := 77) (sz := 8) (getI_nn S1) (getI_lt S1)) fun _ f => Z (v := .agg #[S X1.fName, .bool X1.fUnknown, .int .i8 X1.fV.fKind, .bool X1.fV.fBool, .int .i64 X1.fV.fNum, S X1.fV.fText, .slice Z1 X1.fV.fList.length P1, .slice Z2 X1.fV.fKeys.length P2]) f (Y34 (cs := [S X1.fName, .bool X1.fUnknown, .int .i8 X1.fV.fKind, .bool X1.fV.fBool, .int .i64 X1.fV.fNum, S X1.fV.fText, .slice Z1 X1.fV.fList.length P1, .slice Z2 X1.fV.fKeys.length P2]) rfl (ad := C1.add (K1.toNat * 8)) (fun j v h => N2.cell (R1 j v h))) fun _ f => Y12 f N2 (.cells #[S [], .bool false, .int .i8 0, .bool false, .int .i64 0, S [], .slice none 0 0, .slice none 0 0] 77 (0, 0)) fun Q7 W3 N3 _ f => Y f 1 fun _ f => Y28 (vs := [S X1.fName, .bool X1.fUnknown, .int .i8 X1.fV.fKind, .bool X1.fV.fBool, .int .i64 X1.fV.fNum, S X1.fV.fText, .slice Z1 X1.fV.fList.length P1, .slice Z2 X1.fV.fKeys.length P2]) (j := 0) f N3 rfl rfl (by simp [Value.oneCell', S]) (by simp) (by decide) (cs' := #[S X1.fName, .bool X1.fUnknown, .int .i8 X1.fV.fKind, .bool X1.fV.fBool, .int .i64 X1.fV.fNum, S X1.fV.fText, .slice Z1 X1.fV.fList.length P1, .slice Z2 X1.fV.fKeys.length P2]) (by kernel_rfl) fun W4 N4 _ f => eT (RR (Y f 2 fun _ f => Z f (Y33 (v := S X1.fName) rfl (ad := ⟨Q7, 0, none⟩) (N4.ownCell 0 rfl 0)) fun _ f => ?_))
    obtain ⟨X2, S2, F6⟩ := bS F5
    refine Y16 f N4 (schema_Find_ok n _ (GL.mono (J1.trans J2) hG) d0 X1.fName X2 S2) fun _ V3 W5 J3 N5 q_2 _ f => ?_
    obtain ⟨c_2, rfl, D2⟩ := q_2
    obtain rfl := TG0.opn D2
    refine Y f 3 fun _ f => Y12 f N5 (.cells #[S [], .int .i8 0, .bool false] 135 (0, 0)) fun Q8 W6 N6 _ f => Y28 (vs := [S X2.1.fName, .int .i8 X2.1.fKind, .bool X2.1.fReplace]) (j := 0) f N6 rfl rfl (by simp [Value.oneCell', S]) (by simp) (by decide) (cs' := #[S X2.1.fName, .int .i8 X2.1.fKind, .bool X2.1.fReplace]) (by kernel_rfl) fun W7 N7 _ f => Y f 1 fun _ f => eT (RR (Y f 2 fun _ f => Z f (Y33 (v := .int .i8 X2.1.fKind) rfl (ad := ⟨Q8, 1, none⟩) (N7.ownCell 0 rfl 1)) fun _ f => ?_))
    have N8 := N7.pl [1]
    obtain ⟨V4, J4, N9, R2⟩ := N8.fzOwn
    obtain ⟨X3, S3, F7⟩ := bS F6
    refine Y18 f N9 (schema_value_ok n _ (GL.mono (((J1.trans J2).trans J3).trans J4) hG) (⟨Q7, 2, none⟩) [.int .i8 X1.fV.fKind, .bool X1.fV.fBool, .int .i64 X1.fV.fNum, S X1.fV.fText, .slice Z1 X1.fV.fList.length P1, .slice Z2 X1.fV.fKeys.length P2] X1.fV (TE0.shutx (x := X1.fV) (B3.mono (J3.trans J4)) (B4.mono (J3.trans J4))) (fz_at (R2) 2 rfl) X2.1.fKind X3 S3) fun W8 N10 _ f => Y f 1 fun _ f => eT (R_seq (RR (Y f 1 fun _ f => Y15 f N10 R2 1 rfl fun _ f => eT ?_)))
    obtain ⟨j_1, hj_1, F8⟩ := bS F7
    refine R_mid (fun a_37 W10 => ∃ G1 : Bool, j_1 = G1 ∧ ∃ V5 : Mem, V4.le V5 ∧ Frm 69 [(0, S d0), (1, .slice A1 d1.length cap1), (7, .int .i64 K1), (8, .pointer (some (⟨Q7, 0, none⟩))), (10, .bool X2.2), (11, .bool G1), (20, .slice A1 d1.length cap1), (21, .int .i64 ((d1.length : Nat) : Int)), (22, .int .i64 K1)] a_37 ∧ Hp w0 V5 ((Ent.obj Q8 (.cells #[S X2.1.fName, .int .i8 X2.1.fKind, .bool X2.1.fReplace] 135 (0, 0))) :: H) W10) ?_ ?_
    ·refine RcF f hj_1 (fun B5 F9 => ?_) fun B5 F13 => ?_
     ·refine R_reg (Y f 1 fun _ f => Z f (Y33 (v := .int .i8 X2.1.fKind) rfl (ad := ⟨Q8, 1, none⟩) (N10.ownCell 0 rfl 1)) fun _ f => Y f 2 fun _ f => ?_)
      rcases cE F9 with ⟨B6, F10⟩ | ⟨B6, F12⟩
      ·have U5 : ¬ (X2.1.fKind = 2) := (not_iff dI).1 B6
       have f := f.st 43 (cB B6)
       refine Y f 1 fun _ f => ?_
       obtain ⟨X4, S4, F11⟩ := bS F10
       refine Y18 f N10 (schema_empty_ok n _ (GL.mono (((J1.trans J2).trans J3).trans J4) hG) ((⟨Q7, 0, none⟩ : Addr).add 2) [.int .i8 X1.fV.fKind, .bool X1.fV.fBool, .int .i64 X1.fV.fNum, S X1.fV.fText, .slice Z1 X1.fV.fList.length P1, .slice Z2 X1.fV.fKeys.length P2] X1.fV (TE0.shutx (x := X1.fV) (B3.mono (J3.trans J4)) (B4.mono (J3.trans J4))) (fz_at (R2) 2 rfl) X4 S4) fun W9 N11 _ f => Y f 2 fun _ f => eT ?_
       exact ⟨(X4), (sI F11).symm, V4, (mR _), f.kp, N11⟩
      ·have U6 : ¬ (¬ (X2.1.fKind = 2)) := iff_f (not_iff dI) B6
       have f := f.st 43 (cB B6)
       refine Y f 4 fun _ f => eT ?_
       exact ⟨(false), (sI F12).symm, V4, (mR _), f.kp, N10⟩
     ·refine wp_skip (T_n ?_)
      exact ⟨(X3), (sI F13).symm, V4, (mR _), f.kp, N10⟩
    ·rintro a_37 W10 ⟨G1, hq_1, V5, J5, f, N12⟩
     subst j_1
     refine T_n (R_seq (R_draw N12 (by kernel_rfl) (by kernel_rfl) (Y5 default f 3 fun _ f => ?_)))
     rcases cE F8 with ⟨B7, F14⟩ | ⟨B7, F15⟩
     ·have U8 : (X2.2) = false := by simpa using B7
      have f := f.st 49 (cB B7)
      refine Y5 default f 18 fun _ f => Q_end rfl ?_
      intro W11 N13
      refine T_n (Y8 f (RR (Y f 1 fun _ f => eT (wp_ret (B_r (T_r (T_r ?_)))))))
      obtain rfl := sI F14
      exact .inl ⟨rfl, (), (sI T1).symm, V5, (((J2.trans J3).trans J4).trans J5), f.kp, (N13.dropN 1)⟩
     ·have U9 : (X2.2) = true := by simpa using B7
      have f := f.st 49 (cB B7)
      refine Y5 default f 4 fun _ f => ?_
      rcases cE F15 with ⟨B8, F16⟩ | ⟨B8, F17⟩
      ·have U10 : (G1) = false := by simpa using B8
       have f := f.st 53 (cB B8)
       refine Y5 default f 14 fun _ f => Q_end rfl ?_
       intro W12 N14
       refine T_n (Y8 f (RR (Y f 1 fun _ f => eT (wp_ret (B_r (T_r (T_r ?_)))))))
       obtain rfl := sI F16
       exact .inl ⟨rfl, (), (sI T1).symm, V5, (((J2.trans J3).trans J4).trans J5), f.kp, (N14.dropN 1)⟩
      ·have U11 : (G1) = true := by simpa using B8
       have f := f.st 53 (cB B8)
       refine Y5 default f 3 fun _ f => ?_
       rcases cE F17 with ⟨B9, F18⟩ | ⟨B9, F24⟩
       ·have U12 := dI.1 B9
        have f := f.st 56 (cB B9)
        refine Y5 default f 1 fun _ f => Y4 f (fzu J5 R2) 0 rfl fun _ f => Y5 default f 2 fun _ f => ?_
        obtain ⟨O1, F19⟩ := nS F18
        refine Y2 (v := .int .i64 (IntKind.wrap .i64 (K1 - 1))) f (fun _ pq => by kernel_rfl) fun _ f => ?_
        have f := f.st 61 (iW O1)
        obtain ⟨X5, S5, F20⟩ := bS F19
        obtain ⟨C2, c_3, e_2, -, D3, R3⟩ := Sli.at_ (h1.mono ((((J1.trans J2).trans J3).trans J4).trans J5)) S5
        obtain ⟨Z3, P3, Z4, P4, rfl, B10, B11⟩ := TC0.opn D3
        refine Y2 (v := .pointer (some (C2.add ((K1 - 1).toNat * 8)))) f (fun _ pq => Y32 e_2 rfl (len := d1.length) (cap := cap1) (k := .i64) (i := K1 - 1) (e := 77) (sz := 8) (getI_nn S5) (getI_lt S5)) fun _ f => Y5 default f 1 fun _ f => Y4 f R3 0 rfl fun _ f => Y2 (v := .bool (Op.bytesLess X1.fName X5.fName || X1.fName == X5.fName)) f (fun _ pq => X_strle rfl (l := X1.fName) (m := X5.fName) (by kernel_rfl) (by kernel_rfl)) fun _ f => Y5 default f 2 fun _ f => Q_end rfl ?_
        intro W13 N15
        refine T_n (RcF f F20 (fun B12 F21 => ?_) fun B12 F22 => ?_)
        ·refine RR (Y f 1 fun _ f => eT (wp_ret (B_r (T_r (T_r ?_)))))
         obtain rfl := sI F21
         exact .inl ⟨rfl, (), (sI T1).symm, V5, (((J2.trans J3).trans J4).trans J5), f.kp, (N15.dropN 1)⟩
        ·refine wp_skip (B_n (T_n (R_reg ?_)))
         obtain ⟨O2, F23⟩ := nS F22
         refine Y f 1 fun _ f => ?_
         have f := f.st 68 (iW O2)
         refine Y f 1 fun _ f => eT ?_
         obtain rfl := sI F23
         exact ⟨⟨I2, K1 + 1⟩, Nat.lt_succ_self _, V5, (((J2.trans J3).trans J4).trans J5), T1, f.kp, (N15.dropN 1)⟩
       ·have U15 := iff_f dI B9
        have f := f.st 56 (cB B9)
        refine Y5 default f 11 fun _ f => Q_end rfl ?_
        intro W14 N16
        refine T_n (Y7 f (wp_skip (B_n (T_n (R_reg ?_)))))
        obtain ⟨O3, F25⟩ := nS F24
        refine Y f 1 fun _ f => ?_
        have f := f.st 68 (iW O3)
        refine Y f 1 fun _ f => eT ?_
        obtain rfl := sI F25
        exact ⟨⟨I2, K1 + 1⟩, Nat.lt_succ_self _, V5, (((J2.trans J3).trans J4).trans J5), T1, f.kp, (N16.dropN 1)⟩
   ·have U16 := iff_f dI B2
    refine wp_exit (T_x (T_x ?_))
    obtain rfl := sI F26
    exact .inr ⟨rfl, (), (sI T1).symm, V2, J2, f.kp, N2⟩
  ·rintro _ _ W17 (⟨rfl, G2, rfl, V6, J6, f, N17⟩ | ⟨rfl, G3, rfl, V7, J7, f, N18⟩)
   ·refine B_r (T_r (E_ret1 f rfl (by kernel_rfl : Vc.look _ 4 = some (.int .i64 91)) ?_))
    obtain rfl := sI F3
    exact ⟨_, rfl, V6, (J1.trans J6), N17, rfl⟩
   ·refine B_x (T_n (RR (Y f 1 fun _ f => eT (wp_ret (E_ret1 f rfl (by kernel_rfl : Vc.look _ 4 = some (.int .i64 0)) ?_)))))
    obtain rfl := sI F3
    exact ⟨_, rfl, V7, (J1.trans J7), N18, rfl⟩
theorem index_any {n : Nat} {α : Type} (d : α) (q : α → Bool) (xs : List α) {step : Int → Option (Lp Int (Sum Int Unit))} (hd : ∀ k : Nat, k < xs.length → step (k : Int) = some (if q (xs.getD k d) then .br (.inl (k : Int)) else .nx ((k : Int) + 1))) (he : step ((xs.length : Nat) : Int) = some (.br (.inr ()))) (hn : xs.length < n) :
  ∃ b, loopF step n 0 = some b ∧ (match b with | .inl i => 0 ≤ i ∧ xs.any q = true | .inr () => xs.any q = false) := by
 refine loop_inv (fun k s => s = (k : Int) ∧ ∀ x ∈ xs.take k, q x = false) _ xs.length ⟨rfl, by simp⟩ (fun k s hk hI => ?_) (fun s hI => ?_) hn
 ·obtain ⟨rfl, hf⟩ := hI
  have hx : xs[k]? = some xs[k] := List.getElem?_eq_getElem hk
  have hg : xs.getD k d = xs[k] := by simp [List.getD, hk]
  rw [hd k hk, hg]
  cases hv : q xs[k] with
  | false =>
   refine .inl ⟨_, rfl, by omega, fun y hy => ?_⟩
   rcases (mem_take_succ hx y).1 hy with h | h
   ·exact hf y h
   ·rw [h]; exact hv
  | true => exact .inr ⟨_, rfl, by omega, List.any_eq_true.2 ⟨_, List.getElem_mem hk, hv⟩⟩
 ·obtain ⟨rfl, hf⟩ := hI
  rw [List.take_length] at hf
  refine ⟨_, he, ?_⟩
  dsimp only
  rw [List.any_eq_false]
  intro x hx
  simp [hf x hx]
def wordV (t : List UInt8) : Bool := bif decide ((t.length : Int) ≤ 64) then Lib.validD t else false
theorem word_run {n : Nat} {t : List UInt8} : print_Word n t = some (wordV t) := by
 unfold print_Word wordV
 by_cases h : (t.length : Int) ≤ 64
 ·rw [decide_eq_true h, cT, cT, valid_run (by omega), bnd]
 ·rw [decide_eq_false h, cF, cF]
def fitV (v : TE0) (k : Int) : Bool := bif !decide (v.fKind = k) then false else decide (checkV v = 0)
def wordy (v : TE0) : Bool := bif fitV v 3 then wordV v.fText else false
def valueV (v : TE0) (k : Int) : Bool := bif fitV v k then (bif decide (k = 3) then wordV v.fText else bif decide (k = 4) then (bif decide (((v.fList.length : Nat) : Int) ≤ 8) then !(v.fList.any fun x => !wordy x) else false) else true) else false
theorem contains_vals {n : Nat} (hn : 6000 < n) {rc : TE0 → Int → Option Bool} {l : List TE0} (hl : l.length ≤ 8) (h : ∀ x ∈ l, rc x 3 = some (wordy x)) : slices_ContainsFuncapi_Value_api_Value_2 n rc l = some (l.any fun x => !wordy x) := by
 unfold slices_ContainsFuncapi_Value_api_Value_2 slices_IndexFuncapi_Value_api_Value_2
 obtain ⟨b, hb, hp⟩ := index_any (n := n) z_TE0 (fun x => !wordy x) l (step := slices_IndexFuncapi_Value_api_Value_2_s1 n rc l) (fun k hk => by
  unfold slices_IndexFuncapi_Value_api_Value_2_s1 schema_value_1_2
  have hm : l.getD k z_TE0 ∈ l := by simp [List.getD, hk]
  rw [decide_eq_true (by omega), cT, getI_at z_TE0 hk, bnd, h _ hm, bnd, bnd]
  cases wordy (l.getD k z_TE0) with
  | true => rw [Bool.not_true, cF, need_i (by omega) (by omega)]; rfl
  | false => rw [Bool.not_false, cT]; rfl) (by
  unfold slices_IndexFuncapi_Value_api_Value_2_s1
  rw [decide_eq_false (by omega), cF]) (by omega)
 rw [hb, bnd]
 cases b with
 | inl i =>
  obtain ⟨h0, h1⟩ := hp
  dsimp only
  rw [bnd, h1, decide_eq_true h0]
 | inr u =>
  have h1 : l.any (fun x => !wordy x) = false := hp
  dsimp only
  rw [bnd, h1]
  rfl
theorem value_b_run {n : Nat} (hn : 6000 < n) {v : TE0} (h : Fine v) (k : Int) {rc : TE0 → Int → Option Bool} (hrec : k = 4 → ∀ x ∈ v.fList, rc x 3 = some (wordy x)) : schema_value_b n rc v k = some (valueV v k) := by
 unfold schema_value_b valueV fitV
 by_cases hk : v.fKind = k
 ·rw [decide_eq_true hk, Bool.not_true, cF, cF, check_run hn h, bnd, bnd]
  by_cases hc : checkV v = 0
  ·rw [decide_eq_true hc, Bool.not_true, cF, cT]
   by_cases h3 : k = 3
   ·rw [decide_eq_true h3, cT, cT, word_run, bnd]
   ·rw [decide_eq_false h3, cF, cF]
    by_cases h4 : k = 4
    ·rw [decide_eq_true h4, cT, cT]
     by_cases h8 : ((v.fList.length : Nat) : Int) ≤ 8
     ·rw [decide_eq_true h8, cT, cT, contains_vals hn (by omega) (hrec h4), bnd]
     ·rw [decide_eq_false h8, cF, cF]
    ·rw [decide_eq_false h4, cF, cF]
  ·rw [decide_eq_false hc, Bool.not_false, cT, cF]
 ·rw [decide_eq_false hk, Bool.not_false, cT, cT, bnd, cT, cF]
theorem value_run {n : Nat} (hn : 6000 < n) {v : TE0} (h : Fine v) (k : Int) : schema_value n v k = some (valueV v k) := by
 unfold schema_value
 obtain ⟨m, rfl⟩ : ∃ m, n = m + 2 := ⟨n - 2, by omega⟩
 refine value_b_run hn h k fun _ x hx => ?_
 exact value_b_run hn (h.part hx) 3 (fun e => absurd e (by decide))
def emptyV (v : TE0) : Bool := bif decide (v.fKind = 0) then decide (checkV v = 0) else false
theorem empty_run {n : Nat} (hn : 6000 < n) {v : TE0} (h : Fine v) : schema_empty n v = some (emptyV v) := by
 unfold schema_empty emptyV
 by_cases hk : v.fKind = 0
 ·rw [decide_eq_true hk, cT, cT, check_run hn h, bnd]
 ·rw [decide_eq_false hk, cF, cF]
def specOf (kind prop : List UInt8) : TG0 := (specAt kind prop).getD z_TG0
def fitG (kind : List UInt8) (g : TC0) : Bool := bif g.fUnknown then (bif !decide ((specOf kind g.fName).fKind = 2) then emptyV g.fV else false) else valueV g.fV (specOf kind g.fName).fKind
def okG (kind : List UInt8) (g : TC0) : Bool := (specAt kind g.fName).isSome && fitG kind g
def upG (gs : List TC0) (k : Nat) : Bool := decide (k = 0) || Op.bytesLess (gs.getD (k - 1) z_TC0).fName (gs.getD k z_TC0).fName
theorem cb_flip (a b : List UInt8) : (Lib.compareBytes a b < 0 ∨ a = b) ↔ ¬ Lib.compareBytes b a < 0 := by
 have h := cb_anti a b
 constructor
 ·rintro (h1 | rfl)
  ·omega
  ·rw [cb_self]; omega
 ·intro h1
  by_cases e : Lib.compareBytes a b = 0
  ·exact .inr (cb_eq _ _ e)
  ·exact .inl (by omega)
theorem less_flip (a b : List UInt8) : (Op.bytesLess a b || a == b) = !Op.bytesLess b a := by
 have h1 := less_cb a b
 have h2 := less_cb b a
 rw [h1, h2]
 rw [Bool.eq_iff_iff]
 simp only [Bool.or_eq_true, decide_eq_true_eq, beq_iff_eq, Bool.not_eq_true', decide_eq_false_iff_not]
 exact cb_flip a b
def checkG (kind : List UInt8) (gs : List TC0) : Int := bif !kindIn kind then 90 else bif (List.range gs.length).any (fun k => !(okG kind (gs.getD k z_TC0) && upG gs k)) then 91 else 0
theorem schemaCheck_run {n : Nat} (hn : 6000 < n) (kind : List UInt8) {gs : List TC0} (hl : gs.length ≤ 60) (hf : ∀ g ∈ gs, Fine g.fV) : schema_Check n kind gs = some (checkG kind gs) := by
 unfold schema_Check checkG
 cases hk : kindIn kind with
 | false => rw [Bool.not_false, cT, cT]
 | true =>
  rw [Bool.not_true, cF, cF]
  have hlp := loop_any (n := n) (step := schema_Check_s1 n kind gs) (fun k => !(okG kind (gs.getD k z_TC0) && upG gs k)) gs.length (.inl ()) (.inr ()) (fun k hk => by
   unfold schema_Check_s1 schema_Find
   have hm : gs.getD k z_TC0 ∈ gs := by simp [List.getD, hk]
   rw [decide_eq_true (by omega), cT, getI_at z_TC0 hk, bnd, bnd, value_run hn (hf _ hm), bnd]
   have e : (bif (gs.getD k z_TC0).fUnknown then (bif !decide ((specOf kind (gs.getD k z_TC0).fName).fKind = 2) then (schema_empty n (gs.getD k z_TC0).fV).bind fun x => some x else some false) else some (valueV (gs.getD k z_TC0).fV (specOf kind (gs.getD k z_TC0).fName).fKind) : Option Bool) = some (fitG kind (gs.getD k z_TC0)) := by
    unfold fitG
    cases (gs.getD k z_TC0).fUnknown with
    | false => rw [cF, cF]
    | true =>
     rw [cT, cT]
     cases decide ((specOf kind (gs.getD k z_TC0).fName).fKind = 2) with
     | true => rw [Bool.not_true, cF, cF]
     | false => rw [Bool.not_false, cT, cT, empty_run hn (hf _ hm), bnd]
   unfold specOf at e
   dsimp only
   rw [e, bnd]
   unfold okG
   cases (specAt kind (gs.getD k z_TC0).fName).isSome with
   | false => rw [Bool.not_false, cT]; rfl
   | true =>
    rw [Bool.not_true, cF]
    cases fitG kind (gs.getD k z_TC0) with
    | false => rw [Bool.not_false, cT]; rfl
    | true =>
     rw [Bool.not_true, cF]
     unfold upG
     by_cases h0 : k = 0
     ·subst h0
      rw [decide_eq_false (by decide), cF, need_i (by omega) (by omega)]
      rfl
     ·have hk1 : k - 1 < gs.length := by omega
      have e1 : (k : Int) - 1 = ((k - 1 : Nat) : Int) := by omega
      rw [decide_eq_true (by omega : (0 : Int) < (k : Int)), cT, need_i (by omega) (by omega), e1, getI_at z_TC0 hk1, bnd, less_flip, decide_eq_false h0]
      cases Op.bytesLess (gs.getD (k - 1) z_TC0).fName (gs.getD k z_TC0).fName with
      | true => rw [Bool.not_true, cF, need_i (by omega) (by omega)]; rfl
      | false => rw [Bool.not_false, cT]; rfl) (by
   unfold schema_Check_s1
   rw [decide_eq_false (by omega), cF]) (by omega)
  rw [hlp, bnd]
  cases (List.range gs.length).any (fun k => !(okG kind (gs.getD k z_TC0) && upG gs k)) with
  | true => rw [cT, cT]
  | false => rw [cF, cF]
theorem great9 {n : Nat} (hn : 6000 < n) (gs : List TC0) : ∃ g, ref09_Great n gs = some g ∧ (g = false → gs.length ≤ 60 ∧ ∀ x ∈ gs, x.fName.length ≤ 200 ∧ Fine x.fV) := by
 unfold ref09_Great
 by_cases hl : (60 : Int) < ((gs.length : Nat) : Int)
 ·exact ⟨true, by rw [decide_eq_true hl, cT], fun h => by cases h⟩
 rw [decide_eq_false hl, cF]
 obtain ⟨b, hb, hp⟩ := loop_inv (step := ref09_Great_s1 n gs) (n := n) (s0 := (0 : Int)) (fun k s => s = (k : Int) ∧ ∀ x ∈ gs.take k, x.fName.length ≤ 200 ∧ Fine x.fV)
  (fun b => match b with | .inl _ => True | .inr _ => ∀ x ∈ gs, x.fName.length ≤ 200 ∧ Fine x.fV) gs.length ⟨rfl, by simp⟩
  (fun k s hk hI => by
   obtain ⟨rfl, hf⟩ := hI
   have hx : gs[k]? = some gs[k] := List.getElem?_eq_getElem hk
   have hg : gs.getD k z_TC0 = gs[k] := by simp [List.getD, hk]
   unfold ref09_Great_s1
   rw [decide_eq_true (by omega), cT, getI_at z_TC0 hk, bnd, hg]
   by_cases h2 : (200 : Int) < (gs[k].fName.length : Int)
   ·exact .inr ⟨_, by rw [decide_eq_true h2, cT], trivial⟩
   obtain ⟨g, hg1, hg2⟩ := great_fine hn gs[k].fV
   rw [decide_eq_false h2, cF, bnd]
   have ex : (⟨gs[k].fV.fKind, (gs[k].fV.fBool), gs[k].fV.fNum, gs[k].fV.fText, gs[k].fV.fList, gs[k].fV.fKeys⟩ : TE0) = gs[k].fV := by cases gs[k].fV; rfl
   rw [ex, hg1, bnd]
   cases g with
   | true => exact .inr ⟨_, cT _ _, trivial⟩
   | false =>
    rw [cF, need_i (by omega) (by omega)]
    refine .inl ⟨_, rfl, by omega, fun y hy => ?_⟩
    rcases (mem_take_succ hx y).1 hy with h | h
    ·exact hf y h
    ·rw [h]; exact ⟨by omega, (hg2 rfl).1⟩)
  (fun s hI => by
   obtain ⟨rfl, hf⟩ := hI
   rw [List.take_length] at hf
   unfold ref09_Great_s1
   rw [decide_eq_false (by omega), cF]
   exact ⟨_, rfl, hf⟩) (by omega)
 rw [hb, bnd]
 cases b with
 | inl u => exact ⟨true, rfl, fun h => by cases h⟩
 | inr u => exact ⟨false, rfl, fun _ => ⟨by omega, hp⟩⟩
def cmp_Or_2_s1 (n : Nat) (d0 : List Int) (K1 : Int) : Option (Lp Int (Sum Int Unit)) :=
    bif (decide (K1 < ((d0.length : Nat) : Int))) then
      ((getI d0 K1).bind fun X1 =>
      bif (!(decide (X1 = 0))) then
        (some (.br (.inl X1)))
      else
        need (inR .i64 (K1 + 1)) <|
        some (.nx (K1 + 1)))
    else
      some (.br (.inr ()))
def cmp_Or_2 (n : Nat) (d0 : List Int) : Option Int :=
  (loopF (cmp_Or_2_s1 n d0) n (0 : Int)).bind fun Q1 =>
  (match Q1 with 
  | .inl G1 => some (G1) 
  | .inr G2 => some ((0 : Int)))
theorem cmp_Or_2_ok (n : Nat) (M : Mem) (hG : GL M) (A0 : Option Addr) (cap0 : Nat) (d0 : List Int) (h0 : Sli M 1 (Dat.int .i64) A0 cap0 d0) (r : Int) (hF : cmp_Or_2 n d0 = some r) : Ok Tryz.prog M 112 [.slice A0 d0.length cap0] (fun _ v => v = .int .i64 r) := by
 unfold cmp_Or_2 at hF
 intro M1 hM0 w0 H w p0
 replace hG := GL.mono hM0 hG
 replace h0 := h0.mono hM0
 refine R_enter 18 Tryz.func112 rfl rfl (by simp) fun a0 f0 => RR (Y f0 1 fun _ f => eT (RR (Y f 1 fun _ f => eT (R_seq (RR (Y f 3 fun _ f => eT (wp_block ?_)))))))
 obtain ⟨Q1, hL_1, F1⟩ := bS hF
 refine wp_mono (Q := fun e a w => (e = .ret ∧ (∃ G1 : Int, Q1 = .inl G1 ∧ ∃ V2 : Mem, M1.le V2 ∧ Frm 18 [(2, .int .i64 G1)] a ∧ Hp w0 V2 (H) w)) ∨ (e = .exit 0 ∧ (∃ G2 : Unit, Q1 = .inr G2 ∧ ∃ V3 : Mem, M1.le V3 ∧ Frm 18 [(3, .int .i64 0)] a ∧ Hp w0 V3 (H) w))) (R_loop (n := 18) (w0 := w0) (M := M1) (fun (x : Nat × Int) => match x with | (I1, K1) => [(3, .int .i64 0), (6, .slice A0 d0.length cap0), (7, .int .i64 ((d0.length : Nat) : Int)), (8, .int .i64 K1)]) (fun (x : Nat × Int) => match x with | (I1, K1) => (H)) (fun (x : Nat × Int) (MM : Mem) => match x with | (I1, K1) => loopF (cmp_Or_2_s1 n d0) I1 K1 = some Q1) (fun (x : Nat × Int) => match x with | (I1, K1) => I1) (n, (0 : Int)) (f.kp) p0 hL_1 ?_) ?_
 ·rintro ⟨I1, K1⟩ V1 _ W1 J1 I_1 f N1
  have I_1L := I_1
  obtain ⟨I2, r_1, rfl, hs_1, T1⟩ := loop_step I_1L
  unfold cmp_Or_2_s1 at hs_1
  refine RR (Y f 1 fun _ f => eT (R_seq (RcF f hs_1 (fun B1 F2 => ?_) fun B1 F7 => ?_)))
  ·have U1 := dI.1 B1
   refine wp_skip (T_n (R_seq (wp_block (RR ?_))))
   obtain ⟨X1, S1, F3⟩ := bS F2
   obtain ⟨C1, c_1, e_1, -, D1, R1⟩ := Sli.at_ (h0.mono J1) S1
   obtain rfl : c_1 = [.int .i64 X1] := D1
   refine Z f (Y32 e_1 rfl (len := d0.length) (cap := cap0) (k := .i64) (i := K1) (e := 29) (sz := 1) (getI_nn S1) (getI_lt S1)) fun _ f => Y15 f N1 R1 0 rfl fun _ f => Y f 1 fun _ f => eT (RR (Y f 3 fun _ f => eT (RcF f F3 (fun B2 F4 => ?_) fun B2 F5 => ?_)))
   ·have U2 : ¬ (X1 = 0) := (not_iff dI).1 B2
    refine RR (Y f 2 fun _ f => eT (wp_ret (B_r (T_r (T_r ?_)))))
    obtain rfl := sI F4
    exact .inl ⟨rfl, X1, (sI T1).symm, V1, J1, f.kp, N1⟩
   ·have U3 : ¬ (¬ (X1 = 0)) := iff_f (not_iff dI) B2
    refine wp_skip (B_n (T_n (R_reg ?_)))
    obtain ⟨O1, F6⟩ := nS F5
    refine Y f 1 fun _ f => ?_
    have f := f.st 16 (iW O1)
    refine Y f 1 fun _ f => eT ?_
    obtain rfl := sI F6
    exact ⟨⟨I2, K1 + 1⟩, Nat.lt_succ_self _, V1, J1, T1, f.kp, N1⟩
  ·have U4 := iff_f dI B1
   refine wp_exit (T_x (T_x ?_))
   obtain rfl := sI F7
   exact .inr ⟨rfl, (), (sI T1).symm, V1, J1, f.kp, N1⟩
 ·rintro _ _ W4 (⟨rfl, G1, rfl, V2, J2, f, N2⟩ | ⟨rfl, G2, rfl, V3, J3, f, N3⟩)
  ·refine B_r (T_r (E_ret1 f rfl (by kernel_rfl : Vc.look _ 2 = some (.int .i64 G1)) ?_))
   obtain rfl := sI F1
   exact ⟨_, rfl, V2, J2, N2, rfl⟩
  ·refine B_x (T_n (RR (Y f 2 fun _ f => eT (wp_ret (E_ret1 f rfl (by kernel_rfl : Vc.look _ 2 = some (.int .i64 0)) ?_)))))
   obtain rfl := sI F1
   exact ⟨_, rfl, V3, J3, N3, rfl⟩
def schema_Differ_1 (n : Nat) (d0 : TC0) : Option Bool :=
  some ((d0.fUnknown))
theorem schema_Differ_1_ok (n : Nat) (M : Mem) (hG : GL M) (c0 : List Value) (d0 : TC0) (h0 : Rep M (emb_TC0 d0) c0) (r : Bool) (hF : schema_Differ_1 n d0 = some r) : Ok Tryz.prog M 113 [.agg c0.toArray] (fun _ v => v = .bool r) := by
 unfold schema_Differ_1 at hF
 intro M1 hM0 w0 H w p0
 replace hG := GL.mono hM0 hG
 replace h0 := Rep.mono hM0 _ _ h0
 obtain ⟨Z1, P1, Z2, P2, rfl, B1, B2⟩ := TC0.opn h0
 refine R_enter 5 Tryz.func113 rfl rfl (by simp) fun a0 f0 => RR (Y13 (cs := #[S d0.fName, .bool d0.fUnknown, .int .i8 d0.fV.fKind, .bool d0.fV.fBool, .int .i64 d0.fV.fNum, S d0.fV.fText, .slice Z1 d0.fV.fList.length P1, .slice Z2 d0.fV.fKeys.length P2]) (T := 77) f0 p0 fun Q1 V1 W1 J1 R1 N1 _ f => ?_)
 have R2 := fz_box R1
 refine Y f 1 fun _ f => eT (RR (Y f 1 fun _ f => Y15 f N1 R2 1 rfl fun _ f => Y f 1 fun _ f => eT (wp_ret (E_ret1 f rfl (by kernel_rfl : Vc.look _ 2 = some (.bool d0.fUnknown)) ?_))))
 obtain rfl := sI hF
 exact ⟨_, rfl, V1, J1, N1, rfl⟩
def slices_IndexFuncapi_Given_api_Given_s1 (n : Nat) (d0 : List TC0) (K1 : Int) : Option (Lp Int (Sum Int Unit)) :=
    bif (decide (K1 < ((d0.length : Nat) : Int))) then
      ((getI d0 K1).bind fun X1 =>
      (schema_Differ_1 n X1).bind fun X2 =>
      bif X2 then
        (some (.br (.inl K1)))
      else
        need (inR .i64 (K1 + 1)) <|
        some (.nx (K1 + 1)))
    else
      some (.br (.inr ()))
def slices_IndexFuncapi_Given_api_Given (n : Nat) (d0 : List TC0) : Option Int :=
  (loopF (slices_IndexFuncapi_Given_api_Given_s1 n d0) n (0 : Int)).bind fun Q1 =>
  (match Q1 with 
  | .inl G1 => some (G1) 
  | .inr G2 => some ((-1 : Int)))
theorem slices_IndexFuncapi_Given_api_Given_ok (n : Nat) (M : Mem) (hG : GL M) (A0 : Option Addr) (cap0 : Nat) (d0 : List TC0) (h0 : Sli M 8 emb_TC0 A0 cap0 d0) (r : Int) (hF : slices_IndexFuncapi_Given_api_Given n d0 = some r) : Ok Tryz.prog M 81 [.slice A0 d0.length cap0, .func (.func 113) #[] #[]] (fun _ v => v = .int .i64 r) := by
 unfold slices_IndexFuncapi_Given_api_Given at hF
 intro M1 hM0 w0 H w p0
 replace hG := GL.mono hM0 hG
 replace h0 := h0.mono hM0
 refine R_enter 19 Tryz.func81 rfl rfl (by simp) fun a0 f0 => RR (Y f0 1 fun _ f => eT (R_seq (RR (Y f 3 fun _ f => eT (wp_block ?_)))))
 obtain ⟨Q1, hL_1, F1⟩ := bS hF
 refine wp_mono (Q := fun e a w => (e = .ret ∧ (∃ G1 : Int, Q1 = .inl G1 ∧ ∃ V2 : Mem, M1.le V2 ∧ Frm 19 [(4, .int .i64 G1)] a ∧ Hp w0 V2 (H) w)) ∨ (e = .exit 0 ∧ (∃ G2 : Unit, Q1 = .inr G2 ∧ ∃ V3 : Mem, M1.le V3 ∧ Frm 19 [] a ∧ Hp w0 V3 (H) w))) (R_loop (n := 19) (w0 := w0) (M := M1) (fun (x : Nat × Int) => match x with | (I1, K1) => [(0, .slice A0 d0.length cap0), (1, .func (.func 113) #[] #[]), (7, .int .i64 ((d0.length : Nat) : Int)), (8, .int .i64 K1)]) (fun (x : Nat × Int) => match x with | (I1, K1) => (H)) (fun (x : Nat × Int) (MM : Mem) => match x with | (I1, K1) => loopF (slices_IndexFuncapi_Given_api_Given_s1 n d0) I1 K1 = some Q1) (fun (x : Nat × Int) => match x with | (I1, K1) => I1) (n, (0 : Int)) (f.kp) p0 hL_1 ?_) ?_
 ·rintro ⟨I1, K1⟩ V1 _ W1 J1 I_1 f N1
  have I_1L := I_1
  obtain ⟨I2, r_1, rfl, hs_1, T1⟩ := loop_step I_1L
  unfold slices_IndexFuncapi_Given_api_Given_s1 at hs_1
  refine RR (Y f 1 fun _ f => eT (R_seq (RcF f hs_1 (fun B1 F2 => ?_) fun B1 F8 => ?_)))
  ·have U1 := dI.1 B1
   refine wp_skip (T_n (R_seq (wp_block (RR (Y f 2 fun _ f => eT (RR (Y f 3 fun _ f => ?_)))))))
   obtain ⟨X1, S1, F3⟩ := bS F2
   obtain ⟨C1, c_1, e_1, -, D1, R1⟩ := Sli.at_ (h0.mono J1) S1
   obtain ⟨Z1, P1, Z2, P2, rfl, B2, B3⟩ := TC0.opn D1
   refine Z f (Y32 e_1 rfl (len := d0.length) (cap := cap0) (k := .i64) (i := K1) (e := 77) (sz := 8) (getI_nn S1) (getI_lt S1)) fun _ f => Z (v := .agg #[S X1.fName, .bool X1.fUnknown, .int .i8 X1.fV.fKind, .bool X1.fV.fBool, .int .i64 X1.fV.fNum, S X1.fV.fText, .slice Z1 X1.fV.fList.length P1, .slice Z2 X1.fV.fKeys.length P2]) f (Y34 (cs := [S X1.fName, .bool X1.fUnknown, .int .i8 X1.fV.fKind, .bool X1.fV.fBool, .int .i64 X1.fV.fNum, S X1.fV.fText, .slice Z1 X1.fV.fList.length P1, .slice Z2 X1.fV.fKeys.length P2]) rfl (ad := C1.add (K1.toNat * 8)) (fun j v h => N1.cell (R1 j v h))) fun _ f => ?_
   obtain ⟨X2, S2, F4⟩ := bS F3
   refine Y18 f N1 (schema_Differ_1_ok n _ (GL.mono J1 hG) _ X1 (TC0.shutx (x := X1) B2 B3) X2 S2) fun W2 N2 _ f => eT (RcF f F4 (fun B4 F5 => ?_) fun B4 F6 => ?_)
   ·refine RR (Y f 2 fun _ f => eT (wp_ret (B_r (T_r (T_r ?_)))))
    obtain rfl := sI F5
    exact .inl ⟨rfl, K1, (sI T1).symm, V1, J1, f.kp, N2⟩
   ·refine wp_skip (B_n (T_n (R_reg ?_)))
    obtain ⟨O1, F7⟩ := nS F6
    refine Y f 1 fun _ f => ?_
    have f := f.st 18 (iW O1)
    refine Y f 1 fun _ f => eT ?_
    obtain rfl := sI F7
    exact ⟨⟨I2, K1 + 1⟩, Nat.lt_succ_self _, V1, J1, T1, f.kp, N2⟩
  ·have U4 := iff_f dI B1
   refine wp_exit (T_x (T_x ?_))
   obtain rfl := sI F8
   exact .inr ⟨rfl, (), (sI T1).symm, V1, J1, f.kp, N1⟩
 ·rintro _ _ W5 (⟨rfl, G1, rfl, V2, J2, f, N3⟩ | ⟨rfl, G2, rfl, V3, J3, f, N4⟩)
  ·refine B_r (T_r (E_ret1 f rfl (by kernel_rfl : Vc.look _ 4 = some (.int .i64 G1)) ?_))
   obtain rfl := sI F1
   exact ⟨_, rfl, V2, J2, N3, rfl⟩
  ·refine B_x (T_n (RR (Y f 1 fun _ f => eT (wp_ret (E_ret1 f rfl (by kernel_rfl : Vc.look _ 4 = some (.int .i64 (-1))) ?_)))))
   obtain rfl := sI F1
   exact ⟨_, rfl, V3, J3, N4, rfl⟩
def slices_ContainsFuncapi_Given_api_Given (n : Nat) (d0 : List TC0) : Option Bool :=
  (slices_IndexFuncapi_Given_api_Given n d0).bind fun X1 =>
  some ((decide ((0 : Int) ≤ X1)))
theorem slices_ContainsFuncapi_Given_api_Given_ok (n : Nat) (M : Mem) (hG : GL M) (A0 : Option Addr) (cap0 : Nat) (d0 : List TC0) (h0 : Sli M 8 emb_TC0 A0 cap0 d0) (r : Bool) (hF : slices_ContainsFuncapi_Given_api_Given n d0 = some r) : Ok Tryz.prog M 59 [.slice A0 d0.length cap0, .func (.func 113) #[] #[]] (fun _ v => v = .bool r) := by
 unfold slices_ContainsFuncapi_Given_api_Given at hF
 intro M1 hM0 w0 H w p0
 replace hG := GL.mono hM0 hG
 replace h0 := h0.mono hM0
 refine R_enter 9 Tryz.func59 rfl rfl (by simp) fun a0 f0 => RR (Y f0 1 fun _ f => eT (RR (Y f 2 fun _ f => ?_)))
 obtain ⟨X1, S1, F1⟩ := bS hF
 refine Y18 f p0 (slices_IndexFuncapi_Given_api_Given_ok n _ hG A0 cap0 d0 h0 X1 S1) fun W1 N1 _ f => Y f 2 fun _ f => eT (wp_ret (E_ret1 f rfl (by kernel_rfl : Vc.look _ 4 = some (.bool (decide ((0 : Int) ≤ X1)))) ?_))
 obtain rfl := sI F1
 exact ⟨_, rfl, M1, (mR _), N1, rfl⟩
def schema_byName_s1 (n : Nat) (d0 : List TC0) (K1 : Int × (List ((List UInt8) × TC0))) : Option (Lp (Int × (List ((List UInt8) × TC0))) (List ((List UInt8) × TC0))) :=
    bif (decide (K1.1 < ((d0.length : Nat) : Int))) then
      ((getI d0 K1.1).bind fun X1 =>
      need (inR .i64 (K1.1 + 1)) <|
      some (.nx (K1.1 + 1, mput K1.2 X1.fName X1)))
    else
      some (.br K1.2)
def schema_byName (n : Nat) (d0 : List TC0) : Option (List ((List UInt8) × TC0)) :=
  (loopF (schema_byName_s1 n d0) n ((0 : Int), ([] : List ((List UInt8) × TC0)))).bind fun G1 =>
  some (G1)
theorem schema_byName_ok (n : Nat) (M : Mem) (hG : GL M) (A0 : Option Addr) (cap0 : Nat) (d0 : List TC0) (h0 : Sli M 8 emb_TC0 A0 cap0 d0) (r : (List ((List UInt8) × TC0))) (hF : schema_byName n d0 = some r) : Ok Tryz.prog M 114 [.slice A0 d0.length cap0] (fun M' v => ∃ (b0 : Nat) (m0 : List ((List UInt8) × Value)), v = .map (some b0) ∧ M' b0 = some (mapO S idV m0) ∧ RepMap M' emb_TC0 r m0) := by
 unfold schema_byName at hF
 intro M1 hM0 w0 H w p0
 replace hG := GL.mono hM0 hG
 replace h0 := h0.mono hM0
 refine R_enter 19 Tryz.func114 rfl rfl (by simp) fun a0 f0 => RR (Y f0 1 fun _ f => eT (RR (W_newmap S idV f p0 (by kernel_rfl) (by kernel_rfl) rfl rfl rfl fun o1 W1 N1 _ f => ?_)))
 have hm_1 : RepMap M1 emb_TC0 ([] : List ((List UInt8) × TC0)) ([] : List ((List UInt8) × Value)) := RepMap.nil
 refine Y f 1 fun _ f => eT (R_seq (RR (Y f 3 fun _ f => eT (wp_block ?_))))
 obtain ⟨Q1, hL_1, F1⟩ := bS hF
 refine wp_mono (Q := fun e a w => (e = .exit 0 ∧ (∃ G1 : (List ((List UInt8) × TC0)), Q1 = G1 ∧ ∃ V2 : Mem, M1.le V2 ∧ ∃ (I4 : List ((List UInt8) × Value)), RepMap V2 emb_TC0 G1 I4 ∧ Frm 19 [(3, .map (some o1))] a ∧ Hp w0 V2 ((Ent.obj o1 (mapO S idV I4)) :: H) w))) (R_loop (n := 19) (w0 := w0) (M := M1) (fun (x : Nat × (Int × (List ((List UInt8) × TC0))) × (List ((List UInt8) × Value))) => match x with | (I1, K1, I2) => [(3, .map (some o1)), (7, .slice A0 d0.length cap0), (8, .int .i64 ((d0.length : Nat) : Int)), (9, .int .i64 K1.1)]) (fun (x : Nat × (Int × (List ((List UInt8) × TC0))) × (List ((List UInt8) × Value))) => match x with | (I1, K1, I2) => ((Ent.obj o1 (mapO S idV I2)) :: H)) (fun (x : Nat × (Int × (List ((List UInt8) × TC0))) × (List ((List UInt8) × Value))) (MM : Mem) => match x with | (I1, K1, I2) => loopF (schema_byName_s1 n d0) I1 K1 = some Q1 ∧ RepMap MM emb_TC0 K1.2 I2) (fun (x : Nat × (Int × (List ((List UInt8) × TC0))) × (List ((List UInt8) × Value))) => match x with | (I1, K1, I2) => I1) (n, ((0 : Int), ([] : List ((List UInt8) × TC0))), ([] : List ((List UInt8) × Value))) (f.kp) N1 ⟨hL_1, hm_1⟩ ?_) ?_
 ·rintro ⟨I1, K1, I2⟩ V1 _ W2 J1 I_1 f N2
  obtain ⟨I_1L, hm_2⟩ := I_1
  obtain ⟨I3, r_1, rfl, hs_1, T1⟩ := loop_step I_1L
  unfold schema_byName_s1 at hs_1
  refine RR (Y f 1 fun _ f => eT (R_seq (RcF f hs_1 (fun B1 F2 => ?_) fun B1 F5 => ?_)))
  ·have U1 := dI.1 B1
   refine wp_skip (T_n (R_seq (wp_block (RR ?_))))
   obtain ⟨X1, S1, F3⟩ := bS F2
   obtain ⟨C1, c_1, e_1, -, D1, R1⟩ := Sli.at_ (h0.mono J1) S1
   obtain ⟨Z1, P1, Z2, P2, rfl, B2, B3⟩ := TC0.opn D1
   refine Z f (Y32 e_1 rfl (len := d0.length) (cap := cap0) (k := .i64) (i := K1.1) (e := 77) (sz := 8) (getI_nn S1) (getI_lt S1)) fun _ f => Z (v := .agg #[S X1.fName, .bool X1.fUnknown, .int .i8 X1.fV.fKind, .bool X1.fV.fBool, .int .i64 X1.fV.fNum, S X1.fV.fText, .slice Z1 X1.fV.fList.length P1, .slice Z2 X1.fV.fKeys.length P2]) f (Y34 (cs := [S X1.fName, .bool X1.fUnknown, .int .i8 X1.fV.fKind, .bool X1.fV.fBool, .int .i64 X1.fV.fNum, S X1.fV.fText, .slice Z1 X1.fV.fList.length P1, .slice Z2 X1.fV.fKeys.length P2]) rfl (ad := C1.add (K1.1.toNat * 8)) (fun j v h => N2.cell (R1 j v h))) fun _ f => Y12 f N2 (.cells #[S [], .bool false, .int .i8 0, .bool false, .int .i64 0, S [], .slice none 0 0, .slice none 0 0] 77 (0, 0)) fun Q2 W3 N3 _ f => Y28 (vs := [S X1.fName, .bool X1.fUnknown, .int .i8 X1.fV.fKind, .bool X1.fV.fBool, .int .i64 X1.fV.fNum, S X1.fV.fText, .slice Z1 X1.fV.fList.length P1, .slice Z2 X1.fV.fKeys.length P2]) (j := 0) f N3 rfl rfl (by simp [Value.oneCell', S]) (by simp) (by decide) (cs' := #[S X1.fName, .bool X1.fUnknown, .int .i8 X1.fV.fKind, .bool X1.fV.fBool, .int .i64 X1.fV.fNum, S X1.fV.fText, .slice Z1 X1.fV.fList.length P1, .slice Z2 X1.fV.fKeys.length P2]) (by kernel_rfl) fun W4 N4 _ f => eT (R_reg (Y f 2 fun _ f => Z f (Y33 (v := S X1.fName) rfl (ad := ⟨Q2, 0, none⟩) (N4.ownCell 0 rfl 0)) fun _ f => Z (v := .agg #[S X1.fName, .bool X1.fUnknown, .int .i8 X1.fV.fKind, .bool X1.fV.fBool, .int .i64 X1.fV.fNum, S X1.fV.fText, .slice Z1 X1.fV.fList.length P1, .slice Z2 X1.fV.fKeys.length P2]) f (Y34 (cs := [S X1.fName, .bool X1.fUnknown, .int .i8 X1.fV.fKind, .bool X1.fV.fBool, .int .i64 X1.fV.fNum, S X1.fV.fText, .slice Z1 X1.fV.fList.length P1, .slice Z2 X1.fV.fKeys.length P2]) rfl (ad := ⟨Q2, 0, none⟩) (own_cells (N4.ownCell 0 rfl) 0 rfl)) fun _ f => ?_))
   have N5 := N4.pl [1]
   have hm_3 := RepMap.put (k := X1.fName) (x := X1) (cs := [S X1.fName, .bool X1.fUnknown, .int .i8 X1.fV.fKind, .bool X1.fV.fBool, .int .i64 X1.fV.fNum, S X1.fV.fText, .slice Z1 X1.fV.fList.length P1, .slice Z2 X1.fV.fKeys.length P2]) (TC0.shutx (x := X1) B2 B3) hm_2
   refine W_mapput (ek := S) (ev := idV) (m := I2) (k := X1.fName) (v := .agg [S X1.fName, .bool X1.fUnknown, .int .i8 X1.fV.fKind, .bool X1.fV.fBool, .int .i64 X1.fV.fNum, S X1.fV.fText, .slice Z1 X1.fV.fList.length P1, .slice Z2 X1.fV.fKeys.length P2].toArray) (kt := 9) (et := 77) f N5 (by kernel_rfl) (by kernel_rfl) rfl (.inl rfl) (by kernel_rfl) (by kernel_rfl) (by kernel_rfl) (by kernel_rfl) (strKey (by kernel_rfl)) fun W5 N6 _ f => W_end rfl (B_n (T_n (R_reg ?_)))
   obtain ⟨O1, F4⟩ := nS F3
   refine Y f 1 fun _ f => ?_
   have f := f.st 17 (iW O1)
   refine Y f 1 fun _ f => W_end rfl ?_
   have N8 := N6.pl [1]
   refine T_n ?_
   obtain rfl := sI F4
   exact ⟨⟨I3, (K1.1 + 1, mput K1.2 X1.fName X1), mput I2 X1.fName (.agg [S X1.fName, .bool X1.fUnknown, .int .i8 X1.fV.fKind, .bool X1.fV.fBool, .int .i64 X1.fV.fNum, S X1.fV.fText, .slice Z1 X1.fV.fList.length P1, .slice Z2 X1.fV.fKeys.length P2].toArray)⟩, Nat.lt_succ_self _, V1, J1, ⟨T1, hm_3⟩, f.kp, (N8.dropN 1)⟩
  ·have U2 := iff_f dI B1
   refine wp_exit (T_x (T_x ?_))
   obtain rfl := sI F5
   exact ⟨rfl, K1.2, (sI T1).symm, V1, J1, I2, hm_2, f.kp, N2⟩
 ·rintro _ _ W7 ⟨rfl, G1, hq_, V2, J2, I4, hm_4, f, N7⟩
  subst Q1
  refine B_x (T_n (RR (Y f 2 fun _ f => eT (wp_ret ?_))))
  obtain ⟨V3, J3, N9, B4⟩ := N7.fzObj
  refine E_ret1 f rfl (by kernel_rfl : Vc.look _ 2 = some (.map (some o1))) ?_
  obtain rfl := sI F1
  exact ⟨_, rfl, V3, (J2.trans J3), N9, ⟨o1, I4, rfl, B4, (hm_4.mono J3)⟩⟩
def schema_Differ_s1_e (n : Nat) (X5 : (List ((List UInt8) × TC0))) (X6 : (List ((List UInt8) × TC0))) (K1 : Int) : Option (Lp Int (Sum Int Unit)) :=
    some (.br (.inl K1))
def schema_Differ_s1_y (n : Nat) (X5 : (List ((List UInt8) × TC0))) (X6 : (List ((List UInt8) × TC0))) (j1 : List UInt8 × TG0) (K1 : Int) : Option (Lp Int (Sum Int Unit)) :=
    ((bif ((mget X5 j1.1).isSome == (mget X6 j1.1).isSome) then
        (bif (!((mget X6 j1.1).getD z_TC0).fUnknown) then
          (bif (!(mget X5 j1.1).isSome) then
            (some ((true)))
          else
            (tree_Equal n (⟨((mget X5 j1.1).getD z_TC0).fV.fKind, (((mget X5 j1.1).getD z_TC0).fV.fBool), ((mget X5 j1.1).getD z_TC0).fV.fNum, ((mget X5 j1.1).getD z_TC0).fV.fText, ((mget X5 j1.1).getD z_TC0).fV.fList, ((mget X5 j1.1).getD z_TC0).fV.fKeys⟩ : TE0) (⟨((mget X6 j1.1).getD z_TC0).fV.fKind, (((mget X6 j1.1).getD z_TC0).fV.fBool), ((mget X6 j1.1).getD z_TC0).fV.fNum, ((mget X6 j1.1).getD z_TC0).fV.fText, ((mget X6 j1.1).getD z_TC0).fV.fList, ((mget X6 j1.1).getD z_TC0).fV.fKeys⟩ : TE0)).bind fun X7 =>
            some ((X7)))
        else
          some ((false)))
      else
        some ((false)) : Option Bool)).bind fun G1 =>
    bif G1 then
      (some (.nx K1))
    else
      bif j1.2.fReplace then
        (some (.br (.inr ())))
      else
        some (.nx (2 : Int))
def schema_Differ (n : Nat) (d0 : List UInt8) (d1 : List TC0) (d2 : List TC0) : Option (Int × Int) :=
  (schema_Check n d0 d1).bind fun X1 =>
  (schema_Check n d0 d2).bind fun X2 =>
  (cmp_Or_2 n [X1, X2]).bind fun X3 =>
  bif (!(decide (X3 = 0))) then
    (some (((0 : Int), X3)))
  else
    (slices_ContainsFuncapi_Given_api_Given n d1).bind fun X4 =>
    bif X4 then
      (some (((0 : Int), (91 : Int))))
    else
      (schema_byName n d1).bind fun X5 =>
      (schema_byName n d2).bind fun X6 =>
      (foldP (schema_Differ_s1_e n X5 X6) (schema_Differ_s1_y n X5 X6) (propsD d0) (0 : Int)).bind fun Q7 =>
      (match Q7 with 
      | .inl G2 => some ((G2, (0 : Int))) 
      | .inr G3 => some (((3 : Int), (0 : Int))))
set_option maxRecDepth 20000 in
theorem schema_Differ_ok (n : Nat) (M : Mem) (hG : GL M) (d0 : List UInt8) (A1 : Option Addr) (cap1 : Nat) (d1 : List TC0) (h1 : Sli M 8 emb_TC0 A1 cap1 d1) (A2 : Option Addr) (cap2 : Nat) (d2 : List TC0) (h2 : Sli M 8 emb_TC0 A2 cap2 d2) (r : Int × Int) (hF : schema_Differ n d0 d1 d2 = some r) : Ok Tryz.prog M 90 [S d0, .slice A1 d1.length cap1, .slice A2 d2.length cap2] (fun _ v => v = .tuple #[.int .i8 r.1, .int .i64 r.2]) := by
 unfold schema_Differ at hF
 intro M1 hM0 w0 H w p0
 replace hG := GL.mono hM0 hG
 replace h1 := h1.mono hM0
 replace h2 := h2.mono hM0
 refine R_enter 78 Tryz.func90 rfl rfl (by simp) fun a0 f0 => RR (Y f0 2 fun _ f => eT (R_seq (RR (Y f 2 fun _ f => ?_))))
 obtain ⟨X1, S1, F1⟩ := bS hF
 refine Y18 f p0 (schema_Check_ok n _ hG d0 A1 cap1 d1 h1 X1 S1) fun W1 N1 _ f => Y f 2 fun _ f => ?_
 obtain ⟨X2, S2, F2⟩ := bS F1
 refine Y18 f N1 (schema_Check_ok n _ hG d0 A2 cap2 d2 h2 X2 S2) fun W2 N2 _ f => V_allocS (k := 2) (c := 2) f N2 (.cells #[.int .i64 X1, .int .i64 X2] 29 (0, 0)) (by kernel_rfl) (fun _ => by kernel_rfl) fun Q1 W3 N3 _ f => ?_
 have D1 : RepSeq M1 ([X1, X2].map (Dat.int .i64)) [.int .i64 X1, .int .i64 X2] := ⟨_, _, rfl, rfl, ⟨_, _, rfl, rfl, rfl⟩⟩
 have N4 : Hp w0 M1 ((Ent.row 29 1 (.slice (some ⟨Q1, 0, none⟩) 2 2) [X1, X2].length [.int .i64 X1, .int .i64 X2]) :: H) W3 := N3.objRow (n := 2) (cap := 2) (size := 1) (by decide) (by decide) (blk_eq (by decide) rfl) rfl rfl
 obtain ⟨V1, Z1, P1, J1, H1, N5, B1, hb_1⟩ := N4.lend (f := (Dat.int .i64)) (xs := [X1, X2]) (szd_int .i64) D1
 have f := f.st 24 (H1)
 obtain ⟨X3, S3, F3⟩ := bS F2
 refine Y18 f N5 (cmp_Or_2_ok n _ (GL.mono J1 hG) Z1 P1 [X1, X2] B1 X3 S3) fun W4 N6 _ f => ?_
 obtain ⟨V2, J2, N7⟩ := hb_1 _ _ _ (mR _) N6
 have f := f.st 24 (H1.symm)
 refine Y f 1 fun _ f => eT (RR (Y f 2 fun _ f => eT (RcF f F3 (fun B2 F4 => ?_) fun B2 F5 => ?_)))
 ·have U1 : ¬ (X3 = 0) := (not_iff dI).1 B2
  refine RR (Y f 3 fun _ f => eT (wp_ret (T_r (E_ret2 f rfl (by kernel_rfl : Vc.look _ 6 = some (.int .i8 0)) (by kernel_rfl : Vc.look _ 7 = some (.int .i64 X3)) ?_))))
  obtain rfl := sI F4
  exact ⟨_, rfl, V2, J2, (N7.dropN 1), rfl⟩
 ·have U2 : ¬ (¬ (X3 = 0)) := iff_f (not_iff dI) B2
  refine wp_skip (T_n (R_seq (RR (Y f 1 fun _ f => ?_))))
  obtain ⟨X4, S4, F6⟩ := bS F5
  refine Y18 f N7 (slices_ContainsFuncapi_Given_api_Given_ok n _ (GL.mono J2 hG) A1 cap1 d1 (h1.mono J2) X4 S4) fun W5 N8 _ f => eT (RcF f F6 (fun B3 F7 => ?_) fun B3 F8 => ?_)
  ·refine RR (Y f 2 fun _ f => eT (wp_ret (T_r (E_ret2 f rfl (by kernel_rfl : Vc.look _ 6 = some (.int .i8 0)) (by kernel_rfl : Vc.look _ 7 = some (.int .i64 91)) ?_))))
   obtain rfl := sI F7
   exact ⟨_, rfl, V2, J2, (N8.dropN 1), rfl⟩
  ·refine wp_skip (T_n (RR (Y f 1 fun _ f => ?_)))
   obtain ⟨X5, S5, F9⟩ := bS F8
   refine Y16 f N8 (schema_byName_ok n _ (GL.mono J2 hG) A1 cap1 d1 (h1.mono J2) X5 S5) fun _ V3 W6 J3 N9 q_1 _ f => ?_
   obtain ⟨bk_1, I1, rfl, h0_1, hm_1⟩ := q_1
   refine Y f 1 fun _ f => ?_
   obtain ⟨X6, S6, F10⟩ := bS F9
   refine Y16 f N9 (schema_byName_ok n _ (GL.mono (J2.trans J3) hG) A2 cap2 d2 (h2.mono (J2.trans J3)) X6 S6) fun _ V4 W7 J4 N10 q_2 _ f => ?_
   obtain ⟨bk_2, I2, rfl, h0_2, hm_2⟩ := q_2
   refine Y f 2 fun _ f => eT (RR (Y f 1 fun _ f => eT (R_seq (RR (Y16 f N10 (all_ok _) fun _ V5 W8 J5 N11 q_3 _ f => ?_)))))
   obtain ⟨Q2, Q3, Q4, Q5, Q6, rfl, hA_1⟩ := q_3
   refine Y f 1 fun _ f => Z (v := .map (blkOf Q3 Q4 Q5 Q6 d0)) f (X_all1 (k := d0) (kt := 9) (et := 130) hA_1 N11 rfl (by kernel_rfl) (by kernel_rfl) (by kernel_rfl) (strKey (by kernel_rfl)) (by kernel_rfl)) fun _ f => W_rangeM (kt := 9) (et := 135) (kmap_of hA_1 d0) f N11 (by kernel_rfl) (by kernel_rfl) rfl rfl rfl (by kernel_rfl) (by kernel_rfl) fun r_1 W9 N12 _ f => eT (wp_block ?_)
   obtain ⟨Q7, hL_1, F11⟩ := bS F10
   refine wp_mono (Q := fun e a w => (e = .exit 0 ∧ (∃ G2 : Int, Q7 = .inl G2 ∧ ∃ V8 : Mem, V5.le V8 ∧ Frm 78 [(11, .int .i8 G2)] a ∧ Hp w0 V8 ((Ent.row 29 1 (.slice (some ⟨Q1, 0, none⟩) 2 2) [X1, X2].length [.int .i64 X1, .int .i64 X2]) :: H) w)) ∨ (e = .ret ∧ (∃ G3 : Unit, Q7 = .inr G3 ∧ ∃ V9 : Mem, V5.le V9 ∧ Frm 78 [(6, .int .i8 3), (7, .int .i64 0)] a ∧ Hp w0 V9 ((Ent.row 29 1 (.slice (some ⟨Q1, 0, none⟩) 2 2) [X1, X2].length [.int .i64 X1, .int .i64 X2]) :: H) w))) (R_loop (n := 78) (w0 := w0) (M := V5) (fun (x : Int × (Array Nat)) => match x with | (K1, sn_1) => [(9, .map (some bk_1)), (10, .map (some bk_2)), (11, .int .i8 K1), (38, .pointer (some (⟨r_1, 0, none⟩)))]) (fun (x : Int × (Array Nat)) => match x with | (K1, sn_1) => ((Ent.obj r_1 (.mapIter (blkOf Q3 Q4 Q5 Q6 d0) (propsD d0).length sn_1 (propsD d0).length)) :: (Ent.row 29 1 (.slice (some ⟨Q1, 0, none⟩) 2 2) [X1, X2].length [.int .i64 X1, .int .i64 X2]) :: H)) (fun (x : Int × (Array Nat)) (MM : Mem) => match x with | (K1, sn_1) => (∀ l, l.Perm (leftD (propsD d0) sn_1) → foldO (schema_Differ_s1_e n X5 X6) (schema_Differ_s1_y n X5 X6) l K1 = some Q7)) (fun (x : Int × (Array Nat)) => match x with | (K1, sn_1) => (leftD (propsD d0) sn_1).length) ((0 : Int), #[]) (f.kp) N12 (foldP_start hL_1) ?_) ?_
   ·rintro ⟨K1, sn_1⟩ V6 _ W10 J6 I_1 f N13
    have I_1L := I_1
    refine RR (W_nextM (kmap_of (hA_1.mono J6) d0) f N13 (by kernel_rfl) (by kernel_rfl) rfl rfl rfl (by kernel_rfl) (fun ho_1 W11 N14 _ f => ?_) fun j1 j_1 hj_1 W12 N15 _ f => ?_)
    ·obtain ⟨r_2, hs_1, T1⟩ := foldO_end I_1L ho_1
     unfold schema_Differ_s1_e at hs_1
     refine Y f 1 fun _ f => eT (R_seq (Y7 f (wp_exit (T_x (T_x ?_)))))
     obtain rfl := sI hs_1
     exact .inl ⟨rfl, K1, (sI T1).symm, V6, J6, f.kp, (N14.dropN 1)⟩
    ·obtain ⟨r_2, hs_1, T1⟩ := foldO_go hj_1 I_1L
     unfold schema_Differ_s1_y at hs_1
     refine Y f 1 fun _ f => eT (R_seq (Y8 f (wp_skip (T_n (wp_block (RR (Z (v := .tuple #[S j1.1, .agg #[S j1.2.fName, .int .i8 j1.2.fKind, .bool j1.2.fReplace]]) f (X_entryM (m := propsD d0) (kmap_of (hA_1.mono J6) d0) N15 hj_1 0 rfl rfl (by kernel_rfl)) fun _ f => Y f 2 fun _ f => Y12 f N15 (.cells #[S [], .int .i8 0, .bool false] 135 (0, 0)) fun Q8 W13 N16 _ f => Y f 1 fun _ f => Y28 (vs := [S j1.2.fName, .int .i8 j1.2.fKind, .bool j1.2.fReplace]) (j := 0) f N16 rfl rfl (by simp [Value.oneCell', S]) (by simp) (by decide) (cs' := #[S j1.2.fName, .int .i8 j1.2.fKind, .bool j1.2.fReplace]) (by kernel_rfl) fun W14 N17 _ f => eT (RR (Y f 2 fun _ f => ?_)))))))))
     obtain ⟨c_1, R1, D2⟩ := RepMap.get (k := j1.1) (z := z_TC0) (zc := [S [], .bool false, .int .i8 0, .bool false, .int .i64 0, S [], .slice none 0 0, .slice none 0 0]) (TC0.shutx (x := z_TC0) Sli.nil Sli.nil) (hm_1.mono ((J4.trans J5).trans J6))
     obtain ⟨Z2, P2, Z3, P3, rfl, B4, B5⟩ := TC0.opn D2
     refine Z (v := .tuple #[.agg #[S ((mget X5 j1.1).getD z_TC0).fName, .bool ((mget X5 j1.1).getD z_TC0).fUnknown, .int .i8 ((mget X5 j1.1).getD z_TC0).fV.fKind, .bool ((mget X5 j1.1).getD z_TC0).fV.fBool, .int .i64 ((mget X5 j1.1).getD z_TC0).fV.fNum, S ((mget X5 j1.1).getD z_TC0).fV.fText, .slice Z2 ((mget X5 j1.1).getD z_TC0).fV.fList.length P2, .slice Z3 ((mget X5 j1.1).getD z_TC0).fV.fKeys.length P3], .bool (mget X5 j1.1).isSome]) f (X_lookupR2 (ek := S) (kt := 9) (et := 77) R1 (RepMap.isSome (hm_1.mono ((J4.trans J5).trans J6))) rfl (by kernel_rfl) (by kernel_rfl) (by kernel_rfl) (strKey (by kernel_rfl)) (by kernel_rfl) (N17.mem _ _ (((J4.trans J5).trans J6) _ _ h0_1))) fun _ f => Y f 3 fun _ f => Y12 f N17 (.cells #[S [], .bool false, .int .i8 0, .bool false, .int .i64 0, S [], .slice none 0 0, .slice none 0 0] 77 (0, 0)) fun Q9 W15 N18 _ f => Y28 (vs := [S ((mget X5 j1.1).getD z_TC0).fName, .bool ((mget X5 j1.1).getD z_TC0).fUnknown, .int .i8 ((mget X5 j1.1).getD z_TC0).fV.fKind, .bool ((mget X5 j1.1).getD z_TC0).fV.fBool, .int .i64 ((mget X5 j1.1).getD z_TC0).fV.fNum, S ((mget X5 j1.1).getD z_TC0).fV.fText, .slice Z2 ((mget X5 j1.1).getD z_TC0).fV.fList.length P2, .slice Z3 ((mget X5 j1.1).getD z_TC0).fV.fKeys.length P3]) (j := 0) f N18 rfl rfl (by simp [Value.oneCell', S]) (by simp) (by decide) (cs' := #[S ((mget X5 j1.1).getD z_TC0).fName, .bool ((mget X5 j1.1).getD z_TC0).fUnknown, .int .i8 ((mget X5 j1.1).getD z_TC0).fV.fKind, .bool ((mget X5 j1.1).getD z_TC0).fV.fBool, .int .i64 ((mget X5 j1.1).getD z_TC0).fV.fNum, S ((mget X5 j1.1).getD z_TC0).fV.fText, .slice Z2 ((mget X5 j1.1).getD z_TC0).fV.fList.length P2, .slice Z3 ((mget X5 j1.1).getD z_TC0).fV.fKeys.length P3]) (by kernel_rfl) fun W16 N19 _ f => Y f 1 fun _ f => eT (RR (Y f 2 fun _ f => ?_))
     obtain ⟨c_2, R2, D3⟩ := RepMap.get (k := j1.1) (z := z_TC0) (zc := [S [], .bool false, .int .i8 0, .bool false, .int .i64 0, S [], .slice none 0 0, .slice none 0 0]) (TC0.shutx (x := z_TC0) Sli.nil Sli.nil) (hm_2.mono (J5.trans J6))
     obtain ⟨Z4, P4, Z5, P5, rfl, B6, B7⟩ := TC0.opn D3
     refine Z (v := .tuple #[.agg #[S ((mget X6 j1.1).getD z_TC0).fName, .bool ((mget X6 j1.1).getD z_TC0).fUnknown, .int .i8 ((mget X6 j1.1).getD z_TC0).fV.fKind, .bool ((mget X6 j1.1).getD z_TC0).fV.fBool, .int .i64 ((mget X6 j1.1).getD z_TC0).fV.fNum, S ((mget X6 j1.1).getD z_TC0).fV.fText, .slice Z4 ((mget X6 j1.1).getD z_TC0).fV.fList.length P4, .slice Z5 ((mget X6 j1.1).getD z_TC0).fV.fKeys.length P5], .bool (mget X6 j1.1).isSome]) f (X_lookupR2 (ek := S) (kt := 9) (et := 77) R2 (RepMap.isSome (hm_2.mono (J5.trans J6))) rfl (by kernel_rfl) (by kernel_rfl) (by kernel_rfl) (strKey (by kernel_rfl)) (by kernel_rfl) (N19.mem _ _ ((J5.trans J6) _ _ h0_2))) fun _ f => Y f 3 fun _ f => Y12 f N19 (.cells #[S [], .bool false, .int .i8 0, .bool false, .int .i64 0, S [], .slice none 0 0, .slice none 0 0] 77 (0, 0)) fun Q10 W17 N20 _ f => Y28 (vs := [S ((mget X6 j1.1).getD z_TC0).fName, .bool ((mget X6 j1.1).getD z_TC0).fUnknown, .int .i8 ((mget X6 j1.1).getD z_TC0).fV.fKind, .bool ((mget X6 j1.1).getD z_TC0).fV.fBool, .int .i64 ((mget X6 j1.1).getD z_TC0).fV.fNum, S ((mget X6 j1.1).getD z_TC0).fV.fText, .slice Z4 ((mget X6 j1.1).getD z_TC0).fV.fList.length P4, .slice Z5 ((mget X6 j1.1).getD z_TC0).fV.fKeys.length P5]) (j := 0) f N20 rfl rfl (by simp [Value.oneCell', S]) (by simp) (by decide) (cs' := #[S ((mget X6 j1.1).getD z_TC0).fName, .bool ((mget X6 j1.1).getD z_TC0).fUnknown, .int .i8 ((mget X6 j1.1).getD z_TC0).fV.fKind, .bool ((mget X6 j1.1).getD z_TC0).fV.fBool, .int .i64 ((mget X6 j1.1).getD z_TC0).fV.fNum, S ((mget X6 j1.1).getD z_TC0).fV.fText, .slice Z4 ((mget X6 j1.1).getD z_TC0).fV.fList.length P4, .slice Z5 ((mget X6 j1.1).getD z_TC0).fV.fKeys.length P5]) (by kernel_rfl) fun W18 N21 _ f => Y f 1 fun _ f => eT (R_seq (R_seq ?_))
     obtain ⟨j_2, hj_2, F12⟩ := bS hs_1
     refine R_mid (fun a_60 W20 => ∃ G1 : Bool, j_2 = G1 ∧ ∃ V7 : Mem, V6.le V7 ∧ Frm 78 [(9, .map (some bk_1)), (10, .map (some bk_2)), (11, .int .i8 K1), (13, .pointer (some (⟨Q8, 0, none⟩))), (38, .pointer (some (⟨r_1, 0, none⟩))), (74, .bool G1)] a_60 ∧ Hp w0 V7 ((Ent.obj Q10 (.cells #[S ((mget X6 j1.1).getD z_TC0).fName, .bool ((mget X6 j1.1).getD z_TC0).fUnknown, .int .i8 ((mget X6 j1.1).getD z_TC0).fV.fKind, .bool ((mget X6 j1.1).getD z_TC0).fV.fBool, .int .i64 ((mget X6 j1.1).getD z_TC0).fV.fNum, S ((mget X6 j1.1).getD z_TC0).fV.fText, .slice Z4 ((mget X6 j1.1).getD z_TC0).fV.fList.length P4, .slice Z5 ((mget X6 j1.1).getD z_TC0).fV.fKeys.length P5] 77 (0, 0))) :: (Ent.obj Q9 (.cells #[S ((mget X5 j1.1).getD z_TC0).fName, .bool ((mget X5 j1.1).getD z_TC0).fUnknown, .int .i8 ((mget X5 j1.1).getD z_TC0).fV.fKind, .bool ((mget X5 j1.1).getD z_TC0).fV.fBool, .int .i64 ((mget X5 j1.1).getD z_TC0).fV.fNum, S ((mget X5 j1.1).getD z_TC0).fV.fText, .slice Z2 ((mget X5 j1.1).getD z_TC0).fV.fList.length P2, .slice Z3 ((mget X5 j1.1).getD z_TC0).fV.fKeys.length P3] 77 (0, 0))) :: (Ent.obj Q8 (.cells #[S j1.2.fName, .int .i8 j1.2.fKind, .bool j1.2.fReplace] 135 (0, 0))) :: (Ent.obj r_1 (.mapIter (blkOf Q3 Q4 Q5 Q6 d0) (propsD d0).length (sn_1.push j_1) (propsD d0).length)) :: (Ent.row 29 1 (.slice (some ⟨Q1, 0, none⟩) 2 2) [X1, X2].length [.int .i64 X1, .int .i64 X2]) :: H) W20) ?_ ?_
     ·refine R_reg (Y f 4 fun _ f => ?_)
      rcases cE hj_2 with ⟨B8, F13⟩ | ⟨B8, F19⟩
      ·have f := f.st 59 (cB B8)
       refine Y f 1 fun _ f => Z f (Y33 (v := .bool ((mget X6 j1.1).getD z_TC0).fUnknown) rfl (ad := ⟨Q10, 1, none⟩) (N21.ownCell 0 rfl 1)) fun _ f => Y f 3 fun _ f => ?_
       rcases cE F13 with ⟨B9, F14⟩ | ⟨B9, F18⟩
       ·have U6 : (((mget X6 j1.1).getD z_TC0).fUnknown) = false := by simpa using B9
        have f := f.st 64 (cB B9)
        refine Y f 3 fun _ f => ?_
        rcases cE F14 with ⟨B10, F15⟩ | ⟨B10, F16⟩
        ·have U7 : ((mget X5 j1.1).isSome) = false := by simpa using B10
         have f := f.st 67 (cB B10)
         refine Y f 7 fun _ f => eT ?_
         exact ⟨(true), (sI F15).symm, V6, (mR _), f.kp, N21⟩
        ·have U8 : ((mget X5 j1.1).isSome) = true := by simpa using B10
         have f := f.st 67 (cB B10)
         refine Y f 1 fun _ f => Z (v := .agg #[.int .i8 ((mget X5 j1.1).getD z_TC0).fV.fKind, .bool ((mget X5 j1.1).getD z_TC0).fV.fBool, .int .i64 ((mget X5 j1.1).getD z_TC0).fV.fNum, S ((mget X5 j1.1).getD z_TC0).fV.fText, .slice Z2 ((mget X5 j1.1).getD z_TC0).fV.fList.length P2, .slice Z3 ((mget X5 j1.1).getD z_TC0).fV.fKeys.length P3]) f (Y34 (cs := [.int .i8 ((mget X5 j1.1).getD z_TC0).fV.fKind, .bool ((mget X5 j1.1).getD z_TC0).fV.fBool, .int .i64 ((mget X5 j1.1).getD z_TC0).fV.fNum, S ((mget X5 j1.1).getD z_TC0).fV.fText, .slice Z2 ((mget X5 j1.1).getD z_TC0).fV.fList.length P2, .slice Z3 ((mget X5 j1.1).getD z_TC0).fV.fKeys.length P3]) rfl (ad := ⟨Q9, 2, none⟩) (own_cells (N21.ownCell 1 rfl) 2 rfl)) fun _ f => Y f 1 fun _ f => Z (v := .agg #[.int .i8 ((mget X6 j1.1).getD z_TC0).fV.fKind, .bool ((mget X6 j1.1).getD z_TC0).fV.fBool, .int .i64 ((mget X6 j1.1).getD z_TC0).fV.fNum, S ((mget X6 j1.1).getD z_TC0).fV.fText, .slice Z4 ((mget X6 j1.1).getD z_TC0).fV.fList.length P4, .slice Z5 ((mget X6 j1.1).getD z_TC0).fV.fKeys.length P5]) f (Y34 (cs := [.int .i8 ((mget X6 j1.1).getD z_TC0).fV.fKind, .bool ((mget X6 j1.1).getD z_TC0).fV.fBool, .int .i64 ((mget X6 j1.1).getD z_TC0).fV.fNum, S ((mget X6 j1.1).getD z_TC0).fV.fText, .slice Z4 ((mget X6 j1.1).getD z_TC0).fV.fList.length P4, .slice Z5 ((mget X6 j1.1).getD z_TC0).fV.fKeys.length P5]) rfl (ad := ⟨Q10, 2, none⟩) (own_cells (N21.ownCell 0 rfl) 2 rfl)) fun _ f => ?_
         obtain ⟨X7, S7, F17⟩ := bS F16
         refine Y18 f N21 (tree_Equal_ok n _ (GL.mono ((((J2.trans J3).trans J4).trans J5).trans J6) hG) _ (⟨((mget X5 j1.1).getD z_TC0).fV.fKind, (((mget X5 j1.1).getD z_TC0).fV.fBool), ((mget X5 j1.1).getD z_TC0).fV.fNum, ((mget X5 j1.1).getD z_TC0).fV.fText, ((mget X5 j1.1).getD z_TC0).fV.fList, ((mget X5 j1.1).getD z_TC0).fV.fKeys⟩ : TE0) (TE0.shut B4 B5) _ (⟨((mget X6 j1.1).getD z_TC0).fV.fKind, (((mget X6 j1.1).getD z_TC0).fV.fBool), ((mget X6 j1.1).getD z_TC0).fV.fNum, ((mget X6 j1.1).getD z_TC0).fV.fText, ((mget X6 j1.1).getD z_TC0).fV.fList, ((mget X6 j1.1).getD z_TC0).fV.fKeys⟩ : TE0) (TE0.shut B6 B7) X7 S7) fun W19 N22 _ f => Y f 2 fun _ f => eT ?_
         exact ⟨(X7), (sI F17).symm, V6, (mR _), f.kp, N22⟩
       ·have U9 : (((mget X6 j1.1).getD z_TC0).fUnknown) = true := by simpa using B9
        have f := f.st 64 (cB B9)
        refine Y f 10 fun _ f => eT ?_
        exact ⟨(false), (sI F18).symm, V6, (mR _), f.kp, N21⟩
      ·have f := f.st 59 (cB B8)
       refine Y f 15 fun _ f => eT ?_
       exact ⟨(false), (sI F19).symm, V6, (mR _), f.kp, N21⟩
     ·rintro a_60 W20 ⟨G1, hq_1, V7, J7, f, N23⟩
      subst j_2
      refine T_n (RcF f F12 (fun B11 F20 => ?_) fun B11 F21 => ?_)
      ·refine wp_exit (T_x (B_x (T_n ?_)))
       obtain rfl := sI F20
       exact ⟨⟨K1, sn_1.push j_1⟩, leftD_lt hj_1, V7, (J6.trans J7), T1, f.kp, (N23.dropN 3)⟩
      ·refine wp_skip (T_n (R_seq (RR (Y f 1 fun _ f => Z f (Y33 (v := .bool j1.2.fReplace) rfl (ad := ⟨Q8, 2, none⟩) (N23.ownCell 2 rfl 2)) fun _ f => eT (RcF f F21 (fun B12 F22 => ?_) fun B12 F23 => ?_)))))
       ·refine RR (Y f 2 fun _ f => eT (wp_ret (T_r (B_r (T_r ?_)))))
        obtain rfl := sI F22
        exact .inr ⟨rfl, (), (sI T1).symm, V7, (J6.trans J7), f.kp, (N23.dropN 4)⟩
       ·refine wp_skip (T_n (R_reg (Y f 1 fun _ f => W_end rfl (B_n (T_n ?_)))))
        obtain rfl := sI F23
        exact ⟨⟨(2 : Int), sn_1.push j_1⟩, leftD_lt hj_1, V7, (J6.trans J7), T1, f.kp, (N23.dropN 3)⟩
   ·rintro _ _ W23 (⟨rfl, G2, rfl, V8, J8, f, N24⟩ | ⟨rfl, G3, rfl, V9, J9, f, N25⟩)
    ·refine B_x (T_n (RR (Y f 3 fun _ f => eT (wp_ret (E_ret2 f rfl (by kernel_rfl : Vc.look _ 6 = some (.int .i8 G2)) (by kernel_rfl : Vc.look _ 7 = some (.int .i64 0)) ?_)))))
     obtain rfl := sI F11
     exact ⟨_, rfl, V8, ((((J2.trans J3).trans J4).trans J5).trans J8), (N24.dropN 1), rfl⟩
    ·refine B_r (T_r (E_ret2 f rfl (by kernel_rfl : Vc.look _ 6 = some (.int .i8 3)) (by kernel_rfl : Vc.look _ 7 = some (.int .i64 0)) ?_))
     obtain rfl := sI F11
     exact ⟨_, rfl, V9, ((((J2.trans J3).trans J4).trans J5).trans J9), (N25.dropN 1), rfl⟩
def byN (gs : List TC0) : List (List UInt8 × TC0) := gs.foldl (fun m g => mput m g.fName g) []
theorem byN_snoc (gs : List TC0) (g : TC0) : byN (gs ++ [g]) = mput (byN gs) g.fName g := by unfold byN; rw [List.foldl_append]; rfl
theorem byName_run {n : Nat} (gs : List TC0) (hl : gs.length ≤ 60) (hn : 6000 < n) : schema_byName n gs = some (byN gs) := by
 unfold schema_byName
 have := loop_all (n := n) (step := schema_byName_s1 n gs) (fun k => ((k : Int), byN (gs.take k))) gs.length (byN gs) (fun k hk => by
  unfold schema_byName_s1
  have hx : gs[k]? = some gs[k] := List.getElem?_eq_getElem hk
  have hg : gs.getD k z_TC0 = gs[k] := by simp [List.getD, hk]
  dsimp only
  rw [decide_eq_true (by omega), cT, getI_at z_TC0 hk, bnd, need_i (by omega) (by omega), hg, List.take_add_one, hx]
  have e : byN (gs.take k ++ (some gs[k]).toList) = mput (byN (gs.take k)) gs[k].fName gs[k] := byN_snoc _ _
  rw [e]; rfl) (by
  unfold schema_byName_s1
  dsimp only
  rw [decide_eq_false (by omega), cF, List.take_length]) (by omega)
 have e0 : (((0 : Nat) : Int), byN (gs.take 0)) = ((0 : Int), ([] : List (List UInt8 × TC0))) := rfl
 rw [e0] at this
 rw [this, bnd]
theorem byN_some {k : List UInt8} {g : TC0} : ∀ {m : Nat} {gs : List TC0}, gs.length = m → mget (byN gs) k = some g → g ∈ gs ∧ g.fName = k
 | 0, gs, hm, h => by
  have : gs = [] := List.length_eq_zero_iff.1 hm
  subst this; cases h
 | m + 1, gs, hm, h => by
  obtain ⟨l, x, rfl⟩ : ∃ l x, gs = l ++ [x] := ⟨gs.dropLast, gs.getLast (by intro e; subst e; cases hm), (List.dropLast_concat_getLast _).symm⟩
  rw [byN_snoc, mget_mput] at h
  by_cases hx : x.fName = k
  ·rw [if_pos hx] at h
   cases h
   exact ⟨by simp, hx⟩
  ·rw [if_neg hx] at h
   obtain ⟨h1, h2⟩ := byN_some (m := m) (by simpa using hm) h
   exact ⟨by simp [h1], h2⟩
def sameK (a b : List TC0) (k : List UInt8) : Bool :=
  bif (mget (byN a) k).isSome == (mget (byN b) k).isSome then
    bif !((mget (byN b) k).getD z_TC0).fUnknown then
      bif !(mget (byN a) k).isSome then true else eqV ((mget (byN a) k).getD z_TC0).fV ((mget (byN b) k).getD z_TC0).fV
    else false
  else false
def stepK (a b : List TC0) (p : List UInt8 × TG0) (s : Int) : Lp Int (Sum Int Unit) := bif sameK a b p.1 then .nx s else bif p.2.fReplace then .br (.inr ()) else .nx 2
def endK (a b : List TC0) (l : List (List UInt8 × TG0)) (s : Int) : Sum Int Unit := bif l.any (fun p => !sameK a b p.1 && p.2.fReplace) then .inr () else .inl (bif l.any (fun p => !sameK a b p.1) then 2 else s)
theorem step_run {n : Nat} (hn : 6000 < n) {a b : List TC0} (ha : ∀ g ∈ a, Fine g.fV) (hb : ∀ g ∈ b, Fine g.fV) (p : List UInt8 × TG0) (s : Int) : schema_Differ_s1_y n (byN a) (byN b) p s = some (stepK a b p s) := by
 unfold schema_Differ_s1_y stepK sameK
 cases h1 : (mget (byN a) p.1).isSome == (mget (byN b) p.1).isSome with
 | false =>
  rw [cF, cF, bnd, cF, cF]
  cases p.2.fReplace <;> rfl
 | true =>
  rw [cT, cT]
  cases h2 : ((mget (byN b) p.1).getD z_TC0).fUnknown with
  | true =>
   rw [Bool.not_true, cF, cF, bnd, cF, cF]
   cases p.2.fReplace <;> rfl
  | false =>
   rw [Bool.not_false, cT, cT]
   cases h3 : (mget (byN a) p.1).isSome with
   | false => rw [Bool.not_false, cT, cT, bnd, cT, cT]
   | true =>
    rw [Bool.not_true, cF, cF]
    have h4 : (mget (byN b) p.1).isSome = true := by rw [h3] at h1; simpa using h1.symm
    obtain ⟨x, hx⟩ := Option.isSome_iff_exists.1 h3
    obtain ⟨y, hy⟩ := Option.isSome_iff_exists.1 h4
    have fx := ha x (byN_some rfl hx).1
    have fy := hb y (byN_some rfl hy).1
    have ex : ∀ v : TE0, (⟨v.fKind, (v.fBool), v.fNum, v.fText, v.fList, v.fKeys⟩ : TE0) = v := fun v => by cases v; rfl
    rw [hx, hy, Option.getD_some, Option.getD_some, ex, ex, Equal_run hn fx fy, bnd, bnd]
    cases eqV x.fV y.fV with
    | true => rw [cT, cT]
    | false =>
     rw [cF, cF]
     cases p.2.fReplace <;> rfl
theorem fold_run {n : Nat} (hn : 6000 < n) {a b : List TC0} (ha : ∀ g ∈ a, Fine g.fV) (hb : ∀ g ∈ b, Fine g.fV) : ∀ (l : List (List UInt8 × TG0)) (s : Int), foldO (schema_Differ_s1_e n (byN a) (byN b)) (schema_Differ_s1_y n (byN a) (byN b)) l s = some (endK a b l s)
 | [], s => rfl
 | p :: l, s => by
  unfold foldO
  rw [step_run hn ha hb, bnd]
  unfold stepK endK
  rw [List.any_cons, List.any_cons]
  cases sameK a b p.1 with
  | true =>
   rw [cT]
   dsimp only
   rw [fold_run hn ha hb l s]
   unfold endK
   rw [Bool.not_true, Bool.false_and, Bool.false_or, Bool.false_or]
  | false =>
   rw [cF]
   cases p.2.fReplace with
   | true => rfl
   | false =>
    rw [cF]
    dsimp only
    rw [fold_run hn ha hb l 2]
    unfold endK
    rw [Bool.not_false, Bool.and_false, Bool.false_or, Bool.true_or, cT]
    cases l.any (fun p => !sameK a b p.1) <;> rfl
theorem endK_perm (a b : List TC0) {l l' : List (List UInt8 × TG0)} (h : l.Perm l') (s : Int) : endK a b l s = endK a b l' s := by
 have e : ∀ q : List UInt8 × TG0 → Bool, l.any q = l'.any q := fun q => by
  rw [Bool.eq_iff_iff, List.any_eq_true, List.any_eq_true]
  exact ⟨fun ⟨x, h1, h2⟩ => ⟨x, h.mem_iff.1 h1, h2⟩, fun ⟨x, h1, h2⟩ => ⟨x, h.mem_iff.2 h1, h2⟩⟩
 unfold endK
 rw [e, e]
def differV (kind : List UInt8) (a b : List TC0) : Int × Int :=
  bif !decide (checkG kind a = 0) then (0, checkG kind a) else bif !decide (checkG kind b = 0) then (0, checkG kind b) else
  bif a.any (·.fUnknown) then (0, 91) else match endK a b (propsD kind) 0 with | .inl y => (y, 0) | .inr _ => (3, 0)
theorem or2_run {n : Nat} (hn : 6000 < n) (x y : Int) : cmp_Or_2 n [x, y] = some (bif !decide (x = 0) then x else y) := by
 obtain ⟨n, rfl⟩ : ∃ m, n = m + 3 := ⟨n - 3, by omega⟩
 unfold cmp_Or_2
 have s0 : cmp_Or_2_s1 (n + 3) [x, y] 0 = bif !decide (x = 0) then some (.br (.inl x)) else some (.nx 1) := by
  unfold cmp_Or_2_s1
  have e : getI [x, y] 0 = some x := rfl
  rw [decide_eq_true (by simp only [List.length_cons, List.length_nil]; omega), cT, e, bnd, need_i (by omega) (by omega)]; rfl
 have s1 : cmp_Or_2_s1 (n + 3) [x, y] 1 = bif !decide (y = 0) then some (.br (.inl y)) else some (.nx 2) := by
  unfold cmp_Or_2_s1
  have e : getI [x, y] 1 = some y := rfl
  rw [decide_eq_true (by simp only [List.length_cons, List.length_nil]; omega), cT, e, bnd, need_i (by omega) (by omega)]; rfl
 have s2 : cmp_Or_2_s1 (n + 3) [x, y] 2 = some (.br (.inr ())) := by
  unfold cmp_Or_2_s1
  rw [decide_eq_false (by simp only [List.length_cons, List.length_nil]; omega), cF]
 have l0 : loopF (cmp_Or_2_s1 (n + 3) [x, y]) (n + 3) 0 = some (bif !decide (x = 0) then .inl x else bif !decide (y = 0) then .inl y else .inr ()) := by
  unfold loopF
  rw [s0]
  by_cases hx : x = 0
  ·rw [decide_eq_true hx, Bool.not_true, cF, cF, bnd]
   dsimp only
   unfold loopF
   rw [s1]
   by_cases hy : y = 0
   ·rw [decide_eq_true hy, Bool.not_true, cF, cF, bnd]
    dsimp only
    unfold loopF
    rw [s2, bnd]
   ·rw [decide_eq_false hy, Bool.not_false, cT, cT, bnd]
  ·rw [decide_eq_false hx, Bool.not_false, cT, cT, bnd]
 rw [l0, bnd]
 by_cases hx : x = 0
 ·rw [decide_eq_true hx, Bool.not_true, cF, cF]
  by_cases hy : y = 0
  ·rw [decide_eq_true hy, Bool.not_true, cF]; rw [hy]
  ·rw [decide_eq_false hy, Bool.not_false, cT]
 ·rw [decide_eq_false hx, Bool.not_false, cT, cT]
theorem unknown_run {n : Nat} (hn : 6000 < n) (gs : List TC0) (hl : gs.length ≤ 60) : slices_ContainsFuncapi_Given_api_Given n gs = some (gs.any (·.fUnknown)) := by
 unfold slices_ContainsFuncapi_Given_api_Given slices_IndexFuncapi_Given_api_Given
 obtain ⟨b, hb, hp⟩ := index_any (n := n) z_TC0 (·.fUnknown) gs (step := slices_IndexFuncapi_Given_api_Given_s1 n gs) (fun k hk => by
  unfold slices_IndexFuncapi_Given_api_Given_s1 schema_Differ_1
  rw [decide_eq_true (by omega), cT, getI_at z_TC0 hk, bnd, bnd]
  cases (gs.getD k z_TC0).fUnknown with
  | false => rw [cF, need_i (by omega) (by omega)]; rfl
  | true => rw [cT]; rfl) (by
  unfold slices_IndexFuncapi_Given_api_Given_s1
  rw [decide_eq_false (by omega), cF]) (by omega)
 rw [hb, bnd]
 cases b with
 | inl i =>
  obtain ⟨h0, h1⟩ := hp
  dsimp only
  rw [bnd, h1, decide_eq_true h0]
 | inr u =>
  have h1 : gs.any (·.fUnknown) = false := hp
  dsimp only
  rw [bnd, h1]
  rfl
theorem Differ_run {n : Nat} (hn : 6000 < n) (kind : List UInt8) {a b : List TC0} (la : a.length ≤ 60) (lb : b.length ≤ 60) (ha : ∀ g ∈ a, Fine g.fV) (hb : ∀ g ∈ b, Fine g.fV) : schema_Differ n kind a b = some (differV kind a b) := by
 unfold schema_Differ differV
 rw [schemaCheck_run hn kind la ha, bnd, schemaCheck_run hn kind lb hb, bnd, or2_run hn, bnd]
 by_cases h1 : checkG kind a = 0
 ·rw [decide_eq_true h1, Bool.not_true, cF, cF]
  by_cases h2 : checkG kind b = 0
  ·rw [decide_eq_true h2, Bool.not_true, cF, cF, unknown_run hn a la, bnd]
   cases a.any (·.fUnknown) with
   | true => rw [cT, cT]
   | false =>
    rw [cF, cF, byName_run a la hn, bnd, byName_run b lb hn, bnd, foldP_run (b := endK a b (propsD kind) 0) (fun l hl => by rw [fold_run hn ha hb, endK_perm a b hl]), bnd]
    cases endK a b (propsD kind) 0 <;> rfl
  ·rw [decide_eq_false h2, Bool.not_false, cT, cT]
 ·rw [decide_eq_false h1, Bool.not_false, cT, cT, decide_eq_false h1, Bool.not_false, cT]
theorem getD_in {gs : List TC0} {k : Nat} (hk : k < gs.length) : gs.getD k z_TC0 = gs[k] := by simp [List.getD, hk]
noncomputable instance decV : DecidableEq TE0 := fun a b => Classical.propDecidable _
noncomputable def sameG (x y : TC0) : Bool := decide (x.fName = y.fName) && (x.fUnknown == y.fUnknown && (eqV x.fV y.fV || decide (x.fV = y.fV)))
def ref03_sorted_s2 (n : Nat) (d0 : TE0) (K1 : Int × List TE0 × List (List UInt8)) (K2 : Int) : Option (Lp Int Int) :=
    bif (decide (K2 < ((K1.2.2.length : Nat) : Int))) then
      ((getI K1.2.2 K2).bind fun X3 =>
      (getI d0.fKeys K1.1).bind fun X4 =>
      bif (Op.bytesLess X3 X4) then
        (need (inR .i64 (K2 + 1)) <|
        some (.nx (K2 + 1)))
      else
        some (.br K2))
    else
      some (.br K2)
def ref03_sorted_s1 (n : Nat) (rec_ref03_sorted : TE0 → Option TE0) (d0 : TE0) (K1 : Int × List TE0 × List (List UInt8)) : Option (Lp (Int × List TE0 × List (List UInt8)) (List TE0 × List (List UInt8))) :=
    bif (decide (K1.1 < ((d0.fList.length : Nat) : Int))) then
      ((getI d0.fList K1.1).bind fun X1 =>
      (rec_ref03_sorted X1).bind fun X2 =>
      bif (decide (d0.fKind = 4)) then
        (need ((K1.2.1.length + 1) * 80 ≤ 140737488355328) <|
        need (inR .i64 (K1.1 + 1)) <|
        some (.nx (K1.1 + 1, K1.2.1 ++ [(⟨X2.fKind, (X2.fBool), X2.fNum, X2.fText, X2.fList, X2.fKeys⟩ : TE0)], K1.2.2)))
      else
        (loopF (ref03_sorted_s2 n d0 K1) n (0 : Int)).bind fun G1 =>
        need (0 ≤ G1 ∧ G1 ≤ (K1.2.2.length : Int)) <|
        need ((([] : List (List UInt8)).length + (K1.2.2.length - G1.toNat)) * 16 ≤ 140737488355328) <|
        need (0 ≤ G1 ∧ G1 ≤ (K1.2.1.length : Int)) <|
        need ((([] : List TE0).length + (K1.2.1.length - G1.toNat)) * 80 ≤ 140737488355328) <|
        (((getI d0.fKeys K1.1).bind fun X5 =>
          need (0 ≤ G1 ∧ G1 ≤ (K1.2.2.length : Int)) <|
          need (((K1.2.2.take G1.toNat).length + 1) * 16 ≤ 140737488355328) <|
          need ((((K1.2.2.take G1.toNat) ++ [X5]).length + (([] : List (List UInt8)) ++ (K1.2.2.take K1.2.2.length).drop G1.toNat).length) * 16 ≤ 140737488355328) <|
          some (((K1.2.2.take G1.toNat) ++ [X5]) ++ (([] : List (List UInt8)) ++ (K1.2.2.take K1.2.2.length).drop G1.toNat)) : Option (List (List UInt8)))).bind fun G2 =>
        ((need (0 ≤ G1 ∧ G1 ≤ (K1.2.1.length : Int)) <|
          need (((K1.2.1.take G1.toNat).length + 1) * 80 ≤ 140737488355328) <|
          need ((((K1.2.1.take G1.toNat) ++ [(⟨X2.fKind, (X2.fBool), X2.fNum, X2.fText, X2.fList, X2.fKeys⟩ : TE0)]).length + (([] : List TE0) ++ (K1.2.1.take K1.2.1.length).drop G1.toNat).length) * 80 ≤ 140737488355328) <|
          some (((K1.2.1.take G1.toNat) ++ [(⟨X2.fKind, (X2.fBool), X2.fNum, X2.fText, X2.fList, X2.fKeys⟩ : TE0)]) ++ (([] : List TE0) ++ (K1.2.1.take K1.2.1.length).drop G1.toNat)) : Option (List TE0))).bind fun G3 =>
        need (inR .i64 (K1.1 + 1)) <|
        some (.nx (K1.1 + 1, G3, G2)))
    else
      some (.br (K1.2.1, K1.2.2))
def ref03_sorted_b (n : Nat) (rec_ref03_sorted : TE0 → Option TE0) (d0 : TE0) : Option TE0 :=
  (loopF (ref03_sorted_s1 n rec_ref03_sorted d0) n ((0 : Int), ([] : List TE0), ([] : List (List UInt8)))).bind fun G4 =>
  some ((⟨d0.fKind, (d0.fBool), d0.fNum, d0.fText, G4.1, G4.2⟩ : TE0))
set_option maxRecDepth 20000 in
theorem ref03_sorted_b_ok (n : Nat) (rec_ref03_sorted : TE0 → Option TE0) (hrec_ref03_sorted : ∀ (M : Mem) (c0 : List Value) (d0 : TE0) (h0 : Rep M (emb_TE0 d0) c0) (r : TE0) (hF : rec_ref03_sorted d0 = some r), Ok Tryz.prog M 56 [.agg c0.toArray] (fun M' v => ∃ (c0 : List Value), v = .agg c0.toArray ∧ Rep M' (emb_TE0 r) c0)) (M : Mem) (c0 : List Value) (d0 : TE0) (h0 : Rep M (emb_TE0 d0) c0) (r : TE0) (hF : ref03_sorted_b n rec_ref03_sorted d0 = some r) : Ok Tryz.prog M 56 [.agg c0.toArray] (fun M' v => ∃ (c0 : List Value), v = .agg c0.toArray ∧ Rep M' (emb_TE0 r) c0) := by
 unfold ref03_sorted_b at hF
 intro M1 hM0 w0 H w p0
 replace h0 := Rep.mono hM0 _ _ h0
 obtain ⟨Z1, P1, Z2, P2, rfl, B1, B2⟩ := TE0.opn h0
 refine R_enter 97 Tryz.func56 rfl rfl (by simp) fun a0 f0 => RR (Y13 (cs := #[.int .i8 d0.fKind, .bool d0.fBool, .int .i64 d0.fNum, S d0.fText, .slice Z1 d0.fList.length P1, .slice Z2 d0.fKeys.length P2]) (T := 26) f0 p0 fun Q1 V1 W1 J1 R1 N1 _ f => ?_)
 have R2 := fz_box R1
 refine Y12 f N1 (.cells #[.int .i8 0, .bool false, .int .i64 0, S [], .slice none 0 0, .slice none 0 0] 26 (0, 0)) fun Q2 W2 N2 _ f => eT (RR (Y f 1 fun _ f => Y15 f N2 R2 0 rfl fun _ f => Y f 1 fun _ f => Y15 f N2 R2 1 rfl fun _ f => Y f 1 fun _ f => Y15 f N2 R2 2 rfl fun _ f => Y f 1 fun _ f => Y15 f N2 R2 3 rfl fun _ f => Y f 1 fun _ f => Y12 f N2 (.cells #[.int .i8 0, .bool false, .int .i64 0, S [], .slice none 0 0, .slice none 0 0] 26 (0, 0)) fun Q3 W3 N3 _ f => Y28 (vs := [.int .i8 d0.fKind, .bool d0.fBool, .int .i64 d0.fNum, S d0.fText, .slice none 0 0, .slice none 0 0]) (j := 0) f N3 rfl rfl (by simp [Value.oneCell', S]) (by simp) (by decide) (cs' := #[.int .i8 d0.fKind, .bool d0.fBool, .int .i64 d0.fNum, S d0.fText, .slice none 0 0, .slice none 0 0]) (by kernel_rfl) fun W4 N4 _ f => eT (R_seq (RR (Y f 1 fun _ f => eT (wp_block ?_))))))
 obtain ⟨Z3, P3, H1⟩ : ∃ A cap, Value.slice none 0 0 = .slice A ([] : List TE0).length cap := ⟨none, 0, rfl⟩
 have N5 : Hp w0 V1 ((Ent.row 26 6 (.slice Z3 ([] : List TE0).length P3) ([] : List TE0).length []) :: (Ent.obj Q3 (.cells #[.int .i8 d0.fKind, .bool d0.fBool, .int .i64 d0.fNum, S d0.fText, .slice Z3 ([] : List TE0).length P3, .slice none 0 0] 26 (0, 0))) :: (Ent.obj Q2 (.cells #[.int .i8 0, .bool false, .int .i64 0, S [], .slice none 0 0, .slice none 0 0] 26 (0, 0))) :: H) W4 := by rw [← H1]; exact N4.nilRow 26 6
 have D1 : RepSeq V1 (([] : List TE0).map emb_TE0) [] := rfl
 obtain ⟨Z4, P4, H2⟩ : ∃ A cap, Value.slice none 0 0 = .slice A ([] : List (List UInt8)).length cap := ⟨none, 0, rfl⟩
 have N6 : Hp w0 V1 ((Ent.row 9 1 (.slice Z4 ([] : List (List UInt8)).length P4) ([] : List (List UInt8)).length []) :: (Ent.row 26 6 (.slice Z3 ([] : List TE0).length P3) ([] : List TE0).length []) :: (Ent.obj Q3 (.cells #[.int .i8 d0.fKind, .bool d0.fBool, .int .i64 d0.fNum, S d0.fText, .slice Z3 ([] : List TE0).length P3, .slice Z4 ([] : List (List UInt8)).length P4] 26 (0, 0))) :: (Ent.obj Q2 (.cells #[.int .i8 0, .bool false, .int .i64 0, S [], .slice none 0 0, .slice none 0 0] 26 (0, 0))) :: H) W4 := by rw [← H2]; exact N5.nilRow 9 1
 have D2 : RepSeq V1 (([] : List (List UInt8)).map Dat.str) [] := rfl
 have N10 := N6.pl [3, 3, 2, 3]
 obtain ⟨Q4, hL_1, F1⟩ := bS hF
 refine wp_mono (Q := fun e a w => (e = .exit 0 ∧ (∃ G4 : List TE0 × List (List UInt8), Q4 = G4 ∧ ∃ V14 : Mem, V1.le V14 ∧ ∃ (Z44 : Option Addr), ∃ (P45 : Nat), ∃ (L20 : List Value), ∃ (Z45 : Option Addr), ∃ (P46 : Nat), ∃ (L21 : List Value), RepSeq V14 (G4.1.map emb_TE0) L20 ∧ RepSeq V14 (G4.2.map Dat.str) L21 ∧ Frm 97 [(2, .pointer (some (⟨Q2, 0, none⟩))), (3, .pointer (some (⟨Q3, 0, none⟩)))] a ∧ Hp w0 V14 ((Ent.row 26 6 (.slice Z44 G4.1.length P45) G4.1.length L20) :: (Ent.row 9 1 (.slice Z45 G4.2.length P46) G4.2.length L21) :: (Ent.obj Q3 (.cells #[.int .i8 d0.fKind, .bool d0.fBool, .int .i64 d0.fNum, S d0.fText, .slice Z44 G4.1.length P45, .slice Z45 G4.2.length P46] 26 (0, 0))) :: (Ent.obj Q2 (.cells #[.int .i8 0, .bool false, .int .i64 0, S [], .slice none 0 0, .slice none 0 0] 26 (0, 0))) :: H) w))) (R_loop (n := 97) (w0 := w0) (M := V1) (fun (x : Nat × (Int × List TE0 × List (List UInt8)) × (Option Addr) × Nat × (List Value) × (Option Addr) × Nat × (List Value)) => match x with | (I1, K1, Z5, P5, L1, Z6, P6, L2) => [(1, .pointer (some (⟨Q1, 0, none⟩))), (2, .pointer (some (⟨Q2, 0, none⟩))), (3, .pointer (some (⟨Q3, 0, none⟩))), (4, .int .i64 K1.1)]) (fun (x : Nat × (Int × List TE0 × List (List UInt8)) × (Option Addr) × Nat × (List Value) × (Option Addr) × Nat × (List Value)) => match x with | (I1, K1, Z5, P5, L1, Z6, P6, L2) => ((Ent.row 26 6 (.slice Z5 K1.2.1.length P5) K1.2.1.length L1) :: (Ent.row 9 1 (.slice Z6 K1.2.2.length P6) K1.2.2.length L2) :: (Ent.obj Q3 (.cells #[.int .i8 d0.fKind, .bool d0.fBool, .int .i64 d0.fNum, S d0.fText, .slice Z5 K1.2.1.length P5, .slice Z6 K1.2.2.length P6] 26 (0, 0))) :: (Ent.obj Q2 (.cells #[.int .i8 0, .bool false, .int .i64 0, S [], .slice none 0 0, .slice none 0 0] 26 (0, 0))) :: H)) (fun (x : Nat × (Int × List TE0 × List (List UInt8)) × (Option Addr) × Nat × (List Value) × (Option Addr) × Nat × (List Value)) (MM : Mem) => match x with | (I1, K1, Z5, P5, L1, Z6, P6, L2) => loopF (ref03_sorted_s1 n rec_ref03_sorted d0) I1 K1 = some Q4 ∧ RepSeq MM (K1.2.1.map emb_TE0) L1 ∧ RepSeq MM (K1.2.2.map Dat.str) L2) (fun (x : Nat × (Int × List TE0 × List (List UInt8)) × (Option Addr) × Nat × (List Value) × (Option Addr) × Nat × (List Value)) => match x with | (I1, K1, Z5, P5, L1, Z6, P6, L2) => I1) (n, ((0 : Int), ([] : List TE0), ([] : List (List UInt8))), Z3, P3, [], Z4, P4, []) (f.kp) N10 ⟨hL_1, D1, D2⟩ ?_) ?_
 ·rintro ⟨I1, K1, Z5, P5, L1, Z6, P6, L2⟩ V2 _ W5 J2 I_1 f N11
  obtain ⟨I_1L, D3, D4⟩ := I_1
  obtain ⟨I2, r_1, rfl, hs_1, T1⟩ := loop_step I_1L
  unfold ref03_sorted_s1 at hs_1
  refine R_seq (RR (Y f 2 fun _ f => Y15 f N11 (fzu J2 R2) 4 rfl fun _ f => Y f 2 fun _ f => eT (RcF f hs_1 (fun B3 F2 => ?_) fun B3 F31 => ?_)))
  ·have U1 := dI.1 B3
   refine wp_skip (T_n (R_seq (wp_block (RR (Y f 1 fun _ f => Y15 f N11 (fzu J2 R2) 4 rfl fun _ f => Y f 1 fun _ f => ?_)))))
   obtain ⟨X1, S1, F3⟩ := bS F2
   obtain ⟨C1, c_1, e_1, -, D5, R3⟩ := Sli.at_ (B1.mono (J1.trans J2)) S1
   obtain ⟨Z7, P7, Z8, P8, rfl, B4, B5⟩ := TE0.opn D5
   refine Z f (Y32 e_1 rfl (len := d0.fList.length) (cap := P1) (k := .i64) (i := K1.1) (e := 26) (sz := 6) (getI_nn S1) (getI_lt S1)) fun _ f => Z (v := .agg #[.int .i8 X1.fKind, .bool X1.fBool, .int .i64 X1.fNum, S X1.fText, .slice Z7 X1.fList.length P7, .slice Z8 X1.fKeys.length P8]) f (Y34 (cs := [.int .i8 X1.fKind, .bool X1.fBool, .int .i64 X1.fNum, S X1.fText, .slice Z7 X1.fList.length P7, .slice Z8 X1.fKeys.length P8]) rfl (ad := C1.add (K1.1.toNat * 6)) (fun j v h => N11.cell (R3 j v h))) fun _ f => ?_
   obtain ⟨X2, S2, F4⟩ := bS F3
   refine Y16 f N11 (hrec_ref03_sorted _ _ X1 (TE0.shutx (x := X1) B4 B5) X2 S2) fun _ V3 W6 J3 N12 q_1 _ f => ?_
   obtain ⟨c_2, rfl, D6⟩ := q_1
   obtain ⟨Z9, P9, Z10, P10, rfl, B6, B7⟩ := TE0.opn D6
   refine Y12 f N12 (.cells #[.int .i8 0, .bool false, .int .i64 0, S [], .slice none 0 0, .slice none 0 0] 26 (0, 0)) fun Q5 W7 N13 _ f => Y28 (vs := [.int .i8 X2.fKind, .bool X2.fBool, .int .i64 X2.fNum, S X2.fText, .slice Z9 X2.fList.length P9, .slice Z10 X2.fKeys.length P10]) (j := 0) f N13 rfl rfl (by simp [Value.oneCell', S]) (by simp) (by decide) (cs' := #[.int .i8 X2.fKind, .bool X2.fBool, .int .i64 X2.fNum, S X2.fText, .slice Z9 X2.fList.length P9, .slice Z10 X2.fKeys.length P10]) (by kernel_rfl) fun W8 N14 _ f => eT (R_seq (RR (Y f 1 fun _ f => Y15 f N14 (fzu (J2.trans J3) R2) 0 rfl fun _ f => Y f 1 fun _ f => eT (RcF f F4 (fun B8 F5 => ?_) fun B8 F8 => ?_))))
   ·have U2 := dI.1 B8
    refine RR (Y f 1 fun _ f => Z f (Y33 (v := .slice Z5 K1.2.1.length P5) rfl (ad := ⟨Q3, 4, none⟩) (N14.ownCell 3 rfl 4)) fun _ f => Z (v := .agg #[.int .i8 X2.fKind, .bool X2.fBool, .int .i64 X2.fNum, S X2.fText, .slice Z9 X2.fList.length P9, .slice Z10 X2.fKeys.length P10]) f (Y34 (cs := [.int .i8 X2.fKind, .bool X2.fBool, .int .i64 X2.fNum, S X2.fText, .slice Z9 X2.fList.length P9, .slice Z10 X2.fKeys.length P10]) rfl (ad := ⟨Q5, 0, none⟩) (own_cells (N14.ownCell 0 rfl) 0 rfl)) fun _ f => V_allocS (k := 1) (c := 1) f N14 (.cells #[.int .i8 X2.fKind, .bool X2.fBool, .int .i64 X2.fNum, S X2.fText, .slice Z9 X2.fList.length P9, .slice Z10 X2.fKeys.length P10] 26 (0, 0)) (by kernel_rfl) (fun _ => by kernel_rfl) fun Q6 W9 N15 _ f => ?_)
    have N16 := N15.pl [2]
    obtain ⟨O1, F6⟩ := nS F5
    refine Y22 (z := .agg #[.int .i8 0, .bool false, .int .i64 0, S [], .slice none 0 0, .slice none 0 0]) (f := emb_TE0) (xs := K1.2.1) (ys := [(⟨X2.fKind, (X2.fBool), X2.fNum, X2.fText, X2.fList, X2.fKeys⟩ : TE0)]) (news := [.int .i8 X2.fKind, .bool X2.fBool, .int .i64 X2.fNum, S X2.fText, .slice Z9 X2.fList.length P9, .slice Z10 X2.fKeys.length P10]) (ad := ⟨Q6, 0, none⟩) (m := 1) (c := 1) f N16 (RepSeq.mono J3 _ _ D3) (by exact ⟨_, _, rfl, TE0.shut B6 B7, rfl⟩) rfl rfl rfl rfl (own_cells (N16.ownCell 1 rfl) 0 rfl) (by exact O1) (by have hg_ := O1; first | omega | (simp only [List.length_cons, List.length_nil] at *; omega)) fun Z11 P11 L3 W10 N17 D7 _ f => ?_
    have N18 := N17.pl [1]
    have N19 := N18.drop
    refine Y f 1 fun _ f => Y27 f N19 3 rfl rfl (b := Q3) (j := 4) (v := .slice Z11 (K1.2.1 ++ [(⟨X2.fKind, (X2.fBool), X2.fNum, X2.fText, X2.fList, X2.fKeys⟩ : TE0)]).length P11) rfl (by exact rfl) (by simp) (by simp) ((Ent.row 26 6 (.slice Z11 (K1.2.1 ++ [(⟨X2.fKind, (X2.fBool), X2.fNum, X2.fText, X2.fList, X2.fKeys⟩ : TE0)]).length P11) (K1.2.1 ++ [(⟨X2.fKind, (X2.fBool), X2.fNum, X2.fText, X2.fList, X2.fKeys⟩ : TE0)]).length L3) :: (Ent.obj Q5 (.cells #[.int .i8 X2.fKind, .bool X2.fBool, .int .i64 X2.fNum, S X2.fText, .slice Z9 X2.fList.length P9, .slice Z10 X2.fKeys.length P10] 26 (0, 0))) :: (Ent.row 9 1 (.slice Z6 K1.2.2.length P6) K1.2.2.length L2) :: (Ent.obj Q3 (.cells #[.int .i8 d0.fKind, .bool d0.fBool, .int .i64 d0.fNum, S d0.fText, .slice Z11 (K1.2.1 ++ [(⟨X2.fKind, (X2.fBool), X2.fNum, X2.fText, X2.fList, X2.fKeys⟩ : TE0)]).length P11, .slice Z6 K1.2.2.length P6] 26 (0, 0))) :: (Ent.obj Q2 (.cells #[.int .i8 0, .bool false, .int .i64 0, S [], .slice none 0 0, .slice none 0 0] 26 (0, 0))) :: H) rfl fun W11 N20 _ f => eT (wp_exit (T_x (B_x (T_n (R_reg (Y f 1 fun _ f => ?_))))))
    obtain ⟨O2, F7⟩ := nS F6
    refine Y f 1 fun _ f => ?_
    have f := f.st 24 (iW O2)
    refine Y f 1 fun _ f => W_end rfl ?_
    have N127 := N20.pl [4, 4, 4, 3, 4]
    refine T_n ?_
    obtain rfl := sI F7
    exact ⟨⟨I2, (K1.1 + 1, K1.2.1 ++ [(⟨X2.fKind, (X2.fBool), X2.fNum, X2.fText, X2.fList, X2.fKeys⟩ : TE0)], K1.2.2), Z11, P11, L3, Z6, P6, L2⟩, Nat.lt_succ_self _, V3, (J2.trans J3), ⟨T1, D7, (RepSeq.mono J3 _ _ D4)⟩, f.kp, (N127.dropN 1)⟩
   ·have U3 := iff_f dI B8
    refine wp_skip (T_n (RR (Y f 1 fun _ f => eT (R_seq (wp_block ?_)))))
    obtain ⟨Q7, hL_2, F9⟩ := bS F8
    refine wp_mono (Q := fun e a w => (e = .exit 2 ∧ (∃ G1 : Int, Q7 = G1 ∧ ∃ V5 : Mem, V3.le V5 ∧ Frm 97 [(1, .pointer (some (⟨Q1, 0, none⟩))), (2, .pointer (some (⟨Q2, 0, none⟩))), (3, .pointer (some (⟨Q3, 0, none⟩))), (4, .int .i64 K1.1), (5, .pointer (some (⟨Q5, 0, none⟩))), (6, .int .i64 G1)] a ∧ Hp w0 V5 ((Ent.obj Q5 (.cells #[.int .i8 X2.fKind, .bool X2.fBool, .int .i64 X2.fNum, S X2.fText, .slice Z9 X2.fList.length P9, .slice Z10 X2.fKeys.length P10] 26 (0, 0))) :: (Ent.row 26 6 (.slice Z5 K1.2.1.length P5) K1.2.1.length L1) :: (Ent.row 9 1 (.slice Z6 K1.2.2.length P6) K1.2.2.length L2) :: (Ent.obj Q3 (.cells #[.int .i8 d0.fKind, .bool d0.fBool, .int .i64 d0.fNum, S d0.fText, .slice Z5 K1.2.1.length P5, .slice Z6 K1.2.2.length P6] 26 (0, 0))) :: (Ent.obj Q2 (.cells #[.int .i8 0, .bool false, .int .i64 0, S [], .slice none 0 0, .slice none 0 0] 26 (0, 0))) :: H) w))) (R_loop (n := 97) (w0 := w0) (M := V3) (fun (x : Nat × Int) => match x with | (I3, K2) => [(1, .pointer (some (⟨Q1, 0, none⟩))), (2, .pointer (some (⟨Q2, 0, none⟩))), (3, .pointer (some (⟨Q3, 0, none⟩))), (4, .int .i64 K1.1), (5, .pointer (some (⟨Q5, 0, none⟩))), (6, .int .i64 K2)]) (fun (x : Nat × Int) => match x with | (I3, K2) => ((Ent.obj Q5 (.cells #[.int .i8 X2.fKind, .bool X2.fBool, .int .i64 X2.fNum, S X2.fText, .slice Z9 X2.fList.length P9, .slice Z10 X2.fKeys.length P10] 26 (0, 0))) :: (Ent.row 26 6 (.slice Z5 K1.2.1.length P5) K1.2.1.length L1) :: (Ent.row 9 1 (.slice Z6 K1.2.2.length P6) K1.2.2.length L2) :: (Ent.obj Q3 (.cells #[.int .i8 d0.fKind, .bool d0.fBool, .int .i64 d0.fNum, S d0.fText, .slice Z5 K1.2.1.length P5, .slice Z6 K1.2.2.length P6] 26 (0, 0))) :: (Ent.obj Q2 (.cells #[.int .i8 0, .bool false, .int .i64 0, S [], .slice none 0 0, .slice none 0 0] 26 (0, 0))) :: H)) (fun (x : Nat × Int) (MM : Mem) => match x with | (I3, K2) => loopF (ref03_sorted_s2 n d0 K1) I3 K2 = some Q7) (fun (x : Nat × Int) => match x with | (I3, K2) => I3) (n, (0 : Int)) (f.kp) N14 hL_2 ?_) ?_
    ·rintro ⟨I3, K2⟩ V4 _ W12 J4 I_2 f N21
     have I_2L := I_2
     obtain ⟨I4, r_2, rfl, hs_2, T2⟩ := loop_step I_2L
     unfold ref03_sorted_s2 at hs_2
     refine R_seq (R_seq (R_draw N21 (by kernel_rfl) (by kernel_rfl) (Y5 default f 2 fun _ f => Y2 (v := .slice Z6 K1.2.2.length P6) f (fun _ pq => Y33 (v := .slice Z6 K1.2.2.length P6) rfl (ad := ⟨Q3, 5, none⟩) (pq.ownCell 3 rfl 5)) fun _ f => Y5 default f 3 fun _ f => ?_)))
     rcases cE hs_2 with ⟨B9, F10⟩ | ⟨B9, F16⟩
     ·have U4 := dI.1 B9
      have f := f.st 45 (cB B9)
      refine Y5 default f 1 fun _ f => Y2 (v := .slice Z6 K1.2.2.length P6) f (fun _ pq => Y33 (v := .slice Z6 K1.2.2.length P6) rfl (ad := ⟨Q3, 5, none⟩) (pq.ownCell 3 rfl 5)) fun _ f => Y5 default f 1 fun _ f => ?_
      obtain ⟨X3, S3, F11⟩ := bS F10
      obtain ⟨Q8, P12, H3, hcap_1⟩ := N21.rowAddr 2 rfl (getI_pos S3)
      have f := f.st 47 (H3)
      refine Y2 (v := .pointer (some ((⟨Q8, 0, none⟩ : Addr).add (K2.toNat * 1)))) f (fun _ pq => Y31 rfl (ad := ⟨Q8, 0, none⟩) (len := K1.2.2.length) (cap := P12) (k := .i64) (i := K2) (e := 9) (sz := 1) (getI_nn S3) (getI_lt S3)) fun _ f => ?_
      have f := f.st 47 (H3.symm)
      obtain ⟨c_3, -, D8, R4⟩ := RepSeq.get K2.toNat (szd_all szd_str) (RepSeq.mono (J3.trans J4) _ _ D4) (getI_map S3)
      obtain rfl : c_3 = [S X3] := D8
      refine Y2 (v := S X3) f (fun _ pq => Y33 (v := S X3) rfl (ad := (⟨Q8, 0, none⟩ : Addr).add (K2.toNat * 1)) (by simpa [Addr.add] using (fun j v h => row_at (pq.rowCell 2 rfl H3) R4 j v h) 0 _ rfl)) fun _ f => Y5 default f 1 fun _ f => Y4 f (fzu ((J2.trans J3).trans J4) R2) 5 rfl fun _ f => Y5 default f 1 fun _ f => ?_
      obtain ⟨X4, S4, F12⟩ := bS F11
      obtain ⟨C2, c_4, e_2, -, D9, R5⟩ := Sli.at_ (B2.mono (((J1.trans J2).trans J3).trans J4)) S4
      obtain rfl : c_4 = [S X4] := D9
      refine Y2 (v := .pointer (some (C2.add (K1.1.toNat * 1)))) f (fun _ pq => Y32 e_2 rfl (len := d0.fKeys.length) (cap := P2) (k := .i64) (i := K1.1) (e := 9) (sz := 1) (getI_nn S4) (getI_lt S4)) fun _ f => Y4 f R5 0 rfl fun _ f => Y2 (v := .bool (Op.bytesLess X3 X4)) f (fun _ pq => X_strlt rfl (l := X3) (m := X4) (by kernel_rfl) (by kernel_rfl)) fun _ f => Y5 default f 1 fun _ f => Q_end rfl ?_
      intro W13 N22
      refine T_n (RcF f F12 (fun B10 F13 => ?_) fun B10 F15 => ?_)
      ·refine wp_skip (T_n (wp_block (R_reg (Y f 1 fun _ f => ?_))))
       obtain ⟨O3, F14⟩ := nS F13
       refine Y f 1 fun _ f => ?_
       have f := f.st 59 (iW O3)
       refine Y f 1 fun _ f => W_end rfl (B_n (T_n ?_))
       obtain rfl := sI F14
       exact ⟨⟨I4, K2 + 1⟩, Nat.lt_succ_self _, V4, J4, T2, f.kp, N22⟩
      ·refine wp_exit (T_x (T_x ?_))
       obtain rfl := sI F15
       exact ⟨rfl, K2, (sI T2).symm, V4, J4, f.kp, N22⟩
     ·have U7 := iff_f dI B9
      have f := f.st 45 (cB B9)
      refine Y5 default f 12 fun _ f => Q_end rfl ?_
      intro W14 N23
      refine T_n (Y7 f (wp_exit (T_x (T_x ?_))))
      obtain rfl := sI F16
      exact ⟨rfl, K2, (sI T2).symm, V4, J4, f.kp, N23⟩
    ·rintro _ _ W16 ⟨rfl, G1, hq_, V5, J5, f, N24⟩
     subst Q7
     refine B_x (T_n (RR (Y f 1 fun _ f => eT (RR (Y f 1 fun _ f => eT (RR (Y f 2 fun _ f => Z f (Y33 (v := .slice Z6 K1.2.2.length P6) rfl (ad := ⟨Q3, 5, none⟩) (N24.ownCell 3 rfl 5)) fun _ f => Y f 1 fun _ f => ?_)))))))
     obtain ⟨O4, F17⟩ := nS F9
     obtain ⟨Z12, P13, H4, hcap_2, hcn_1⟩ := N24.rowShape 2 rfl
     have f := f.st 62 (H4)
     refine Z f (Y37 rfl (A := Z12) (len := K1.2.2.length) (cap := P13) (k := .i64) (a := G1) (e := 9) (sz := 1) (by omega) (by omega)) fun _ f => ?_
     have f := f.st 62 (H4.symm)
     obtain ⟨Z13, P14, H5⟩ : ∃ A cap, Value.slice none 0 0 = .slice A ([] : List (List UInt8)).length cap := ⟨none, 0, rfl⟩
     have N25 : Hp w0 V5 ((Ent.row 9 1 (.slice Z13 ([] : List (List UInt8)).length P14) ([] : List (List UInt8)).length []) :: (Ent.obj Q5 (.cells #[.int .i8 X2.fKind, .bool X2.fBool, .int .i64 X2.fNum, S X2.fText, .slice Z9 X2.fList.length P9, .slice Z10 X2.fKeys.length P10] 26 (0, 0))) :: (Ent.row 26 6 (.slice Z5 K1.2.1.length P5) K1.2.1.length L1) :: (Ent.row 9 1 (.slice Z6 K1.2.2.length P6) K1.2.2.length L2) :: (Ent.obj Q3 (.cells #[.int .i8 d0.fKind, .bool d0.fBool, .int .i64 d0.fNum, S d0.fText, .slice Z5 K1.2.1.length P5, .slice Z6 K1.2.2.length P6] 26 (0, 0))) :: (Ent.obj Q2 (.cells #[.int .i8 0, .bool false, .int .i64 0, S [], .slice none 0 0, .slice none 0 0] 26 (0, 0))) :: H) W16 := by rw [← H5]; exact N24.nilRow 9 1
     have f := f.st 60 (H5)
     have D10 : RepSeq V5 (([] : List (List UInt8)).map Dat.str) [] := rfl
     obtain ⟨O5, F18⟩ := nS F17
     refine Y23 (z := S []) (f := Dat.str) (xs := ([] : List (List UInt8))) (ys := K1.2.2) (lo := G1.toNat) (hi := K1.2.2.length) f N25 szd_str D10 (RepSeq.mono (J3.trans J5) _ _ D4) 3 rfl H4 (by omega) (by omega) rfl rfl rfl O5 (by omega) fun Z14 P15 L4 W17 N26 D11 _ f => Y f 1 fun _ f => eT (RR (Y f 2 fun _ f => Z f (Y33 (v := .slice Z5 K1.2.1.length P5) rfl (ad := ⟨Q3, 4, none⟩) (N26.ownCell 4 rfl 4)) fun _ f => Y f 1 fun _ f => ?_))
     obtain ⟨O6, F19⟩ := nS F18
     obtain ⟨Z15, P16, H6, hcap_3, hcn_2⟩ := N26.rowShape 2 rfl
     have f := f.st 68 (H6)
     refine Z f (Y37 rfl (A := Z15) (len := K1.2.1.length) (cap := P16) (k := .i64) (a := G1) (e := 26) (sz := 6) (by omega) (by omega)) fun _ f => ?_
     have f := f.st 68 (H6.symm)
     obtain ⟨Z16, P17, H7⟩ : ∃ A cap, Value.slice none 0 0 = .slice A ([] : List TE0).length cap := ⟨none, 0, rfl⟩
     have N27 : Hp w0 V5 ((Ent.row 26 6 (.slice Z16 ([] : List TE0).length P17) ([] : List TE0).length []) :: (Ent.row 9 1 (.slice Z14 (([] : List (List UInt8)) ++ (K1.2.2.take K1.2.2.length).drop G1.toNat).length P15) (([] : List (List UInt8)) ++ (K1.2.2.take K1.2.2.length).drop G1.toNat).length L4) :: (Ent.obj Q5 (.cells #[.int .i8 X2.fKind, .bool X2.fBool, .int .i64 X2.fNum, S X2.fText, .slice Z9 X2.fList.length P9, .slice Z10 X2.fKeys.length P10] 26 (0, 0))) :: (Ent.row 26 6 (.slice Z5 K1.2.1.length P5) K1.2.1.length L1) :: (Ent.row 9 1 (.slice Z6 K1.2.2.length P6) K1.2.2.length L2) :: (Ent.obj Q3 (.cells #[.int .i8 d0.fKind, .bool d0.fBool, .int .i64 d0.fNum, S d0.fText, .slice Z5 K1.2.1.length P5, .slice Z6 K1.2.2.length P6] 26 (0, 0))) :: (Ent.obj Q2 (.cells #[.int .i8 0, .bool false, .int .i64 0, S [], .slice none 0 0, .slice none 0 0] 26 (0, 0))) :: H) W17 := by rw [← H7]; exact N26.nilRow 26 6
     have f := f.st 66 (H7)
     have D12 : RepSeq V5 (([] : List TE0).map emb_TE0) [] := rfl
     obtain ⟨O7, F20⟩ := nS F19
     refine Y23 (z := .agg #[.int .i8 0, .bool false, .int .i64 0, S [], .slice none 0 0, .slice none 0 0]) (f := emb_TE0) (xs := ([] : List TE0)) (ys := K1.2.1) (lo := G1.toNat) (hi := K1.2.1.length) f N27 szd_TE0 D12 (RepSeq.mono (J3.trans J5) _ _ D3) 3 rfl H6 (by omega) (by omega) rfl rfl rfl O7 (by omega) fun Z17 P18 L5 W18 N28 D13 _ f => Y f 1 fun _ f => eT (R_seq ?_)
     obtain ⟨j_1, hj_1, F21⟩ := bS F20
     refine R_mid (fun a_110 W40 => ∃ G2 : List (List UInt8), j_1 = G2 ∧ ∃ V9 : Mem, V5.le V9 ∧ ∃ (Z30 : Option Addr), ∃ (P31 : Nat), ∃ (L12 : List Value), RepSeq V9 (G2.map Dat.str) L12 ∧ Frm 97 [(1, .pointer (some (⟨Q1, 0, none⟩))), (2, .pointer (some (⟨Q2, 0, none⟩))), (3, .pointer (some (⟨Q3, 0, none⟩))), (4, .int .i64 K1.1), (5, .pointer (some (⟨Q5, 0, none⟩))), (6, .int .i64 G1), (8, .slice Z17 (([] : List TE0) ++ (K1.2.1.take K1.2.1.length).drop G1.toNat).length P18)] a_110 ∧ Hp w0 V9 ((Ent.row 9 1 (.slice Z30 G2.length P31) G2.length L12) :: (Ent.row 26 6 (.slice Z17 (([] : List TE0) ++ (K1.2.1.take K1.2.1.length).drop G1.toNat).length P18) (([] : List TE0) ++ (K1.2.1.take K1.2.1.length).drop G1.toNat).length L5) :: (Ent.obj Q5 (.cells #[.int .i8 X2.fKind, .bool X2.fBool, .int .i64 X2.fNum, S X2.fText, .slice Z9 X2.fList.length P9, .slice Z10 X2.fKeys.length P10] 26 (0, 0))) :: (Ent.row 26 6 (.slice Z5 K1.2.1.length P5) K1.2.1.length L1) :: (Ent.obj Q3 (.cells #[.int .i8 d0.fKind, .bool d0.fBool, .int .i64 d0.fNum, S d0.fText, .slice Z5 K1.2.1.length P5, .slice Z30 G2.length P31] 26 (0, 0))) :: (Ent.obj Q2 (.cells #[.int .i8 0, .bool false, .int .i64 0, S [], .slice none 0 0, .slice none 0 0] 26 (0, 0))) :: H) W40) ?_ ?_
     ·have N44 := N28.pl [6, 6, 5, 5, 4, 6, 6]
      obtain ⟨X5, S5, F22⟩ := bS hj_1
      obtain ⟨O8, F23⟩ := nS F22
      obtain ⟨O9, F24⟩ := nS F23
      obtain ⟨O10, F25⟩ := nS F24
      refine R_plan (ks := [13, 14]) (E := [Ent.row 9 1 (.slice Z14 (([] : List (List UInt8)) ++ (K1.2.2.take K1.2.2.length).drop G1.toNat).length P15) (([] : List (List UInt8)) ++ (K1.2.2.take K1.2.2.length).drop G1.toNat).length L4, Ent.row 9 1 (.slice Z6 K1.2.2.length P6) K1.2.2.length L2]) (Hr := ((Ent.row 26 6 (.slice Z17 (([] : List TE0) ++ (K1.2.1.take K1.2.1.length).drop G1.toNat).length P18) (([] : List TE0) ++ (K1.2.1.take K1.2.1.length).drop G1.toNat).length L5) :: (Ent.obj Q5 (.cells #[.int .i8 X2.fKind, .bool X2.fBool, .int .i64 X2.fNum, S X2.fText, .slice Z9 X2.fList.length P9, .slice Z10 X2.fKeys.length P10] 26 (0, 0))) :: (Ent.row 26 6 (.slice Z5 K1.2.1.length P5) K1.2.1.length L1) :: (Ent.obj Q3 (.cells #[.int .i8 d0.fKind, .bool d0.fBool, .int .i64 d0.fNum, S d0.fText, .slice Z5 K1.2.1.length P5, .slice Z6 K1.2.2.length P6] 26 (0, 0))) :: (Ent.obj Q2 (.cells #[.int .i8 0, .bool false, .int .i64 0, S [], .slice none 0 0, .slice none 0 0] 26 (0, 0))) :: H)) (.quiet 0 (.quiet 1 (.quiet 2 (.quiet 4 (.quiet 5 (.quiet 6 (.quiet 7 (.quiet 8 (.quiet 11 (.alt 3 (.alt 9 (.alt 10 (.alt 12 .done .none) .none) .none) (.alt 9 (.alt 3 (.alt 10 (.alt 12 .done .none) .none) .none) .none))))))))))) N44 (by kernel_rfl) (by kernel_rfl) (by kernel_rfl) (Y1 (v := .pointer (some (⟨Q3, 5, none⟩))) rfl f rfl rfl (fun _ _ => by kernel_rfl) fun _ f => Y1 (v := .slice Z6 K1.2.2.length P6) rfl f rfl rfl (fun _ pq => Y33 (v := .slice Z6 K1.2.2.length P6) rfl (ad := ⟨Q3, 5, none⟩) (pq.ownCell 3 rfl 5)) fun _ f => Y1 (v := .int .i64 G1) rfl f rfl rfl (fun _ _ => by kernel_rfl) fun _ f => Y1 (v := .pointer (some ((⟨Q1, 0, none⟩ : Addr).add 5))) rfl f rfl rfl (fun _ _ => by kernel_rfl) fun _ f => Y1 (v := .slice Z2 d0.fKeys.length P2) rfl f rfl rfl (fun _ pq => Y33 (v := .slice Z2 d0.fKeys.length P2) rfl (ad := (⟨Q1, 0, none⟩ : Addr).add 5) (pq.cell ((fzu ((J2.trans J3).trans J5) R2) 5 _ rfl))) fun _ f => Y1 (v := .int .i64 K1.1) rfl f rfl rfl (fun _ _ => by kernel_rfl) fun _ f => ?_)
      obtain ⟨C4, c_6, e_4, -, D18, R7⟩ := Sli.at_ (B2.mono (((J1.trans J2).trans J3).trans J5)) S5
      obtain rfl : c_6 = [S X5] := D18
      refine Y1 (v := .pointer (some (C4.add (K1.1.toNat * 1)))) rfl f rfl rfl (fun _ pq => Y32 e_4 rfl (len := d0.fKeys.length) (cap := P2) (k := .i64) (i := K1.1) (e := 9) (sz := 1) (getI_nn S5) (getI_lt S5)) fun _ f => Y1 (v := S X5) rfl f rfl rfl (fun _ pq => Y33 (v := S X5) rfl (ad := C4.add (K1.1.toNat * 1)) (pq.cell (R7 0 _ rfl))) fun _ f => Y1 (v := .slice Z14 (([] : List (List UInt8)) ++ (K1.2.2.take K1.2.2.length).drop G1.toNat).length P15) rfl f rfl rfl (fun _ _ => by kernel_rfl) fun _ f => N_alt rfl (fun W22 N45 => ?_) ?_
      ·obtain ⟨Z22, P23, H10, hcap_5, hcn_4⟩ := N45.rowShape 1 rfl
       have f := f.st 73 (H10)
       refine Z f (Y38 rfl (A := Z22) (len := K1.2.2.length) (cap := P23) (k' := .i64) (b := G1) (e := 9) (sz := 1) (by omega) (by omega)) fun _ f => ?_
       have f := f.st 73 (H10.symm)
       refine W_end rfl (N_goN 2 (mR _) N45 rfl (N_alt rfl (fun W23 N46 => ?_) ?_))
       ·refine V_allocS (k := 1) (c := 1) f N46 (.cells #[S X5] 9 (0, 0)) (by kernel_rfl) (fun _ => by kernel_rfl) fun Q10 W24 N47 _ f => W_end rfl (N_goN 3 (mR _) N47 rfl (N_alt rfl (fun W25 N48 => ?_) ?_))
        ·have N49 := N48.pl [2]
         have D19 : RepSeq V5 ((K1.2.2.take G1.toNat).map Dat.str) (L2.take (G1.toNat * 1)) := by rw [List.map_take]; exact RepSeq.takeD _ (szd_all szd_str) (RepSeq.mono (J3.trans J5) _ _ D4)
         have hl_7 : (K1.2.2.take G1.toNat).length = G1.toNat := by rw [List.length_take]; omega
         have N50 : Hp w0 V5 ((Ent.row 9 1 (.slice (cutA Z22 1 0 P23) (K1.2.2.take G1.toNat).length P23) (K1.2.2.take G1.toNat).length (L2.take (G1.toNat * 1))) :: (Ent.obj Q10 (.cells #[S X5] 9 (0, 0))) :: (Ent.row 9 1 (.slice Z14 (([] : List (List UInt8)) ++ (K1.2.2.take K1.2.2.length).drop G1.toNat).length P15) (([] : List (List UInt8)) ++ (K1.2.2.take K1.2.2.length).drop G1.toNat).length L4) :: (Ent.row 26 6 (.slice Z17 (([] : List TE0) ++ (K1.2.1.take K1.2.1.length).drop G1.toNat).length P18) (([] : List TE0) ++ (K1.2.1.take K1.2.1.length).drop G1.toNat).length L5) :: (Ent.obj Q5 (.cells #[.int .i8 X2.fKind, .bool X2.fBool, .int .i64 X2.fNum, S X2.fText, .slice Z9 X2.fList.length P9, .slice Z10 X2.fKeys.length P10] 26 (0, 0))) :: (Ent.row 26 6 (.slice Z5 K1.2.1.length P5) K1.2.1.length L1) :: (Ent.obj Q3 (.cells #[.int .i8 d0.fKind, .bool d0.fBool, .int .i64 d0.fNum, S d0.fText, .slice Z5 K1.2.1.length P5, .slice Z6 K1.2.2.length P6] 26 (0, 0))) :: (Ent.obj Q2 (.cells #[.int .i8 0, .bool false, .int .i64 0, S [], .slice none 0 0, .slice none 0 0] 26 (0, 0))) :: H) W25 := by rw [hl_7]; exact N49.rowFront H10 (by omega)
         have f := Frm.set f 75 (v := .slice (cutA Z22 1 0 P23) G1.toNat P23) (v' := .slice (cutA Z22 1 0 P23) (K1.2.2.take G1.toNat).length P23) (by kernel_rfl) (by rw [hl_7])
         refine Y22 (z := S []) (f := Dat.str) (xs := K1.2.2.take G1.toNat) (ys := [X5]) (news := [S X5]) (ad := ⟨Q10, 0, none⟩) (m := 1) (c := 1) f N50 D19 (by exact ⟨_, _, rfl, rfl, rfl⟩) rfl rfl rfl rfl (own_cells (N50.ownCell 1 rfl) 0 rfl) (by exact O9) (by have hg_ := O9; first | omega | (simp only [List.length_cons, List.length_nil] at *; omega)) fun Z23 P24 L8 W26 N51 D20 _ f => ?_
         have N52 := N51.pl [1]
         have N53 := N52.drop
         refine W_end rfl (N_goN 2 (mR _) N53 rfl (N_alt rfl (fun W27 N54 => ?_) ?_))
         ·have N55 := N54.pl [1]
          obtain ⟨Z24, P25, V7, H11, J7, N56, B12⟩ := N55.rowSli (f := Dat.str) (xs := ([] : List (List UInt8)) ++ (K1.2.2.take K1.2.2.length).drop G1.toNat) szd_str D11
          have f := f.st 83 (H11)
          refine Y24 (z := S []) (f := Dat.str) (xs := (K1.2.2.take G1.toNat) ++ [X5]) (ys := ([] : List (List UInt8)) ++ (K1.2.2.take K1.2.2.length).drop G1.toNat) (c := P25) f N56 (RepSeq.mono J7 _ _ D20) B12 rfl rfl rfl O10 (by omega) fun Z25 P26 L9 W28 N57 D21 _ f => W_end rfl (N_goN 1 J7 N57 rfl (N_tail fun W29 N58 => Y f 1 fun _ f => Y27 f N58 4 rfl rfl (b := Q3) (j := 5) (v := .slice Z25 (((K1.2.2.take G1.toNat) ++ [X5]) ++ (([] : List (List UInt8)) ++ (K1.2.2.take K1.2.2.length).drop G1.toNat)).length P26) rfl (by exact rfl) (by simp) (by simp) ((Ent.row 9 1 (.slice Z25 (((K1.2.2.take G1.toNat) ++ [X5]) ++ (([] : List (List UInt8)) ++ (K1.2.2.take K1.2.2.length).drop G1.toNat)).length P26) (((K1.2.2.take G1.toNat) ++ [X5]) ++ (([] : List (List UInt8)) ++ (K1.2.2.take K1.2.2.length).drop G1.toNat)).length L9) :: (Ent.row 26 6 (.slice Z17 (([] : List TE0) ++ (K1.2.1.take K1.2.1.length).drop G1.toNat).length P18) (([] : List TE0) ++ (K1.2.1.take K1.2.1.length).drop G1.toNat).length L5) :: (Ent.obj Q5 (.cells #[.int .i8 X2.fKind, .bool X2.fBool, .int .i64 X2.fNum, S X2.fText, .slice Z9 X2.fList.length P9, .slice Z10 X2.fKeys.length P10] 26 (0, 0))) :: (Ent.row 26 6 (.slice Z5 K1.2.1.length P5) K1.2.1.length L1) :: (Ent.obj Q3 (.cells #[.int .i8 d0.fKind, .bool d0.fBool, .int .i64 d0.fNum, S d0.fText, .slice Z5 K1.2.1.length P5, .slice Z25 (((K1.2.2.take G1.toNat) ++ [X5]) ++ (([] : List (List UInt8)) ++ (K1.2.2.take K1.2.2.length).drop G1.toNat)).length P26] 26 (0, 0))) :: (Ent.obj Q2 (.cells #[.int .i8 0, .bool false, .int .i64 0, S [], .slice none 0 0, .slice none 0 0] 26 (0, 0))) :: H) rfl fun W30 N59 _ f => W_end rfl (N_te (T_n ?_))))
          exact ⟨((K1.2.2.take G1.toNat) ++ [X5]) ++ (([] : List (List UInt8)) ++ (K1.2.2.take K1.2.2.length).drop G1.toNat), (sI F25).symm, V7, J7, Z25, P26, L9, D21, f.kp, N59⟩
         exact N_none
        exact N_none
       exact N_none
      refine N_alt rfl (fun W31 N60 => ?_) ?_
      ·refine V_allocS (k := 1) (c := 1) f N60 (.cells #[S X5] 9 (0, 0)) (by kernel_rfl) (fun _ => by kernel_rfl) fun Q11 W32 N61 _ f => W_end rfl (N_goN 3 (mR _) N61 rfl (N_alt rfl (fun W33 N62 => ?_) ?_))
       ·obtain ⟨Z26, P27, H12, hcap_6, hcn_5⟩ := N62.rowShape 2 rfl
        have f := f.st 73 (H12)
        refine Z f (Y38 rfl (A := Z26) (len := K1.2.2.length) (cap := P27) (k' := .i64) (b := G1) (e := 9) (sz := 1) (by omega) (by omega)) fun _ f => ?_
        have f := f.st 73 (H12.symm)
        refine W_end rfl (N_goN 3 (mR _) N62 rfl (N_alt rfl (fun W34 N63 => ?_) ?_))
        ·have N64 := N63.pl [2]
         have D22 : RepSeq V5 ((K1.2.2.take G1.toNat).map Dat.str) (L2.take (G1.toNat * 1)) := by rw [List.map_take]; exact RepSeq.takeD _ (szd_all szd_str) (RepSeq.mono (J3.trans J5) _ _ D4)
         have hl_8 : (K1.2.2.take G1.toNat).length = G1.toNat := by rw [List.length_take]; omega
         have N65 : Hp w0 V5 ((Ent.row 9 1 (.slice (cutA Z26 1 0 P27) (K1.2.2.take G1.toNat).length P27) (K1.2.2.take G1.toNat).length (L2.take (G1.toNat * 1))) :: (Ent.obj Q11 (.cells #[S X5] 9 (0, 0))) :: (Ent.row 9 1 (.slice Z14 (([] : List (List UInt8)) ++ (K1.2.2.take K1.2.2.length).drop G1.toNat).length P15) (([] : List (List UInt8)) ++ (K1.2.2.take K1.2.2.length).drop G1.toNat).length L4) :: (Ent.row 26 6 (.slice Z17 (([] : List TE0) ++ (K1.2.1.take K1.2.1.length).drop G1.toNat).length P18) (([] : List TE0) ++ (K1.2.1.take K1.2.1.length).drop G1.toNat).length L5) :: (Ent.obj Q5 (.cells #[.int .i8 X2.fKind, .bool X2.fBool, .int .i64 X2.fNum, S X2.fText, .slice Z9 X2.fList.length P9, .slice Z10 X2.fKeys.length P10] 26 (0, 0))) :: (Ent.row 26 6 (.slice Z5 K1.2.1.length P5) K1.2.1.length L1) :: (Ent.obj Q3 (.cells #[.int .i8 d0.fKind, .bool d0.fBool, .int .i64 d0.fNum, S d0.fText, .slice Z5 K1.2.1.length P5, .slice Z6 K1.2.2.length P6] 26 (0, 0))) :: (Ent.obj Q2 (.cells #[.int .i8 0, .bool false, .int .i64 0, S [], .slice none 0 0, .slice none 0 0] 26 (0, 0))) :: H) W34 := by rw [hl_8]; exact N64.rowFront H12 (by omega)
         have f := Frm.set f 75 (v := .slice (cutA Z26 1 0 P27) G1.toNat P27) (v' := .slice (cutA Z26 1 0 P27) (K1.2.2.take G1.toNat).length P27) (by kernel_rfl) (by rw [hl_8])
         refine Y22 (z := S []) (f := Dat.str) (xs := K1.2.2.take G1.toNat) (ys := [X5]) (news := [S X5]) (ad := ⟨Q11, 0, none⟩) (m := 1) (c := 1) f N65 D22 (by exact ⟨_, _, rfl, rfl, rfl⟩) rfl rfl rfl rfl (own_cells (N65.ownCell 1 rfl) 0 rfl) (by exact O9) (by have hg_ := O9; first | omega | (simp only [List.length_cons, List.length_nil] at *; omega)) fun Z27 P28 L10 W35 N66 D23 _ f => ?_
         have N67 := N66.pl [1]
         have N68 := N67.drop
         refine W_end rfl (N_goN 2 (mR _) N68 rfl (N_alt rfl (fun W36 N69 => ?_) ?_))
         ·have N70 := N69.pl [1]
          obtain ⟨Z28, P29, V8, H13, J8, N71, B13⟩ := N70.rowSli (f := Dat.str) (xs := ([] : List (List UInt8)) ++ (K1.2.2.take K1.2.2.length).drop G1.toNat) szd_str D11
          have f := f.st 83 (H13)
          refine Y24 (z := S []) (f := Dat.str) (xs := (K1.2.2.take G1.toNat) ++ [X5]) (ys := ([] : List (List UInt8)) ++ (K1.2.2.take K1.2.2.length).drop G1.toNat) (c := P29) f N71 (RepSeq.mono J8 _ _ D23) B13 rfl rfl rfl O10 (by omega) fun Z29 P30 L11 W37 N72 D24 _ f => W_end rfl (N_goN 1 J8 N72 rfl (N_tail fun W38 N73 => Y f 1 fun _ f => Y27 f N73 4 rfl rfl (b := Q3) (j := 5) (v := .slice Z29 (((K1.2.2.take G1.toNat) ++ [X5]) ++ (([] : List (List UInt8)) ++ (K1.2.2.take K1.2.2.length).drop G1.toNat)).length P30) rfl (by exact rfl) (by simp) (by simp) ((Ent.row 9 1 (.slice Z29 (((K1.2.2.take G1.toNat) ++ [X5]) ++ (([] : List (List UInt8)) ++ (K1.2.2.take K1.2.2.length).drop G1.toNat)).length P30) (((K1.2.2.take G1.toNat) ++ [X5]) ++ (([] : List (List UInt8)) ++ (K1.2.2.take K1.2.2.length).drop G1.toNat)).length L11) :: (Ent.row 26 6 (.slice Z17 (([] : List TE0) ++ (K1.2.1.take K1.2.1.length).drop G1.toNat).length P18) (([] : List TE0) ++ (K1.2.1.take K1.2.1.length).drop G1.toNat).length L5) :: (Ent.obj Q5 (.cells #[.int .i8 X2.fKind, .bool X2.fBool, .int .i64 X2.fNum, S X2.fText, .slice Z9 X2.fList.length P9, .slice Z10 X2.fKeys.length P10] 26 (0, 0))) :: (Ent.row 26 6 (.slice Z5 K1.2.1.length P5) K1.2.1.length L1) :: (Ent.obj Q3 (.cells #[.int .i8 d0.fKind, .bool d0.fBool, .int .i64 d0.fNum, S d0.fText, .slice Z5 K1.2.1.length P5, .slice Z29 (((K1.2.2.take G1.toNat) ++ [X5]) ++ (([] : List (List UInt8)) ++ (K1.2.2.take K1.2.2.length).drop G1.toNat)).length P30] 26 (0, 0))) :: (Ent.obj Q2 (.cells #[.int .i8 0, .bool false, .int .i64 0, S [], .slice none 0 0, .slice none 0 0] 26 (0, 0))) :: H) rfl fun W39 N74 _ f => W_end rfl (N_te (T_n ?_))))
          exact ⟨((K1.2.2.take G1.toNat) ++ [X5]) ++ (([] : List (List UInt8)) ++ (K1.2.2.take K1.2.2.length).drop G1.toNat), (sI F25).symm, V8, J8, Z29, P30, L11, D24, f.kp, N74⟩
         exact N_none
        exact N_none
       exact N_none
      exact N_none
     ·rintro a_110 W40 ⟨G2, hq_1, V9, J9, Z30, P31, L12, D25, f, N75⟩
      subst j_1
      refine T_n ?_
      obtain ⟨j_2, hj_2, F26⟩ := bS F21
      refine R_mid (fun a_137 W62 => ∃ G3 : List TE0, j_2 = G3 ∧ ∃ V13 : Mem, V9.le V13 ∧ ∃ (Z43 : Option Addr), ∃ (P44 : Nat), ∃ (L19 : List Value), RepSeq V13 (G3.map emb_TE0) L19 ∧ Frm 97 [(1, .pointer (some (⟨Q1, 0, none⟩))), (2, .pointer (some (⟨Q2, 0, none⟩))), (3, .pointer (some (⟨Q3, 0, none⟩))), (4, .int .i64 K1.1)] a_137 ∧ Hp w0 V13 ((Ent.row 26 6 (.slice Z43 G3.length P44) G3.length L19) :: (Ent.row 9 1 (.slice Z30 G2.length P31) G2.length L12) :: (Ent.obj Q5 (.cells #[.int .i8 X2.fKind, .bool X2.fBool, .int .i64 X2.fNum, S X2.fText, .slice Z9 X2.fList.length P9, .slice Z10 X2.fKeys.length P10] 26 (0, 0))) :: (Ent.obj Q3 (.cells #[.int .i8 d0.fKind, .bool d0.fBool, .int .i64 d0.fNum, S d0.fText, .slice Z43 G3.length P44, .slice Z30 G2.length P31] 26 (0, 0))) :: (Ent.obj Q2 (.cells #[.int .i8 0, .bool false, .int .i64 0, S [], .slice none 0 0, .slice none 0 0] 26 (0, 0))) :: H) W62) ?_ ?_
      ·have N90 := N75.pl [5, 5, 4, 3, 5, 5]
       obtain ⟨O11, F27⟩ := nS hj_2
       obtain ⟨O12, F28⟩ := nS F27
       obtain ⟨O13, F29⟩ := nS F28
       refine R_plan (ks := [9, 10]) (E := [Ent.row 26 6 (.slice Z17 (([] : List TE0) ++ (K1.2.1.take K1.2.1.length).drop G1.toNat).length P18) (([] : List TE0) ++ (K1.2.1.take K1.2.1.length).drop G1.toNat).length L5, Ent.row 26 6 (.slice Z5 K1.2.1.length P5) K1.2.1.length L1]) (Hr := ((Ent.row 9 1 (.slice Z30 G2.length P31) G2.length L12) :: (Ent.obj Q5 (.cells #[.int .i8 X2.fKind, .bool X2.fBool, .int .i64 X2.fNum, S X2.fText, .slice Z9 X2.fList.length P9, .slice Z10 X2.fKeys.length P10] 26 (0, 0))) :: (Ent.obj Q3 (.cells #[.int .i8 d0.fKind, .bool d0.fBool, .int .i64 d0.fNum, S d0.fText, .slice Z5 K1.2.1.length P5, .slice Z30 G2.length P31] 26 (0, 0))) :: (Ent.obj Q2 (.cells #[.int .i8 0, .bool false, .int .i64 0, S [], .slice none 0 0, .slice none 0 0] 26 (0, 0))) :: H)) (.quiet 0 (.quiet 1 (.quiet 2 (.quiet 4 (.quiet 7 (.alt 3 (.alt 5 (.alt 6 (.alt 8 .done .none) .none) .none) (.alt 5 (.alt 3 (.alt 6 (.alt 8 .done .none) .none) .none) .none))))))) N90 (by kernel_rfl) (by kernel_rfl) (by kernel_rfl) (Y1 (v := .pointer (some (⟨Q3, 4, none⟩))) rfl f rfl rfl (fun _ _ => by kernel_rfl) fun _ f => Y1 (v := .slice Z5 K1.2.1.length P5) rfl f rfl rfl (fun _ pq => Y33 (v := .slice Z5 K1.2.1.length P5) rfl (ad := ⟨Q3, 4, none⟩) (pq.ownCell 2 rfl 4)) fun _ f => Y1 (v := .int .i64 G1) rfl f rfl rfl (fun _ _ => by kernel_rfl) fun _ f => Y1 (v := .agg #[.int .i8 X2.fKind, .bool X2.fBool, .int .i64 X2.fNum, S X2.fText, .slice Z9 X2.fList.length P9, .slice Z10 X2.fKeys.length P10]) rfl f rfl rfl (fun _ pq => Y34 (cs := [.int .i8 X2.fKind, .bool X2.fBool, .int .i64 X2.fNum, S X2.fText, .slice Z9 X2.fList.length P9, .slice Z10 X2.fKeys.length P10]) rfl (ad := ⟨Q5, 0, none⟩) (own_cells (pq.ownCell 1 rfl) 0 rfl)) fun _ f => Y1 (v := .slice Z17 (([] : List TE0) ++ (K1.2.1.take K1.2.1.length).drop G1.toNat).length P18) rfl f rfl rfl (fun _ _ => by kernel_rfl) fun _ f => N_alt rfl (fun W44 N91 => ?_) ?_)
       ·obtain ⟨Z35, P36, H16, hcap_8, hcn_7⟩ := N91.rowShape 1 rfl
        have f := f.st 87 (H16)
        refine Z f (Y38 rfl (A := Z35) (len := K1.2.1.length) (cap := P36) (k' := .i64) (b := G1) (e := 26) (sz := 6) (by omega) (by omega)) fun _ f => ?_
        have f := f.st 87 (H16.symm)
        refine W_end rfl (N_goN 2 (mR _) N91 rfl (N_alt rfl (fun W45 N92 => ?_) ?_))
        ·refine V_allocS (k := 1) (c := 1) f N92 (.cells #[.int .i8 X2.fKind, .bool X2.fBool, .int .i64 X2.fNum, S X2.fText, .slice Z9 X2.fList.length P9, .slice Z10 X2.fKeys.length P10] 26 (0, 0)) (by kernel_rfl) (fun _ => by kernel_rfl) fun Q13 W46 N93 _ f => W_end rfl (N_goN 3 (mR _) N93 rfl (N_alt rfl (fun W47 N94 => ?_) ?_))
         ·have N95 := N94.pl [2]
          have D29 : RepSeq V9 ((K1.2.1.take G1.toNat).map emb_TE0) (L1.take (G1.toNat * 6)) := by rw [List.map_take]; exact RepSeq.takeD _ (szd_all szd_TE0) (RepSeq.mono ((J3.trans J5).trans J9) _ _ D3)
          have hl_10 : (K1.2.1.take G1.toNat).length = G1.toNat := by rw [List.length_take]; omega
          have N96 : Hp w0 V9 ((Ent.row 26 6 (.slice (cutA Z35 6 0 P36) (K1.2.1.take G1.toNat).length P36) (K1.2.1.take G1.toNat).length (L1.take (G1.toNat * 6))) :: (Ent.obj Q13 (.cells #[.int .i8 X2.fKind, .bool X2.fBool, .int .i64 X2.fNum, S X2.fText, .slice Z9 X2.fList.length P9, .slice Z10 X2.fKeys.length P10] 26 (0, 0))) :: (Ent.row 26 6 (.slice Z17 (([] : List TE0) ++ (K1.2.1.take K1.2.1.length).drop G1.toNat).length P18) (([] : List TE0) ++ (K1.2.1.take K1.2.1.length).drop G1.toNat).length L5) :: (Ent.row 9 1 (.slice Z30 G2.length P31) G2.length L12) :: (Ent.obj Q5 (.cells #[.int .i8 X2.fKind, .bool X2.fBool, .int .i64 X2.fNum, S X2.fText, .slice Z9 X2.fList.length P9, .slice Z10 X2.fKeys.length P10] 26 (0, 0))) :: (Ent.obj Q3 (.cells #[.int .i8 d0.fKind, .bool d0.fBool, .int .i64 d0.fNum, S d0.fText, .slice Z5 K1.2.1.length P5, .slice Z30 G2.length P31] 26 (0, 0))) :: (Ent.obj Q2 (.cells #[.int .i8 0, .bool false, .int .i64 0, S [], .slice none 0 0, .slice none 0 0] 26 (0, 0))) :: H) W47 := by rw [hl_10]; exact N95.rowFront H16 (by omega)
          have f := Frm.set f 89 (v := .slice (cutA Z35 6 0 P36) G1.toNat P36) (v' := .slice (cutA Z35 6 0 P36) (K1.2.1.take G1.toNat).length P36) (by kernel_rfl) (by rw [hl_10])
          refine Y22 (z := .agg #[.int .i8 0, .bool false, .int .i64 0, S [], .slice none 0 0, .slice none 0 0]) (f := emb_TE0) (xs := K1.2.1.take G1.toNat) (ys := [(⟨X2.fKind, (X2.fBool), X2.fNum, X2.fText, X2.fList, X2.fKeys⟩ : TE0)]) (news := [.int .i8 X2.fKind, .bool X2.fBool, .int .i64 X2.fNum, S X2.fText, .slice Z9 X2.fList.length P9, .slice Z10 X2.fKeys.length P10]) (ad := ⟨Q13, 0, none⟩) (m := 1) (c := 1) f N96 D29 (by exact ⟨_, _, rfl, TE0.shut (B6.mono (J5.trans J9)) (B7.mono (J5.trans J9)), rfl⟩) rfl rfl rfl rfl (own_cells (N96.ownCell 1 rfl) 0 rfl) (by exact O12) (by have hg_ := O12; first | omega | (simp only [List.length_cons, List.length_nil] at *; omega)) fun Z36 P37 L15 W48 N97 D30 _ f => ?_
          have N98 := N97.pl [1]
          have N99 := N98.drop
          refine W_end rfl (N_goN 2 (mR _) N99 rfl (N_alt rfl (fun W49 N100 => ?_) ?_))
          ·have N101 := N100.pl [1]
           obtain ⟨Z37, P38, V11, H17, J11, N102, B15⟩ := N101.rowSli (f := emb_TE0) (xs := ([] : List TE0) ++ (K1.2.1.take K1.2.1.length).drop G1.toNat) szd_TE0 (RepSeq.mono J9 _ _ D13)
           have f := f.st 93 (H17)
           refine Y24 (z := .agg #[.int .i8 0, .bool false, .int .i64 0, S [], .slice none 0 0, .slice none 0 0]) (f := emb_TE0) (xs := (K1.2.1.take G1.toNat) ++ [(⟨X2.fKind, (X2.fBool), X2.fNum, X2.fText, X2.fList, X2.fKeys⟩ : TE0)]) (ys := ([] : List TE0) ++ (K1.2.1.take K1.2.1.length).drop G1.toNat) (c := P38) f N102 (RepSeq.mono J11 _ _ D30) B15 rfl rfl rfl O13 (by omega) fun Z38 P39 L16 W50 N103 D31 _ f => W_end rfl (N_goN 1 J11 N103 rfl (N_tail fun W51 N104 => Y f 1 fun _ f => Y27 f N104 3 rfl rfl (b := Q3) (j := 4) (v := .slice Z38 (((K1.2.1.take G1.toNat) ++ [(⟨X2.fKind, (X2.fBool), X2.fNum, X2.fText, X2.fList, X2.fKeys⟩ : TE0)]) ++ (([] : List TE0) ++ (K1.2.1.take K1.2.1.length).drop G1.toNat)).length P39) rfl (by exact rfl) (by simp) (by simp) ((Ent.row 26 6 (.slice Z38 (((K1.2.1.take G1.toNat) ++ [(⟨X2.fKind, (X2.fBool), X2.fNum, X2.fText, X2.fList, X2.fKeys⟩ : TE0)]) ++ (([] : List TE0) ++ (K1.2.1.take K1.2.1.length).drop G1.toNat)).length P39) (((K1.2.1.take G1.toNat) ++ [(⟨X2.fKind, (X2.fBool), X2.fNum, X2.fText, X2.fList, X2.fKeys⟩ : TE0)]) ++ (([] : List TE0) ++ (K1.2.1.take K1.2.1.length).drop G1.toNat)).length L16) :: (Ent.row 9 1 (.slice Z30 G2.length P31) G2.length L12) :: (Ent.obj Q5 (.cells #[.int .i8 X2.fKind, .bool X2.fBool, .int .i64 X2.fNum, S X2.fText, .slice Z9 X2.fList.length P9, .slice Z10 X2.fKeys.length P10] 26 (0, 0))) :: (Ent.obj Q3 (.cells #[.int .i8 d0.fKind, .bool d0.fBool, .int .i64 d0.fNum, S d0.fText, .slice Z38 (((K1.2.1.take G1.toNat) ++ [(⟨X2.fKind, (X2.fBool), X2.fNum, X2.fText, X2.fList, X2.fKeys⟩ : TE0)]) ++ (([] : List TE0) ++ (K1.2.1.take K1.2.1.length).drop G1.toNat)).length P39, .slice Z30 G2.length P31] 26 (0, 0))) :: (Ent.obj Q2 (.cells #[.int .i8 0, .bool false, .int .i64 0, S [], .slice none 0 0, .slice none 0 0] 26 (0, 0))) :: H) rfl fun W52 N105 _ f => W_end rfl (N_te (T_n ?_))))
           exact ⟨((K1.2.1.take G1.toNat) ++ [(⟨X2.fKind, (X2.fBool), X2.fNum, X2.fText, X2.fList, X2.fKeys⟩ : TE0)]) ++ (([] : List TE0) ++ (K1.2.1.take K1.2.1.length).drop G1.toNat), (sI F29).symm, V11, J11, Z38, P39, L16, D31, f.kp, N105⟩
          exact N_none
         exact N_none
        exact N_none
       refine N_alt rfl (fun W53 N106 => ?_) ?_
       ·refine V_allocS (k := 1) (c := 1) f N106 (.cells #[.int .i8 X2.fKind, .bool X2.fBool, .int .i64 X2.fNum, S X2.fText, .slice Z9 X2.fList.length P9, .slice Z10 X2.fKeys.length P10] 26 (0, 0)) (by kernel_rfl) (fun _ => by kernel_rfl) fun Q14 W54 N107 _ f => W_end rfl (N_goN 3 (mR _) N107 rfl (N_alt rfl (fun W55 N108 => ?_) ?_))
        ·obtain ⟨Z39, P40, H18, hcap_9, hcn_8⟩ := N108.rowShape 2 rfl
         have f := f.st 87 (H18)
         refine Z f (Y38 rfl (A := Z39) (len := K1.2.1.length) (cap := P40) (k' := .i64) (b := G1) (e := 26) (sz := 6) (by omega) (by omega)) fun _ f => ?_
         have f := f.st 87 (H18.symm)
         refine W_end rfl (N_goN 3 (mR _) N108 rfl (N_alt rfl (fun W56 N109 => ?_) ?_))
         ·have N110 := N109.pl [2]
          have D32 : RepSeq V9 ((K1.2.1.take G1.toNat).map emb_TE0) (L1.take (G1.toNat * 6)) := by rw [List.map_take]; exact RepSeq.takeD _ (szd_all szd_TE0) (RepSeq.mono ((J3.trans J5).trans J9) _ _ D3)
          have hl_11 : (K1.2.1.take G1.toNat).length = G1.toNat := by rw [List.length_take]; omega
          have N111 : Hp w0 V9 ((Ent.row 26 6 (.slice (cutA Z39 6 0 P40) (K1.2.1.take G1.toNat).length P40) (K1.2.1.take G1.toNat).length (L1.take (G1.toNat * 6))) :: (Ent.obj Q14 (.cells #[.int .i8 X2.fKind, .bool X2.fBool, .int .i64 X2.fNum, S X2.fText, .slice Z9 X2.fList.length P9, .slice Z10 X2.fKeys.length P10] 26 (0, 0))) :: (Ent.row 26 6 (.slice Z17 (([] : List TE0) ++ (K1.2.1.take K1.2.1.length).drop G1.toNat).length P18) (([] : List TE0) ++ (K1.2.1.take K1.2.1.length).drop G1.toNat).length L5) :: (Ent.row 9 1 (.slice Z30 G2.length P31) G2.length L12) :: (Ent.obj Q5 (.cells #[.int .i8 X2.fKind, .bool X2.fBool, .int .i64 X2.fNum, S X2.fText, .slice Z9 X2.fList.length P9, .slice Z10 X2.fKeys.length P10] 26 (0, 0))) :: (Ent.obj Q3 (.cells #[.int .i8 d0.fKind, .bool d0.fBool, .int .i64 d0.fNum, S d0.fText, .slice Z5 K1.2.1.length P5, .slice Z30 G2.length P31] 26 (0, 0))) :: (Ent.obj Q2 (.cells #[.int .i8 0, .bool false, .int .i64 0, S [], .slice none 0 0, .slice none 0 0] 26 (0, 0))) :: H) W56 := by rw [hl_11]; exact N110.rowFront H18 (by omega)
          have f := Frm.set f 89 (v := .slice (cutA Z39 6 0 P40) G1.toNat P40) (v' := .slice (cutA Z39 6 0 P40) (K1.2.1.take G1.toNat).length P40) (by kernel_rfl) (by rw [hl_11])
          refine Y22 (z := .agg #[.int .i8 0, .bool false, .int .i64 0, S [], .slice none 0 0, .slice none 0 0]) (f := emb_TE0) (xs := K1.2.1.take G1.toNat) (ys := [(⟨X2.fKind, (X2.fBool), X2.fNum, X2.fText, X2.fList, X2.fKeys⟩ : TE0)]) (news := [.int .i8 X2.fKind, .bool X2.fBool, .int .i64 X2.fNum, S X2.fText, .slice Z9 X2.fList.length P9, .slice Z10 X2.fKeys.length P10]) (ad := ⟨Q14, 0, none⟩) (m := 1) (c := 1) f N111 D32 (by exact ⟨_, _, rfl, TE0.shut (B6.mono (J5.trans J9)) (B7.mono (J5.trans J9)), rfl⟩) rfl rfl rfl rfl (own_cells (N111.ownCell 1 rfl) 0 rfl) (by exact O12) (by have hg_ := O12; first | omega | (simp only [List.length_cons, List.length_nil] at *; omega)) fun Z40 P41 L17 W57 N112 D33 _ f => ?_
          have N113 := N112.pl [1]
          have N114 := N113.drop
          refine W_end rfl (N_goN 2 (mR _) N114 rfl (N_alt rfl (fun W58 N115 => ?_) ?_))
          ·have N116 := N115.pl [1]
           obtain ⟨Z41, P42, V12, H19, J12, N117, B16⟩ := N116.rowSli (f := emb_TE0) (xs := ([] : List TE0) ++ (K1.2.1.take K1.2.1.length).drop G1.toNat) szd_TE0 (RepSeq.mono J9 _ _ D13)
           have f := f.st 93 (H19)
           refine Y24 (z := .agg #[.int .i8 0, .bool false, .int .i64 0, S [], .slice none 0 0, .slice none 0 0]) (f := emb_TE0) (xs := (K1.2.1.take G1.toNat) ++ [(⟨X2.fKind, (X2.fBool), X2.fNum, X2.fText, X2.fList, X2.fKeys⟩ : TE0)]) (ys := ([] : List TE0) ++ (K1.2.1.take K1.2.1.length).drop G1.toNat) (c := P42) f N117 (RepSeq.mono J12 _ _ D33) B16 rfl rfl rfl O13 (by omega) fun Z42 P43 L18 W59 N118 D34 _ f => W_end rfl (N_goN 1 J12 N118 rfl (N_tail fun W60 N119 => Y f 1 fun _ f => Y27 f N119 3 rfl rfl (b := Q3) (j := 4) (v := .slice Z42 (((K1.2.1.take G1.toNat) ++ [(⟨X2.fKind, (X2.fBool), X2.fNum, X2.fText, X2.fList, X2.fKeys⟩ : TE0)]) ++ (([] : List TE0) ++ (K1.2.1.take K1.2.1.length).drop G1.toNat)).length P43) rfl (by exact rfl) (by simp) (by simp) ((Ent.row 26 6 (.slice Z42 (((K1.2.1.take G1.toNat) ++ [(⟨X2.fKind, (X2.fBool), X2.fNum, X2.fText, X2.fList, X2.fKeys⟩ : TE0)]) ++ (([] : List TE0) ++ (K1.2.1.take K1.2.1.length).drop G1.toNat)).length P43) (((K1.2.1.take G1.toNat) ++ [(⟨X2.fKind, (X2.fBool), X2.fNum, X2.fText, X2.fList, X2.fKeys⟩ : TE0)]) ++ (([] : List TE0) ++ (K1.2.1.take K1.2.1.length).drop G1.toNat)).length L18) :: (Ent.row 9 1 (.slice Z30 G2.length P31) G2.length L12) :: (Ent.obj Q5 (.cells #[.int .i8 X2.fKind, .bool X2.fBool, .int .i64 X2.fNum, S X2.fText, .slice Z9 X2.fList.length P9, .slice Z10 X2.fKeys.length P10] 26 (0, 0))) :: (Ent.obj Q3 (.cells #[.int .i8 d0.fKind, .bool d0.fBool, .int .i64 d0.fNum, S d0.fText, .slice Z42 (((K1.2.1.take G1.toNat) ++ [(⟨X2.fKind, (X2.fBool), X2.fNum, X2.fText, X2.fList, X2.fKeys⟩ : TE0)]) ++ (([] : List TE0) ++ (K1.2.1.take K1.2.1.length).drop G1.toNat)).length P43, .slice Z30 G2.length P31] 26 (0, 0))) :: (Ent.obj Q2 (.cells #[.int .i8 0, .bool false, .int .i64 0, S [], .slice none 0 0, .slice none 0 0] 26 (0, 0))) :: H) rfl fun W61 N120 _ f => W_end rfl (N_te (T_n ?_))))
           exact ⟨((K1.2.1.take G1.toNat) ++ [(⟨X2.fKind, (X2.fBool), X2.fNum, X2.fText, X2.fList, X2.fKeys⟩ : TE0)]) ++ (([] : List TE0) ++ (K1.2.1.take K1.2.1.length).drop G1.toNat), (sI F29).symm, V12, J12, Z42, P43, L18, D34, f.kp, N120⟩
          exact N_none
         exact N_none
        exact N_none
       exact N_none
      ·rintro a_137 W62 ⟨G3, hq_2, V13, J13, Z43, P44, L19, D35, f, N121⟩
       subst j_2
       refine B_n (T_n (R_reg (Y f 1 fun _ f => ?_)))
       obtain ⟨O14, F30⟩ := nS F26
       refine Y f 1 fun _ f => ?_
       have f := f.st 24 (iW O14)
       refine Y f 1 fun _ f => W_end rfl ?_
       have N132 := N121.pl [4, 4, 3, 3, 4]
       refine T_n ?_
       obtain rfl := sI F30
       exact ⟨⟨I2, (K1.1 + 1, G3, G2), Z43, P44, L19, Z30, P31, L12⟩, Nat.lt_succ_self _, V13, ((((J2.trans J3).trans J5).trans J9).trans J13), ⟨T1, D35, (RepSeq.mono J13 _ _ D25)⟩, f.kp, (N132.dropN 1)⟩
  ·have U8 := iff_f dI B3
   refine wp_exit (T_x (T_x ?_))
   obtain rfl := sI F31
   exact ⟨rfl, (K1.2.1, K1.2.2), (sI T1).symm, V2, J2, Z5, P5, L1, Z6, P6, L2, D3, D4, f.kp, N11⟩
 ·rintro _ _ W64 ⟨rfl, G4, hq_, V14, J14, Z44, P45, L20, Z45, P46, L21, D36, D37, f, N122⟩
  subst Q4
  refine B_x (T_n (RR (Z (v := .agg #[.int .i8 d0.fKind, .bool d0.fBool, .int .i64 d0.fNum, S d0.fText, .slice Z44 G4.1.length P45, .slice Z45 G4.2.length P46]) f (Y34 (cs := [.int .i8 d0.fKind, .bool d0.fBool, .int .i64 d0.fNum, S d0.fText, .slice Z44 G4.1.length P45, .slice Z45 G4.2.length P46]) rfl (ad := ⟨Q3, 0, none⟩) (own_cells (N122.ownCell 2 rfl) 0 rfl)) fun _ f => ?_)))
  obtain ⟨Z46, P47, V15, H20, J15, N133, B17⟩ := N122.rowSli (f := emb_TE0) (xs := G4.1) szd_TE0 D36
  have f := Frm.set f 96 (v := .agg #[.int .i8 d0.fKind, .bool d0.fBool, .int .i64 d0.fNum, S d0.fText, .slice Z44 G4.1.length P45, .slice Z45 G4.2.length P46]) (v' := .agg #[.int .i8 d0.fKind, .bool d0.fBool, .int .i64 d0.fNum, S d0.fText, .slice Z46 G4.1.length P47, .slice Z45 G4.2.length P46]) (by kernel_rfl) (by rw [H20])
  have N134 : Hp w0 V15 ((Ent.row 9 1 (.slice Z45 G4.2.length P46) G4.2.length L21) :: (Ent.obj Q3 (.cells #[.int .i8 d0.fKind, .bool d0.fBool, .int .i64 d0.fNum, S d0.fText, .slice Z46 G4.1.length P47, .slice Z45 G4.2.length P46] 26 (0, 0))) :: (Ent.obj Q2 (.cells #[.int .i8 0, .bool false, .int .i64 0, S [], .slice none 0 0, .slice none 0 0] 26 (0, 0))) :: H) W64 := by rw [H20] at N133; exact N133
  obtain ⟨Z47, P48, V16, H21, J16, N135, B18⟩ := N134.rowSli (f := Dat.str) (xs := G4.2) szd_str (RepSeq.mono J15 _ _ D37)
  have f := Frm.set f 96 (v := .agg #[.int .i8 d0.fKind, .bool d0.fBool, .int .i64 d0.fNum, S d0.fText, .slice Z46 G4.1.length P47, .slice Z45 G4.2.length P46]) (v' := .agg #[.int .i8 d0.fKind, .bool d0.fBool, .int .i64 d0.fNum, S d0.fText, .slice Z46 G4.1.length P47, .slice Z47 G4.2.length P48]) (by kernel_rfl) (by rw [H21])
  have N136 : Hp w0 V16 ((Ent.obj Q3 (.cells #[.int .i8 d0.fKind, .bool d0.fBool, .int .i64 d0.fNum, S d0.fText, .slice Z46 G4.1.length P47, .slice Z47 G4.2.length P48] 26 (0, 0))) :: (Ent.obj Q2 (.cells #[.int .i8 0, .bool false, .int .i64 0, S [], .slice none 0 0, .slice none 0 0] 26 (0, 0))) :: H) W64 := by rw [H21] at N135; exact N135
  have N137 := N136.pl [1]
  refine Y28 (vs := [.int .i8 d0.fKind, .bool d0.fBool, .int .i64 d0.fNum, S d0.fText, .slice Z46 G4.1.length P47, .slice Z47 G4.2.length P48]) (j := 0) f N137 rfl rfl (by simp [Value.oneCell', S]) (by simp) (by decide) (cs' := #[.int .i8 d0.fKind, .bool d0.fBool, .int .i64 d0.fNum, S d0.fText, .slice Z46 G4.1.length P47, .slice Z47 G4.2.length P48]) (by kernel_rfl) fun W65 N138 _ f => eT (wp_ret (E_rv1 f rfl (Y10 (cs := [.int .i8 d0.fKind, .bool d0.fBool, .int .i64 d0.fNum, S d0.fText, .slice Z46 G4.1.length P47, .slice Z47 G4.2.length P48]) (ad := ⟨Q2, 0, none⟩) f (own_cells (N138.ownCell 0 rfl) 0 rfl)) ?_))
  obtain rfl := sI F1
  exact ⟨_, rfl, V16, (((J1.trans J14).trans J15).trans J16), (N138.dropN 2), ⟨[.int .i8 d0.fKind, .bool d0.fBool, .int .i64 d0.fNum, S d0.fText, .slice Z46 G4.1.length P47, .slice Z47 G4.2.length P48], rfl, (TE0.shut (B17.mono J16) B18)⟩⟩
def ref03_sorted_k (n : Nat) : Nat → TE0 → Option TE0
  | 0 => fun _ => none
  | k + 1 => ref03_sorted_b n (ref03_sorted_k n k)
def ref03_sorted (n : Nat) (d0 : TE0) : Option TE0 := ref03_sorted_k n n d0
theorem ref03_sorted_ok (n : Nat) (M : Mem) (c0 : List Value) (d0 : TE0) (h0 : Rep M (emb_TE0 d0) c0) (r : TE0) (hF : ref03_sorted n d0 = some r) : Ok Tryz.prog M 56 [.agg c0.toArray] (fun M' v => ∃ (c0 : List Value), v = .agg c0.toArray ∧ Rep M' (emb_TE0 r) c0) := by
 have key : ∀ (k : Nat) (M : Mem) (c0 : List Value) (d0 : TE0) (h0 : Rep M (emb_TE0 d0) c0) (r : TE0) (hF : ref03_sorted_k n k d0 = some r), Ok Tryz.prog M 56 [.agg c0.toArray] (fun M' v => ∃ (c0 : List Value), v = .agg c0.toArray ∧ Rep M' (emb_TE0 r) c0) := by
  intro k
  induction k with
  | zero => intro M c0 d0 h0 r hF; simp [ref03_sorted_k] at hF
  | succ k ih => intro M c0 d0 h0 r hF; exact ref03_sorted_b_ok n (ref03_sorted_k n k) ih M c0 d0 h0 r hF
 exact key n M c0 d0 h0 r hF
def ref03_compare_s1 (n : Nat) (rec_ref03_compare : TE0 → TE0 → Option Int) (d0 : TE0) (d1 : TE0) (K1 : Int) : Option (Lp Int (Sum Int Unit)) :=
    ((bif (decide (K1 < ((d0.fList.length : Nat) : Int))) then
        (some ((decide (K1 < ((d1.fList.length : Nat) : Int)))))
      else
        some ((false)) : Option Bool)).bind fun G1 =>
    bif G1 then
      (((bif (decide (d0.fKind = 5)) then
          ((getI d0.fKeys K1).bind fun X1 =>
          (getI d1.fKeys K1).bind fun X2 =>
          some ((!(decide (X1 = X2)))))
        else
          some ((false)) : Option Bool)).bind fun G2 =>
      bif G2 then
        ((getI d0.fKeys K1).bind fun X3 =>
        (getI d1.fKeys K1).bind fun X4 =>
        bif (Op.bytesLess X3 X4) then
          (some (.br (.inl (-1 : Int))))
        else
          some (.br (.inl (1 : Int))))
      else
        (getI d0.fList K1).bind fun X5 =>
        (getI d1.fList K1).bind fun X6 =>
        (rec_ref03_compare X5 X6).bind fun X7 =>
        bif (!(decide (X7 = 0))) then
          (some (.br (.inl X7)))
        else
          need (inR .i64 (K1 + 1)) <|
          some (.nx (K1 + 1)))
    else
      some (.br (.inr ()))
def ref03_compare_b (n : Nat) (rec_ref03_compare : TE0 → TE0 → Option Int) (d0 : TE0) (d1 : TE0) : Option Int :=
  bif (!(decide (d0.fKind = d1.fKind))) then
    (bif (decide (d0.fKind < d1.fKind)) then
      (some ((-1 : Int)))
    else
      some ((1 : Int)))
  else
    bif (!(d0.fBool == d1.fBool)) then
      (bif d1.fBool then
        (some ((-1 : Int)))
      else
        some ((1 : Int)))
    else
      bif (!(decide (d0.fNum = d1.fNum))) then
        (bif (decide (d0.fNum < d1.fNum)) then
          (some ((-1 : Int)))
        else
          some ((1 : Int)))
      else
        bif (!(decide (d0.fText = d1.fText))) then
          (bif (Op.bytesLess d0.fText d1.fText) then
            (some ((-1 : Int)))
          else
            some ((1 : Int)))
        else
          (loopF (ref03_compare_s1 n rec_ref03_compare d0 d1) n (0 : Int)).bind fun Q3 =>
          (match Q3 with 
          | .inl G3 => some (G3) 
          | .inr G4 => bif (!(decide (((d0.fList.length : Nat) : Int) = ((d1.fList.length : Nat) : Int)))) then
              (bif (decide (((d0.fList.length : Nat) : Int) < ((d1.fList.length : Nat) : Int))) then
                (some ((-1 : Int)))
              else
                some ((1 : Int)))
            else
              some ((0 : Int)))
set_option maxRecDepth 20000 in
theorem ref03_compare_b_ok (n : Nat) (rec_ref03_compare : TE0 → TE0 → Option Int) (hrec_ref03_compare : ∀ (M : Mem) (c0 : List Value) (d0 : TE0) (h0 : Rep M (emb_TE0 d0) c0) (c1 : List Value) (d1 : TE0) (h1 : Rep M (emb_TE0 d1) c1) (r : Int) (hF : rec_ref03_compare d0 d1 = some r), Ok Tryz.prog M 91 [.agg c0.toArray, .agg c1.toArray] (fun _ v => v = .int .i64 r)) (M : Mem) (c0 : List Value) (d0 : TE0) (h0 : Rep M (emb_TE0 d0) c0) (c1 : List Value) (d1 : TE0) (h1 : Rep M (emb_TE0 d1) c1) (r : Int) (hF : ref03_compare_b n rec_ref03_compare d0 d1 = some r) : Ok Tryz.prog M 91 [.agg c0.toArray, .agg c1.toArray] (fun _ v => v = .int .i64 r) := by
 unfold ref03_compare_b at hF
 intro M1 hM0 w0 H w p0
 replace h0 := Rep.mono hM0 _ _ h0
 replace h1 := Rep.mono hM0 _ _ h1
 obtain ⟨Z1, P1, Z2, P2, rfl, B1, B2⟩ := TE0.opn h0
 obtain ⟨Z3, P3, Z4, P4, rfl, B3, B4⟩ := TE0.opn h1
 refine R_enter 113 Tryz.func91 rfl rfl (by simp) fun a0 f0 => RR (Y13 (cs := #[.int .i8 d0.fKind, .bool d0.fBool, .int .i64 d0.fNum, S d0.fText, .slice Z1 d0.fList.length P1, .slice Z2 d0.fKeys.length P2]) (T := 26) f0 p0 fun Q1 V1 W1 J1 R1 N1 _ f => ?_)
 have R2 := fz_box R1
 refine Y13 (cs := #[.int .i8 d1.fKind, .bool d1.fBool, .int .i64 d1.fNum, S d1.fText, .slice Z3 d1.fList.length P3, .slice Z4 d1.fKeys.length P4]) (T := 26) f N1 fun Q2 V2 W2 J2 R3 N2 _ f => ?_
 have R4 := fz_box R3
 refine Y f 1 fun _ f => eT (R_seq (RR (Y f 1 fun _ f => Y15 f N2 (fzu J2 R2) 0 rfl fun _ f => Y f 1 fun _ f => Y15 f N2 R4 0 rfl fun _ f => Y f 1 fun _ f => eT (RcF f hF (fun B5 F1 => ?_) fun B5 F4 => ?_))))
 ·have U1 : ¬ (d0.fKind = d1.fKind) := (not_iff dI).1 B5
  refine R_seq (RR (Y f 1 fun _ f => Y15 f N2 (fzu J2 R2) 0 rfl fun _ f => Y f 1 fun _ f => Y15 f N2 R4 0 rfl fun _ f => Y f 1 fun _ f => eT (RcF f F1 (fun B6 F2 => ?_) fun B6 F3 => ?_)))
  ·have U2 := dI.1 B6
   refine RR (Y f 1 fun _ f => eT (wp_ret (T_r (T_r (E_ret1 f rfl (by kernel_rfl : Vc.look _ 4 = some (.int .i64 (-1))) ?_)))))
   obtain rfl := sI F2
   exact ⟨_, rfl, V2, (J1.trans J2), N2, rfl⟩
  ·have U3 := iff_f dI B6
   refine wp_skip (T_n (RR (Y f 1 fun _ f => eT (wp_ret (T_r (E_ret1 f rfl (by kernel_rfl : Vc.look _ 4 = some (.int .i64 1)) ?_))))))
   obtain rfl := sI F3
   exact ⟨_, rfl, V2, (J1.trans J2), N2, rfl⟩
 ·have U4 : ¬ (¬ (d0.fKind = d1.fKind)) := iff_f (not_iff dI) B5
  refine wp_skip (T_n (R_seq (RR (Y f 1 fun _ f => Y15 f N2 (fzu J2 R2) 1 rfl fun _ f => Y f 1 fun _ f => Y15 f N2 R4 1 rfl fun _ f => Y f 1 fun _ f => eT (RcF f F4 (fun B7 F5 => ?_) fun B7 F8 => ?_)))))
  ·have U5 : (d0.fBool == d1.fBool) = false := by simpa using B7
   refine R_seq (RR (Y f 1 fun _ f => Y15 f N2 R4 1 rfl fun _ f => eT (RcF f F5 (fun B8 F6 => ?_) fun B8 F7 => ?_)))
   ·refine RR (Y f 1 fun _ f => eT (wp_ret (T_r (T_r (E_ret1 f rfl (by kernel_rfl : Vc.look _ 4 = some (.int .i64 (-1))) ?_)))))
    obtain rfl := sI F6
    exact ⟨_, rfl, V2, (J1.trans J2), N2, rfl⟩
   ·refine wp_skip (T_n (RR (Y f 1 fun _ f => eT (wp_ret (T_r (E_ret1 f rfl (by kernel_rfl : Vc.look _ 4 = some (.int .i64 1)) ?_))))))
    obtain rfl := sI F7
    exact ⟨_, rfl, V2, (J1.trans J2), N2, rfl⟩
  ·have U8 : (d0.fBool == d1.fBool) = true := by simpa using B7
   refine wp_skip (T_n (R_seq (RR (Y f 1 fun _ f => Y15 f N2 (fzu J2 R2) 2 rfl fun _ f => Y f 1 fun _ f => Y15 f N2 R4 2 rfl fun _ f => Y f 1 fun _ f => eT (RcF f F8 (fun B9 F9 => ?_) fun B9 F12 => ?_)))))
   ·have U9 : ¬ (d0.fNum = d1.fNum) := (not_iff dI).1 B9
    refine R_seq (RR (Y f 1 fun _ f => Y15 f N2 (fzu J2 R2) 2 rfl fun _ f => Y f 1 fun _ f => Y15 f N2 R4 2 rfl fun _ f => Y f 1 fun _ f => eT (RcF f F9 (fun B10 F10 => ?_) fun B10 F11 => ?_)))
    ·have U10 := dI.1 B10
     refine RR (Y f 1 fun _ f => eT (wp_ret (T_r (T_r (E_ret1 f rfl (by kernel_rfl : Vc.look _ 4 = some (.int .i64 (-1))) ?_)))))
     obtain rfl := sI F10
     exact ⟨_, rfl, V2, (J1.trans J2), N2, rfl⟩
    ·have U11 := iff_f dI B10
     refine wp_skip (T_n (RR (Y f 1 fun _ f => eT (wp_ret (T_r (E_ret1 f rfl (by kernel_rfl : Vc.look _ 4 = some (.int .i64 1)) ?_))))))
     obtain rfl := sI F11
     exact ⟨_, rfl, V2, (J1.trans J2), N2, rfl⟩
   ·have U12 : ¬ (¬ (d0.fNum = d1.fNum)) := iff_f (not_iff dI) B9
    refine wp_skip (T_n (R_seq (RR (Y f 1 fun _ f => Y15 f N2 (fzu J2 R2) 3 rfl fun _ f => Y f 1 fun _ f => Y15 f N2 R4 3 rfl fun _ f => Z f (Y41 rfl (l := d0.fText) (m := d1.fText)) fun _ f => eT (RcF f F12 (fun B11 F13 => ?_) fun B11 F16 => ?_)))))
    ·have U13 : ¬ (d0.fText = d1.fText) := (not_iff dI).1 B11
     refine R_seq (RR (Y f 1 fun _ f => Y15 f N2 (fzu J2 R2) 3 rfl fun _ f => Y f 1 fun _ f => Y15 f N2 R4 3 rfl fun _ f => Z (v := .bool (Op.bytesLess d0.fText d1.fText)) f (X_strlt rfl (l := d0.fText) (m := d1.fText) (by kernel_rfl) (by kernel_rfl)) fun _ f => eT (RcF f F13 (fun B12 F14 => ?_) fun B12 F15 => ?_)))
     ·refine RR (Y f 1 fun _ f => eT (wp_ret (T_r (T_r (E_ret1 f rfl (by kernel_rfl : Vc.look _ 4 = some (.int .i64 (-1))) ?_)))))
      obtain rfl := sI F14
      exact ⟨_, rfl, V2, (J1.trans J2), N2, rfl⟩
     ·refine wp_skip (T_n (RR (Y f 1 fun _ f => eT (wp_ret (T_r (E_ret1 f rfl (by kernel_rfl : Vc.look _ 4 = some (.int .i64 1)) ?_))))))
      obtain rfl := sI F15
      exact ⟨_, rfl, V2, (J1.trans J2), N2, rfl⟩
    ·have U16 : ¬ (¬ (d0.fText = d1.fText)) := iff_f (not_iff dI) B11
     refine wp_skip (T_n (R_seq (RR (Y f 1 fun _ f => eT (wp_block ?_)))))
     obtain ⟨Q3, hL_1, F17⟩ := bS F16
     refine wp_mono (Q := fun e a w => (e = .ret ∧ (∃ G3 : Int, Q3 = .inl G3 ∧ ∃ V6 : Mem, V2.le V6 ∧ Frm 113 [(4, .int .i64 G3)] a ∧ Hp w0 V6 (H) w)) ∨ (e = .exit 0 ∧ (∃ G4 : Unit, Q3 = .inr G4 ∧ ∃ V7 : Mem, V2.le V7 ∧ Frm 113 [(2, .pointer (some (⟨Q1, 0, none⟩))), (3, .pointer (some (⟨Q2, 0, none⟩)))] a ∧ Hp w0 V7 (H) w))) (R_loop (n := 113) (w0 := w0) (M := V2) (fun (x : Nat × Int) => match x with | (I1, K1) => [(2, .pointer (some (⟨Q1, 0, none⟩))), (3, .pointer (some (⟨Q2, 0, none⟩))), (5, .int .i64 K1)]) (fun (x : Nat × Int) => match x with | (I1, K1) => (H)) (fun (x : Nat × Int) (MM : Mem) => match x with | (I1, K1) => loopF (ref03_compare_s1 n rec_ref03_compare d0 d1) I1 K1 = some Q3) (fun (x : Nat × Int) => match x with | (I1, K1) => I1) (n, (0 : Int)) (f.kp) N2 hL_1 ?_) ?_
     ·rintro ⟨I1, K1⟩ V3 _ W3 J3 I_1 f N3
      have I_1L := I_1
      obtain ⟨I2, r_1, rfl, hs_1, T1⟩ := loop_step I_1L
      unfold ref03_compare_s1 at hs_1
      refine R_seq (R_seq ?_)
      obtain ⟨j_1, hj_1, F18⟩ := bS hs_1
      refine R_mid (fun a_58 W4 => ∃ G1 : Bool, j_1 = G1 ∧ ∃ V4 : Mem, V3.le V4 ∧ Frm 113 [(2, .pointer (some (⟨Q1, 0, none⟩))), (3, .pointer (some (⟨Q2, 0, none⟩))), (5, .int .i64 K1), (55, .bool G1)] a_58 ∧ Hp w0 V4 (H) W4) ?_ ?_
      ·refine R_reg (Y f 2 fun _ f => Y15 f N3 (fzu (J2.trans J3) R2) 4 rfl fun _ f => Y f 3 fun _ f => ?_)
       rcases cE hj_1 with ⟨B13, F19⟩ | ⟨B13, F20⟩
       ·have U17 := dI.1 B13
        have f := f.st 49 (cB B13)
        refine Y f 2 fun _ f => Y15 f N3 (fzu J3 R4) 4 rfl fun _ f => Y f 3 fun _ f => eT ?_
        exact ⟨(decide (K1 < ((d1.fList.length : Nat) : Int))), (sI F19).symm, V3, (mR _), f.kp, N3⟩
       ·have U18 := iff_f dI B13
        have f := f.st 49 (cB B13)
        refine Y f 6 fun _ f => eT ?_
        exact ⟨(false), (sI F20).symm, V3, (mR _), f.kp, N3⟩
      ·rintro a_58 W4 ⟨G1, hq_1, V4, J4, f, N4⟩
       subst j_1
       refine T_n (RcF f F18 (fun B14 F21 => ?_) fun B14 F39 => ?_)
       ·refine wp_skip (T_n (R_seq (wp_block (R_seq (R_seq ?_)))))
        obtain ⟨j_2, hj_2, F22⟩ := bS F21
        refine R_mid (fun a_75 W7 => ∃ G2 : Bool, j_2 = G2 ∧ ∃ V5 : Mem, V4.le V5 ∧ Frm 113 [(2, .pointer (some (⟨Q1, 0, none⟩))), (3, .pointer (some (⟨Q2, 0, none⟩))), (5, .int .i64 K1), (73, .bool G2)] a_75 ∧ Hp w0 V5 (H) W7) ?_ ?_
        ·refine R_draw N4 (by kernel_rfl) (by kernel_rfl) (Y5 default f 1 fun _ f => Y4 f (fzu ((J2.trans J3).trans J4) R2) 0 rfl fun _ f => Y5 default f 2 fun _ f => ?_)
         rcases cE hj_2 with ⟨B15, F23⟩ | ⟨B15, F26⟩
         ·have U20 := dI.1 B15
          have f := f.st 61 (cB B15)
          refine Y5 default f 1 fun _ f => Y4 f (fzu ((J2.trans J3).trans J4) R2) 5 rfl fun _ f => Y5 default f 1 fun _ f => ?_
          obtain ⟨X1, S1, F24⟩ := bS F23
          obtain ⟨C1, c_1, e_1, -, D1, R5⟩ := Sli.at_ (B2.mono (((J1.trans J2).trans J3).trans J4)) S1
          obtain rfl : c_1 = [S X1] := D1
          refine Y2 (v := .pointer (some (C1.add (K1.toNat * 1)))) f (fun _ pq => Y32 e_1 rfl (len := d0.fKeys.length) (cap := P2) (k := .i64) (i := K1) (e := 9) (sz := 1) (getI_nn S1) (getI_lt S1)) fun _ f => Y4 f R5 0 rfl fun _ f => Y5 default f 1 fun _ f => Y4 f (fzu (J3.trans J4) R4) 5 rfl fun _ f => Y5 default f 1 fun _ f => ?_
          obtain ⟨X2, S2, F25⟩ := bS F24
          obtain ⟨C2, c_2, e_2, -, D2, R6⟩ := Sli.at_ (B4.mono (((J1.trans J2).trans J3).trans J4)) S2
          obtain rfl : c_2 = [S X2] := D2
          refine Y2 (v := .pointer (some (C2.add (K1.toNat * 1)))) f (fun _ pq => Y32 e_2 rfl (len := d1.fKeys.length) (cap := P4) (k := .i64) (i := K1) (e := 9) (sz := 1) (getI_nn S2) (getI_lt S2)) fun _ f => Y4 f R6 0 rfl fun _ f => Y2 (v := .bool (!(decide (X1 = X2)))) f (fun _ pq => Y41 rfl (l := X1) (m := X2)) fun _ f => Y5 default f 1 fun _ f => Q_end rfl ?_
          intro W5 N5
          refine T_n ?_
          exact ⟨(!(decide (X1 = X2))), (sI F25).symm, V4, (mR _), f.kp, N5⟩
         ·have U21 := iff_f dI B15
          have f := f.st 61 (cB B15)
          refine Y5 default f 12 fun _ f => Q_end rfl ?_
          intro W6 N6
          refine T_n ?_
          exact ⟨(false), (sI F26).symm, V4, (mR _), f.kp, N6⟩
        ·rintro a_75 W7 ⟨G2, hq_2, V5, J5, f, N7⟩
         subst j_2
         refine T_n (RcF f F22 (fun B16 F27 => ?_) fun B16 F32 => ?_)
         ·refine R_seq (R_seq (R_draw N7 (by kernel_rfl) (by kernel_rfl) (Y5 default f 1 fun _ f => Y4 f (fzu (((J2.trans J3).trans J4).trans J5) R2) 5 rfl fun _ f => Y5 default f 1 fun _ f => ?_)))
          obtain ⟨X3, S3, F28⟩ := bS F27
          obtain ⟨C3, c_3, e_3, -, D3, R7⟩ := Sli.at_ (B2.mono ((((J1.trans J2).trans J3).trans J4).trans J5)) S3
          obtain rfl : c_3 = [S X3] := D3
          refine Y2 (v := .pointer (some (C3.add (K1.toNat * 1)))) f (fun _ pq => Y32 e_3 rfl (len := d0.fKeys.length) (cap := P2) (k := .i64) (i := K1) (e := 9) (sz := 1) (getI_nn S3) (getI_lt S3)) fun _ f => Y4 f R7 0 rfl fun _ f => Y5 default f 1 fun _ f => Y4 f (fzu ((J3.trans J4).trans J5) R4) 5 rfl fun _ f => Y5 default f 1 fun _ f => ?_
          obtain ⟨X4, S4, F29⟩ := bS F28
          obtain ⟨C4, c_4, e_4, -, D4, R8⟩ := Sli.at_ (B4.mono ((((J1.trans J2).trans J3).trans J4).trans J5)) S4
          obtain rfl : c_4 = [S X4] := D4
          refine Y2 (v := .pointer (some (C4.add (K1.toNat * 1)))) f (fun _ pq => Y32 e_4 rfl (len := d1.fKeys.length) (cap := P4) (k := .i64) (i := K1) (e := 9) (sz := 1) (getI_nn S4) (getI_lt S4)) fun _ f => Y4 f R8 0 rfl fun _ f => Y2 (v := .bool (Op.bytesLess X3 X4)) f (fun _ pq => X_strlt rfl (l := X3) (m := X4) (by kernel_rfl) (by kernel_rfl)) fun _ f => Q_end rfl ?_
          intro W8 N8
          refine T_n (RcF f F29 (fun B17 F30 => ?_) fun B17 F31 => ?_)
          ·refine RR (Y f 1 fun _ f => eT (wp_ret (T_r (T_r (B_r (T_r (T_r ?_)))))))
           obtain rfl := sI F30
           exact .inl ⟨rfl, (-1 : Int), (sI T1).symm, V5, ((J3.trans J4).trans J5), f.kp, N8⟩
          ·refine wp_skip (T_n (RR (Y f 1 fun _ f => eT (wp_ret (T_r (B_r (T_r (T_r ?_))))))))
           obtain rfl := sI F31
           exact .inl ⟨rfl, (1 : Int), (sI T1).symm, V5, ((J3.trans J4).trans J5), f.kp, N8⟩
         ·refine wp_skip (T_n (R_seq (R_draw N7 (by kernel_rfl) (by kernel_rfl) (Y5 default f 1 fun _ f => Y4 f (fzu (((J2.trans J3).trans J4).trans J5) R2) 4 rfl fun _ f => Y5 default f 1 fun _ f => ?_))))
          obtain ⟨X5, S5, F33⟩ := bS F32
          obtain ⟨C5, c_5, e_5, -, D5, R9⟩ := Sli.at_ (B1.mono ((((J1.trans J2).trans J3).trans J4).trans J5)) S5
          obtain ⟨Z5, P5, Z6, P6, rfl, B18, B19⟩ := TE0.opn D5
          refine Y2 (v := .pointer (some (C5.add (K1.toNat * 6)))) f (fun _ pq => Y32 e_5 rfl (len := d0.fList.length) (cap := P1) (k := .i64) (i := K1) (e := 26) (sz := 6) (getI_nn S5) (getI_lt S5)) fun _ f => Y2 (v := .agg #[.int .i8 X5.fKind, .bool X5.fBool, .int .i64 X5.fNum, S X5.fText, .slice Z5 X5.fList.length P5, .slice Z6 X5.fKeys.length P6]) f (fun _ pq => Y34 (cs := [.int .i8 X5.fKind, .bool X5.fBool, .int .i64 X5.fNum, S X5.fText, .slice Z5 X5.fList.length P5, .slice Z6 X5.fKeys.length P6]) rfl (ad := C5.add (K1.toNat * 6)) (fun j v h => pq.cell (R9 j v h))) fun _ f => Y5 default f 1 fun _ f => Y4 f (fzu ((J3.trans J4).trans J5) R4) 4 rfl fun _ f => Y5 default f 1 fun _ f => ?_
          obtain ⟨X6, S6, F34⟩ := bS F33
          obtain ⟨C6, c_6, e_6, -, D6, R10⟩ := Sli.at_ (B3.mono ((((J1.trans J2).trans J3).trans J4).trans J5)) S6
          obtain ⟨Z7, P7, Z8, P8, rfl, B20, B21⟩ := TE0.opn D6
          refine Y2 (v := .pointer (some (C6.add (K1.toNat * 6)))) f (fun _ pq => Y32 e_6 rfl (len := d1.fList.length) (cap := P3) (k := .i64) (i := K1) (e := 26) (sz := 6) (getI_nn S6) (getI_lt S6)) fun _ f => Y2 (v := .agg #[.int .i8 X6.fKind, .bool X6.fBool, .int .i64 X6.fNum, S X6.fText, .slice Z7 X6.fList.length P7, .slice Z8 X6.fKeys.length P8]) f (fun _ pq => Y34 (cs := [.int .i8 X6.fKind, .bool X6.fBool, .int .i64 X6.fNum, S X6.fText, .slice Z7 X6.fList.length P7, .slice Z8 X6.fKeys.length P8]) rfl (ad := C6.add (K1.toNat * 6)) (fun j v h => pq.cell (R10 j v h))) fun _ f => ?_
          obtain ⟨X7, S7, F35⟩ := bS F34
          refine Y3 f (hrec_ref03_compare _ _ X5 (TE0.shutx (x := X5) B18 B19) _ X6 (TE0.shutx (x := X6) B20 B21) X7 S7) fun _ f => Y5 default f 1 fun _ f => Q_end rfl ?_
          intro W10 N10
          refine T_n (RR (Y f 2 fun _ f => eT (RcF f F35 (fun B22 F36 => ?_) fun B22 F37 => ?_)))
          ·have U26 : ¬ (X7 = 0) := (not_iff dI).1 B22
           refine RR (Y f 2 fun _ f => eT (wp_ret (B_r (T_r (T_r ?_)))))
           obtain rfl := sI F36
           exact .inl ⟨rfl, X7, (sI T1).symm, V5, ((J3.trans J4).trans J5), f.kp, N10⟩
          ·have U27 : ¬ (¬ (X7 = 0)) := iff_f (not_iff dI) B22
           refine wp_skip (B_n (T_n (R_reg (Y f 1 fun _ f => ?_))))
           obtain ⟨O1, F38⟩ := nS F37
           refine Y f 1 fun _ f => ?_
           have f := f.st 57 (iW O1)
           refine Y f 1 fun _ f => eT ?_
           obtain rfl := sI F38
           exact ⟨⟨I2, K1 + 1⟩, Nat.lt_succ_self _, V5, ((J3.trans J4).trans J5), T1, f.kp, N10⟩
       ·refine wp_exit (T_x (T_x ?_))
        obtain rfl := sI F39
        exact .inr ⟨rfl, (), (sI T1).symm, V4, (J3.trans J4), f.kp, N4⟩
     ·rintro _ _ W13 (⟨rfl, G3, rfl, V6, J6, f, N11⟩ | ⟨rfl, G4, rfl, V7, J7, f, N12⟩)
      ·refine B_r (T_r (E_ret1 f rfl (by kernel_rfl : Vc.look _ 4 = some (.int .i64 G3)) ?_))
       obtain rfl := sI F17
       exact ⟨_, rfl, V6, ((J1.trans J2).trans J6), N11, rfl⟩
      ·refine B_x (T_n (R_seq (RR (Y f 1 fun _ f => Y15 f N12 (fzu (J2.trans J7) R2) 4 rfl fun _ f => Y f 2 fun _ f => Y15 f N12 (fzu J7 R4) 4 rfl fun _ f => Y f 2 fun _ f => eT (RcF f F17 (fun B23 F40 => ?_) fun B23 F43 => ?_)))))
       ·have U29 : ¬ (((d0.fList.length : Nat) : Int) = ((d1.fList.length : Nat) : Int)) := (not_iff dI).1 B23
        refine R_seq (RR (Y f 1 fun _ f => Y15 f N12 (fzu (J2.trans J7) R2) 4 rfl fun _ f => Y f 2 fun _ f => Y15 f N12 (fzu J7 R4) 4 rfl fun _ f => Y f 2 fun _ f => eT (RcF f F40 (fun B24 F41 => ?_) fun B24 F42 => ?_)))
        ·have U30 := dI.1 B24
         refine RR (Y f 1 fun _ f => eT (wp_ret (T_r (T_r (E_ret1 f rfl (by kernel_rfl : Vc.look _ 4 = some (.int .i64 (-1))) ?_)))))
         obtain rfl := sI F41
         exact ⟨_, rfl, V7, ((J1.trans J2).trans J7), N12, rfl⟩
        ·have U31 := iff_f dI B24
         refine wp_skip (T_n (RR (Y f 1 fun _ f => eT (wp_ret (T_r (E_ret1 f rfl (by kernel_rfl : Vc.look _ 4 = some (.int .i64 1)) ?_))))))
         obtain rfl := sI F42
         exact ⟨_, rfl, V7, ((J1.trans J2).trans J7), N12, rfl⟩
       ·have U32 : ¬ (¬ (((d0.fList.length : Nat) : Int) = ((d1.fList.length : Nat) : Int))) := iff_f (not_iff dI) B23
        refine wp_skip (T_n (RR (Y f 1 fun _ f => eT (wp_ret (E_ret1 f rfl (by kernel_rfl : Vc.look _ 4 = some (.int .i64 0)) ?_)))))
        obtain rfl := sI F43
        exact ⟨_, rfl, V7, ((J1.trans J2).trans J7), N12, rfl⟩
def ref03_compare_k (n : Nat) : Nat → TE0 → TE0 → Option Int
  | 0 => fun _ _ => none
  | k + 1 => ref03_compare_b n (ref03_compare_k n k)
def ref03_compare (n : Nat) (d0 : TE0) (d1 : TE0) : Option Int := ref03_compare_k n n d0 d1
theorem ref03_compare_ok (n : Nat) (M : Mem) (c0 : List Value) (d0 : TE0) (h0 : Rep M (emb_TE0 d0) c0) (c1 : List Value) (d1 : TE0) (h1 : Rep M (emb_TE0 d1) c1) (r : Int) (hF : ref03_compare n d0 d1 = some r) : Ok Tryz.prog M 91 [.agg c0.toArray, .agg c1.toArray] (fun _ v => v = .int .i64 r) := by
 have key : ∀ (k : Nat) (M : Mem) (c0 : List Value) (d0 : TE0) (h0 : Rep M (emb_TE0 d0) c0) (c1 : List Value) (d1 : TE0) (h1 : Rep M (emb_TE0 d1) c1) (r : Int) (hF : ref03_compare_k n k d0 d1 = some r), Ok Tryz.prog M 91 [.agg c0.toArray, .agg c1.toArray] (fun _ v => v = .int .i64 r) := by
  intro k
  induction k with
  | zero => intro M c0 d0 h0 c1 d1 h1 r hF; simp [ref03_compare_k] at hF
  | succ k ih => intro M c0 d0 h0 c1 d1 h1 r hF; exact ref03_compare_b_ok n (ref03_compare_k n k) ih M c0 d0 h0 c1 d1 h1 r hF
 exact key n M c0 d0 h0 c1 d1 h1 r hF
def ref03_Equal (n : Nat) (d0 : TE0) (d1 : TE0) : Option Bool :=
  (ref03_Check n d0).bind fun X1 =>
  bif (decide (X1 = 0)) then
    ((ref03_Check n d1).bind fun X2 =>
    bif (decide (X2 = 0)) then
      ((ref03_sorted n d0).bind fun X3 =>
      (ref03_sorted n d1).bind fun X4 =>
      (ref03_compare n X3 X4).bind fun X5 =>
      some ((decide (X5 = 0))))
    else
      some ((false)))
  else
    some ((false))
theorem ref03_Equal_ok (n : Nat) (M : Mem) (c0 : List Value) (d0 : TE0) (h0 : Rep M (emb_TE0 d0) c0) (c1 : List Value) (d1 : TE0) (h1 : Rep M (emb_TE0 d1) c1) (r : Bool) (hF : ref03_Equal n d0 d1 = some r) : Ok Tryz.prog M 66 [.agg c0.toArray, .agg c1.toArray] (fun _ v => v = .bool r) := by
 unfold ref03_Equal at hF
 intro M1 hM0 w0 H w p0
 replace h0 := Rep.mono hM0 _ _ h0
 replace h1 := Rep.mono hM0 _ _ h1
 obtain ⟨Z1, P1, Z2, P2, rfl, B1, B2⟩ := TE0.opn h0
 obtain ⟨Z3, P3, Z4, P4, rfl, B3, B4⟩ := TE0.opn h1
 refine R_enter 21 Tryz.func66 rfl rfl (by simp) fun a0 f0 => RR (Y13 (cs := #[.int .i8 d0.fKind, .bool d0.fBool, .int .i64 d0.fNum, S d0.fText, .slice Z1 d0.fList.length P1, .slice Z2 d0.fKeys.length P2]) (T := 26) f0 p0 fun Q1 V1 W1 J1 R1 N1 _ f => ?_)
 have R2 := fz_box R1
 refine Y13 (cs := #[.int .i8 d1.fKind, .bool d1.fBool, .int .i64 d1.fNum, S d1.fText, .slice Z3 d1.fList.length P3, .slice Z4 d1.fKeys.length P4]) (T := 26) f N1 fun Q2 V2 W2 J2 R3 N2 _ f => ?_
 have R4 := fz_box R3
 refine Y f 1 fun _ f => eT (R_seq (R_mix (E := []) (Hr := (H)) [(0, true), (1, true), (2, true), (3, true), (4, true), (5, true), (6, true), (7, true), (8, true), (9, true), (11, true), (10, false), (12, false), (13, false), (14, true), (15, true), (16, true)] N2 (by kernel_rfl) (by kernel_rfl) rfl (by kernel_rfl) (M_eq (v := .agg #[.int .i8 d0.fKind, .bool d0.fBool, .int .i64 d0.fNum, S d0.fText, .slice Z1 d0.fList.length P1, .slice Z2 d0.fKeys.length P2]) f (by kernel_rfl) (by kernel_rfl) rfl rfl (fun _ pq => Y34 (cs := [.int .i8 d0.fKind, .bool d0.fBool, .int .i64 d0.fNum, S d0.fText, .slice Z1 d0.fList.length P1, .slice Z2 d0.fKeys.length P2]) rfl (ad := ⟨Q1, 0, none⟩) (fun j v h => pq.cell ((fzu J2 R2) j v h))) fun _ f => ?_)))
 obtain ⟨X1, S1, F1⟩ := bS hF
 refine M_okv (v := .int .i64 X1) f (by kernel_rfl) (by kernel_rfl) rfl rfl (fun _ => by kernel_rfl) (ref03_Check_ok n _ _ d0 (TE0.shutx (x := d0) (B1.mono (J1.trans J2)) (B2.mono (J1.trans J2))) X1 S1) fun _ f => Y0 default f 2 fun _ f => ?_
 rcases cE F1 with ⟨B5, F2⟩ | ⟨B5, F9⟩
 ·have U1 := dI.1 B5
  have f := f.st 8 (cB B5)
  refine M_eq (v := .agg #[.int .i8 d1.fKind, .bool d1.fBool, .int .i64 d1.fNum, S d1.fText, .slice Z3 d1.fList.length P3, .slice Z4 d1.fKeys.length P4]) f (by kernel_rfl) (by kernel_rfl) rfl rfl (fun _ pq => Y34 (cs := [.int .i8 d1.fKind, .bool d1.fBool, .int .i64 d1.fNum, S d1.fText, .slice Z3 d1.fList.length P3, .slice Z4 d1.fKeys.length P4]) rfl (ad := ⟨Q2, 0, none⟩) (fun j v h => pq.cell (R4 j v h))) fun _ f => ?_
  obtain ⟨X2, S2, F3⟩ := bS F2
  refine M_okv (v := .int .i64 X2) f (by kernel_rfl) (by kernel_rfl) rfl rfl (fun _ => by kernel_rfl) (ref03_Check_ok n _ _ d1 (TE0.shutx (x := d1) (B3.mono (J1.trans J2)) (B4.mono (J1.trans J2))) X2 S2) fun _ f => Y0 default f 3 fun _ f => ?_
  rcases cE F3 with ⟨B6, F4⟩ | ⟨B6, F8⟩
  ·have U2 := dI.1 B6
   have f := f.st 13 (cB B6)
   refine M_eq (v := .agg #[.int .i8 d0.fKind, .bool d0.fBool, .int .i64 d0.fNum, S d0.fText, .slice Z1 d0.fList.length P1, .slice Z2 d0.fKeys.length P2]) f (by kernel_rfl) (by kernel_rfl) rfl rfl (fun _ pq => Y34 (cs := [.int .i8 d0.fKind, .bool d0.fBool, .int .i64 d0.fNum, S d0.fText, .slice Z1 d0.fList.length P1, .slice Z2 d0.fKeys.length P2]) rfl (ad := ⟨Q1, 0, none⟩) (fun j v h => pq.cell ((fzu J2 R2) j v h))) fun _ f => M_eq (v := .agg #[.int .i8 d1.fKind, .bool d1.fBool, .int .i64 d1.fNum, S d1.fText, .slice Z3 d1.fList.length P3, .slice Z4 d1.fKeys.length P4]) f (by kernel_rfl) (by kernel_rfl) rfl rfl (fun _ pq => Y34 (cs := [.int .i8 d1.fKind, .bool d1.fBool, .int .i64 d1.fNum, S d1.fText, .slice Z3 d1.fList.length P3, .slice Z4 d1.fKeys.length P4]) rfl (ad := ⟨Q2, 0, none⟩) (fun j v h => pq.cell (R4 j v h))) fun _ f => M_fix (E := []) fun W5 N5 => ?_
   obtain ⟨X3, S3, F5⟩ := bS F4
   refine Y16 f N5 (ref03_sorted_ok n _ _ d0 (TE0.shutx (x := d0) (B1.mono (J1.trans J2)) (B2.mono (J1.trans J2))) X3 S3) fun _ V3 W6 J3 N6 q_1 _ f => ?_
   obtain ⟨c_1, rfl, D1⟩ := q_1
   obtain ⟨Z5, P5, Z6, P6, rfl, B7, B8⟩ := TE0.opn D1
   refine W_end rfl (M_go (M1 := V3) (E := []) J3 N6 (M_fix (E := []) fun W7 N7 => ?_))
   obtain ⟨X4, S4, F6⟩ := bS F5
   refine Y16 f N7 (ref03_sorted_ok n _ _ d1 (TE0.shutx (x := d1) (B3.mono ((J1.trans J2).trans J3)) (B4.mono ((J1.trans J2).trans J3))) X4 S4) fun _ V4 W8 J4 N8 q_2 _ f => ?_
   obtain ⟨c_2, rfl, D2⟩ := q_2
   obtain ⟨Z7, P7, Z8, P8, rfl, B9, B10⟩ := TE0.opn D2
   refine W_end rfl (M_go (M1 := V4) (E := []) (J3.trans J4) N8 (M_fix (E := []) fun W9 N9 => ?_))
   obtain ⟨X5, S5, F7⟩ := bS F6
   refine Y18 f N9 (ref03_compare_ok n _ _ X3 (TE0.shutx (x := X3) (B7.mono J4) (B8.mono J4)) _ X4 (TE0.shutx (x := X4) B9 B10) X5 S5) fun W10 N10 _ f => W_end rfl (M_go (M1 := V4) (E := []) (J3.trans J4) N10 (Y0 default f 3 fun _ f => M_end rfl fun W11 N11 => T_n (wp_ret (E_ret1 f rfl (by kernel_rfl : Vc.look _ 4 = some (.bool (decide (X5 = 0)))) ?_))))
   obtain rfl := sI F7
   exact ⟨_, rfl, V4, (((J1.trans J2).trans J3).trans J4), N11, rfl⟩
  ·have U3 := iff_f dI B6
   have f := f.st 13 (cB B6)
   refine Y0 default f 2 fun _ f => M_fix (E := []) fun W12 N12 => Y f 1 fun _ f => W_end rfl (M_go (M1 := V2) (E := []) (mR _) N12 (M_fix (E := []) fun W13 N13 => Y f 1 fun _ f => W_end rfl (M_go (M1 := V2) (E := []) (mR _) N13 (M_fix (E := []) fun W14 N14 => Y f 1 fun _ f => W_end rfl (M_go (M1 := V2) (E := []) (mR _) N14 (Y0 default f 3 fun _ f => M_end rfl fun W15 N15 => T_n (wp_ret (E_ret1 f rfl (by kernel_rfl : Vc.look _ 4 = some (.bool false)) ?_))))))))
   obtain rfl := sI F8
   exact ⟨_, rfl, V2, (J1.trans J2), N15, rfl⟩
 ·have U4 := iff_f dI B5
  have f := f.st 8 (cB B5)
  refine Y0 default f 7 fun _ f => M_fix (E := []) fun W16 N16 => Y f 1 fun _ f => W_end rfl (M_go (M1 := V2) (E := []) (mR _) N16 (M_fix (E := []) fun W17 N17 => Y f 1 fun _ f => W_end rfl (M_go (M1 := V2) (E := []) (mR _) N17 (M_fix (E := []) fun W18 N18 => Y f 1 fun _ f => W_end rfl (M_go (M1 := V2) (E := []) (mR _) N18 (Y0 default f 3 fun _ f => M_end rfl fun W19 N19 => T_n (wp_ret (E_ret1 f rfl (by kernel_rfl : Vc.look _ 4 = some (.bool false)) ?_))))))))
  obtain rfl := sI F9
  exact ⟨_, rfl, V2, (J1.trans J2), N19, rfl⟩
def posP (p : KV) : List KV → Nat
  | [] => 0
  | q :: r => bif leK p q then 0 else posP p r + 1
theorem posP_le (p : KV) : ∀ l, posP p l ≤ l.length
 | [] => Nat.le_refl _
 | q :: r => by
  have := posP_le p r
  rw [posP, List.length_cons]
  cases leK p q with
  | true => rw [cT]; omega
  | false => rw [cF]; omega
theorem posP_lt (p : KV) : ∀ (l : List KV) (i : Nat) (h : i < l.length), i < posP p l → leK p l[i] = false
 | q :: r, i, h, hi => by
  rw [posP] at hi
  cases hq : leK p q with
  | true => rw [hq, cT] at hi; omega
  | false =>
   rw [hq, cF] at hi
   cases i with
   | zero => exact hq
   | succ i => exact posP_lt p r i (by rw [List.length_cons] at h; omega) (by omega)
theorem posP_at (p : KV) : ∀ (l : List KV) (h : posP p l < l.length), leK p l[posP p l] = true
 | q :: r, h => by
  cases hq : leK p q with
  | true =>
   have e : posP p (q :: r) = 0 := by rw [posP, hq, cT]
   simp only [e]
   exact hq
  | false =>
   have e : posP p (q :: r) = posP p r + 1 := by rw [posP, hq, cF]
   simp only [e] at h ⊢
   rw [List.length_cons] at h
   exact posP_at p r (by omega)
theorem insP_pos (p : KV) : ∀ l, insP p l = l.take (posP p l) ++ p :: l.drop (posP p l)
 | [] => rfl
 | q :: r => by
  rw [insP, posP]
  cases leK p q with
  | true => rw [cT, cT]; rfl
  | false => rw [cF, cF, insP_pos p r]; rfl
def foldKV (l : List KV) : List KV := l.foldl (fun acc p => insP p acc) []
theorem foldKV_snoc (l : List KV) (p : KV) : foldKV (l ++ [p]) = insP p (foldKV l) := by unfold foldKV; rw [List.foldl_append]; rfl
theorem foldKV_perm_gen : ∀ (l acc : List KV), (l.foldl (fun acc p => insP p acc) acc).Perm (l ++ acc)
 | [], acc => List.Perm.refl _
 | p :: r, acc => by
  rw [List.foldl_cons]
  refine (foldKV_perm_gen r _).trans ?_
  refine ((insP_perm p acc).append_left r).trans ?_
  exact List.perm_middle
theorem foldKV_sorted_gen : ∀ (l acc : List KV), acc.Pairwise (fun a b => leK a b = true) → (l.foldl (fun acc p => insP p acc) acc).Pairwise (fun a b => leK a b = true)
 | [], acc, h => h
 | p :: r, acc, h => foldKV_sorted_gen r _ (insP_sorted p acc h)
theorem foldKV_eq {l : List KV} (hn : (l.map (·.1)).Nodup) : foldKV l = isortP l := by
 refine sorted_one hn ?_ (foldKV_sorted_gen l [] List.Pairwise.nil)
 have := foldKV_perm_gen l []
 rwa [List.append_nil] at this
theorem foldKV_len (l : List KV) : (foldKV l).length = l.length := by
 have := (foldKV_perm_gen l []).length_eq
 rwa [List.append_nil] at this
theorem sorted_ref {n : Nat} (hn : 6000 < n) : ∀ (k d : Nat) (v : TE0), d ≤ k → Small d v → OkV v → ref03_sorted_k n k v = some (sortV v)
 | _, 0, v, _, h, _ => h.elim
 | 0, d + 1, v, h, _, _ => absurd h (by omega)
 | k + 1, d + 1, v, hk, hs, hok => by
  obtain ⟨h1, h2, h3, h4, h5⟩ := hs
  obtain ⟨ha, hl⟩ := OkV_iff.1 hok
  obtain ⟨hp, _, _, hnd⟩ := alone_ok ha
  show ref03_sorted_b n (ref03_sorted_k n k) v = _
  unfold ref03_sorted_b
  have ih : ∀ x ∈ v.fList, ref03_sorted_k n k x = some (sortV x) := fun x hx => sorted_ref hn k d x (by omega) (h5 x hx) (hl x hx)
  have ev : ∀ x : TE0, (⟨x.fKind, (x.fBool), x.fNum, x.fText, x.fList, x.fKeys⟩ : TE0) = x := fun x => by cases x; rfl
  by_cases hkind : v.fKind = 5
  ·have hkl : v.fKeys.length = v.fList.length := hp.2.2.2.2.2.2.1 hkind
   obtain ⟨ps, hps⟩ : ∃ ps : List KV, ps = v.fKeys.zip (v.fList.map sortV) := ⟨_, rfl⟩
   have hpl : ps.length = v.fList.length := by rw [hps]; simp [hkl]
   have := loop_all (step := ref03_sorted_s1 n (ref03_sorted_k n k) v) (n := n) (fun q => ((q : Int), (foldKV (ps.take q)).map (·.2), (foldKV (ps.take q)).map (·.1))) v.fList.length ((foldKV ps).map (·.2), (foldKV ps).map (·.1)) (fun q hq => by
    have hx : v.fList[q]? = some v.fList[q] := List.getElem?_eq_getElem hq
    have hg : getI v.fList (q : Int) = some v.fList[q] := by simp [getI]
    have hgk : getI v.fKeys (q : Int) = some (v.fKeys.getD q []) := getI_at [] (by omega)
    have hpq : ps[q]? = some (v.fKeys.getD q [], sortV v.fList[q]) := by
     rw [hps]
     simp [List.getElem?_zip_eq_some, hx, List.getD, (by omega : q < v.fKeys.length)]
    obtain ⟨p, hpe⟩ : ∃ p : KV, p = (v.fKeys.getD q [], sortV v.fList[q]) := ⟨_, rfl⟩
    rw [← hpe] at hpq
    have hp1 : v.fKeys.getD q [] = p.1 := by rw [hpe]
    have hp2 : sortV v.fList[q] = p.2 := by rw [hpe]
    have hfold : foldKV (ps.take (q + 1)) = insP p (foldKV (ps.take q)) := by rw [List.take_add_one, hpq]; exact foldKV_snoc _ _
    have hfl : (foldKV (ps.take q)).length = q := by rw [foldKV_len]; simp; omega
    rw [hp1] at hgk
    unfold ref03_sorted_s1
    dsimp only
    rw [decide_eq_true (by omega), cT, hg, bnd, ih _ (List.getElem_mem hq), bnd, decide_eq_false (by omega), cF, hfold]
    generalize foldKV (ps.take q) = L at hfl ⊢
    have hpos := posP_le p L
    have hin := loop_all (step := ref03_sorted_s2 n v ((q : Int), L.map (·.2), L.map (·.1))) (n := n) (fun i => (i : Int)) (posP p L) ((posP p L : Nat) : Int) (fun i hi => by
     unfold ref03_sorted_s2
     dsimp only
     have hgi : getI (L.map (·.1)) (i : Int) = some (L[i]'(by omega)).1 := by simp [getI, (by omega : i < L.length)]
     have := posP_lt p L i (by omega) hi
     have hless : Op.bytesLess (L[i]'(by omega)).1 p.1 = true := by
      rw [less_cb]
      unfold leK at this
      simpa using this
     rw [decide_eq_true (by rw [List.length_map]; omega), cT, hgi, bnd, hgk, bnd, hless, cT, need_i (by omega) (by omega)]
     rfl) (by
     unfold ref03_sorted_s2
     dsimp only
     by_cases he : posP p L = L.length
     ·rw [decide_eq_false (by rw [List.length_map]; omega), cF]
     ·have hlt : posP p L < L.length := by omega
      have hgi : getI (L.map (·.1)) ((posP p L : Nat) : Int) = some (L[posP p L]).1 := by simp [getI, hlt]
      have := posP_at p L hlt
      have hless : Op.bytesLess (L[posP p L]).1 p.1 = false := by
       rw [less_cb]
       unfold leK at this
       simpa using this
      rw [decide_eq_true (by rw [List.length_map]; omega), cT, hgi, bnd, hgk, bnd, hless, cF]) (by omega)
    have e0 : ((0 : Nat) : Int) = 0 := rfl
    rw [e0] at hin
    have hL1 : (L.map (·.1)).length = q := by rw [List.length_map, hfl]
    have hL2 : (L.map (·.2)).length = q := by rw [List.length_map, hfl]
    rw [hin, bnd, hL1, hL2, Int.toNat_natCast]
    rw [need_t ⟨by omega, by omega⟩, need_t (by simp; omega), need_t ⟨by omega, by omega⟩, need_t (by simp; omega), hgk, bnd, need_t ⟨by omega, by omega⟩, need_t (by simp; omega), need_t (by simp; omega), bnd, need_t ⟨by omega, by omega⟩, need_t (by simp; omega), need_t (by simp; omega), bnd, need_i (by omega) (by omega), ev, hp2, insP_pos]
    congr 3
    ·simp [List.map_take, List.map_drop, List.take_of_length_le, hfl]
    ) (by
    unfold ref03_sorted_s1
    dsimp only
    rw [decide_eq_false (by omega), cF, List.take_of_length_le (by omega)]) (by omega)
   have e0 : ((0 : Nat) : Int) = 0 := rfl
   have e1 : foldKV [] = [] := rfl
   simp only [List.take_zero, e1, List.map_nil, e0] at this
   rw [this, bnd, sortV_5 hkind]
   have hkeys : ps.map (·.1) = v.fKeys := by rw [hps]; exact List.map_fst_zip (by simp [hkl])
   have e : foldKV ps = pairsV v := by
    rw [foldKV_eq (by rw [hkeys]; exact hnd), hps]; rfl
   rw [e]
  ·have hkeys : v.fKeys = [] := by
    have := hp.2.2.2.2.2.2.2 hkind
    simpa using this
   by_cases h4k : v.fKind = 4
   ·have := loop_all (step := ref03_sorted_s1 n (ref03_sorted_k n k) v) (n := n) (fun q => ((q : Int), (v.fList.take q).map sortV, ([] : List (List UInt8)))) v.fList.length (v.fList.map sortV, []) (fun q hq => by
     have hx : v.fList[q]? = some v.fList[q] := List.getElem?_eq_getElem hq
     have hg : getI v.fList (q : Int) = some v.fList[q] := by simp [getI]
     unfold ref03_sorted_s1
     dsimp only
     rw [decide_eq_true (by omega), cT, hg, bnd, ih _ (List.getElem_mem hq), bnd, decide_eq_true h4k, cT, need_t (by simp; omega), need_i (by omega) (by omega), ev, map_take_succ sortV hx]
     rfl) (by
     unfold ref03_sorted_s1
     dsimp only
     rw [decide_eq_false (by omega), cF, List.take_length]) (by omega)
    have e0 : ((0 : Nat) : Int) = 0 := rfl
    simp only [List.take_zero, List.map_nil, e0] at this
    rw [this, bnd, sortV_n hkind]
   ·have hl0 : v.fList = [] := by
     by_cases h0 : v.fList.length = 0
     ·simpa using h0
     ·have := hp.2.2.2.2.2.1 h0
      omega
    obtain ⟨m, rfl⟩ : ∃ m, n = m + 1 := ⟨n - 1, by omega⟩
    have : loopF (ref03_sorted_s1 (m + 1) (ref03_sorted_k (m + 1) k) v) (m + 1) ((0 : Int), ([] : List TE0), ([] : List (List UInt8))) = some ([], []) := by
     unfold loopF ref03_sorted_s1
     dsimp only
     rw [hl0, decide_eq_false (by simp), cF, bnd]
    rw [this, bnd, sortV_n hkind, hl0]
    rfl
theorem compare_ref {n : Nat} (hn : 6000 < n) : ∀ (k d : Nat) (v w : TE0), d ≤ k → Small d v → OkV v → OkV w → ref03_compare_k n k v w = some (cmpV v w)
 | _, 0, v, _, _, h, _, _ => h.elim
 | 0, d + 1, v, _, h, _, _, _ => absurd h (by omega)
 | k + 1, d + 1, v, w, hk, hs, hok, how => by
  have ih : ∀ x ∈ v.fList, ∀ y ∈ w.fList, ref03_compare_k n k x y = some (cmpV x y) := fun x hx y hy => compare_ref hn k d x y (by omega) (hs.2.2.2.2 x hx) (hok.part hx) (how.part hy)
  have hv := hs.1
  show ref03_compare_b n (ref03_compare_k n k) v w = _
  unfold ref03_compare_b
  rw [cmpV_eq]
  by_cases hA : v.fKind = w.fKind
  ·rw [decide_eq_true hA, Bool.not_true, cF, ← hA, cmpI_self, thenC0]
   by_cases hB : v.fBool = w.fBool
   ·rw [hB, beq_self_eq_true, Bool.not_true, cF, cmpI_self, thenC0]
    by_cases hC : v.fNum = w.fNum
    ·rw [decide_eq_true hC, Bool.not_true, cF, ← hC, cmpI_self, thenC0]
     by_cases hD : v.fText = w.fText
     ·rw [decide_eq_true hD, Bool.not_true, cF, ← hD, cb_self, thenC0]
      have hkl : v.fKind = 5 → v.fKeys.length = v.fList.length ∧ w.fKeys.length = w.fList.length := fun h => ⟨plain_len hok.plain h, plain_len how.plain (by rw [← hA]; exact h)⟩
      obtain ⟨b, hb, hp⟩ := loop_inv (step := ref03_compare_s1 n (ref03_compare_k n k) v w) (n := n) (s0 := (0 : Int)) (fun q s => s = (q : Int) ∧ cmpVs (decide (v.fKind = 5)) v.fList v.fKeys w.fList w.fKeys = cmpVs (decide (v.fKind = 5)) (v.fList.drop q) (v.fKeys.drop q) (w.fList.drop q) (w.fKeys.drop q))
       (fun b => match b with | .inl c => cmpVs (decide (v.fKind = 5)) v.fList v.fKeys w.fList w.fKeys = c | .inr _ => cmpVs (decide (v.fKind = 5)) v.fList v.fKeys w.fList w.fKeys = cmpI (v.fList.length : Int) (w.fList.length : Int)) (min v.fList.length w.fList.length) ⟨rfl, by simp only [List.drop_zero]⟩ (fun q s hq hI => by
        obtain ⟨rfl, hI⟩ := hI
        have h1 : q < v.fList.length := by omega
        have h2 : q < w.fList.length := by omega
        rw [cmpVs_drop _ h1 h2] at hI
        have hg1 : getI v.fList (q : Int) = some v.fList[q] := by simp [getI]
        have hg2 : getI w.fList (q : Int) = some w.fList[q] := by simp [getI]
        unfold ref03_compare_s1
        rw [decide_eq_true (by omega), cT, decide_eq_true (by omega), bnd, cT]
        by_cases hkind : v.fKind = 5
        ·obtain ⟨k1, k2⟩ := hkl hkind
         rw [decide_eq_true hkind, cT] at hI
         rw [decide_eq_true hkind, cT, getI_at [] (by omega), bnd, getI_at [] (by omega), bnd, bnd]
         by_cases hc : v.fKeys.getD q [] = w.fKeys.getD q []
         ·rw [decide_eq_true hc, Bool.not_true, cF, hg1, bnd, hg2, bnd, ih _ (List.getElem_mem h1) _ (List.getElem_mem h2), bnd]
          rw [hc, cb_self, thenC0] at hI
          by_cases he : cmpV v.fList[q] w.fList[q] = 0
          ·rw [decide_eq_true he, Bool.not_true, cF, need_i (by omega) (by omega)]
           rw [he, thenC0] at hI
           exact .inl ⟨_, rfl, by omega, hI⟩
          ·rw [decide_eq_false he, Bool.not_false, cT]
           rw [thenCn _ he] at hI
           exact .inr ⟨_, rfl, hI⟩
         ·rw [decide_eq_false hc, Bool.not_false, cT, bnd, bnd, less_cb]
          have hne : Lib.compareBytes (v.fKeys.getD q []) (w.fKeys.getD q []) ≠ 0 := fun e => hc (cb_eq _ _ e)
          have hrange := cb_range (v.fKeys.getD q []) (w.fKeys.getD q [])
          rw [thenCn _ hne] at hI
          by_cases hl : Lib.compareBytes (v.fKeys.getD q []) (w.fKeys.getD q []) < 0
          ·rw [decide_eq_true hl, cT]
           refine .inr ⟨_, rfl, ?_⟩
           dsimp only
           omega
          ·rw [decide_eq_false hl, cF]
           refine .inr ⟨_, rfl, ?_⟩
           dsimp only
           omega
        ·rw [decide_eq_false hkind, cF] at hI
         rw [decide_eq_false hkind, cF, bnd, cF, hg1, bnd, hg2, bnd, ih _ (List.getElem_mem h1) _ (List.getElem_mem h2), bnd]
         rw [thenC0] at hI
         by_cases he : cmpV v.fList[q] w.fList[q] = 0
         ·rw [decide_eq_true he, Bool.not_true, cF, need_i (by omega) (by omega)]
          rw [he, thenC0] at hI
          exact .inl ⟨_, rfl, by omega, hI⟩
         ·rw [decide_eq_false he, Bool.not_false, cT]
          rw [thenCn _ he] at hI
          exact .inr ⟨_, rfl, hI⟩) (fun s hI => by
        obtain ⟨rfl, hI⟩ := hI
        refine ⟨.inr (), ?_, ?_⟩
        ·unfold ref03_compare_s1
         by_cases hvl : v.fList.length ≤ w.fList.length
         ·rw [decide_eq_false (by omega), cF, bnd, cF]
         ·rw [decide_eq_true (by omega), cT, decide_eq_false (by omega), bnd, cF]
        ·dsimp only
         rw [hI, cmpVs_end _ rfl]) (by omega)
      rw [hb, bnd]
      cases b with
      | inl c => dsimp only at hp ⊢; rw [hp]
      | inr u =>
       dsimp only at hp ⊢
       rw [hp]
       have hcc := cmpI_cases (v.fList.length : Int) (w.fList.length : Int)
       by_cases h1 : (v.fList.length : Int) = (w.fList.length : Int)
       ·rw [decide_eq_true h1, Bool.not_true, cF]
        congr 1
        omega
       ·rw [decide_eq_false h1, Bool.not_false, cT]
        by_cases h2 : (v.fList.length : Int) < (w.fList.length : Int)
        ·rw [decide_eq_true h2, cT]
         congr 1
         omega
        ·rw [decide_eq_false h2, cF]
         congr 1
         omega
     ·rw [decide_eq_false hD, Bool.not_false, cT, less_cb]
      have hne : Lib.compareBytes v.fText w.fText ≠ 0 := fun e => hD (cb_eq _ _ e)
      have hrange := cb_range v.fText w.fText
      rw [thenCn _ hne]
      by_cases hl : Lib.compareBytes v.fText w.fText < 0
      ·rw [decide_eq_true hl, cT]
       congr 1
       omega
      ·rw [decide_eq_false hl, cF]
       congr 1
       omega
    ·have hcc := cmpI_cases v.fNum w.fNum
     rw [decide_eq_false hC, Bool.not_false, cT, thenCn _ (by omega)]
     by_cases hl : v.fNum < w.fNum
     ·rw [decide_eq_true hl, cT]
      congr 1
      omega
     ·rw [decide_eq_false hl, cF]
      congr 1
      omega
   ·have hbe : (v.fBool == w.fBool) = false := by simpa using hB
    rw [hbe, Bool.not_false, cT]
    cases hv1 : v.fBool <;> cases hw1 : w.fBool
    ·rw [hv1, hw1] at hB; exact absurd rfl hB
    ·rfl
    ·rfl
    ·rw [hv1, hw1] at hB; exact absurd rfl hB
  ·have hcc := cmpI_cases v.fKind w.fKind
   rw [decide_eq_false hA, Bool.not_false, cT, thenCn _ (by omega)]
   by_cases hl : v.fKind < w.fKind
   ·rw [decide_eq_true hl, cT]
    congr 1
    omega
   ·rw [decide_eq_false hl, cF]
    congr 1
    omega
theorem sortedT_ref {n : Nat} (hn : 6000 < n) {v : TE0} (h : Fine v) (hok : OkV v) : ref03_sorted n v = some (sortV v) := sorted_ref hn n 60 v (by omega) h.small hok
theorem compareT_ref {n : Nat} (hn : 6000 < n) {v w : TE0} (h : Fine v) (hok : OkV v) (how : OkV w) : ref03_compare n v w = some (cmpV v w) := compare_ref hn n 60 v w (by omega) h.small hok how
theorem Equal_ref {n : Nat} (hn : 6000 < n) {v w : TE0} (h : Fine v) (h' : Fine w) : ref03_Equal n v w = some (eqV v w) := by
 unfold ref03_Equal eqV
 rw [check_ref hn h, bnd]
 by_cases a : checkV v = 0
 ·rw [decide_eq_true a, cT, check_ref hn h', bnd]
  by_cases b : checkV w = 0
  ·have oa := (checkV_ok a).1
   have ob := (checkV_ok b).1
   rw [decide_eq_true b, cT, sortedT_ref hn h oa, bnd, sortedT_ref hn h' ob, bnd, compareT_ref hn (h.sort oa) oa.sort ob.sort, bnd]; rfl
  ·rw [decide_eq_false b, cF]; rfl
 ·rw [decide_eq_false a, cF]; rfl
def ref09_Same_s1 (n : Nat) (d0 : List TC0) (d1 : List TC0) (K1 : Int) : Option (Lp Int (Sum Unit Unit)) :=
    bif (decide (K1 < ((d0.length : Nat) : Int))) then
      ((getI d0 K1).bind fun X1 =>
      (getI d1 K1).bind fun X2 =>
      bif (!(decide (X1.fName = X2.fName))) then
        (some (.br (.inl ())))
      else
        (getI d0 K1).bind fun X3 =>
        (getI d1 K1).bind fun X4 =>
        bif (!(X3.fUnknown == X4.fUnknown)) then
          (some (.br (.inl ())))
        else
          (getI d0 K1).bind fun X5 =>
          (getI d1 K1).bind fun X6 =>
          (ref03_Same n (⟨X5.fV.fKind, (X5.fV.fBool), X5.fV.fNum, X5.fV.fText, X5.fV.fList, X5.fV.fKeys⟩ : TE0) (⟨X6.fV.fKind, (X6.fV.fBool), X6.fV.fNum, X6.fV.fText, X6.fV.fList, X6.fV.fKeys⟩ : TE0)).bind fun X7 =>
          bif !X7 then
            ((getI d0 K1).bind fun X8 =>
            (getI d1 K1).bind fun X9 =>
            (ref03_Equal n (⟨X8.fV.fKind, (X8.fV.fBool), X8.fV.fNum, X8.fV.fText, X8.fV.fList, X8.fV.fKeys⟩ : TE0) (⟨X9.fV.fKind, (X9.fV.fBool), X9.fV.fNum, X9.fV.fText, X9.fV.fList, X9.fV.fKeys⟩ : TE0)).bind fun X10 =>
            bif !X10 then
              (some (.br (.inl ())))
            else
              need (inR .i64 (K1 + 1)) <|
              some (.nx (K1 + 1)))
          else
            need (inR .i64 (K1 + 1)) <|
            some (.nx (K1 + 1)))
    else
      some (.br (.inr ()))
def ref09_Same (n : Nat) (d0 : List TC0) (d1 : List TC0) : Option Bool :=
  bif (!(decide (((d0.length : Nat) : Int) = ((d1.length : Nat) : Int)))) then
    (some ((false)))
  else
    (loopF (ref09_Same_s1 n d0 d1) n (0 : Int)).bind fun Q1 =>
    (match Q1 with 
    | .inl G1 => some ((false)) 
    | .inr G2 => some ((true)))
set_option maxRecDepth 20000 in
theorem ref09_Same_ok (n : Nat) (M : Mem) (hG : GL M) (A0 : Option Addr) (cap0 : Nat) (d0 : List TC0) (h0 : Sli M 8 emb_TC0 A0 cap0 d0) (A1 : Option Addr) (cap1 : Nat) (d1 : List TC0) (h1 : Sli M 8 emb_TC0 A1 cap1 d1) (r : Bool) (hF : ref09_Same n d0 d1 = some r) : Ok Tryz.prog M 44 [.slice A0 d0.length cap0, .slice A1 d1.length cap1] (fun _ v => v = .bool r) := by
 unfold ref09_Same at hF
 intro M1 hM0 w0 H w p0
 replace hG := GL.mono hM0 hG
 replace h0 := h0.mono hM0
 replace h1 := h1.mono hM0
 refine R_enter 69 Tryz.func44 rfl rfl (by simp) fun a0 f0 => RR (Y f0 1 fun _ f => eT (R_seq (RR (Y f 5 fun _ f => eT (RcF f hF (fun B1 F1 => ?_) fun B1 F2 => ?_)))))
 ·have U1 : ¬ (((d0.length : Nat) : Int) = ((d1.length : Nat) : Int)) := (not_iff dI).1 B1
  refine RR (Y f 1 fun _ f => eT (wp_ret (T_r (E_ret1 f rfl (by kernel_rfl : Vc.look _ 4 = some (.bool false)) ?_))))
  obtain rfl := sI F1
  exact ⟨_, rfl, M1, (mR _), p0, rfl⟩
 ·have U2 : ¬ (¬ (((d0.length : Nat) : Int) = ((d1.length : Nat) : Int))) := iff_f (not_iff dI) B1
  refine wp_skip (T_n (R_seq (RR (Y f 1 fun _ f => eT (wp_block ?_)))))
  obtain ⟨Q1, hL_1, F3⟩ := bS F2
  refine wp_mono (Q := fun e a w => (e = .ret ∧ (∃ G1 : Unit, Q1 = .inl G1 ∧ ∃ V2 : Mem, M1.le V2 ∧ Frm 69 [(4, .bool false)] a ∧ Hp w0 V2 (H) w)) ∨ (e = .exit 0 ∧ (∃ G2 : Unit, Q1 = .inr G2 ∧ ∃ V3 : Mem, M1.le V3 ∧ Frm 69 [] a ∧ Hp w0 V3 (H) w))) (R_loop (n := 69) (w0 := w0) (M := M1) (fun (x : Nat × Int) => match x with | (I1, K1) => [(0, .slice A0 d0.length cap0), (1, .slice A1 d1.length cap1), (5, .int .i64 K1)]) (fun (x : Nat × Int) => match x with | (I1, K1) => (H)) (fun (x : Nat × Int) (MM : Mem) => match x with | (I1, K1) => loopF (ref09_Same_s1 n d0 d1) I1 K1 = some Q1) (fun (x : Nat × Int) => match x with | (I1, K1) => I1) (n, (0 : Int)) (f.kp) p0 hL_1 ?_) ?_
  ·rintro ⟨I1, K1⟩ V1 _ W1 J1 I_1 f N1
   have I_1L := I_1
   obtain ⟨I2, r_1, rfl, hs_1, T1⟩ := loop_step I_1L
   unfold ref09_Same_s1 at hs_1
   refine R_seq (RR (Y f 4 fun _ f => eT (RcF f hs_1 (fun B2 F4 => ?_) fun B2 F25 => ?_)))
   ·have U3 := dI.1 B2
    refine wp_skip (T_n (R_seq (wp_block (R_seq (R_draw N1 (by kernel_rfl) (by kernel_rfl) (Y5 default f 2 fun _ f => ?_))))))
    obtain ⟨X1, S1, F5⟩ := bS F4
    obtain ⟨C1, c_1, e_1, -, D1, R1⟩ := Sli.at_ (h0.mono J1) S1
    obtain ⟨Z1, P1, Z2, P2, rfl, B3, B4⟩ := TC0.opn D1
    refine Y2 (v := .pointer (some (C1.add (K1.toNat * 8)))) f (fun _ pq => Y32 e_1 rfl (len := d0.length) (cap := cap0) (k := .i64) (i := K1) (e := 77) (sz := 8) (getI_nn S1) (getI_lt S1)) fun _ f => Y5 default f 1 fun _ f => Y4 f R1 0 rfl fun _ f => Y5 default f 2 fun _ f => ?_
    obtain ⟨X2, S2, F6⟩ := bS F5
    obtain ⟨C2, c_2, e_2, -, D2, R2⟩ := Sli.at_ (h1.mono J1) S2
    obtain ⟨Z3, P3, Z4, P4, rfl, B5, B6⟩ := TC0.opn D2
    refine Y2 (v := .pointer (some (C2.add (K1.toNat * 8)))) f (fun _ pq => Y32 e_2 rfl (len := d1.length) (cap := cap1) (k := .i64) (i := K1) (e := 77) (sz := 8) (getI_nn S2) (getI_lt S2)) fun _ f => Y5 default f 1 fun _ f => Y4 f R2 0 rfl fun _ f => Y2 (v := .bool (!(decide (X1.fName = X2.fName)))) f (fun _ pq => Y41 rfl (l := X1.fName) (m := X2.fName)) fun _ f => Y5 default f 1 fun _ f => ?_
    rcases cE F6 with ⟨B7, F7⟩ | ⟨B7, F8⟩
    ·have U4 : ¬ (X1.fName = X2.fName) := (not_iff dI).1 B7
     have f := f.st 28 (cB B7)
     refine Y5 default f 40 fun _ f => Q_end rfl ?_
     intro W2 N2
     refine T_n (Y8 f (RR (Y f 1 fun _ f => eT (wp_ret (B_r (T_r (T_r ?_)))))))
     obtain rfl := sI F7
     exact .inl ⟨rfl, (), (sI T1).symm, V1, J1, f.kp, N2⟩
    ·have U5 : ¬ (¬ (X1.fName = X2.fName)) := iff_f (not_iff dI) B7
     have f := f.st 28 (cB B7)
     refine Y5 default f 2 fun _ f => ?_
     obtain ⟨X3, S3, F9⟩ := bS F8
     obtain ⟨C3, c_3, e_3, -, D3, R3⟩ := Sli.at_ (h0.mono J1) S3
     obtain ⟨Z5, P5, Z6, P6, rfl, B8, B9⟩ := TC0.opn D3
     refine Y2 (v := .pointer (some (C3.add (K1.toNat * 8)))) f (fun _ pq => Y32 e_3 rfl (len := d0.length) (cap := cap0) (k := .i64) (i := K1) (e := 77) (sz := 8) (getI_nn S3) (getI_lt S3)) fun _ f => Y5 default f 1 fun _ f => Y4 f R3 1 rfl fun _ f => Y5 default f 2 fun _ f => ?_
     obtain ⟨X4, S4, F10⟩ := bS F9
     obtain ⟨C4, c_4, e_4, -, D4, R4⟩ := Sli.at_ (h1.mono J1) S4
     obtain ⟨Z7, P7, Z8, P8, rfl, B10, B11⟩ := TC0.opn D4
     refine Y2 (v := .pointer (some (C4.add (K1.toNat * 8)))) f (fun _ pq => Y32 e_4 rfl (len := d1.length) (cap := cap1) (k := .i64) (i := K1) (e := 77) (sz := 8) (getI_nn S4) (getI_lt S4)) fun _ f => Y5 default f 1 fun _ f => Y4 f R4 1 rfl fun _ f => Y5 default f 3 fun _ f => ?_
     rcases cE F10 with ⟨B12, F11⟩ | ⟨B12, F12⟩
     ·have U6 : (X3.fUnknown == X4.fUnknown) = false := by simpa using B12
      have f := f.st 41 (cB B12)
      refine Y5 default f 27 fun _ f => Q_end rfl ?_
      intro W3 N3
      refine T_n (Y8 f (RR (Y f 1 fun _ f => eT (wp_ret (B_r (T_r (T_r ?_)))))))
      obtain rfl := sI F11
      exact .inl ⟨rfl, (), (sI T1).symm, V1, J1, f.kp, N3⟩
     ·have U7 : (X3.fUnknown == X4.fUnknown) = true := by simpa using B12
      have f := f.st 41 (cB B12)
      refine Y5 default f 2 fun _ f => ?_
      obtain ⟨X5, S5, F13⟩ := bS F12
      obtain ⟨C5, c_5, e_5, -, D5, R5⟩ := Sli.at_ (h0.mono J1) S5
      obtain ⟨Z9, P9, Z10, P10, rfl, B13, B14⟩ := TC0.opn D5
      refine Y2 (v := .pointer (some (C5.add (K1.toNat * 8)))) f (fun _ pq => Y32 e_5 rfl (len := d0.length) (cap := cap0) (k := .i64) (i := K1) (e := 77) (sz := 8) (getI_nn S5) (getI_lt S5)) fun _ f => Y5 default f 1 fun _ f => Y2 (v := .agg #[.int .i8 X5.fV.fKind, .bool X5.fV.fBool, .int .i64 X5.fV.fNum, S X5.fV.fText, .slice Z9 X5.fV.fList.length P9, .slice Z10 X5.fV.fKeys.length P10]) f (fun _ pq => Y34 (cs := [.int .i8 X5.fV.fKind, .bool X5.fV.fBool, .int .i64 X5.fV.fNum, S X5.fV.fText, .slice Z9 X5.fV.fList.length P9, .slice Z10 X5.fV.fKeys.length P10]) rfl (ad := (C5.add (K1.toNat * 8)).add 2) (fz_part (base := C5.add (K1.toNat * 8)) (fun j v h => pq.cell (R5 j v h)) 2 rfl)) fun _ f => Y5 default f 2 fun _ f => ?_
      obtain ⟨X6, S6, F14⟩ := bS F13
      obtain ⟨C6, c_6, e_6, -, D6, R6⟩ := Sli.at_ (h1.mono J1) S6
      obtain ⟨Z11, P11, Z12, P12, rfl, B15, B16⟩ := TC0.opn D6
      refine Y2 (v := .pointer (some (C6.add (K1.toNat * 8)))) f (fun _ pq => Y32 e_6 rfl (len := d1.length) (cap := cap1) (k := .i64) (i := K1) (e := 77) (sz := 8) (getI_nn S6) (getI_lt S6)) fun _ f => Y5 default f 1 fun _ f => Y2 (v := .agg #[.int .i8 X6.fV.fKind, .bool X6.fV.fBool, .int .i64 X6.fV.fNum, S X6.fV.fText, .slice Z11 X6.fV.fList.length P11, .slice Z12 X6.fV.fKeys.length P12]) f (fun _ pq => Y34 (cs := [.int .i8 X6.fV.fKind, .bool X6.fV.fBool, .int .i64 X6.fV.fNum, S X6.fV.fText, .slice Z11 X6.fV.fList.length P11, .slice Z12 X6.fV.fKeys.length P12]) rfl (ad := (C6.add (K1.toNat * 8)).add 2) (fz_part (base := C6.add (K1.toNat * 8)) (fun j v h => pq.cell (R6 j v h)) 2 rfl)) fun _ f => ?_
      obtain ⟨X7, S7, F15⟩ := bS F14
      refine Y3 f (ref03_Same_ok n _ _ (⟨X5.fV.fKind, (X5.fV.fBool), X5.fV.fNum, X5.fV.fText, X5.fV.fList, X5.fV.fKeys⟩ : TE0) (TE0.shut B13 B14) _ (⟨X6.fV.fKind, (X6.fV.fBool), X6.fV.fNum, X6.fV.fText, X6.fV.fList, X6.fV.fKeys⟩ : TE0) (TE0.shut B15 B16) X7 S7) fun _ f => Y5 default f 2 fun _ f => ?_
      rcases cE F15 with ⟨B17, F16⟩ | ⟨B17, F23⟩
      ·have U8 : (X7) = false := by simpa using B17
       have f := f.st 54 (cB B17)
       refine Y5 default f 2 fun _ f => ?_
       obtain ⟨X8, S8, F17⟩ := bS F16
       obtain ⟨C7, c_7, e_7, -, D7, R7⟩ := Sli.at_ (h0.mono J1) S8
       obtain ⟨Z13, P13, Z14, P14, rfl, B18, B19⟩ := TC0.opn D7
       refine Y2 (v := .pointer (some (C7.add (K1.toNat * 8)))) f (fun _ pq => Y32 e_7 rfl (len := d0.length) (cap := cap0) (k := .i64) (i := K1) (e := 77) (sz := 8) (getI_nn S8) (getI_lt S8)) fun _ f => Y5 default f 1 fun _ f => Y2 (v := .agg #[.int .i8 X8.fV.fKind, .bool X8.fV.fBool, .int .i64 X8.fV.fNum, S X8.fV.fText, .slice Z13 X8.fV.fList.length P13, .slice Z14 X8.fV.fKeys.length P14]) f (fun _ pq => Y34 (cs := [.int .i8 X8.fV.fKind, .bool X8.fV.fBool, .int .i64 X8.fV.fNum, S X8.fV.fText, .slice Z13 X8.fV.fList.length P13, .slice Z14 X8.fV.fKeys.length P14]) rfl (ad := (C7.add (K1.toNat * 8)).add 2) (fz_part (base := C7.add (K1.toNat * 8)) (fun j v h => pq.cell (R7 j v h)) 2 rfl)) fun _ f => Y5 default f 2 fun _ f => ?_
       obtain ⟨X9, S9, F18⟩ := bS F17
       obtain ⟨C8, c_8, e_8, -, D8, R8⟩ := Sli.at_ (h1.mono J1) S9
       obtain ⟨Z15, P15, Z16, P16, rfl, B20, B21⟩ := TC0.opn D8
       refine Y2 (v := .pointer (some (C8.add (K1.toNat * 8)))) f (fun _ pq => Y32 e_8 rfl (len := d1.length) (cap := cap1) (k := .i64) (i := K1) (e := 77) (sz := 8) (getI_nn S9) (getI_lt S9)) fun _ f => Y5 default f 1 fun _ f => Y2 (v := .agg #[.int .i8 X9.fV.fKind, .bool X9.fV.fBool, .int .i64 X9.fV.fNum, S X9.fV.fText, .slice Z15 X9.fV.fList.length P15, .slice Z16 X9.fV.fKeys.length P16]) f (fun _ pq => Y34 (cs := [.int .i8 X9.fV.fKind, .bool X9.fV.fBool, .int .i64 X9.fV.fNum, S X9.fV.fText, .slice Z15 X9.fV.fList.length P15, .slice Z16 X9.fV.fKeys.length P16]) rfl (ad := (C8.add (K1.toNat * 8)).add 2) (fz_part (base := C8.add (K1.toNat * 8)) (fun j v h => pq.cell (R8 j v h)) 2 rfl)) fun _ f => ?_
       obtain ⟨X10, S10, F19⟩ := bS F18
       refine Y3 f (ref03_Equal_ok n _ _ (⟨X8.fV.fKind, (X8.fV.fBool), X8.fV.fNum, X8.fV.fText, X8.fV.fList, X8.fV.fKeys⟩ : TE0) (TE0.shut B18 B19) _ (⟨X9.fV.fKind, (X9.fV.fBool), X9.fV.fNum, X9.fV.fText, X9.fV.fList, X9.fV.fKeys⟩ : TE0) (TE0.shut B20 B21) X10 S10) fun _ f => Y5 default f 3 fun _ f => Q_end rfl ?_
       intro W6 N6
       refine T_n (RcF f F19 (fun B22 F20 => ?_) fun B22 F21 => ?_)
       ·have U9 : (X10) = false := by simpa using B22
        refine RR (Y f 1 fun _ f => eT (wp_ret (B_r (T_r (T_r ?_)))))
        obtain rfl := sI F20
        exact .inl ⟨rfl, (), (sI T1).symm, V1, J1, f.kp, N6⟩
       ·have U10 : (X10) = true := by simpa using B22
        refine wp_skip (B_n (T_n (R_reg (Y f 1 fun _ f => ?_))))
        obtain ⟨O1, F22⟩ := nS F21
        refine Y f 1 fun _ f => ?_
        have f := f.st 16 (iW O1)
        refine Y f 1 fun _ f => eT ?_
        obtain rfl := sI F22
        exact ⟨⟨I2, K1 + 1⟩, Nat.lt_succ_self _, V1, J1, T1, f.kp, N6⟩
      ·have U11 : (X7) = true := by simpa using B17
       have f := f.st 54 (cB B17)
       refine Y5 default f 14 fun _ f => Q_end rfl ?_
       intro W7 N7
       refine T_n (Y7 f (wp_skip (B_n (T_n (R_reg (Y f 1 fun _ f => ?_))))))
       obtain ⟨O2, F24⟩ := nS F23
       refine Y f 1 fun _ f => ?_
       have f := f.st 16 (iW O2)
       refine Y f 1 fun _ f => eT ?_
       obtain rfl := sI F24
       exact ⟨⟨I2, K1 + 1⟩, Nat.lt_succ_self _, V1, J1, T1, f.kp, N7⟩
   ·have U12 := iff_f dI B2
    refine wp_exit (T_x (T_x ?_))
    obtain rfl := sI F25
    exact .inr ⟨rfl, (), (sI T1).symm, V1, J1, f.kp, N1⟩
  ·rintro _ _ W10 (⟨rfl, G1, rfl, V2, J2, f, N8⟩ | ⟨rfl, G2, rfl, V3, J3, f, N9⟩)
   ·refine B_r (T_r (E_ret1 f rfl (by kernel_rfl : Vc.look _ 4 = some (.bool false)) ?_))
    obtain rfl := sI F3
    exact ⟨_, rfl, V2, J2, N8, rfl⟩
   ·refine B_x (T_n (RR (Y f 1 fun _ f => eT (wp_ret (E_ret1 f rfl (by kernel_rfl : Vc.look _ 4 = some (.bool true)) ?_)))))
    obtain rfl := sI F3
    exact ⟨_, rfl, V3, J3, N9, rfl⟩
end Go.Proofs.YtocefedhenhbfaaGreatDoor
end

section
namespace Go.Proofs.YtocefedhenhbfaaGreatDoor
open Go Go.Vc Go.RowKit
end Go.Proofs.YtocefedhenhbfaaGreatDoor
end

section
namespace Go.Proofs.YtocefedhenhbfaaGreatDoor
open Go Go.Vc Go.RowKit
theorem same_val {n : Nat} (hn : 6000 < n) {v : TE0} (h : Fine v) (w : TE0) : ref03_Same n v w = some (decide (v = w)) := by
 obtain ⟨b, h1, h2⟩ := Same_run hn (d := 60) (by omega) v w h.small
 rw [h1]
 congr 1
 rw [Bool.eq_iff_iff, h2, decide_eq_true_iff]
theorem evG (x : TE0) : (⟨x.fKind, (x.fBool), x.fNum, x.fText, x.fList, x.fKeys⟩ : TE0) = x := by cases x; rfl
theorem Same_ref {n : Nat} (hn : 6000 < n) {a b : List TC0} (la : a.length ≤ 60) (ha : ∀ g ∈ a, Fine g.fV) (hb : ∀ g ∈ b, Fine g.fV) :
  ref09_Same n a b = some (decide (a.length = b.length) && !((List.range a.length).any fun k => !sameG (a.getD k z_TC0) (b.getD k z_TC0))) := by
 unfold ref09_Same
 by_cases h : a.length = b.length
 ·have h' : ((a.length : Nat) : Int) = ((b.length : Nat) : Int) := by omega
  rw [decide_eq_true h', Bool.not_true, cF, decide_eq_true h, Bool.true_and]
  have := loop_any (n := n) (step := ref09_Same_s1 n a b) (fun k => !sameG (a.getD k z_TC0) (b.getD k z_TC0)) a.length (.inl ()) (.inr ()) (fun k hk => by
   unfold ref09_Same_s1 sameG
   have hm : a.getD k z_TC0 ∈ a := by simp [List.getD, hk]
   have hm2 : b.getD k z_TC0 ∈ b := by
    have : k < b.length := by omega
    simp [List.getD, this]
   rw [decide_eq_true (by omega), cT, getI_at z_TC0 hk, getI_at z_TC0 (by omega : k < b.length)]
   simp only [bnd, evG]
   rw [same_val hn (ha _ hm), Equal_ref hn (ha _ hm) (hb _ hm2), need_i (by omega) (by omega)]
   simp only [bnd]
   cases decide ((a.getD k z_TC0).fName = (b.getD k z_TC0).fName) <;> cases ((a.getD k z_TC0).fUnknown == (b.getD k z_TC0).fUnknown) <;> cases eqV (a.getD k z_TC0).fV (b.getD k z_TC0).fV <;> cases decide ((a.getD k z_TC0).fV = (b.getD k z_TC0).fV) <;> rfl) (by
   unfold ref09_Same_s1
   rw [decide_eq_false (by omega), cF]) (by omega)
  rw [this, bnd]
  cases (List.range a.length).any (fun k => !sameG (a.getD k z_TC0) (b.getD k z_TC0)) <;> rfl
 ·have h' : ¬ ((a.length : Nat) : Int) = ((b.length : Nat) : Int) := by omega
  rw [decide_eq_false h', Bool.not_false, cT, decide_eq_false h, Bool.false_and]
end Go.Proofs.YtocefedhenhbfaaGreatDoor
end

section
namespace Go.Num
def dig (c : UInt8) : Bool := 48 ≤ c && c ≤ 57
def nd : List UInt8 → Nat → Nat
  | [], k => k
  | c :: r, k => if dig c then nd r (k + 1) else k
def vl : List UInt8 → Nat → Nat
  | [], v => v
  | c :: r, v => if dig c then vl r (10 * v + (c.toNat - 48)) else v
def neg (l : List UInt8) : Bool := decide (l.getD 0 0 = 45)
def fst (l : List UInt8) : Nat := if neg l then 1 else 0
def big : Nat := 9007199254740992
def scanL (l : List UInt8) (at_ : Int) : Int × Int × Int :=
  let f := fst l
  let k := nd (l.drop f) f
  let v := vl (l.drop f) 0
  if l.getD f 0 = 48 ∧ f + 2 ≤ k then (0, at_ + (f + 1), 20)
  else if k = f ∨ l.getD k 0 = 46 ∨ l.getD k 0 = 101 ∨ l.getD k 0 = 69 then (0, at_ + k, 20)
  else if big < v ∨ (neg l = true ∧ v = 0) then (0, at_, 20)
  else (if neg l then -(v : Int) else v, at_ + k, 0)
def scan (s : List UInt8) (at_ : Int) : Int × Int × Int :=
  if at_ < 0 ∨ (s.length : Int) < at_ then (0, 0, 2) else scanL (s.drop at_.toNat) at_
theorem dig_iff (c : UInt8) : dig c = true ↔ 48 ≤ c.toNat ∧ c.toNat ≤ 57 := by
 simp [dig, UInt8.le_iff_toNat_le]
theorem nd_ge : ∀ (l : List UInt8) (k : Nat), k ≤ nd l k
 | [], k => Nat.le_refl _
 | c :: r, k => by
  simp only [nd]
  split
  ·have := nd_ge r (k + 1); omega
  ·exact Nat.le_refl _
theorem drop_cons (l : List UInt8) (k : Nat) (h : k < l.length) : l.drop k = l.getD k 0 :: l.drop (k + 1) := by
 rw [List.drop_eq_getElem_cons h]; simp [List.getD, h]
theorem nd_step (l : List UInt8) (k : Nat) (h : k < l.length) (hd : dig (l.getD k 0) = true) : nd (l.drop k) k = nd (l.drop (k + 1)) (k + 1) := by
 rw [drop_cons l k h]; simp only [nd, hd, if_true]
theorem nd_stop (l : List UInt8) (k : Nat) (hd : dig (l.getD k 0) = false) : nd (l.drop k) k = k := by
 by_cases h : k < l.length
 ·rw [drop_cons l k h]; simp only [nd, hd]; rfl
 ·rw [List.drop_eq_nil_of_le (by omega)]; rfl
theorem vl_step (l : List UInt8) (k v : Nat) (h : k < l.length) (hd : dig (l.getD k 0) = true) : vl (l.drop k) v = vl (l.drop (k + 1)) (10 * v + ((l.getD k 0).toNat - 48)) := by
 rw [drop_cons l k h]; simp only [vl, hd, if_true]
theorem vl_stop (l : List UInt8) (k v : Nat) (hd : dig (l.getD k 0) = false) : vl (l.drop k) v = v := by
 by_cases h : k < l.length
 ·rw [drop_cons l k h]; simp only [vl, hd]; rfl
 ·rw [List.drop_eq_nil_of_le (by omega)]; rfl
structure ScanI (l : List UInt8) (k : Nat) (v : Nat) : Prop where
  ge : fst l ≤ k
  le : k ≤ l.length
  nd : nd (l.drop k) k = nd (l.drop (fst l)) (fst l)
  vl : vl (l.drop k) v = vl (l.drop (fst l)) 0
  zero : fst l + 2 ≤ k → l.getD (fst l) 0 ≠ 48
  one : fst l + 1 ≤ k → dig (l.getD (fst l) 0) = true
theorem fst_le (l : List UInt8) : fst l ≤ l.length := by
 unfold fst neg
 split
 ·rename_i h
  cases l with
  | nil => simp at h
  | cons c r => simp
 ·omega
theorem ScanI.start (l : List UInt8) : ScanI l (fst l) 0 := ⟨Nat.le_refl _, fst_le l, rfl, rfl, fun h => by omega, fun h => by omega⟩
theorem ScanI.step {l : List UInt8} {k v : Nat} (h : ScanI l k v) (hd : dig (l.getD k 0) = true) (hk : k < l.length) (hz : ¬ (k = fst l + 1 ∧ l.getD (fst l) 0 = 48)) : ScanI l (k + 1) (10 * v + ((l.getD k 0).toNat - 48)) := by
 refine ⟨by have := h.ge; omega, by omega, by rw [← nd_step l k hk hd]; exact h.nd, by rw [← vl_step l k v hk hd]; exact h.vl, fun hge h0 => ?_, fun hge => ?_⟩
 ·rcases Nat.lt_or_ge k (fst l + 2) with hlt | hge2
  ·exact hz ⟨by omega, h0⟩
  ·exact h.zero hge2 h0
 ·rcases Nat.lt_or_ge k (fst l + 1) with hlt | hge2
  ·have : k = fst l := by have := h.ge; omega
   subst this; exact hd
  ·exact h.one hge2
theorem ScanI.lt {l : List UInt8} {k v : Nat} (_ : ScanI l k v) (hd : dig (l.getD k 0) = true) : k < l.length := by
 rcases Nat.lt_or_ge k l.length with h | h
 ·exact h
 ·have : l.getD k 0 = 0 := by simp [List.getD, List.getElem?_eq_none h]
  rw [this] at hd; simp [dig] at hd
theorem ScanI.early {l : List UInt8} {k v : Nat} (h : ScanI l k v) (at_ : Int) (hd : dig (l.getD k 0) = true) (hk : k = fst l + 1) (h0 : l.getD (fst l) 0 = 48) : scanL l at_ = (0, at_ + k, 20) := by
 have h1 := h.nd
 rw [nd_step l k (h.lt hd) hd] at h1
 have h2 := nd_ge (l.drop (k + 1)) (k + 1)
 unfold scanL
 simp only []
 rw [if_pos ⟨h0, by omega⟩, hk]
 simp
theorem ScanI.stop {l : List UInt8} {k v : Nat} (h : ScanI l k v) (at_ : Int) (hd : dig (l.getD k 0) = false) :
  scanL l at_ = if k = fst l ∨ l.getD k 0 = 46 ∨ l.getD k 0 = 101 ∨ l.getD k 0 = 69 then (0, at_ + k, 20)
   else if big < v ∨ (neg l = true ∧ v = 0) then (0, at_, 20)
   else (if neg l then -(v : Int) else v, at_ + k, 0) := by
 have h1 := h.nd
 rw [nd_stop l k hd] at h1
 have h2 := h.vl
 rw [vl_stop l k v hd] at h2
 unfold scanL
 simp only []
 rw [← h1, ← h2, if_neg]
 rintro ⟨h3, h4⟩
 exact h.zero h4 h3
theorem fst_le1 (l : List UInt8) : fst l ≤ 1 := by unfold fst; split <;> omega
theorem byte_of {c : UInt8} {n : Int} (d : UInt8) (h : ((c.toNat : Nat) : Int) = n) (hd : (d.toNat : Int) = n) : c = d := UInt8.toNat_inj.1 (by omega)
theorem to_byte {c d : UInt8} {n : Int} (h : c = d) (hd : (d.toNat : Int) = n) : ((c.toNat : Nat) : Int) = n := by rw [h]; exact hd
theorem dig_prog (c : UInt8) : decide (((c.toNat : Int) - 48) % 256 < 10) = dig c := by
 rw [Bool.eq_iff_iff, dig_iff]
 have := c.toNat_lt
 simp only [decide_eq_true_eq]
 omega
def KeepP (n : Int) (v : Nat) : Prop := 0 ≤ n ∧ n ≤ 90071992547409929 ∧ (v ≤ 9007199254740992 → n = v) ∧ (9007199254740992 < v → 9007199254740992 < n)
theorem KeepP.start : KeepP 0 0 := ⟨by omega, by omega, fun _ => rfl, fun h => by omega⟩
theorem KeepP.more {n : Int} {v : Nat} (c : UInt8) (h : KeepP n v) (hd : dig c = true) (hn : n ≤ 9007199254740992) : KeepP (10 * n + ((c.toNat : Int) - 48) % 256) (10 * v + (c.toNat - 48)) := by
 obtain ⟨h1, h2, h3, h4⟩ := h
 rw [dig_iff] at hd
 have hv : v ≤ 9007199254740992 := by
  rcases Nat.lt_or_ge 9007199254740992 v with h | h
  ·have := h4 h; omega
  ·exact h
 have := h3 hv
 refine ⟨by omega, by omega, fun _ => by omega, fun _ => by omega⟩
theorem KeepP.full {n : Int} {v d : Nat} (h : KeepP n v) (hn : ¬ n ≤ 9007199254740992) : KeepP n (10 * v + d) := by
 obtain ⟨h1, h2, h3, h4⟩ := h
 have hv : 9007199254740992 < v := by
  rcases Nat.lt_or_ge 9007199254740992 v with h | h
  ·exact h
  ·have := h3 h; omega
 exact ⟨h1, h2, fun h => by omega, fun _ => by omega⟩
theorem KeepP.fits {n : Int} {v : Nat} (h : KeepP n v) : (decide (-9007199254740992 ≤ n) && decide (n ≤ 9007199254740992)) = decide (v ≤ 9007199254740992) := by
 obtain ⟨h1, h2, h3, h4⟩ := h
 rw [Bool.eq_iff_iff]
 simp only [Bool.and_eq_true, decide_eq_true_eq]
 constructor
 ·rintro ⟨_, h⟩
  rcases Nat.lt_or_ge 9007199254740992 v with h' | h'
  ·have := h4 h'; omega
  ·exact h'
 ·intro h; have := h3 h; omega
theorem scan_inside {s : List UInt8} {at_ : Int} (h : ¬ (at_ < 0 ∨ (s.length : Int) < at_)) : scan s at_ = scanL (s.drop at_.toNat) at_ := by unfold scan; rw [if_neg h]
theorem scan_out {s : List UInt8} {at_ : Int} (h : at_ < 0 ∨ (s.length : Int) < at_) : scan s at_ = (0, 0, 2) := by unfold scan; rw [if_pos h]
def fitsB (n : Int) : Bool := decide (-9007199254740992 ≤ n ∧ n ≤ 9007199254740992)
theorem fits_eq (n : Int) : (decide ((-9007199254740992 : Int) ≤ n) && decide (n ≤ 9007199254740992)) = fitsB n := by simp [fitsB]
theorem neg_byte (l : List UInt8) : decide (((l.getD 0 0).toNat : Int) = 45) = neg l := by
 unfold neg
 rw [Bool.eq_iff_iff]
 simp only [decide_eq_true_eq]
 exact ⟨fun h => byte_of 45 h rfl, fun h => to_byte h rfl⟩
theorem fst_t {l : List UInt8} (h : neg l = true) : fst l = 1 := by simp [fst, h]
theorem fst_f {l : List UInt8} (h : neg l = false) : fst l = 0 := by simp [fst, h]
theorem notboth {l : List UInt8} {k : Nat} (h : ¬ ((k : Int) = (fst l : Int) + 1 ∧ ((l.getD (fst l) 0).toNat : Int) = 48)) : ¬ (k = fst l + 1 ∧ l.getD (fst l) 0 = 48) :=
 fun ⟨h1, h2⟩ => h ⟨by omega, to_byte h2 rfl⟩
theorem isboth {l : List UInt8} {k : Nat} (h : (k : Int) = (fst l : Int) + 1 ∧ ((l.getD (fst l) 0).toNat : Int) = 48) : k = fst l + 1 ∧ l.getD (fst l) 0 = 48 :=
 ⟨by omega, byte_of 48 h.2 rfl⟩
theorem KeepP.fitsEq {n : Int} {v : Nat} (h : KeepP n v) : fitsB n = decide (v ≤ 9007199254740992) := by rw [← fits_eq]; exact h.fits
section
variable {l : List UInt8} {k v : Nat} {n at_ sl : Int} (I : ScanI l k v) (hd : dig (l.getD k 0) = false)
include I hd
theorem ScanI.e1 (h : (k : Int) = (fst l : Int) ∨ (at_ + (k : Int) < sl ∧ (((l.getD k 0).toNat : Int) = 46 ∨ (((l.getD k 0).toNat : Int) = 101 ∨ ((l.getD k 0).toNat : Int) = 69)))) : scanL l at_ = (0, at_ + k, 20) := by
 rw [I.stop at_ hd, if_pos]
 rcases h with h | ⟨_, h | h | h⟩
 ·exact .inl (by omega)
 ·exact .inr (.inl (byte_of 46 h rfl))
 ·exact .inr (.inr (.inl (byte_of 101 h rfl)))
 ·exact .inr (.inr (.inr (byte_of 69 h rfl)))
omit I hd in
theorem ScanI.no (hsl : sl = at_ + l.length) (h : ¬ ((k : Int) = (fst l : Int) ∨ (at_ + (k : Int) < sl ∧ (((l.getD k 0).toNat : Int) = 46 ∨ (((l.getD k 0).toNat : Int) = 101 ∨ ((l.getD k 0).toNat : Int) = 69))))) :
  ¬ (k = fst l ∨ l.getD k 0 = 46 ∨ l.getD k 0 = 101 ∨ l.getD k 0 = 69) := by
 have hk : l.getD k 0 ≠ 0 → k < l.length := fun h0 => by
  rcases Nat.lt_or_ge k l.length with h | h
  ·exact h
  ·exact absurd (by simp [List.getD, List.getElem?_eq_none h]) h0
 rintro (h1 | h1 | h1 | h1)
 ·exact h (.inl (by omega))
 ·have := hk (by rw [h1]; decide); exact h (.inr ⟨by omega, .inl (to_byte h1 rfl)⟩)
 ·have := hk (by rw [h1]; decide); exact h (.inr ⟨by omega, .inr (.inl (to_byte h1 rfl))⟩)
 ·have := hk (by rw [h1]; decide); exact h (.inr ⟨by omega, .inr (.inr (to_byte h1 rfl))⟩)
theorem ScanI.e2 (hno : ¬ (k = fst l ∨ l.getD k 0 = 46 ∨ l.getD k 0 = 101 ∨ l.getD k 0 = 69)) (h : 9007199254740992 < v ∨ (neg l = true ∧ v = 0)) : scanL l at_ = (0, at_, 20) := by
 rw [I.stop at_ hd, if_neg hno, if_pos (by unfold big; exact h)]
theorem ScanI.e3 (hno : ¬ (k = fst l ∨ l.getD k 0 = 46 ∨ l.getD k 0 = 101 ∨ l.getD k 0 = 69)) (h : ¬ (9007199254740992 < v ∨ (neg l = true ∧ v = 0))) : scanL l at_ = (if neg l then -(v : Int) else v, at_ + k, 0) := by
 rw [I.stop at_ hd, if_neg hno, if_neg (by unfold big; exact h)]
end
theorem KeepP.bad {l : List UInt8} {n : Int} {v : Nat} (K : KeepP n v) : (¬ (fitsB n = true) ∨ (neg l = true ∧ n = 0)) ↔ (9007199254740992 < v ∨ (neg l = true ∧ v = 0)) := by
 rw [K.fitsEq]
 obtain ⟨h1, h2, h3, h4⟩ := K
 simp only [decide_eq_true_eq]
 constructor
 ·rintro (h | ⟨a, h⟩)
  ·exact .inl (by omega)
  ·rcases Nat.lt_or_ge 9007199254740992 v with hv | hv
   ·exact .inl hv
   ·exact .inr ⟨a, by have := h3 hv; omega⟩
 ·rintro (h | ⟨a, h⟩)
  ·exact .inl (by omega)
  ·exact .inr ⟨a, by have := h3 (by omega); omega⟩
theorem KeepP.val {n : Int} {v : Nat} {b : Prop} (K : KeepP n v) (h : ¬ (9007199254740992 < v ∨ b)) : n = v := by
 obtain ⟨h1, h2, h3, h4⟩ := K
 exact h3 (by have : ¬ 9007199254740992 < v := fun x => h (.inl x); omega)
def read (s : List UInt8) : Int × Int := if (scan s 0).2.2 = 0 ∧ (scan s 0).2.1 = s.length then ((scan s 0).1, 0) else (0, 20)
def dch (n : Nat) : UInt8 := UInt8.ofNat (48 + n % 10)
def digsF : Nat → Nat → List UInt8
  | 0, _ => []
  | f + 1, n => if n < 10 then [dch n] else digsF f (n / 10) ++ [dch n]
def digs (n : Nat) : List UInt8 := digsF (n + 1) n
theorem digsF_more : ∀ (f g n : Nat), n < f → n < g → digsF f n = digsF g n
 | 0, _, n, h, _ => by omega
 | f + 1, 0, n, _, h => by omega
 | f + 1, g + 1, n, h1, h2 => by
  simp only [digsF]
  split
  ·rfl
  ·rw [digsF_more f g (n / 10) (by omega) (by omega)]
theorem digs_lt {n : Nat} (h : n < 10) : digs n = [dch n] := by unfold digs; simp only [digsF]; rw [if_pos h]
theorem digs_ge {n : Nat} (h : ¬ n < 10) : digs n = digs (n / 10) ++ [dch n] := by
 unfold digs
 rw [digsF, if_neg h, digsF_more n (n / 10 + 1) (n / 10) (by omega) (by omega)]
theorem dch_toNat (n : Nat) : (dch n).toNat = 48 + n % 10 := by
 unfold dch; rw [UInt8.toNat_ofNat']; omega
theorem dch_int (n : Nat) : (48 + (n : Int) % 10) % 256 = ((dch n).toNat : Int) := by rw [dch_toNat]; omega
theorem digs_len : ∀ (k n : Nat), n < 10 ^ (k + 1) → (digs n).length ≤ k + 1
 | 0, n, h => by rw [digs_lt (by omega)]; simp
 | k + 1, n, h => by
  by_cases h10 : n < 10
  ·rw [digs_lt h10]; simp
  ·rw [digs_ge h10]
   have := digs_len k (n / 10) (by rw [Nat.pow_succ] at h; omega)
   simp; omega
theorem digs_len16 {n : Nat} (h : n ≤ 9007199254740992) : (digs n).length ≤ 16 := digs_len 15 n (by omega)
def text (n : Int) : List UInt8 × Int := if fitsB n then (if n < 0 then 45 :: digs (-n).toNat else digs n.toNat, 0) else ([], 20)
theorem fitsB_iff {n : Int} : fitsB n = true ↔ -9007199254740992 ≤ n ∧ n ≤ 9007199254740992 := by simp [fitsB]
theorem text_no {n : Int} (h : fitsB n = false) : text n = ([], 20) := by simp [text, h]
theorem text_neg {n : Int} (h : fitsB n = true) (h0 : n < 0) : text n = (45 :: digs (-n).toNat, 0) := by simp [text, h, h0]
theorem text_pos {n : Int} (h : fitsB n = true) (h0 : ¬ n < 0) : text n = (digs n.toNat, 0) := by simp [text, h, h0]
end Go.Num
end

section
namespace Go.Proofs.YtocefedhenhbfaaGreatDoor
open Go Go.Vc Go.RowKit Go.Num
theorem tup3 {x : Int × Int × Int} {a b c : Int} (h : x = (a, b, c)) : Value.tuple #[.int .i64 a, .int .i64 b, .int .i64 c] = .tuple #[.int .i64 x.1, .int .i64 x.2.1, .int .i64 x.2.2] := by rw [h]
theorem tup2 {x : Int × Int} {a b : Int} (h : x = (a, b)) : Value.tuple #[.int .i64 a, .int .i64 b] = .tuple #[.int .i64 x.1, .int .i64 x.2] := by rw [h]
theorem fits_ok (M : Mem) (n : Int) : Ok Tryz.prog M 121 [.int .i64 n] (fun _ v => v = .bool (fitsB n)) := by
 intro M hM0 w0 H w p0
 refine R_enter 9 Tryz.func121 rfl rfl (by simp) fun a0 f0 => RR (Y f0 1 fun _ f => eT (R_seq (R_mid (fun a_2 W1 => Frm 9 [(2, .bool ((decide ((-9007199254740992 : Int) ≤ n)) && (decide (n ≤ 9007199254740992))))] a_2 ∧ Hp w0 M (H) W1) ?_ ?_)))
 ·refine R_reg (Y f 3 fun _ f => ?_)
  rcases bE (decide ((-9007199254740992 : Int) ≤ n)) with B1 | B1
  ·have U1 := dI.1 B1
   have f := f.st 5 (cB B1)
   refine Y f 4 fun _ f => eT ?_
   have f := Frm.set f 2 (v := .bool (decide (n ≤ 9007199254740992))) (v' := .bool ((decide ((-9007199254740992 : Int) ≤ n)) && (decide (n ≤ 9007199254740992)))) (by kernel_rfl) (by simp only [B1, Bool.and_true, Bool.true_and, Bool.false_and, Bool.and_false, Bool.or_true, Bool.true_or, Bool.or_false, Bool.false_or, Bool.not_true, Bool.not_false, cond_true, cond_false])
   exact ⟨f.kp, p0⟩
  ·have U2 := iff_f dI B1
   have f := f.st 5 (cB B1)
   refine Y f 4 fun _ f => eT ?_
   have f := Frm.set f 2 (v := .bool false) (v' := .bool ((decide ((-9007199254740992 : Int) ≤ n)) && (decide (n ≤ 9007199254740992)))) (by kernel_rfl) (by simp only [B1, Bool.and_true, Bool.true_and, Bool.false_and, Bool.and_false, Bool.or_true, Bool.true_or, Bool.or_false, Bool.false_or, Bool.not_true, Bool.not_false, cond_true, cond_false])
   exact ⟨f.kp, p0⟩
 ·rintro a_2 W1 ⟨f, N1⟩
  refine T_n (wp_ret (E_ret1 f rfl (by kernel_rfl : Vc.look _ 2 = some (.bool ((decide ((-9007199254740992 : Int) ≤ n)) && (decide (n ≤ 9007199254740992))))) (⟨_, rfl, M, (mR _), N1, ?_⟩)))
  exact cB (fits_eq _)
theorem digit_ok (M : Mem) (c : UInt8) : Ok Tryz.prog M 150 [.int .u8 (c.toNat : Int)] (fun _ v => v = .bool (dig c)) := by
 intro M hM0 w0 H w p0
 refine R_enter 6 Tryz.func150 rfl rfl (by simp) fun a0 f0 => RR (Y f0 1 fun _ f => eT (RR (Y f 1 fun _ f => Y f 1 fun _ f => ?_)))
 have f := Frm.set f 4 (v := .int .u8 (IntKind.wrap .u8 ((c.toNat : Int) - 48))) (v' := .int .u8 (((c.toNat : Int) - 48) % 256)) (by kernel_rfl) (congrArg (Value.int .u8) (IntKind.wrap_u8 _))
 refine Y f 2 fun _ f => eT (wp_ret (E_ret1 f rfl (by kernel_rfl : Vc.look _ 2 = some (.bool (decide ((((c.toNat : Int) - 48) % 256) < 10)))) (⟨_, rfl, M, (mR _), p0, ?_⟩)))
 exact cB (dig_prog c)
theorem scanP_ok (M : Mem) (s : List UInt8) (at_ : Int) (hs : s.length ≤ 140737488351232) : Ok Tryz.prog M 134 [S s, .int .i64 at_] (fun _ v => v = .tuple #[.int .i64 (scan s at_).1, .int .i64 (scan s at_).2.1, .int .i64 (scan s at_).2.2]) := by
 intro M hM0 w0 H w p0
 refine R_enter 110 Tryz.func134 rfl rfl (by simp) fun a0 f0 => RR (Y f0 3 fun _ f => eT (R_seq (R_seq (R_mid (fun a_2 W1 => Frm 110 [(0, S s), (1, .int .i64 at_), (4, .int .i64 0), (19, .bool ((decide (at_ < 0)) || (decide ((s.length : Int) < at_))))] a_2 ∧ Hp w0 M (H) W1) ?_ ?_))))
 ·refine R_reg (Y f 3 fun _ f => ?_)
  rcases bE (decide (at_ < 0)) with B1 | B1
  ·have U1 := dI.1 B1
   have f := f.st 14 (cB B1)
   refine Y f 5 fun _ f => eT ?_
   have f := Frm.set f 19 (v := .bool true) (v' := .bool ((decide (at_ < 0)) || (decide ((s.length : Int) < at_)))) (by kernel_rfl) (by simp only [B1, Bool.and_true, Bool.true_and, Bool.false_and, Bool.and_false, Bool.or_true, Bool.true_or, Bool.or_false, Bool.false_or, Bool.not_true, Bool.not_false, cond_true, cond_false])
   exact ⟨f.kp, p0⟩
  ·have U2 := iff_f dI B1
   have f := f.st 14 (cB B1)
   refine Y f 5 fun _ f => eT ?_
   have f := Frm.set f 19 (v := .bool (decide ((s.length : Int) < at_))) (v' := .bool ((decide (at_ < 0)) || (decide ((s.length : Int) < at_)))) (by kernel_rfl) (by simp only [B1, Bool.and_true, Bool.true_and, Bool.false_and, Bool.and_false, Bool.or_true, Bool.true_or, Bool.or_false, Bool.false_or, Bool.not_true, Bool.not_false, cond_true, cond_false])
   exact ⟨f.kp, p0⟩
 ·rintro a_2 W1 ⟨f, N1⟩
  refine T_n (Y6 f (b := (decide (at_ < 0)) || (decide ((s.length : Int) < at_))) (fun B2 => ?_) fun B2 => ?_)
  ·have U3 : (at_ < 0) ∨ ((s.length : Int) < at_) := (or_iff dI dI).1 B2
   refine RR (Y f 3 fun _ f => eT (wp_ret (T_r (E_ret3 f rfl (by kernel_rfl : Vc.look _ 4 = some (.int .i64 0)) (by kernel_rfl : Vc.look _ 5 = some (.int .i64 0)) (by kernel_rfl : Vc.look _ 6 = some (.int .i64 2)) (⟨_, rfl, M, (mR _), N1, ?_⟩)))))
   exact tup3 (scan_out (by omega))
  ·have U4 : ¬ ((at_ < 0) ∨ ((s.length : Int) < at_)) := iff_f (or_iff dI dI) B2
   refine wp_skip (T_n (RR (Y f 2 fun _ f => Z (v := S (s.drop at_.toNat)) f (X_strFrom rfl (l := s) (k := .i64) (a := at_) (by kernel_rfl) (by kernel_rfl) (by kernel_rfl) (by omega) (by omega)) fun _ f => ?_)))
   obtain ⟨l, hl⟩ : ∃ l, l = s.drop at_.toNat := ⟨_, rfl⟩
   have hll : (l.length : Int) = s.length - at_ := by rw [hl, List.length_drop]; omega
   have hf1 := fst_le1 l
   have hf2 := fst_le l
   have hsc : scan s at_ = scanL l at_ := by rw [hl]; exact scan_inside (by omega)
   have f := Frm.set f 22 (v := S (s.drop at_.toNat)) (v' := S l) (by kernel_rfl) (by rw [hl])
   refine W_bytes f N1 (by kernel_rfl) (by kernel_rfl) rfl rfl rfl (l := l) (by kernel_rfl) (e := 5) (by kernel_rfl) (by kernel_rfl) (by kernel_rfl) fun Q1 P1 W2 hcap_1 N2 _ f => V_allocS (k := 1) (c := 1) f N2 (.cells #[.int .u8 0] 5 (0, 0)) (by kernel_rfl) (fun _ => by kernel_rfl) fun Q2 W3 N3 _ f => W_bytes_push f N3 (by kernel_rfl) (by kernel_rfl) rfl rfl rfl (l := l) (c := 0) (by kernel_rfl) (by kernel_rfl) (by kernel_rfl) (by kernel_rfl) rfl (by omega) (by omega) fun C1 P2 V1 W4 J1 N4 kb_1 R1 _ f => ?_
   have kz_1 := KB.z kb_1
   refine Y f 1 fun _ f => eT (RR (Y f 1 fun _ f => Z f (Y31 rfl (ad := C1) (len := l.length + 1) (cap := P2) (k := .i64) (i := 0) (e := 5) (sz := 1) (by omega) (by omega)) fun _ f => Z f (Y33 (v := .int .u8 ((l.getD 0 0).toNat : Int)) rfl (ad := C1.add (((0 : Int)).toNat * 1)) (N4.cell (KZ.get kz_1 (by omega) (by omega)))) fun _ f => ?_))
   have hb_1 := byte_lt (l.getD 0 0)
   refine Y f 1 fun _ f => ?_
   have f := Frm.set f 29 (v := .bool (decide (((l.getD 0 0).toNat : Int) = 45))) (v' := .bool (neg l)) (by kernel_rfl) (cB (neg_byte l))
   refine Y f 1 fun _ f => eT (RR (Y f 1 fun _ f => eT (R_seq (RR (Y f 1 fun _ f => eT (R_mid (fun a_20 W5 => Frm 110 [(0, S s), (1, .int .i64 at_), (4, .int .i64 0), (7, .slice (some C1) (l.length + 1) P2), (8, .bool (neg l)), (9, .int .i64 (fst l : Int))] a_20 ∧ Hp w0 V1 (H) W5) ?_ ?_))))))
   ·refine Y6 f (b := neg l) (fun B3 => ?_) fun B3 => ?_
    ·refine R_reg (Y f 1 fun _ f => eT ?_)
     have f := Frm.set f 9 (v := .int .i64 1) (v' := .int .i64 (fst l : Int)) (by kernel_rfl) (by rw [fst_t B3]; rfl)
     exact ⟨f.kp, N4⟩
    ·refine wp_skip (T_n ?_)
     have f := Frm.set f 9 (v := .int .i64 0) (v' := .int .i64 (fst l : Int)) (by kernel_rfl) (by rw [fst_f B3]; rfl)
     exact ⟨f.kp, N4⟩
   ·rintro a_20 W5 ⟨f, N5⟩
    refine T_n (RR (Y f 2 fun _ f => eT (R_seq (wp_block ?_))))
    have f := Frm.set f 9 (v := .int .i64 (fst l : Int)) (v' := .int .i64 ((fst l) : Int)) (by kernel_rfl) (by first | rfl | (congr 1; omega) | simp)
    refine R_loop (n := 110) (w0 := w0) (M := V1) (fun (x : Nat × Int × Nat) => match x with | (k, n, v) => [(0, S s), (1, .int .i64 at_), (4, .int .i64 n), (7, .slice (some C1) (l.length + 1) P2), (8, .bool (neg l)), (9, .int .i64 (k : Int)), (10, .int .i64 (fst l : Int))]) (fun (x : Nat × Int × Nat) => match x with | (k, n, v) => (H)) (fun (x : Nat × Int × Nat) (_ : Mem) => match x with | (k, n, v) => (ScanI l k v) ∧ (KeepP n v)) (fun (x : Nat × Int × Nat) => match x with | (k, n, v) => l.length + 1 - k) (fst l, 0, 0) (f.kp) N5 ?_ ?_
    ·exact ⟨ScanI.start l, KeepP.start⟩
    ·rintro ⟨k, n, v⟩ V2 _ W6 J2 I_1 f N6
     replace I_1 : (ScanI l k v) ∧ (KeepP n v) := I_1
     obtain ⟨I_s, K_s⟩ := I_1
     have hk1 := I_s.ge
     have hk2 := I_s.le
     obtain ⟨hn1, hn2, hn3, hn4⟩ := id K_s
     refine R_seq (RR (Y f 2 fun _ f => Z f (Y31 rfl (ad := C1) (len := l.length + 1) (cap := P2) (k := .i64) (i := (k : Int)) (e := 5) (sz := 1) (by omega) (by omega)) fun _ f => Z f (Y33 (v := .int .u8 ((l.getD k 0).toNat : Int)) rfl (ad := C1.add (((k : Int)).toNat * 1)) (N6.cell (KZ.get (kz_1.mono J2) (by omega) (by omega)))) fun _ f => ?_))
     have hb_2 := byte_lt (l.getD k 0)
     refine Y18 f N6 (digit_ok _ (l.getD k 0)) fun W7 N7 _ f => eT (Y6 f (b := dig (l.getD k 0)) (fun B4 => ?_) fun B4 => ?_)
     ·refine wp_skip (T_n (R_seq (wp_block (R_seq (R_seq (R_mid (fun a_28 W8 => Frm 110 [(0, S s), (1, .int .i64 at_), (4, .int .i64 n), (7, .slice (some C1) (l.length + 1) P2), (8, .bool (neg l)), (9, .int .i64 (k : Int)), (10, .int .i64 (fst l : Int)), (49, .bool ((decide ((k : Int) = ((fst l : Int) + 1))) && (decide (((l.getD (fst l) 0).toNat : Int) = 48))))] a_28 ∧ Hp w0 V2 (H) W8) ?_ ?_))))))
      ·refine R_reg (Y f 2 fun _ f => Y f 1 fun _ f => ?_)
       have f := Frm.set f 41 (v := .int .i64 (IntKind.wrap .i64 ((fst l : Int) + 1))) (v' := .int .i64 ((fst l : Int) + 1)) (by kernel_rfl) (congrArg (Value.int .i64) (IntWalk.i64_in _ (by omega)))
       refine Y f 2 fun _ f => ?_
       rcases bE (decide ((k : Int) = ((fst l : Int) + 1))) with B5 | B5
       ·have U8 := dI.1 B5
        have f := f.st 43 (cB B5)
        refine Y f 2 fun _ f => Z f (Y31 rfl (ad := C1) (len := l.length + 1) (cap := P2) (k := .i64) (i := (fst l : Int)) (e := 5) (sz := 1) (by omega) (by omega)) fun _ f => Z f (Y33 (v := .int .u8 ((l.getD (fst l) 0).toNat : Int)) rfl (ad := C1.add (((fst l : Int)).toNat * 1)) (N7.cell (KZ.get (kz_1.mono J2) (by omega) (by omega)))) fun _ f => ?_
        have hb_3 := byte_lt (l.getD (fst l) 0)
        refine Y f 2 fun _ f => eT ?_
        have f := Frm.set f 49 (v := .bool (decide (((l.getD (fst l) 0).toNat : Int) = 48))) (v' := .bool ((decide ((k : Int) = ((fst l : Int) + 1))) && (decide (((l.getD (fst l) 0).toNat : Int) = 48)))) (by kernel_rfl) (by simp only [B5, Bool.and_true, Bool.true_and, Bool.false_and, Bool.and_false, Bool.or_true, Bool.true_or, Bool.or_false, Bool.false_or, Bool.not_true, Bool.not_false, cond_true, cond_false])
        exact ⟨f.kp, N7⟩
       ·have U9 := iff_f dI B5
        have f := f.st 43 (cB B5)
        refine Y f 6 fun _ f => eT ?_
        have f := Frm.set f 49 (v := .bool false) (v' := .bool ((decide ((k : Int) = ((fst l : Int) + 1))) && (decide (((l.getD (fst l) 0).toNat : Int) = 48)))) (by kernel_rfl) (by simp only [B5, Bool.and_true, Bool.true_and, Bool.false_and, Bool.and_false, Bool.or_true, Bool.true_or, Bool.or_false, Bool.false_or, Bool.not_true, Bool.not_false, cond_true, cond_false])
        exact ⟨f.kp, N7⟩
      ·rintro a_28 W8 ⟨f, N8⟩
       refine T_n (Y6 f (b := (decide ((k : Int) = ((fst l : Int) + 1))) && (decide (((l.getD (fst l) 0).toNat : Int) = 48))) (fun B6 => ?_) fun B6 => ?_)
       ·have U10 : ((k : Int) = ((fst l : Int) + 1)) ∧ (((l.getD (fst l) 0).toNat : Int) = 48) := (and_iff dI dI).1 B6
        refine RR (Y f 2 fun _ f => Y f 1 fun _ f => ?_)
        have f := Frm.set f 52 (v := .int .i64 (IntKind.wrap .i64 (at_ + (k : Int)))) (v' := .int .i64 (at_ + (k : Int))) (by kernel_rfl) (congrArg (Value.int .i64) (IntWalk.i64_in _ (by omega)))
        refine Y f 3 fun _ f => eT (wp_ret (T_r (B_r (T_r (T_r (B_r (T_r (E_ret3 f rfl (by kernel_rfl : Vc.look _ 4 = some (.int .i64 0)) (by kernel_rfl : Vc.look _ 5 = some (.int .i64 (at_ + (k : Int)))) (by kernel_rfl : Vc.look _ 6 = some (.int .i64 20)) (⟨_, rfl, V2, (J1.trans J2), N8, ?_⟩)))))))))
        obtain ⟨e1, e2⟩ := isboth U10
        exact tup3 (hsc.trans (I_s.early at_ B4 e1 e2))
       ·have U11 : ¬ (((k : Int) = ((fst l : Int) + 1)) ∧ (((l.getD (fst l) 0).toNat : Int) = 48)) := iff_f (and_iff dI dI) B6
        refine wp_skip (T_n (RR (Y f 2 fun _ f => eT (Y6 f (b := decide (n ≤ 9007199254740992)) (fun B7 => ?_) fun B7 => ?_))))
        ·have U12 := dI.1 B7
         refine R_reg (Y f 1 fun _ f => Y f 1 fun _ f => ?_)
         have f := Frm.set f 56 (v := .int .i64 (IntKind.wrap .i64 ((10 : Int) * n))) (v' := .int .i64 ((10 : Int) * n)) (by kernel_rfl) (congrArg (Value.int .i64) (IntWalk.i64_in _ (by omega)))
         refine Y f 2 fun _ f => Z f (Y31 rfl (ad := C1) (len := l.length + 1) (cap := P2) (k := .i64) (i := (k : Int)) (e := 5) (sz := 1) (by omega) (by omega)) fun _ f => Z f (Y33 (v := .int .u8 ((l.getD k 0).toNat : Int)) rfl (ad := C1.add (((k : Int)).toNat * 1)) (N8.cell (KZ.get (kz_1.mono J2) (by omega) (by omega)))) fun _ f => ?_
         have hb_4 := byte_lt (l.getD k 0)
         refine Y f 1 fun _ f => ?_
         have f := Frm.set f 61 (v := .int .u8 (IntKind.wrap .u8 (((l.getD k 0).toNat : Int) - 48))) (v' := .int .u8 ((((l.getD k 0).toNat : Int) - 48) % 256)) (by kernel_rfl) (congrArg (Value.int .u8) (IntKind.wrap_u8 _))
         refine Y f 1 fun _ f => ?_
         have f := Frm.set f 62 (v := .int .i64 (IntKind.wrap .i64 ((((l.getD k 0).toNat : Int) - 48) % 256))) (v' := .int .i64 ((((l.getD k 0).toNat : Int) - 48) % 256)) (by kernel_rfl) (congrArg (Value.int .i64) (IntWalk.i64_in _ (by omega)))
         refine Y f 1 fun _ f => ?_
         have f := Frm.set f 63 (v := .int .i64 (IntKind.wrap .i64 (((10 : Int) * n) + ((((l.getD k 0).toNat : Int) - 48) % 256)))) (v' := .int .i64 (((10 : Int) * n) + ((((l.getD k 0).toNat : Int) - 48) % 256))) (by kernel_rfl) (congrArg (Value.int .i64) (IntWalk.i64_in _ (by omega)))
         refine Y f 1 fun _ f => W_end rfl (B_n (T_n (R_reg (Y f 1 fun _ f => Y f 1 fun _ f => ?_))))
         have f := Frm.set f 38 (v := .int .i64 (IntKind.wrap .i64 ((k : Int) + 1))) (v' := .int .i64 ((k : Int) + 1)) (by kernel_rfl) (congrArg (Value.int .i64) (IntWalk.i64_in _ (by omega)))
         refine Y f 1 fun _ f => eT ?_
         have hkl := I_s.lt B4
         have hzz := notboth U11
         have f := Frm.set f 9 (v := .int .i64 ((k : Int) + 1)) (v' := .int .i64 ((k + 1) : Int)) (by kernel_rfl) (by first | rfl | (congr 1; omega) | simp)
         refine ⟨((k + 1, ((10 : Int) * n) + ((((l.getD k 0).toNat : Int) - 48) % 256), 10 * v + ((l.getD k 0).toNat - 48)) : Nat × Int × Nat), ?_, V2, J2, ?_, f.kp, N8⟩
         ·show l.length + 1 - (k + 1) < l.length + 1 - k; omega
         ·exact ⟨I_s.step B4 hkl hzz, K_s.more _ B4 U12⟩
        ·have U13 := iff_f dI B7
         refine wp_skip (B_n (T_n (R_reg (Y f 1 fun _ f => Y f 1 fun _ f => ?_))))
         have f := Frm.set f 38 (v := .int .i64 (IntKind.wrap .i64 ((k : Int) + 1))) (v' := .int .i64 ((k : Int) + 1)) (by kernel_rfl) (congrArg (Value.int .i64) (IntWalk.i64_in _ (by omega)))
         refine Y f 1 fun _ f => eT ?_
         have hkl := I_s.lt B4
         have hzz := notboth U11
         have f := Frm.set f 9 (v := .int .i64 ((k : Int) + 1)) (v' := .int .i64 ((k + 1) : Int)) (by kernel_rfl) (by first | rfl | (congr 1; omega) | simp)
         refine ⟨((k + 1, n, 10 * v + ((l.getD k 0).toNat - 48)) : Nat × Int × Nat), ?_, V2, J2, ?_, f.kp, N8⟩
         ·show l.length + 1 - (k + 1) < l.length + 1 - k; omega
         ·exact ⟨I_s.step B4 hkl hzz, K_s.full U13⟩
     ·refine wp_exit (T_x (T_x (B_x (T_n (R_seq (RR (Y f 2 fun _ f => Z f (Y31 rfl (ad := C1) (len := l.length + 1) (cap := P2) (k := .i64) (i := (k : Int)) (e := 5) (sz := 1) (by omega) (by omega)) fun _ f => Z f (Y33 (v := .int .u8 ((l.getD k 0).toNat : Int)) rfl (ad := C1.add (((k : Int)).toNat * 1)) (N7.cell (KZ.get (kz_1.mono J2) (by omega) (by omega)))) fun _ f => ?_)))))))
      have hb_5 := byte_lt (l.getD k 0)
      refine Y f 1 fun _ f => eT (wp_block (R_seq (RR (Y f 4 fun _ f => eT (R_mid (fun a_61 W9 => Frm 110 [(1, .int .i64 at_), (4, .int .i64 n), (8, .bool (neg l)), (9, .int .i64 (k : Int)), (68, .bool ((decide ((k : Int) = (fst l : Int))) || ((decide ((at_ + (k : Int)) < (s.length : Int))) && ((decide (((l.getD k 0).toNat : Int) = 46)) || ((decide (((l.getD k 0).toNat : Int) = 101)) || (decide (((l.getD k 0).toNat : Int) = 69)))))))] a_61 ∧ Hp w0 V2 (H) W9) ?_ ?_)))))
      ·refine Y6 f (b := decide ((k : Int) = (fst l : Int))) (fun B8 => ?_) fun B8 => ?_
       ·have U15 := dI.1 B8
        refine wp_skip (T_n ?_)
        have f := Frm.set f 68 (v := .bool (decide ((k : Int) = (fst l : Int)))) (v' := .bool ((decide ((k : Int) = (fst l : Int))) || ((decide ((at_ + (k : Int)) < (s.length : Int))) && ((decide (((l.getD k 0).toNat : Int) = 46)) || ((decide (((l.getD k 0).toNat : Int) = 101)) || (decide (((l.getD k 0).toNat : Int) = 69))))))) (by kernel_rfl) (by simp only [B8, Bool.and_true, Bool.true_and, Bool.false_and, Bool.and_false, Bool.or_true, Bool.true_or, Bool.or_false, Bool.false_or, Bool.not_true, Bool.not_false, cond_true, cond_false])
        exact ⟨f.kp, N7⟩
       ·have U16 := iff_f dI B8
        refine R_mid (fun a_62 W10 => Frm 110 [(1, .int .i64 at_), (4, .int .i64 n), (8, .bool (neg l)), (9, .int .i64 (k : Int)), (68, .bool ((decide ((at_ + (k : Int)) < (s.length : Int))) && ((decide (((l.getD k 0).toNat : Int) = 46)) || ((decide (((l.getD k 0).toNat : Int) = 101)) || (decide (((l.getD k 0).toNat : Int) = 69))))))] a_62 ∧ Hp w0 V2 (H) W10) ?_ ?_
        ·refine R_reg (Y f 2 fun _ f => Y f 1 fun _ f => ?_)
         have f := Frm.set f 74 (v := .int .i64 (IntKind.wrap .i64 (at_ + (k : Int)))) (v' := .int .i64 (at_ + (k : Int))) (by kernel_rfl) (congrArg (Value.int .i64) (IntWalk.i64_in _ (by omega)))
         refine Y f 4 fun _ f => ?_
         rcases bE (decide ((at_ + (k : Int)) < (s.length : Int))) with B9 | B9
         ·have U17 := dI.1 B9
          have f := f.st 78 (cB B9)
          refine Y f 3 fun _ f => ?_
          rcases bE (decide (((l.getD k 0).toNat : Int) = 46)) with B10 | B10
          ·have U18 := dI.1 B10
           have f := f.st 81 (cB B10)
           refine Y f 9 fun _ f => eT ?_
           have f := Frm.set f 68 (v := .bool true) (v' := .bool ((decide ((at_ + (k : Int)) < (s.length : Int))) && ((decide (((l.getD k 0).toNat : Int) = 46)) || ((decide (((l.getD k 0).toNat : Int) = 101)) || (decide (((l.getD k 0).toNat : Int) = 69)))))) (by kernel_rfl) (by simp only [B9, B10, Bool.and_true, Bool.true_and, Bool.false_and, Bool.and_false, Bool.or_true, Bool.true_or, Bool.or_false, Bool.false_or, Bool.not_true, Bool.not_false, cond_true, cond_false])
           exact ⟨f.kp, N7⟩
          ·have U19 := iff_f dI B10
           have f := f.st 81 (cB B10)
           refine Y f 4 fun _ f => ?_
           rcases bE (decide (((l.getD k 0).toNat : Int) = 101)) with B11 | B11
           ·have U20 := dI.1 B11
            have f := f.st 85 (cB B11)
            refine Y f 5 fun _ f => eT ?_
            have f := Frm.set f 68 (v := .bool true) (v' := .bool ((decide ((at_ + (k : Int)) < (s.length : Int))) && ((decide (((l.getD k 0).toNat : Int) = 46)) || ((decide (((l.getD k 0).toNat : Int) = 101)) || (decide (((l.getD k 0).toNat : Int) = 69)))))) (by kernel_rfl) (by simp only [B9, B10, B11, Bool.and_true, Bool.true_and, Bool.false_and, Bool.and_false, Bool.or_true, Bool.true_or, Bool.or_false, Bool.false_or, Bool.not_true, Bool.not_false, cond_true, cond_false])
            exact ⟨f.kp, N7⟩
           ·have U21 := iff_f dI B11
            have f := f.st 85 (cB B11)
            refine Y f 5 fun _ f => eT ?_
            have f := Frm.set f 68 (v := .bool (decide (((l.getD k 0).toNat : Int) = 69))) (v' := .bool ((decide ((at_ + (k : Int)) < (s.length : Int))) && ((decide (((l.getD k 0).toNat : Int) = 46)) || ((decide (((l.getD k 0).toNat : Int) = 101)) || (decide (((l.getD k 0).toNat : Int) = 69)))))) (by kernel_rfl) (by simp only [B9, B10, B11, Bool.and_true, Bool.true_and, Bool.false_and, Bool.and_false, Bool.or_true, Bool.true_or, Bool.or_false, Bool.false_or, Bool.not_true, Bool.not_false, cond_true, cond_false])
            exact ⟨f.kp, N7⟩
         ·have U22 := iff_f dI B9
          have f := f.st 78 (cB B9)
          refine Y f 12 fun _ f => eT ?_
          have f := Frm.set f 68 (v := .bool false) (v' := .bool ((decide ((at_ + (k : Int)) < (s.length : Int))) && ((decide (((l.getD k 0).toNat : Int) = 46)) || ((decide (((l.getD k 0).toNat : Int) = 101)) || (decide (((l.getD k 0).toNat : Int) = 69)))))) (by kernel_rfl) (by simp only [B9, Bool.and_true, Bool.true_and, Bool.false_and, Bool.and_false, Bool.or_true, Bool.true_or, Bool.or_false, Bool.false_or, Bool.not_true, Bool.not_false, cond_true, cond_false])
          exact ⟨f.kp, N7⟩
        ·rintro a_62 W10 ⟨f, N10⟩
         refine T_n ?_
         have f := Frm.set f 68 (v := .bool ((decide ((at_ + (k : Int)) < (s.length : Int))) && ((decide (((l.getD k 0).toNat : Int) = 46)) || ((decide (((l.getD k 0).toNat : Int) = 101)) || (decide (((l.getD k 0).toNat : Int) = 69)))))) (v' := .bool ((decide ((k : Int) = (fst l : Int))) || ((decide ((at_ + (k : Int)) < (s.length : Int))) && ((decide (((l.getD k 0).toNat : Int) = 46)) || ((decide (((l.getD k 0).toNat : Int) = 101)) || (decide (((l.getD k 0).toNat : Int) = 69))))))) (by kernel_rfl) (by simp only [B8, Bool.and_true, Bool.true_and, Bool.false_and, Bool.and_false, Bool.or_true, Bool.true_or, Bool.or_false, Bool.false_or, Bool.not_true, Bool.not_false, cond_true, cond_false])
         exact ⟨f.kp, N10⟩
      ·rintro a_61 W9 ⟨f, N9⟩
       refine T_n (Y6 f (b := (decide ((k : Int) = (fst l : Int))) || ((decide ((at_ + (k : Int)) < (s.length : Int))) && ((decide (((l.getD k 0).toNat : Int) = 46)) || ((decide (((l.getD k 0).toNat : Int) = 101)) || (decide (((l.getD k 0).toNat : Int) = 69)))))) (fun B12 => ?_) fun B12 => ?_)
       ·have U23 : ((k : Int) = (fst l : Int)) ∨ (((at_ + (k : Int)) < (s.length : Int)) ∧ ((((l.getD k 0).toNat : Int) = 46) ∨ ((((l.getD k 0).toNat : Int) = 101) ∨ (((l.getD k 0).toNat : Int) = 69)))) := (or_iff dI (and_iff dI (or_iff dI (or_iff dI dI)))).1 B12
        refine RR (Y f 2 fun _ f => Y f 1 fun _ f => ?_)
        have f := Frm.set f 92 (v := .int .i64 (IntKind.wrap .i64 (at_ + (k : Int)))) (v' := .int .i64 (at_ + (k : Int))) (by kernel_rfl) (congrArg (Value.int .i64) (IntWalk.i64_in _ (by omega)))
        refine Y f 3 fun _ f => eT (wp_ret (B_r (T_r (E_ret3 f rfl (by kernel_rfl : Vc.look _ 4 = some (.int .i64 0)) (by kernel_rfl : Vc.look _ 5 = some (.int .i64 (at_ + (k : Int)))) (by kernel_rfl : Vc.look _ 6 = some (.int .i64 20)) (⟨_, rfl, V2, (J1.trans J2), N9, ?_⟩)))))
        exact tup3 (hsc.trans (I_s.e1 B4 U23))
       ·have U24 : ¬ (((k : Int) = (fst l : Int)) ∨ (((at_ + (k : Int)) < (s.length : Int)) ∧ ((((l.getD k 0).toNat : Int) = 46) ∨ ((((l.getD k 0).toNat : Int) = 101) ∨ (((l.getD k 0).toNat : Int) = 69))))) := iff_f (or_iff dI (and_iff dI (or_iff dI (or_iff dI dI)))) B12
        refine R_seq (RR (Y f 1 fun _ f => Y18 f N9 (fits_ok _ (n)) fun W11 N11 _ f => Y f 2 fun _ f => eT (R_mid (fun a_78 W12 => Frm 110 [(1, .int .i64 at_), (4, .int .i64 n), (8, .bool (neg l)), (9, .int .i64 (k : Int)), (93, .bool ((!(fitsB n)) || ((neg l) && (decide (n = 0)))))] a_78 ∧ Hp w0 V2 (H) W12) ?_ ?_)))
        ·refine Y6 f (b := !(fitsB n)) (fun B13 => ?_) fun B13 => ?_
         ·have U25 : (fitsB n) = false := by simpa using B13
          refine wp_skip (T_n ?_)
          have f := Frm.set f 93 (v := .bool (!(fitsB n))) (v' := .bool ((!(fitsB n)) || ((neg l) && (decide (n = 0))))) (by kernel_rfl) (by simp only [B13, Bool.and_true, Bool.true_and, Bool.false_and, Bool.and_false, Bool.or_true, Bool.true_or, Bool.or_false, Bool.false_or, Bool.not_true, Bool.not_false, cond_true, cond_false])
          exact ⟨f.kp, N11⟩
         ·have U26 : (fitsB n) = true := by simpa using B13
          refine R_mid (fun a_79 W13 => Frm 110 [(1, .int .i64 at_), (4, .int .i64 n), (8, .bool (neg l)), (9, .int .i64 (k : Int)), (93, .bool ((neg l) && (decide (n = 0))))] a_79 ∧ Hp w0 V2 (H) W13) ?_ ?_
          ·refine R_reg (Y f 2 fun _ f => ?_)
           rcases bE (neg l) with B14 | B14
           ·have f := f.st 98 (cB B14)
            refine Y f 4 fun _ f => eT ?_
            have f := Frm.set f 93 (v := .bool (decide (n = 0))) (v' := .bool ((neg l) && (decide (n = 0)))) (by kernel_rfl) (by simp only [B14, Bool.and_true, Bool.true_and, Bool.false_and, Bool.and_false, Bool.or_true, Bool.true_or, Bool.or_false, Bool.false_or, Bool.not_true, Bool.not_false, cond_true, cond_false])
            exact ⟨f.kp, N11⟩
           ·have f := f.st 98 (cB B14)
            refine Y f 4 fun _ f => eT ?_
            have f := Frm.set f 93 (v := .bool false) (v' := .bool ((neg l) && (decide (n = 0)))) (by kernel_rfl) (by simp only [B14, Bool.and_true, Bool.true_and, Bool.false_and, Bool.and_false, Bool.or_true, Bool.true_or, Bool.or_false, Bool.false_or, Bool.not_true, Bool.not_false, cond_true, cond_false])
            exact ⟨f.kp, N11⟩
          ·rintro a_79 W13 ⟨f, N13⟩
           refine T_n ?_
           have f := Frm.set f 93 (v := .bool ((neg l) && (decide (n = 0)))) (v' := .bool ((!(fitsB n)) || ((neg l) && (decide (n = 0))))) (by kernel_rfl) (by simp only [B13, Bool.and_true, Bool.true_and, Bool.false_and, Bool.and_false, Bool.or_true, Bool.true_or, Bool.or_false, Bool.false_or, Bool.not_true, Bool.not_false, cond_true, cond_false])
           exact ⟨f.kp, N13⟩
        ·rintro a_78 W12 ⟨f, N12⟩
         refine T_n (Y6 f (b := (!(fitsB n)) || ((neg l) && (decide (n = 0)))) (fun B15 => ?_) fun B15 => ?_)
         ·have U29 : (¬ ((fitsB n) = true)) ∨ (((neg l) = true) ∧ (n = 0)) := (or_iff (not_iff Iff.rfl) (and_iff Iff.rfl dI)).1 B15
          refine RR (Y f 4 fun _ f => eT (wp_ret (B_r (T_r (E_ret3 f rfl (by kernel_rfl : Vc.look _ 4 = some (.int .i64 0)) (by kernel_rfl : Vc.look _ 5 = some (.int .i64 at_)) (by kernel_rfl : Vc.look _ 6 = some (.int .i64 20)) (⟨_, rfl, V2, (J1.trans J2), N12, ?_⟩))))))
          have hno := ScanI.no (l := l) (k := k) (sl := s.length) (at_ := at_) (by omega) U24
          exact tup3 (hsc.trans (I_s.e2 B4 hno (K_s.bad.1 U29)))
         ·have U30 : ¬ ((¬ ((fitsB n) = true)) ∨ (((neg l) = true) ∧ (n = 0))) := iff_f (or_iff (not_iff Iff.rfl) (and_iff Iff.rfl dI)) B15
          refine wp_skip (B_n (T_n (R_seq (RR (Y f 1 fun _ f => eT (Y6 f (b := neg l) (fun B16 => ?_) fun B16 => ?_))))))
          ·refine R_reg (Y f 1 fun _ f => Y f 1 fun _ f => ?_)
           have f := Frm.set f 105 (v := .int .i64 (IntKind.wrap .i64 (0 - n))) (v' := .int .i64 (-n)) (by kernel_rfl) (congrArg (Value.int .i64) ((IntWalk.i64_in _ (by omega)).trans (Int.zero_sub _)))
           refine Y f 1 fun _ f => eT (RR (Y f 3 fun _ f => Y f 1 fun _ f => ?_))
           have f := Frm.set f 109 (v := .int .i64 (IntKind.wrap .i64 (at_ + (k : Int)))) (v' := .int .i64 (at_ + (k : Int))) (by kernel_rfl) (congrArg (Value.int .i64) (IntWalk.i64_in _ (by omega)))
           refine Y f 3 fun _ f => eT (wp_ret (E_ret3 f rfl (by kernel_rfl : Vc.look _ 4 = some (.int .i64 (-n))) (by kernel_rfl : Vc.look _ 5 = some (.int .i64 (at_ + (k : Int)))) (by kernel_rfl : Vc.look _ 6 = some (.int .i64 0)) (⟨_, rfl, V2, (J1.trans J2), N12, ?_⟩)))
           have hno := ScanI.no (l := l) (k := k) (sl := s.length) (at_ := at_) (by omega) U24
           have hbb := fun x => U30 (K_s.bad.2 x)
           exact tup3 (hsc.trans ((I_s.e3 B4 hno hbb).trans (by rw [B16, K_s.val hbb]; rfl)))
          ·refine wp_skip (T_n (RR (Y f 3 fun _ f => Y f 1 fun _ f => ?_)))
           have f := Frm.set f 109 (v := .int .i64 (IntKind.wrap .i64 (at_ + (k : Int)))) (v' := .int .i64 (at_ + (k : Int))) (by kernel_rfl) (congrArg (Value.int .i64) (IntWalk.i64_in _ (by omega)))
           refine Y f 3 fun _ f => eT (wp_ret (E_ret3 f rfl (by kernel_rfl : Vc.look _ 4 = some (.int .i64 n)) (by kernel_rfl : Vc.look _ 5 = some (.int .i64 (at_ + (k : Int)))) (by kernel_rfl : Vc.look _ 6 = some (.int .i64 0)) (⟨_, rfl, V2, (J1.trans J2), N12, ?_⟩)))
           have hno := ScanI.no (l := l) (k := k) (sl := s.length) (at_ := at_) (by omega) U24
           have hbb := fun x => U30 (K_s.bad.2 x)
           exact tup3 (hsc.trans ((I_s.e3 B4 hno hbb).trans (by rw [B16, K_s.val hbb]; rfl)))
theorem readP_ok (M : Mem) (s : List UInt8) (hs : s.length ≤ 140737488351232) : Ok Tryz.prog M 126 [S s] (fun _ v => v = .tuple #[.int .i64 (read s).1, .int .i64 (read s).2]) := by
 intro M hM0 w0 H w p0
 refine R_enter 22 Tryz.func126 rfl rfl (by simp) fun a0 f0 => RR (Y f0 2 fun _ f => eT (R_seq (RR (Y f 1 fun _ f => Y18 f p0 (scanP_ok _ s 0 (by first | omega | decide | assumption | (simp only [List.length_append, List.length_cons, List.length_nil]; omega))) fun W1 N1 _ f => Y f 7 fun _ f => eT (R_seq (R_mid (fun a_5 W2 => Frm 22 [(4, .int .i64 (scan s 0).1), (20, .bool ((decide ((scan s 0).2.2 = 0)) && (decide ((scan s 0).2.1 = (s.length : Int)))))] a_5 ∧ Hp w0 M (H) W2) ?_ ?_))))))
 ·refine R_reg (Y f 3 fun _ f => ?_)
  rcases bE (decide ((scan s 0).2.2 = 0)) with B1 | B1
  ·have U1 := dI.1 B1
   have f := f.st 15 (cB B1)
   refine Y f 5 fun _ f => eT ?_
   have f := Frm.set f 20 (v := .bool (decide ((scan s 0).2.1 = (s.length : Int)))) (v' := .bool ((decide ((scan s 0).2.2 = 0)) && (decide ((scan s 0).2.1 = (s.length : Int))))) (by kernel_rfl) (by simp only [B1, Bool.and_true, Bool.true_and, Bool.false_and, Bool.and_false, Bool.or_true, Bool.true_or, Bool.or_false, Bool.false_or, Bool.not_true, Bool.not_false, cond_true, cond_false])
   exact ⟨f.kp, N1⟩
  ·have U2 := iff_f dI B1
   have f := f.st 15 (cB B1)
   refine Y f 5 fun _ f => eT ?_
   have f := Frm.set f 20 (v := .bool false) (v' := .bool ((decide ((scan s 0).2.2 = 0)) && (decide ((scan s 0).2.1 = (s.length : Int))))) (by kernel_rfl) (by simp only [B1, Bool.and_true, Bool.true_and, Bool.false_and, Bool.and_false, Bool.or_true, Bool.true_or, Bool.or_false, Bool.false_or, Bool.not_true, Bool.not_false, cond_true, cond_false])
   exact ⟨f.kp, N1⟩
 ·rintro a_5 W2 ⟨f, N2⟩
  refine T_n (Y6 f (b := (decide ((scan s 0).2.2 = 0)) && (decide ((scan s 0).2.1 = (s.length : Int)))) (fun B2 => ?_) fun B2 => ?_)
  ·have U3 : ((scan s 0).2.2 = 0) ∧ ((scan s 0).2.1 = (s.length : Int)) := (and_iff dI dI).1 B2
   refine RR (Y f 3 fun _ f => eT (wp_ret (T_r (E_ret2 f rfl (by kernel_rfl : Vc.look _ 2 = some (.int .i64 (scan s 0).1)) (by kernel_rfl : Vc.look _ 3 = some (.int .i64 0)) (⟨_, rfl, M, (mR _), N2, ?_⟩)))))
   exact tup2 (if_pos (by omega))
  ·have U4 : ¬ (((scan s 0).2.2 = 0) ∧ ((scan s 0).2.1 = (s.length : Int))) := iff_f (and_iff dI dI) B2
   refine wp_skip (T_n (RR (Y f 2 fun _ f => eT (wp_ret (E_ret2 f rfl (by kernel_rfl : Vc.look _ 2 = some (.int .i64 0)) (by kernel_rfl : Vc.look _ 3 = some (.int .i64 20)) (⟨_, rfl, M, (mR _), N2, ?_⟩))))))
   exact tup2 (if_neg (by omega))
theorem textIn_ok (M : Mem) (bp bo n : Nat) : ∀ (hn : n ≤ 9007199254740992) (v : Value) (k : Nat) (xs : List Value) (hk : k ≤ 1000), OkH Tryz.prog M [Ent.obj bp (.cells #[.func (.func 122) #[] #[.pointer (some (⟨bp, 0, none⟩)), .pointer (some (⟨bo, 0, none⟩))]] 155 (0, 0)), Ent.obj bo (.cells #[v] 92 (0, 0)), Ent.row 5 1 v k xs] 122 [.int .i64 (n : Int), .pointer (some (⟨bp, 0, none⟩)), .pointer (some (⟨bo, 0, none⟩))] (fun _ E2 r => r = .tuple #[] ∧ ∃ v2, E2 = [Ent.obj bp (.cells #[.func (.func 122) #[] #[.pointer (some (⟨bp, 0, none⟩)), .pointer (some (⟨bo, 0, none⟩))]] 155 (0, 0)), Ent.obj bo (.cells #[v2] 92 (0, 0)), Ent.row 5 1 v2 (k + (digs n).length) (xs ++ byteCs (digs n))]) := by
 induction n using Nat.strongRecOn generalizing M
 rename_i n ih
 intro hn v k xs hk
 have hl1 := digs_len16 hn
 have hl2 := digs_len16 (n := n / 10) (by omega)
 intro M hM0 w0 H w p0
 refine R_enter 17 Tryz.func122 rfl rfl (by simp) fun a0 f0 => R_seq (RR (Y f0 2 fun _ f => eT (Y6 f (b := decide ((9 : Int) < (n : Int))) (fun B1 => ?_) fun B1 => ?_)))
 ·have U1 := dI.1 B1
  refine R_reg (Z f (Y33 (v := .func (.func 122) #[] #[.pointer (some (⟨bp, 0, none⟩)), .pointer (some (⟨bo, 0, none⟩))]) rfl (ad := ⟨bp, 0, none⟩) (p0.ownCell 0 rfl 0)) fun _ f => Y f 1 fun _ f => Y f 1 fun _ f => ?_)
  have f := Frm.set f 8 (v := .int .i64 (IntKind.wrap .i64 ((n : Int).tdiv 10))) (v' := .int .i64 ((n : Int) / 10)) (by kernel_rfl) (congrArg (Value.int .i64) (quo_i64 (by omega) (by decide) (by omega)))
  have f := Frm.set f 8 (v := .int .i64 ((n : Int) / 10)) (v' := .int .i64 ((n / 10 : Nat) : Int)) (by kernel_rfl) (congrArg (Value.int .i64) (by omega))
  refine Y17 (E := [Ent.obj bp (.cells #[.func (.func 122) #[] #[.pointer (some (⟨bp, 0, none⟩)), .pointer (some (⟨bo, 0, none⟩))]] 155 (0, 0)), Ent.obj bo (.cells #[v] 92 (0, 0)), Ent.row 5 1 v k xs]) (H := (H)) f p0 (ih (n / 10) (by omega) _ (by omega) v k xs hk) fun v_1 V1 E_1 W1 J1 N1 q_1 _ f => ?_
  obtain ⟨rfl, v2, rfl⟩ := q_1
  have N2 : Hp w0 M ((Ent.obj bp (.cells #[.func (.func 122) #[] #[.pointer (some (⟨bp, 0, none⟩)), .pointer (some (⟨bo, 0, none⟩))]] 155 (0, 0))) :: (Ent.obj bo (.cells #[v2] 92 (0, 0))) :: (Ent.row 5 1 v2 (k + (digs (n / 10)).length) (xs ++ byteCs (digs (n / 10)))) :: H) W1 := N1.less J1
  refine eT (R_reg (Z f (Y33 (v := v2) rfl (ad := ⟨bo, 0, none⟩) (N2.ownCell 1 rfl 0)) fun _ f => Y f 1 fun _ f => Y f 1 fun _ f => ?_))
  have f := Frm.set f 12 (v := .int .i64 ((n : Int).tmod 10)) (v' := .int .i64 ((n : Int) % 10)) (by kernel_rfl) (congrArg (Value.int .i64) (rem_nn (by omega)))
  refine Y f 1 fun _ f => ?_
  have f := Frm.set f 13 (v := .int .i64 (IntKind.wrap .i64 ((48 : Int) + ((n : Int) % 10)))) (v' := .int .i64 ((48 : Int) + ((n : Int) % 10))) (by kernel_rfl) (congrArg (Value.int .i64) (IntWalk.i64_in _ (by omega)))
  refine Y f 1 fun _ f => ?_
  have f := Frm.set f 14 (v := .int .u8 (IntKind.wrap .u8 ((48 : Int) + ((n : Int) % 10)))) (v' := .int .u8 (((48 : Int) + ((n : Int) % 10)) % 256)) (by kernel_rfl) (congrArg (Value.int .u8) (IntKind.wrap_u8 _))
  have f := Frm.set f 14 (v := .int .u8 (((48 : Int) + ((n : Int) % 10)) % 256)) (v' := .int .u8 ((dch n).toNat : Int)) (by kernel_rfl) (congrArg (Value.int .u8) (dch_int n))
  refine V_allocS (k := 1) (c := 1) f N2 (.cells #[.int .u8 ((dch n).toNat : Int)] 5 (0, 0)) (by kernel_rfl) (fun _ => by kernel_rfl) fun Q1 W2 N3 _ f => ?_
  have N4 := N3.pl [3]
  refine W_append (d := 16) (t := 92) (e := 5) (z := .int .u8 0) (v := v2) (size := 1) (bytes := 1) (k := k + (digs (n / 10)).length) (m := 1) (c := 1) (xs := xs ++ byteCs (digs (n / 10))) (news := [.int .u8 ((dch n).toNat : Int)]) (ad := ⟨Q1, 0, none⟩) f N4 (by kernel_rfl) (by kernel_rfl) rfl rfl rfl (by kernel_rfl) (by kernel_rfl) (by kernel_rfl) (by kernel_rfl) (rfl) (own_cells (N4.ownCell 1 rfl) 0 rfl) (all_one (by kernel_rfl)) (by omega) (by omega) fun v_2 W3 N5 _ f => ?_
  have N6 := N5.pl [1]
  have N7 := N6.drop
  refine Y27 f N7 2 rfl rfl (b := bo) (j := 0) (v := v_2) (row_one (N7.rowAt 0 rfl)) (by exact rfl) (by simp) (by simp) ((Ent.row 5 1 v_2 ((k + (digs (n / 10)).length) + 1) ((xs ++ byteCs (digs (n / 10))) ++ [.int .u8 ((dch n).toNat : Int)])) :: (Ent.obj bp (.cells #[.func (.func 122) #[] #[.pointer (some (⟨bp, 0, none⟩)), .pointer (some (⟨bo, 0, none⟩))]] 155 (0, 0))) :: (Ent.obj bo (.cells #[v_2] 92 (0, 0))) :: H) rfl fun W4 N8 _ f => W_end rfl (E_end0 f rfl  ?_)
  have N9 : Hp w0 M ((Ent.row 5 1 v_2 (k + (digs n).length) (xs ++ byteCs (digs n))) :: (Ent.obj bp (.cells #[.func (.func 122) #[] #[.pointer (some (⟨bp, 0, none⟩)), .pointer (some (⟨bo, 0, none⟩))]] 155 (0, 0))) :: (Ent.obj bo (.cells #[v_2] 92 (0, 0))) :: H) W4 := N8.rowEq (by rw [digs_ge (n := n) (by omega)]; simp; omega) (by rw [digs_ge (n := n) (by omega), byteCs_append, List.append_assoc]; rfl)
  have N11 := N9.pl [2, 2]
  exact ⟨_, rfl, M, [Ent.obj bp (.cells #[.func (.func 122) #[] #[.pointer (some (⟨bp, 0, none⟩)), .pointer (some (⟨bo, 0, none⟩))]] 155 (0, 0)), Ent.obj bo (.cells #[v_2] 92 (0, 0)), Ent.row 5 1 v_2 (k + (digs n).length) (xs ++ byteCs (digs n))], mR _, N11, rfl, v_2, rfl⟩
 ·have U2 := iff_f dI B1
  refine wp_skip (T_n (R_reg (Z f (Y33 (v := v) rfl (ad := ⟨bo, 0, none⟩) (p0.ownCell 1 rfl 0)) fun _ f => Y f 1 fun _ f => Y f 1 fun _ f => ?_)))
  have f := Frm.set f 12 (v := .int .i64 ((n : Int).tmod 10)) (v' := .int .i64 ((n : Int) % 10)) (by kernel_rfl) (congrArg (Value.int .i64) (rem_nn (by omega)))
  refine Y f 1 fun _ f => ?_
  have f := Frm.set f 13 (v := .int .i64 (IntKind.wrap .i64 ((48 : Int) + ((n : Int) % 10)))) (v' := .int .i64 ((48 : Int) + ((n : Int) % 10))) (by kernel_rfl) (congrArg (Value.int .i64) (IntWalk.i64_in _ (by omega)))
  refine Y f 1 fun _ f => ?_
  have f := Frm.set f 14 (v := .int .u8 (IntKind.wrap .u8 ((48 : Int) + ((n : Int) % 10)))) (v' := .int .u8 (((48 : Int) + ((n : Int) % 10)) % 256)) (by kernel_rfl) (congrArg (Value.int .u8) (IntKind.wrap_u8 _))
  have f := Frm.set f 14 (v := .int .u8 (((48 : Int) + ((n : Int) % 10)) % 256)) (v' := .int .u8 ((dch n).toNat : Int)) (by kernel_rfl) (congrArg (Value.int .u8) (dch_int n))
  refine V_allocS (k := 1) (c := 1) f p0 (.cells #[.int .u8 ((dch n).toNat : Int)] 5 (0, 0)) (by kernel_rfl) (fun _ => by kernel_rfl) fun Q2 W5 N12 _ f => ?_
  have N13 := N12.pl [3]
  refine W_append (d := 16) (t := 92) (e := 5) (z := .int .u8 0) (v := v) (size := 1) (bytes := 1) (k := k) (m := 1) (c := 1) (xs := xs) (news := [.int .u8 ((dch n).toNat : Int)]) (ad := ⟨Q2, 0, none⟩) f N13 (by kernel_rfl) (by kernel_rfl) rfl rfl rfl (by kernel_rfl) (by kernel_rfl) (by kernel_rfl) (by kernel_rfl) (rfl) (own_cells (N13.ownCell 1 rfl) 0 rfl) (all_one (by kernel_rfl)) (by omega) (by omega) fun v_3 W6 N14 _ f => ?_
  have N15 := N14.pl [1]
  have N16 := N15.drop
  refine Y27 f N16 2 rfl rfl (b := bo) (j := 0) (v := v_3) (row_one (N16.rowAt 0 rfl)) (by exact rfl) (by simp) (by simp) ((Ent.row 5 1 v_3 (k + 1) (xs ++ [.int .u8 ((dch n).toNat : Int)])) :: (Ent.obj bp (.cells #[.func (.func 122) #[] #[.pointer (some (⟨bp, 0, none⟩)), .pointer (some (⟨bo, 0, none⟩))]] 155 (0, 0))) :: (Ent.obj bo (.cells #[v_3] 92 (0, 0))) :: H) rfl fun W7 N17 _ f => W_end rfl (E_end0 f rfl  ?_)
  have N18 : Hp w0 M ((Ent.row 5 1 v_3 (k + (digs n).length) (xs ++ byteCs (digs n))) :: (Ent.obj bp (.cells #[.func (.func 122) #[] #[.pointer (some (⟨bp, 0, none⟩)), .pointer (some (⟨bo, 0, none⟩))]] 155 (0, 0))) :: (Ent.obj bo (.cells #[v_3] 92 (0, 0))) :: H) W7 := N17.rowEq (by rw [digs_lt (n := n) (by omega)]; rfl) (by rw [digs_lt (n := n) (by omega)]; rfl)
  have N20 := N18.pl [2, 2]
  exact ⟨_, rfl, M, [Ent.obj bp (.cells #[.func (.func 122) #[] #[.pointer (some (⟨bp, 0, none⟩)), .pointer (some (⟨bo, 0, none⟩))]] 155 (0, 0)), Ent.obj bo (.cells #[v_3] 92 (0, 0)), Ent.row 5 1 v_3 (k + (digs n).length) (xs ++ byteCs (digs n))], mR _, N20, rfl, v_3, rfl⟩
theorem textP_ok (M : Mem) (n : Int) : Ok Tryz.prog M 98 [.int .i64 n] (fun _ v => v = .tuple #[S (text n).1, .int .i64 (text n).2]) := by
 intro M hM0 w0 H w p0
 refine R_enter 25 Tryz.func98 rfl rfl (by simp) fun a0 f0 => RR (Y f0 2 fun _ f => eT (R_seq (RR (Y f 1 fun _ f => Y18 f p0 (fits_ok _ (n)) fun W1 N1 _ f => Y f 1 fun _ f => eT (Y6 f (b := !(fitsB n)) (fun B1 => ?_) fun B1 => ?_)))))
 ·have U1 : (fitsB n) = false := by simpa using B1
  refine RR (Y f 2 fun _ f => eT (wp_ret (T_r (E_ret2 f rfl (by kernel_rfl : Vc.look _ 2 = some (S [])) (by kernel_rfl : Vc.look _ 3 = some (.int .i64 20)) (⟨_, rfl, M, (mR _), (N1.dropN 0), ?_⟩)))))
  rw [text_no U1]
 ·have U2 : (fitsB n) = true := by simpa using B1
  refine wp_skip (T_n (R_seq ?_))
  have hfit := U2
  have hfit2 := fitsB_iff.1 hfit
  refine R_reg (Y12 f N1 (.cells #[.slice none 0 0] 92 (0, 0)) fun Q1 W2 N2 _ f => eT (RR (Y12 f N2 (.cells #[.nilFunc] 155 (0, 0)) fun Q2 W3 N3 _ f => eT (RR (Y f 1 fun _ f => Y27 f N3 0 rfl rfl (b := Q2) (j := 0) (v := .func (.func 122) #[] #[.pointer (some (⟨Q2, 0, none⟩)), .pointer (some (⟨Q1, 0, none⟩))]) rfl (by exact rfl) (by simp) (by simp) ((Ent.obj Q2 (.cells #[.func (.func 122) #[] #[.pointer (some (⟨Q2, 0, none⟩)), .pointer (some (⟨Q1, 0, none⟩))]] 155 (0, 0))) :: (Ent.obj Q1 (.cells #[.slice none 0 0] 92 (0, 0))) :: H) rfl fun W4 N4 _ f => eT (R_seq (wp_block (RR (Y f 1 fun _ f => ?_)))))))))
  have N5 := N4.nilRow 5 1
  refine Y f 2 fun _ f => eT (Y6 f (b := decide (n < 0)) (fun B2 => ?_) fun B2 => ?_)
  ·have U3 := dI.1 B2
   refine RR (Z f (Y33 (v := .slice none 0 0) rfl (ad := ⟨Q1, 0, none⟩) (N5.ownCell 2 rfl 0)) fun _ f => V_allocS (k := 1) (c := 1) f N5 (.cells #[.int .u8 45] 5 (0, 0)) (by kernel_rfl) (fun _ => by kernel_rfl) fun Q3 W5 N6 _ f => ?_)
   have N7 := N6.pl [1]
   refine W_append (d := 18) (t := 92) (e := 5) (z := .int .u8 0) (v := .slice none 0 0) (size := 1) (bytes := 1) (k := 0) (m := 1) (c := 1) (xs := []) (news := [.int .u8 45]) (ad := ⟨Q3, 0, none⟩) f N7 (by kernel_rfl) (by kernel_rfl) rfl rfl rfl (by kernel_rfl) (by kernel_rfl) (by kernel_rfl) (by kernel_rfl) (rfl) (own_cells (N7.ownCell 1 rfl) 0 rfl) (all_one (by kernel_rfl)) (by omega) (by omega) fun v_1 W6 N8 _ f => ?_
   have N9 := N8.pl [1]
   have N10 := N9.drop
   refine Y27 f N10 2 rfl rfl (b := Q1) (j := 0) (v := v_1) (row_one (N10.rowAt 0 rfl)) (by exact rfl) (by simp) (by simp) ((Ent.row 5 1 v_1 (0 + 1) ([] ++ [.int .u8 45])) :: (Ent.obj Q2 (.cells #[.func (.func 122) #[] #[.pointer (some (⟨Q2, 0, none⟩)), .pointer (some (⟨Q1, 0, none⟩))]] 155 (0, 0))) :: (Ent.obj Q1 (.cells #[v_1] 92 (0, 0))) :: H) rfl fun W7 N11 _ f => eT (R_reg (Z f (Y33 (v := .func (.func 122) #[] #[.pointer (some (⟨Q2, 0, none⟩)), .pointer (some (⟨Q1, 0, none⟩))]) rfl (ad := ⟨Q2, 0, none⟩) (N11.ownCell 1 rfl 0)) fun _ f => Y f 1 fun _ f => Y f 1 fun _ f => ?_))
   have f := Frm.set f 21 (v := .int .i64 (IntKind.wrap .i64 (0 - n))) (v' := .int .i64 (-n)) (by kernel_rfl) (congrArg (Value.int .i64) ((IntWalk.i64_in _ (by omega)).trans (Int.zero_sub _)))
   have f := Frm.set f 21 (v := .int .i64 (-n)) (v' := .int .i64 ((-n).toNat : Int)) (by kernel_rfl) (congrArg (Value.int .i64) (by omega))
   have N13 := N11.pl [2, 2]
   refine Y17 (E := [Ent.obj Q2 (.cells #[.func (.func 122) #[] #[.pointer (some (⟨Q2, 0, none⟩)), .pointer (some (⟨Q1, 0, none⟩))]] 155 (0, 0)), Ent.obj Q1 (.cells #[v_1] 92 (0, 0)), Ent.row 5 1 v_1 (0 + 1) ([] ++ [.int .u8 45])]) (H := (H)) f N13 (textIn_ok _ Q2 Q1 ((-n).toNat) (by omega) (v_1) (0 + 1) ([] ++ [.int .u8 45]) (by omega)) fun v_2 V1 E_1 W8 J1 N14 q_1 _ f => ?_
   obtain ⟨rfl, v3, rfl⟩ := q_1
   have N15 : Hp w0 M ((Ent.obj Q2 (.cells #[.func (.func 122) #[] #[.pointer (some (⟨Q2, 0, none⟩)), .pointer (some (⟨Q1, 0, none⟩))]] 155 (0, 0))) :: (Ent.obj Q1 (.cells #[v3] 92 (0, 0))) :: (Ent.row 5 1 v3 ((0 + 1) + (digs (-n).toNat).length) (([] ++ [.int .u8 45]) ++ byteCs (digs (-n).toNat))) :: H) W8 := N14.less J1
   refine W_end rfl (B_n (T_n (RR (Z f (Y33 (v := v3) rfl (ad := ⟨Q1, 0, none⟩) (N15.ownCell 1 rfl 0)) fun _ f => ?_))))
   have N16 := N15.pl [2]
   have N17 : Hp w0 M ((Ent.row 5 1 v3 (45 :: digs (-n).toNat).length (byteCs (45 :: digs (-n).toNat))) :: (Ent.obj Q2 (.cells #[.func (.func 122) #[] #[.pointer (some (⟨Q2, 0, none⟩)), .pointer (some (⟨Q1, 0, none⟩))]] 155 (0, 0))) :: (Ent.obj Q1 (.cells #[v3] 92 (0, 0))) :: H) W8 := N16.rowEq (by simp <;> omega) (by simp [byteCs])
   refine Z (v := S (45 :: digs (-n).toNat)) f (X_string_row rfl (l := 45 :: digs (-n).toNat) (v := v3) (by kernel_rfl) (e := 5) (by kernel_rfl) (by kernel_rfl) (by kernel_rfl) (N17.rowAt 0 rfl)) fun _ f => Y f 2 fun _ f => eT (wp_ret (E_ret2 f rfl (by kernel_rfl : Vc.look _ 2 = some (S (45 :: digs (-n).toNat))) (by kernel_rfl : Vc.look _ 3 = some (.int .i64 0)) (⟨_, rfl, M, (mR _), (N17.dropN 3), ?_⟩)))
   rw [text_neg hfit U3]
  ·have U4 := iff_f dI B2
   refine R_reg (Z f (Y33 (v := .func (.func 122) #[] #[.pointer (some (⟨Q2, 0, none⟩)), .pointer (some (⟨Q1, 0, none⟩))]) rfl (ad := ⟨Q2, 0, none⟩) (N5.ownCell 1 rfl 0)) fun _ f => Y f 1 fun _ f => ?_)
   have f := Frm.set f 11 (v := .int .i64 n) (v' := .int .i64 (n.toNat : Int)) (by kernel_rfl) (congrArg (Value.int .i64) (by omega))
   have N19 := N5.pl [2, 2]
   refine Y17 (E := [Ent.obj Q2 (.cells #[.func (.func 122) #[] #[.pointer (some (⟨Q2, 0, none⟩)), .pointer (some (⟨Q1, 0, none⟩))]] 155 (0, 0)), Ent.obj Q1 (.cells #[.slice none 0 0] 92 (0, 0)), Ent.row 5 1 (.slice none 0 0) 0 []]) (H := (H)) f N19 (textIn_ok _ Q2 Q1 (n.toNat) (by omega) (.slice none 0 0) (0) ([]) (by omega)) fun v_3 V2 E_2 W9 J2 N20 q_2 _ f => ?_
   obtain ⟨rfl, v3, rfl⟩ := q_2
   have N21 : Hp w0 M ((Ent.obj Q2 (.cells #[.func (.func 122) #[] #[.pointer (some (⟨Q2, 0, none⟩)), .pointer (some (⟨Q1, 0, none⟩))]] 155 (0, 0))) :: (Ent.obj Q1 (.cells #[v3] 92 (0, 0))) :: (Ent.row 5 1 v3 (0 + (digs n.toNat).length) ([] ++ byteCs (digs n.toNat))) :: H) W9 := N20.less J2
   refine W_end rfl (B_n (T_n (RR (Z f (Y33 (v := v3) rfl (ad := ⟨Q1, 0, none⟩) (N21.ownCell 1 rfl 0)) fun _ f => ?_))))
   have N22 := N21.pl [2]
   have N23 : Hp w0 M ((Ent.row 5 1 v3 (digs n.toNat).length (byteCs (digs n.toNat))) :: (Ent.obj Q2 (.cells #[.func (.func 122) #[] #[.pointer (some (⟨Q2, 0, none⟩)), .pointer (some (⟨Q1, 0, none⟩))]] 155 (0, 0))) :: (Ent.obj Q1 (.cells #[v3] 92 (0, 0))) :: H) W9 := N22.rowEq (by simp) (by simp)
   refine Z (v := S (digs n.toNat)) f (X_string_row rfl (l := digs n.toNat) (v := v3) (by kernel_rfl) (e := 5) (by kernel_rfl) (by kernel_rfl) (by kernel_rfl) (N23.rowAt 0 rfl)) fun _ f => Y f 2 fun _ f => eT (wp_ret (E_ret2 f rfl (by kernel_rfl : Vc.look _ 2 = some (S (digs n.toNat))) (by kernel_rfl : Vc.look _ 3 = some (.int .i64 0)) (⟨_, rfl, M, (mR _), (N23.dropN 3), ?_⟩)))
   rw [text_pos hfit U4]
end Go.Proofs.YtocefedhenhbfaaGreatDoor
end

section
namespace Go.Num
open Go
theorem digs_ne (n : Nat) : digs n ≠ [] := by
 by_cases h : n < 10
 ·rw [digs_lt h]; simp
 ·rw [digs_ge h]; simp
theorem digs_pos (n : Nat) : 1 ≤ (digs n).length := by
 have := digs_ne n
 cases h : digs n with
 | nil => exact absurd h this
 | cons c r => simp
theorem text_fit {n : Int} (h : (text n).2 = 0) : fitsB n = true := by
 cases hf : fitsB n with
 | true => rfl
 | false => rw [text_no hf] at h; simp at h
end Go.Num
namespace Go.Num
open Go
theorem dig_dch (n : Nat) : dig (dch n) = true := by rw [dig_iff, dch_toNat]; omega
theorem digs_dig : ∀ (n : Nat), ∀ c ∈ digs n, dig c = true := by
 intro n
 induction n using Nat.strongRecOn with
 | _ n ih =>
  intro c hc
  by_cases h : n < 10
  ·rw [digs_lt h] at hc; simp only [List.mem_cons, List.not_mem_nil, or_false] at hc; rw [hc]; exact dig_dch n
  ·rw [digs_ge h] at hc
   rcases List.mem_append.1 hc with hc | hc
   ·exact ih (n / 10) (by omega) c hc
   ·simp only [List.mem_cons, List.not_mem_nil, or_false] at hc; rw [hc]; exact dig_dch n
theorem nd_app : ∀ (ds b : List UInt8) (k : Nat), (∀ c ∈ ds, dig c = true) → nd (ds ++ b) k = nd b (k + ds.length)
 | [], b, k, _ => by simp
 | c :: ds, b, k, h => by
  simp only [List.cons_append, nd, h c List.mem_cons_self, if_true]
  rw [nd_app ds b (k + 1) (fun x hx => h x (List.mem_cons_of_mem _ hx))]
  simp only [List.length_cons]; congr 1; omega
theorem vl_app : ∀ (ds b : List UInt8) (v : Nat), (∀ c ∈ ds, dig c = true) → vl (ds ++ b) v = vl b (vl ds v)
 | [], b, v, _ => by simp [vl]
 | c :: ds, b, v, h => by
  simp only [List.cons_append, vl, h c List.mem_cons_self, if_true]
  exact vl_app ds b _ (fun x hx => h x (List.mem_cons_of_mem _ hx))
theorem vl_digs : ∀ (n : Nat), vl (digs n) 0 = n := by
 intro n
 induction n using Nat.strongRecOn with
 | _ n ih =>
  by_cases h : n < 10
  ·rw [digs_lt h]; simp only [vl, dig_dch, if_true]; rw [dch_toNat]; omega
  ·rw [digs_ge h, vl_app _ _ _ (digs_dig _), ih (n / 10) (by omega)]
   simp only [vl, dig_dch, if_true]; rw [dch_toNat]; omega
theorem digs_zero : ∀ (n : Nat), (digs n).getD 0 0 = 48 → n = 0 := by
 intro n
 induction n using Nat.strongRecOn with
 | _ n ih =>
  intro h0
  by_cases h : n < 10
  ·rw [digs_lt h] at h0
   have : (dch n).toNat = 48 := by rw [show dch n = 48 by simpa using h0]; rfl
   rw [dch_toNat] at this; omega
  ·rw [digs_ge h] at h0
   have hp := digs_pos (n / 10)
   have : (digs (n / 10)).getD 0 0 = 48 := by
    rw [← h0]; simp only [List.getD]; rw [List.getElem?_append_left (by omega)]
   have := ih (n / 10) (by omega) this
   omega
def stops (b : List UInt8) : Prop := dig (b.getD 0 0) = false ∧ b.getD 0 0 ≠ 46 ∧ b.getD 0 0 ≠ 101 ∧ b.getD 0 0 ≠ 69
theorem getD_app (x b : List UInt8) (j : Nat) : (x ++ b).getD (x.length + j) 0 = b.getD j 0 := by
 simp [List.getD, List.getElem?_append_right]
theorem neg_digs (n : Nat) (b : List UInt8) : neg (digs n ++ b) = false := by
 have hp := digs_pos n
 cases h : digs n with
 | nil => rw [h] at hp; simp at hp
 | cons c r =>
  have hd := digs_dig n c (by rw [h]; exact List.mem_cons_self)
  rw [dig_iff] at hd
  simp only [neg, List.cons_append, List.getD_cons_zero, decide_eq_false_iff_not]
  intro e; rw [e] at hd; simp at hd
theorem scanL_text {n : Int} (hf : fitsB n = true) (b : List UInt8) (hb : stops b) (at_ : Int) : scanL ((text n).1 ++ b) at_ = (n, at_ + (text n).1.length, 0) := by
 obtain ⟨f1, f2⟩ := fitsB_iff.1 hf
 obtain ⟨b1, b2, b3, b4⟩ := hb
 have key : ∀ (f m : Nat) (l : List UInt8), l.drop f = digs m ++ b → fst l = f → (neg l = true → f = 1 ∧ m ≠ 0) → m ≤ 9007199254740992 → l.getD f 0 = (digs m ++ b).getD 0 0 → l.getD (f + (digs m).length) 0 = b.getD 0 0 →
   scanL l at_ = (if neg l then -(m : Int) else m, at_ + (f + (digs m).length : Nat), 0) := by
  intro f m l hd hfst hneg hm h0 hk
  have hp := digs_pos m
  have hnd : nd (l.drop f) f = f + (digs m).length := by
   rw [hd, nd_app _ _ _ (digs_dig m)]
   have := nd_stop b 0 b1
   cases b with
   | nil => rfl
   | cons c r =>
    have : dig c = false := by simpa using b1
    simp only [nd, this]; rfl
  have hvl : vl (l.drop f) 0 = m := by
   rw [hd, vl_app _ _ _ (digs_dig m), vl_digs]
   cases b with
   | nil => rfl
   | cons c r =>
    have : dig c = false := by simpa using b1
    simp only [vl, this]; rfl
  unfold scanL
  simp only []
  rw [hfst, hnd, hvl, hk, if_neg, if_neg, if_neg]
  ·unfold big; rintro (h | ⟨h, h'⟩)
   ·omega
   ·exact (hneg h).2 h'
  ·rintro (h | h | h | h)
   ·omega
   ·exact b2 h
   ·exact b3 h
   ·exact b4 h
  ·rintro ⟨h, h'⟩
   rw [h0] at h
   have h2 : (digs m).getD 0 0 = 48 := by
    rw [← h]; simp only [List.getD]; rw [List.getElem?_append_left (by omega)]
   have := digs_zero m h2
   subst this
   rw [digs_lt (by omega)] at h'
   simp at h'
 by_cases h0 : n < 0
 ·rw [text_neg hf h0]
  dsimp only
  have hn : neg (45 :: digs (-n).toNat ++ b) = true := by simp [neg]
  have := key 1 (-n).toNat (45 :: digs (-n).toNat ++ b) (by simp) (fst_t hn) (fun _ => ⟨rfl, by omega⟩) (by omega) (by simp [List.getD]) (by
   have := getD_app (45 :: digs (-n).toNat) b 0
   simp only [List.length_cons, Nat.add_zero] at this
   rw [Nat.add_comm 1]; exact this)
  rw [this, hn]
  simp only [if_true, List.length_cons]
  refine Prod.ext ?_ (Prod.ext ?_ rfl)
  ·dsimp only; omega
  ·dsimp only; omega
 ·rw [text_pos hf h0]
  dsimp only
  have hn := neg_digs n.toNat b
  have := key 0 n.toNat (digs n.toNat ++ b) (by simp) (fst_f hn) (fun h => by rw [hn] at h; cases h) (by omega) rfl (by
   have := getD_app (digs n.toNat) b 0
   simpa using this)
  rw [this, hn]
  refine Prod.ext ?_ (Prod.ext ?_ rfl)
  ·show (n.toNat : Int) = n; omega
  ·dsimp only; omega
theorem stops_nil : stops [] := by unfold stops; decide
theorem read_text {n : Int} (hf : fitsB n = true) : read (text n).1 = (n, 0) := by
 have h := scanL_text hf [] stops_nil 0
 simp only [List.append_nil] at h
 have hs : scan (text n).1 0 = (n, 0 + ((text n).1.length : Int), 0) := by
  rw [scan_inside (by omega)]
  simpa using h
 unfold read
 rw [hs]
 simp
theorem text_zero (n : Int) : (text n).2 = 0 ↔ fitsB n = true := ⟨text_fit, fun h => by simp [text, h]⟩
theorem text_len {n : Int} (h : fitsB n = true) : (text n).1.length ≤ 17 := by
 have h2 := fitsB_iff.1 h
 by_cases h0 : n < 0
 ·rw [text_neg h h0]; have := digs_len16 (n := (-n).toNat) (by omega); simp; omega
 ·rw [text_pos h h0]; have := digs_len16 (n := n.toNat) (by omega); dsimp only; omega
end Go.Num
end
