/-
  Texts of this claim, packed (what nothing names is left out): P2, P3, P4, PrintP3, PrintP4, Q2h, Q2g, Q2i, LSame, TreeR, PrintLSame, Vo2, Op. Own work, partly printed by own programs. No condition.
-/
import Derived.Test.YtfaedhhjamaniaaDoorPkS3
import Derived.Test.YtfaedhhjamaniaaDoorPkS2
import Derived.Test.YtfaedhhjamaniaaDoorPkS1
import Derived.Test.YtfaedhhjamaniaaDoorRows
set_option linter.unusedVariables false
set_option linter.unusedSimpArgs false
set_option maxHeartbeats 2000000
section
namespace Go.Proofs.YtfaedhhjamaniaaDoor
open Go Go.Vc Go.RowKit
def print_writer_list_1 (n : Nat) (d0 : Int) : Option Unit :=
  some (())
theorem print_writer_list_1_ok (n : Nat) (M : Mem) (hG : GL M) (d0 : Int) (r : Unit) (hF : print_writer_list_1 n d0 = some r) : Ok Tryd.prog M 53 [.int .i64 d0] (fun _ v => v = .tuple #[]) := by
 unfold print_writer_list_1 at hF
 intro M1 hM0 w0 H w p0
 replace hG := GL.mono hM0 hG
 refine R_enter 2 Tryd.func53 rfl rfl (by simp) fun a0 f0 => wp_skip (E_end0 f0 rfl  ?_)
 obtain rfl := sI hF
 exact ⟨_, rfl, M1, (mR _), p0, rfl⟩
def print_writer_parts_2_s1 (n : Nat) (rec_print_writer_value : (List UInt8) → Bool → Int → TA0 → Option (List UInt8 × Bool × Int)) (d1 : TA0) (s_1 : Int × List UInt8 × Bool × Int) : Option (Lp (Int × List UInt8 × Bool × Int) (List UInt8 × Bool × Int)) :=
    bif (decide (s_1.1 < ((d1.fList.length : Nat) : Int))) then
      (((bif (decide ((0 : Int) < s_1.1)) then
          ((strings_Builder_WriteByte_2 n s_1.2.1 (s_1.2.2.1) s_1.2.2.2 (44 : Int)).bind fun x_2 =>
          some ((x_2.2.1, (x_2.2.2.1), x_2.2.2.2)))
        else
          some ((s_1.2.1, (s_1.2.2.1), s_1.2.2.2)) : Option (List UInt8 × Bool × Int))).bind fun y_1 =>
      (print_writer_line n y_1.1 (y_1.2.1) y_1.2.2).bind fun x_3 =>
      (print_writer_list_1 n s_1.1).bind fun x_4 =>
      (getI d1.fList s_1.1).bind fun x_5 =>
      (rec_print_writer_value x_3.1 (x_3.2.1) x_3.2.2 x_5).bind fun x_6 =>
      need (inR .i64 (s_1.1 + 1)) <|
      some (.nx (s_1.1 + 1, x_6.1, (x_6.2.1), x_6.2.2)))
    else
      some (.br (s_1.2.1, (s_1.2.2.1), s_1.2.2.2))
def print_writer_parts_2 (n : Nat) (rec_print_writer_value : (List UInt8) → Bool → Int → TA0 → Option (List UInt8 × Bool × Int)) (d0_1 : List UInt8) (d0_2 : Bool) (d0_3 : Int) (d1 : TA0) (d2 : Int) (d3 : Int) : Option (List UInt8 × Bool × Int) :=
  (strings_Builder_WriteByte_2 n d0_1 (d0_2) d0_3 d2).bind fun x_1 =>
  need (inR .i64 (x_1.2.2.2 + 1)) <|
  (loopF (print_writer_parts_2_s1 n rec_print_writer_value d1) n ((0 : Int), x_1.2.1, (x_1.2.2.1), x_1.2.2.2 + 1)).bind fun y_2 =>
  need (inR .i64 (y_2.2.2 - 1)) <|
  ((bif (decide ((0 : Int) < ((d1.fList.length : Nat) : Int))) then
      ((print_writer_line n y_2.1 (y_2.2.1) (y_2.2.2 - 1)).bind fun x_7 =>
      some ((x_7.1, (x_7.2.1), x_7.2.2)))
    else
      some ((y_2.1, (y_2.2.1), y_2.2.2 - 1)) : Option (List UInt8 × Bool × Int))).bind fun y_3 =>
  (strings_Builder_WriteByte_2 n y_3.1 (y_3.2.1) y_3.2.2 d3).bind fun x_8 =>
  some ((x_8.2.1, (x_8.2.2.1), x_8.2.2.2))
set_option maxRecDepth 20000 in
theorem print_writer_parts_2_ok (n : Nat) (rec_print_writer_value : (List UInt8) → Bool → Int → TA0 → Option (List UInt8 × Bool × Int)) (hrec_print_writer_value : ∀ (M : Mem) (hG : GL M) (b0 : Nat) (A_1 : Option Addr) (hb_1 : (A_1 = none ∨ A_1 = some ⟨b0, 0, none⟩)) (d0_1 : List UInt8) (A_2 : Option Addr) (cap_1 : Nat) (cs_1 : List Value) (hr_1 : RepSeq M (d0_1.map embB) cs_1) (d0_2 : Bool) (d0_3 : Int) (ad1 : Addr) (c1 : List Value) (d1 : TA0) (h1 : Rep M (emb_TA0 d1) c1) (q1 : ∀ j v, c1[j]? = some v → M.cell? (ad1.add j) = some v) (r : List UInt8 × Bool × Int) (hF : rec_print_writer_value d0_1 d0_2 d0_3 d1 = some r), OkH Tryd.prog M [Ent.obj b0 (.cells #[.pointer A_1, .slice A_2 d0_1.length cap_1, .bool d0_2, .int .i64 d0_3] 50 (0, 0)), Ent.row 5 1 (.slice A_2 d0_1.length cap_1) d0_1.length cs_1] 23 [.pointer (some (⟨b0, 0, none⟩)), .pointer (some ad1)] (fun M' E' v => ∃ (A_3 : Option Addr) (A_4 : Option Addr) (cap_2 : Nat) (cs_2 : List Value), v = .tuple #[] ∧ E' = [Ent.obj b0 (.cells #[.pointer A_3, .slice A_4 r.1.length cap_2, .bool r.2.1, .int .i64 r.2.2] 50 (0, 0)), Ent.row 5 1 (.slice A_4 r.1.length cap_2) r.1.length cs_2] ∧ (A_3 = none ∨ A_3 = some ⟨b0, 0, none⟩) ∧ RepSeq M' (r.1.map embB) cs_2)) (M : Mem) (hG : GL M) (b0 : Nat) (A_1 : Option Addr) (hb_1 : (A_1 = none ∨ A_1 = some ⟨b0, 0, none⟩)) (d0_1 : List UInt8) (A_2 : Option Addr) (cap_1 : Nat) (cs_1 : List Value) (hr_1 : RepSeq M (d0_1.map embB) cs_1) (d0_2 : Bool) (d0_3 : Int) (ad1 : Addr) (c1 : List Value) (d1 : TA0) (h1 : Rep M (emb_TA0 d1) c1) (q1 : ∀ j v, c1[j]? = some v → M.cell? (ad1.add j) = some v) (d2 : Int) (d3 : Int) (r : List UInt8 × Bool × Int) (hF : print_writer_parts_2 n rec_print_writer_value d0_1 d0_2 d0_3 d1 d2 d3 = some r) : OkH Tryd.prog M [Ent.obj b0 (.cells #[.pointer A_1, .slice A_2 d0_1.length cap_1, .bool d0_2, .int .i64 d0_3] 50 (0, 0)), Ent.row 5 1 (.slice A_2 d0_1.length cap_1) d0_1.length cs_1] 52 [.pointer (some (⟨b0, 0, none⟩)), .pointer (some ad1), .int .u8 d2, .int .u8 d3, .func (.func 53) #[] #[]] (fun M' E' v => ∃ (A_27 : Option Addr) (A_28 : Option Addr) (cap_16 : Nat) (cs_12 : List Value), v = .tuple #[] ∧ E' = [Ent.obj b0 (.cells #[.pointer A_27, .slice A_28 r.1.length cap_16, .bool r.2.1, .int .i64 r.2.2] 50 (0, 0)), Ent.row 5 1 (.slice A_28 r.1.length cap_16) r.1.length cs_12] ∧ (A_27 = none ∨ A_27 = some ⟨b0, 0, none⟩) ∧ RepSeq M' (r.1.map embB) cs_12) := by
 unfold print_writer_parts_2 at hF
 intro M1 hM0 w0 H w p0
 replace hG := GL.mono hM0 hG
 replace hr_1 := RepSeq.mono hM0 _ _ hr_1
 replace h1 := Rep.mono hM0 _ _ h1
 replace q1 := fun j v h => hM0.cell (q1 j v h)
 obtain ⟨A_3, cap_2, A_4, cap_3, rfl, h_1, h_2⟩ := TA0.opn h1
 refine R_enter 71 Tryd.func52 rfl rfl (by simp) fun a0 f0 => RR (Y f0 4 fun _ f => ?_)
 obtain ⟨x_1, hx_1, hF_1⟩ := bS hF
 refine Y16 (E := [Ent.obj b0 (.cells #[.pointer A_1, .slice A_2 d0_1.length cap_1, .bool d0_2, .int .i64 d0_3] 50 (0, 0)), Ent.row 5 1 (.slice A_2 d0_1.length cap_1) d0_1.length cs_1]) (H := (H)) f p0 (strings_Builder_WriteByte_2_ok n _ hG b0 A_1 hb_1 d0_1 A_2 cap_1 cs_1 hr_1 (d0_2) d0_3 d2 x_1 hx_1) fun _ M_1 E_1 w_1 hM_1 p_1 q_1 _ f => ?_
 obtain ⟨A_5, A_6, cap_4, cs_2, rfl, rfl, hb_2, hr_2⟩ := q_1
 refine eT (RR (Y f 3 fun _ f => Z f (Y30 (v := .int .i64 x_1.2.2.2) rfl (ad := ⟨b0, 3, none⟩) (p_1.ownCell 0 rfl 3)) fun _ f => ?_))
 obtain ⟨g_1, hF_2⟩ := nS hF_1
 refine Y f 1 fun _ f => ?_
 have f := f.st 20 (congrArg (Value.int .i64) (inR_wrap g_1))
 refine Y f 2 fun _ f => Y26 f p_1 0 rfl rfl (b := b0) (j := 3) (v := .int .i64 (x_1.2.2.2 + 1)) rfl (by exact rfl) (by simp) (by simp) ((Ent.obj b0 (.cells #[.pointer A_5, .slice A_6 x_1.2.1.length cap_4, .bool x_1.2.2.1, .int .i64 (x_1.2.2.2 + 1)] 50 (0, 0))) :: (Ent.row 5 1 (.slice A_6 x_1.2.1.length cap_4) x_1.2.1.length cs_2) :: H) rfl fun w_2 p_2 _ f => eT (R_seq (RR (Y f 3 fun _ f => Y14 f p_2 (fzu hM_1 q1) 4 rfl fun _ f => Y f 2 fun _ f => eT (wp_block ?_))))
 have p_3 := p_2.pl [1]
 obtain ⟨b_1, hL_1, hF_3⟩ := bS hF_2
 refine wp_mono (Q := fun e a w => (e = .exit 0 ∧ (∃ y_2 : List UInt8 × Bool × Int, b_1 = y_2 ∧ ∃ M_7 : Mem, M_1.le M_7 ∧ ∃ (A_19 : Option Addr), ∃ (A_20 : Option Addr), ∃ (cap_12 : Nat), ∃ (cs_8 : List Value), (A_19 = none ∨ A_19 = some ⟨b0, 0, none⟩) ∧ RepSeq M_7 (y_2.1.map embB) cs_8 ∧ Frm 71 [(0, .pointer (some (⟨b0, 0, none⟩))), (1, .pointer (some ad1)), (3, .int .u8 d3)] a ∧ Hp w0 M_7 ((Ent.row 5 1 (.slice A_20 y_2.1.length cap_12) y_2.1.length cs_8) :: (Ent.obj b0 (.cells #[.pointer A_19, .slice A_20 y_2.1.length cap_12, .bool y_2.2.1, .int .i64 y_2.2.2] 50 (0, 0))) :: H) w))) (R_loop (n := 71) (w0 := w0) (M := M_1) (fun (x : Nat × (Int × List UInt8 × Bool × Int) × (Option Addr) × (Option Addr) × Nat × (List Value)) => match x with | (m_1, s_1, A_7, A_8, cap_5, cs_3) => [(0, .pointer (some (⟨b0, 0, none⟩))), (1, .pointer (some ad1)), (3, .int .u8 d3), (4, .func (.func 53) #[] #[]), (27, .int .i64 ((d1.fList.length : Nat) : Int)), (28, .int .i64 s_1.1)]) (fun (x : Nat × (Int × List UInt8 × Bool × Int) × (Option Addr) × (Option Addr) × Nat × (List Value)) => match x with | (m_1, s_1, A_7, A_8, cap_5, cs_3) => ((Ent.row 5 1 (.slice A_8 s_1.2.1.length cap_5) s_1.2.1.length cs_3) :: (Ent.obj b0 (.cells #[.pointer A_7, .slice A_8 s_1.2.1.length cap_5, .bool s_1.2.2.1, .int .i64 s_1.2.2.2] 50 (0, 0))) :: H)) (fun (x : Nat × (Int × List UInt8 × Bool × Int) × (Option Addr) × (Option Addr) × Nat × (List Value)) (MM : Mem) => match x with | (m_1, s_1, A_7, A_8, cap_5, cs_3) => loopF (print_writer_parts_2_s1 n rec_print_writer_value d1) m_1 s_1 = some b_1 ∧ (A_7 = none ∨ A_7 = some ⟨b0, 0, none⟩) ∧ RepSeq MM (s_1.2.1.map embB) cs_3) (fun (x : Nat × (Int × List UInt8 × Bool × Int) × (Option Addr) × (Option Addr) × Nat × (List Value)) => match x with | (m_1, s_1, A_7, A_8, cap_5, cs_3) => m_1) (n, ((0 : Int), x_1.2.1, (x_1.2.2.1), x_1.2.2.2 + 1), A_5, A_6, cap_4, cs_2) (f.kp) p_3 ⟨hL_1, hb_2, hr_2⟩ ?_) ?_
 ·rintro ⟨m_1, s_1, A_7, A_8, cap_5, cs_3⟩ M_2 _ w_3 hM_2 I_1 f p_4
  obtain ⟨I_1L, hb_3, hr_3⟩ := I_1
  obtain ⟨m_2, r_1, rfl, hs_1, hn_1⟩ := loop_step I_1L
  unfold print_writer_parts_2_s1 at hs_1
  refine RR (Y f 1 fun _ f => eT (R_seq (RcF f hs_1 (fun h_3 hF_4 => ?_) fun h_3 hF_14 => ?_)))
  ·have k_1 := dI.1 h_3
   refine wp_skip (T_n (R_seq (wp_block (RR (Y f 2 fun _ f => eT (R_seq (RR (Y f 2 fun _ f => eT ?_))))))))
   obtain ⟨j_1, hj_1, hF_5⟩ := bS hF_4
   refine R_mid (fun a_17 w_5 => ∃ y_1 : List UInt8 × Bool × Int, j_1 = y_1 ∧ ∃ M_4 : Mem, M_2.le M_4 ∧ ∃ (A_11 : Option Addr), ∃ (A_12 : Option Addr), ∃ (cap_7 : Nat), ∃ (cs_5 : List Value), (A_11 = none ∨ A_11 = some ⟨b0, 0, none⟩) ∧ RepSeq M_4 (y_1.1.map embB) cs_5 ∧ Frm 71 [(0, .pointer (some (⟨b0, 0, none⟩))), (1, .pointer (some ad1)), (3, .int .u8 d3), (4, .func (.func 53) #[] #[]), (10, .int .i64 s_1.1), (27, .int .i64 ((d1.fList.length : Nat) : Int)), (28, .int .i64 s_1.1)] a_17 ∧ Hp w0 M_4 ((Ent.row 5 1 (.slice A_12 y_1.1.length cap_7) y_1.1.length cs_5) :: (Ent.obj b0 (.cells #[.pointer A_11, .slice A_12 y_1.1.length cap_7, .bool y_1.2.1, .int .i64 y_1.2.2] 50 (0, 0))) :: H) w_5) ?_ ?_
   ·refine RcF f hj_1 (fun h_4 hF_6 => ?_) fun h_4 hF_8 => ?_
    ·have k_2 := dI.1 h_4
     refine R_reg (Y f 3 fun _ f => ?_)
     obtain ⟨x_2, hx_2, hF_7⟩ := bS hF_6
     have p_6 := p_4.pl [1]
     refine Y16 (E := [Ent.obj b0 (.cells #[.pointer A_7, .slice A_8 s_1.2.1.length cap_5, .bool s_1.2.2.1, .int .i64 s_1.2.2.2] 50 (0, 0)), Ent.row 5 1 (.slice A_8 s_1.2.1.length cap_5) s_1.2.1.length cs_3]) (H := (H)) f p_6 (strings_Builder_WriteByte_2_ok n _ (GL.mono (hM_1.trans hM_2) hG) b0 A_7 hb_3 s_1.2.1 A_8 cap_5 cs_3 hr_3 (s_1.2.2.1) s_1.2.2.2 (44 : Int) x_2 hx_2) fun _ M_3 E_2 w_4 hM_3 p_5 q_2 _ f => ?_
     obtain ⟨A_9, A_10, cap_6, cs_4, rfl, rfl, hb_4, hr_4⟩ := q_2
     refine W_end rfl ?_
     have p_8 := p_5.pl [1]
     refine T_n ?_
     exact ⟨(x_2.2.1, (x_2.2.2.1), x_2.2.2.2), (sI hF_7).symm, M_3, hM_3, A_9, A_10, cap_6, cs_4, hb_4, hr_4, f.kp, p_8⟩
    ·have k_3 := iff_f dI h_4
     refine wp_skip (T_n ?_)
     exact ⟨(s_1.2.1, (s_1.2.2.1), s_1.2.2.2), (sI hF_8).symm, M_2, (mR _), A_7, A_8, cap_5, cs_3, hb_3, hr_3, f.kp, p_4⟩
   ·rintro a_17 w_5 ⟨y_1, hq_1, M_4, hM_4, A_11, A_12, cap_7, cs_5, hb_5, hr_5, f, p_7⟩
    subst j_1
    refine T_n (RR (Y f 1 fun _ f => ?_))
    obtain ⟨x_3, hx_3, hF_9⟩ := bS hF_5
    have p_10 := p_7.pl [1]
    refine Y16 (E := [Ent.obj b0 (.cells #[.pointer A_11, .slice A_12 y_1.1.length cap_7, .bool y_1.2.1, .int .i64 y_1.2.2] 50 (0, 0)), Ent.row 5 1 (.slice A_12 y_1.1.length cap_7) y_1.1.length cs_5]) (H := (H)) f p_10 (print_writer_line_ok n _ (GL.mono ((hM_1.trans hM_2).trans hM_4) hG) b0 A_11 hb_5 y_1.1 A_12 cap_7 cs_5 hr_5 (y_1.2.1) y_1.2.2 x_3 hx_3) fun _ M_5 E_3 w_6 hM_5 p_9 q_3 _ f => ?_
    obtain ⟨A_13, A_14, cap_8, cs_6, rfl, rfl, hb_6, hr_6⟩ := q_3
    refine eT (RR (Y f 2 fun _ f => ?_))
    obtain ⟨x_4, hx_4, hF_10⟩ := bS hF_9
    refine Y17 f p_9 (print_writer_list_1_ok n _ (GL.mono (((hM_1.trans hM_2).trans hM_4).trans hM_5) hG) s_1.1 x_4 hx_4) fun w_7 p_11 _ f => eT (R_reg (Y f 4 fun _ f => Y14 f p_11 (fzu (((hM_1.trans hM_2).trans hM_4).trans hM_5) q1) 4 rfl fun _ f => Y f 1 fun _ f => ?_))
    obtain ⟨x_5, hx_5, hF_11⟩ := bS hF_10
    obtain ⟨ad_1, c_1, e_1, -, hr_7, hc_1⟩ := Sli.at_ (h_1.mono (((hM_1.trans hM_2).trans hM_4).trans hM_5)) hx_5
    obtain ⟨A_15, cap_9, A_16, cap_10, rfl, h_5, h_6⟩ := TA0.opn hr_7
    refine Z f (Y29 e_1 rfl (len := d1.fList.length) (cap := cap_2) (k := .i64) (i := s_1.1) (e := 26) (sz := 6) (getI_nn hx_5) (getI_lt hx_5)) fun _ f => ?_
    obtain ⟨x_6, hx_6, hF_12⟩ := bS hF_11
    refine Y16 (E := [Ent.obj b0 (.cells #[.pointer A_13, .slice A_14 x_3.1.length cap_8, .bool x_3.2.1, .int .i64 x_3.2.2] 50 (0, 0)), Ent.row 5 1 (.slice A_14 x_3.1.length cap_8) x_3.1.length cs_6]) (H := (H)) f p_11 (hrec_print_writer_value _ (GL.mono (((hM_1.trans hM_2).trans hM_4).trans hM_5) hG) b0 A_13 hb_6 x_3.1 A_14 cap_8 cs_6 hr_6 (x_3.2.1) x_3.2.2 (ad_1.add (s_1.1.toNat * 6)) [.int .i8 x_5.fKind, .bool x_5.fBool, .int .i64 x_5.fNum, S x_5.fText, .slice A_15 x_5.fList.length cap_9, .slice A_16 x_5.fKeys.length cap_10] x_5 (TA0.shutx (x := x_5) h_5 h_6) (fz_at (hc_1) 0 rfl) x_6 hx_6) fun _ M_6 E_4 w_8 hM_6 p_12 q_4 _ f => ?_
    obtain ⟨A_17, A_18, cap_11, cs_7, rfl, rfl, hb_7, hr_8⟩ := q_4
    refine W_end rfl (B_n (T_n (R_reg ?_)))
    obtain ⟨g_2, hF_13⟩ := nS hF_12
    refine Y f 1 fun _ f => ?_
    have f := f.st 50 (congrArg (Value.int .i64) (inR_wrap g_2))
    refine Y f 1 fun _ f => W_end rfl ?_
    have p_14 := p_12.pl [1]
    refine T_n ?_
    obtain rfl := sI hF_13
    exact ⟨⟨m_2, (s_1.1 + 1, x_6.1, (x_6.2.1), x_6.2.2), A_17, A_18, cap_11, cs_7⟩, Nat.lt_succ_self _, M_6, (((hM_2.trans hM_4).trans hM_5).trans hM_6), ⟨hn_1, hb_7, hr_8⟩, f.kp, p_14⟩
  ·have k_4 := iff_f dI h_3
   refine wp_exit (T_x (T_x ?_))
   obtain rfl := sI hF_14
   exact ⟨rfl, (s_1.2.1, (s_1.2.2.1), s_1.2.2.2), (sI hn_1).symm, M_2, hM_2, A_7, A_8, cap_5, cs_3, hb_3, hr_3, f.kp, p_4⟩
 ·rintro _ _ w_10 ⟨rfl, y_2, hq_, M_7, hM_7, A_19, A_20, cap_12, cs_8, hb_8, hr_9, f, p_13⟩
  subst b_1
  refine B_x (T_n (RR (Y f 3 fun _ f => Z f (Y30 (v := .int .i64 y_2.2.2) rfl (ad := ⟨b0, 3, none⟩) (p_13.ownCell 1 rfl 3)) fun _ f => ?_)))
  obtain ⟨g_3, hF_15⟩ := nS hF_3
  refine Y f 1 fun _ f => ?_
  have f := f.st 55 (congrArg (Value.int .i64) (inR_wrap g_3))
  refine Y f 2 fun _ f => Y26 f p_13 1 rfl rfl (b := b0) (j := 3) (v := .int .i64 (y_2.2.2 - 1)) rfl (by exact rfl) (by simp) (by simp) ((Ent.row 5 1 (.slice A_20 y_2.1.length cap_12) y_2.1.length cs_8) :: (Ent.obj b0 (.cells #[.pointer A_19, .slice A_20 y_2.1.length cap_12, .bool y_2.2.1, .int .i64 (y_2.2.2 - 1)] 50 (0, 0))) :: H) rfl fun w_11 p_15 _ f => eT (R_seq (RR (Y f 3 fun _ f => Y14 f p_15 (fzu (hM_1.trans hM_7) q1) 4 rfl fun _ f => Y f 2 fun _ f => eT ?_)))
  obtain ⟨j_2, hj_2, hF_16⟩ := bS hF_15
  refine R_mid (fun a_41 w_13 => ∃ y_3 : List UInt8 × Bool × Int, j_2 = y_3 ∧ ∃ M_9 : Mem, M_7.le M_9 ∧ ∃ (A_23 : Option Addr), ∃ (A_24 : Option Addr), ∃ (cap_14 : Nat), ∃ (cs_10 : List Value), (A_23 = none ∨ A_23 = some ⟨b0, 0, none⟩) ∧ RepSeq M_9 (y_3.1.map embB) cs_10 ∧ Frm 71 [(0, .pointer (some (⟨b0, 0, none⟩))), (3, .int .u8 d3)] a_41 ∧ Hp w0 M_9 ((Ent.row 5 1 (.slice A_24 y_3.1.length cap_14) y_3.1.length cs_10) :: (Ent.obj b0 (.cells #[.pointer A_23, .slice A_24 y_3.1.length cap_14, .bool y_3.2.1, .int .i64 y_3.2.2] 50 (0, 0))) :: H) w_13) ?_ ?_
  ·refine RcF f hj_2 (fun h_7 hF_17 => ?_) fun h_7 hF_19 => ?_
   ·have k_5 := dI.1 h_7
    refine R_reg (Y f 1 fun _ f => ?_)
    obtain ⟨x_7, hx_7, hF_18⟩ := bS hF_17
    have p_17 := p_15.pl [1]
    refine Y16 (E := [Ent.obj b0 (.cells #[.pointer A_19, .slice A_20 y_2.1.length cap_12, .bool y_2.2.1, .int .i64 (y_2.2.2 - 1)] 50 (0, 0)), Ent.row 5 1 (.slice A_20 y_2.1.length cap_12) y_2.1.length cs_8]) (H := (H)) f p_17 (print_writer_line_ok n _ (GL.mono (hM_1.trans hM_7) hG) b0 A_19 hb_8 y_2.1 A_20 cap_12 cs_8 hr_9 (y_2.2.1) (y_2.2.2 - 1) x_7 hx_7) fun _ M_8 E_5 w_12 hM_8 p_16 q_5 _ f => ?_
    obtain ⟨A_21, A_22, cap_13, cs_9, rfl, rfl, hb_9, hr_10⟩ := q_5
    refine W_end rfl ?_
    have p_19 := p_16.pl [1]
    refine T_n ?_
    exact ⟨(x_7.1, (x_7.2.1), x_7.2.2), (sI hF_18).symm, M_8, hM_8, A_21, A_22, cap_13, cs_9, hb_9, hr_10, f.kp, p_19⟩
   ·have k_6 := iff_f dI h_7
    refine wp_skip (T_n ?_)
    exact ⟨(y_2.1, (y_2.2.1), y_2.2.2 - 1), (sI hF_19).symm, M_7, (mR _), A_19, A_20, cap_12, cs_8, hb_8, hr_9, f.kp, p_15⟩
  ·rintro a_41 w_13 ⟨y_3, hq_2, M_9, hM_9, A_23, A_24, cap_14, cs_10, hb_10, hr_11, f, p_18⟩
   subst j_2
   refine T_n (R_reg (Y f 4 fun _ f => ?_))
   obtain ⟨x_8, hx_8, hF_20⟩ := bS hF_16
   have p_21 := p_18.pl [1]
   refine Y16 (E := [Ent.obj b0 (.cells #[.pointer A_23, .slice A_24 y_3.1.length cap_14, .bool y_3.2.1, .int .i64 y_3.2.2] 50 (0, 0)), Ent.row 5 1 (.slice A_24 y_3.1.length cap_14) y_3.1.length cs_10]) (H := (H)) f p_21 (strings_Builder_WriteByte_2_ok n _ (GL.mono ((hM_1.trans hM_7).trans hM_9) hG) b0 A_23 hb_10 y_3.1 A_24 cap_14 cs_10 hr_11 (y_3.2.1) y_3.2.2 d3 x_8 hx_8) fun _ M_10 E_6 w_14 hM_10 p_20 q_6 _ f => ?_
   obtain ⟨A_25, A_26, cap_15, cs_11, rfl, rfl, hb_11, hr_12⟩ := q_6
   refine W_end rfl (E_end0 f rfl  ?_)
   obtain rfl := sI hF_20
   exact ⟨_, rfl, M_10, _, (((hM_1.trans hM_7).trans hM_9).trans hM_10), p_20, ⟨A_25, A_26, cap_15, cs_11, rfl, rfl, hb_11, hr_12⟩⟩
def print_writer_list_2 (n : Nat) (rec_print_writer_value : (List UInt8) → Bool → Int → TA0 → Option (List UInt8 × Bool × Int)) (d0_1 : List UInt8) (d0_2 : Bool) (d0_3 : Int) (d1 : TA0) : Option (List UInt8 × Bool × Int) :=
  (print_writer_parts_2 n rec_print_writer_value d0_1 (d0_2) d0_3 d1 (91 : Int) (93 : Int)).bind fun x_1 =>
  some ((x_1.1, (x_1.2.1), x_1.2.2))
theorem print_writer_list_2_ok (n : Nat) (rec_print_writer_value : (List UInt8) → Bool → Int → TA0 → Option (List UInt8 × Bool × Int)) (hrec_print_writer_value : ∀ (M : Mem) (hG : GL M) (b0 : Nat) (A_1 : Option Addr) (hb_1 : (A_1 = none ∨ A_1 = some ⟨b0, 0, none⟩)) (d0_1 : List UInt8) (A_2 : Option Addr) (cap_1 : Nat) (cs_1 : List Value) (hr_1 : RepSeq M (d0_1.map embB) cs_1) (d0_2 : Bool) (d0_3 : Int) (ad1 : Addr) (c1 : List Value) (d1 : TA0) (h1 : Rep M (emb_TA0 d1) c1) (q1 : ∀ j v, c1[j]? = some v → M.cell? (ad1.add j) = some v) (r : List UInt8 × Bool × Int) (hF : rec_print_writer_value d0_1 d0_2 d0_3 d1 = some r), OkH Tryd.prog M [Ent.obj b0 (.cells #[.pointer A_1, .slice A_2 d0_1.length cap_1, .bool d0_2, .int .i64 d0_3] 50 (0, 0)), Ent.row 5 1 (.slice A_2 d0_1.length cap_1) d0_1.length cs_1] 23 [.pointer (some (⟨b0, 0, none⟩)), .pointer (some ad1)] (fun M' E' v => ∃ (A_3 : Option Addr) (A_4 : Option Addr) (cap_2 : Nat) (cs_2 : List Value), v = .tuple #[] ∧ E' = [Ent.obj b0 (.cells #[.pointer A_3, .slice A_4 r.1.length cap_2, .bool r.2.1, .int .i64 r.2.2] 50 (0, 0)), Ent.row 5 1 (.slice A_4 r.1.length cap_2) r.1.length cs_2] ∧ (A_3 = none ∨ A_3 = some ⟨b0, 0, none⟩) ∧ RepSeq M' (r.1.map embB) cs_2)) (M : Mem) (hG : GL M) (b0 : Nat) (A_1 : Option Addr) (hb_1 : (A_1 = none ∨ A_1 = some ⟨b0, 0, none⟩)) (d0_1 : List UInt8) (A_2 : Option Addr) (cap_1 : Nat) (cs_1 : List Value) (hr_1 : RepSeq M (d0_1.map embB) cs_1) (d0_2 : Bool) (d0_3 : Int) (ad1 : Addr) (c1 : List Value) (d1 : TA0) (h1 : Rep M (emb_TA0 d1) c1) (q1 : ∀ j v, c1[j]? = some v → M.cell? (ad1.add j) = some v) (r : List UInt8 × Bool × Int) (hF : print_writer_list_2 n rec_print_writer_value d0_1 d0_2 d0_3 d1 = some r) : OkH Tryd.prog M [Ent.obj b0 (.cells #[.pointer A_1, .slice A_2 d0_1.length cap_1, .bool d0_2, .int .i64 d0_3] 50 (0, 0)), Ent.row 5 1 (.slice A_2 d0_1.length cap_1) d0_1.length cs_1] 37 [.pointer (some (⟨b0, 0, none⟩)), .pointer (some ad1)] (fun M' E' v => ∃ (A_7 : Option Addr) (A_8 : Option Addr) (cap_5 : Nat) (cs_3 : List Value), v = .tuple #[] ∧ E' = [Ent.obj b0 (.cells #[.pointer A_7, .slice A_8 r.1.length cap_5, .bool r.2.1, .int .i64 r.2.2] 50 (0, 0)), Ent.row 5 1 (.slice A_8 r.1.length cap_5) r.1.length cs_3] ∧ (A_7 = none ∨ A_7 = some ⟨b0, 0, none⟩) ∧ RepSeq M' (r.1.map embB) cs_3) := by
 unfold print_writer_list_2 at hF
 intro M1 hM0 w0 H w p0
 replace hG := GL.mono hM0 hG
 replace hr_1 := RepSeq.mono hM0 _ _ hr_1
 replace h1 := Rep.mono hM0 _ _ h1
 replace q1 := fun j v h => hM0.cell (q1 j v h)
 obtain ⟨A_3, cap_2, A_4, cap_3, rfl, h_1, h_2⟩ := TA0.opn h1
 refine R_enter 7 Tryd.func37 rfl rfl (by simp) fun a0 f0 => R_reg (Y f0 2 fun _ f => ?_)
 obtain ⟨x_1, hx_1, hF_1⟩ := bS hF
 refine Y16 (E := [Ent.obj b0 (.cells #[.pointer A_1, .slice A_2 d0_1.length cap_1, .bool d0_2, .int .i64 d0_3] 50 (0, 0)), Ent.row 5 1 (.slice A_2 d0_1.length cap_1) d0_1.length cs_1]) (H := (H)) f p0 (print_writer_parts_2_ok n rec_print_writer_value hrec_print_writer_value _ hG b0 A_1 hb_1 d0_1 A_2 cap_1 cs_1 hr_1 (d0_2) d0_3 ad1 [.int .i8 d1.fKind, .bool d1.fBool, .int .i64 d1.fNum, S d1.fText, .slice A_3 d1.fList.length cap_2, .slice A_4 d1.fKeys.length cap_3] d1 (TA0.shutx (x := d1) h_1 h_2) (fz_at (q1) 0 rfl) (91 : Int) (93 : Int) x_1 hx_1) fun _ M_1 E_1 w_1 hM_1 p_1 q_1 _ f => ?_
 obtain ⟨A_5, A_6, cap_4, cs_2, rfl, rfl, hb_2, hr_2⟩ := q_1
 refine W_end rfl (E_end0 f rfl  ?_)
 obtain rfl := sI hF_1
 exact ⟨_, rfl, M_1, _, hM_1, p_1, ⟨A_5, A_6, cap_4, cs_2, rfl, rfl, hb_2, hr_2⟩⟩
def print_writer_object_1 (n : Nat) (d0 : Int) (d1_f_1 : List UInt8) (d1_f_2 : Bool) (d1_f_3 : Int) (d2_f : TA0) : Option (List UInt8 × Bool × Int) :=
  (getI d2_f.fKeys d0).bind fun x_1 =>
  (print_writer_quote n d1_f_1 (d1_f_2) d1_f_3 x_1).bind fun x_2 =>
  (strings_Builder_WriteByte_2 n x_2.1 (x_2.2.1) x_2.2.2 (58 : Int)).bind fun x_3 =>
  bif x_3.2.2.1 then
    ((strings_Builder_WriteByte_2 n x_3.2.1 (x_3.2.2.1) x_3.2.2.2 (32 : Int)).bind fun x_4 =>
    some ((x_4.2.1, (x_4.2.2.1), x_4.2.2.2)))
  else
    some ((x_3.2.1, (x_3.2.2.1), x_3.2.2.2))
theorem print_writer_object_1_ok (n : Nat) (M : Mem) (hG : GL M) (d0 : Int) (b1_f : Nat) (A_1 : Option Addr) (hb_1 : (A_1 = none ∨ A_1 = some ⟨b1_f, 0, none⟩)) (d1_f_1 : List UInt8) (A_2 : Option Addr) (cap_1 : Nat) (cs_1 : List Value) (hr_1 : RepSeq M (d1_f_1.map embB) cs_1) (d1_f_2 : Bool) (d1_f_3 : Int) (ad1 : Addr) (q1 : ∀ j v, [(.pointer (some (⟨b1_f, 0, none⟩)) : Value)][j]? = some v → M.cell? (ad1.add j) = some v) (ad2_f : Addr) (c2_f : List Value) (d2_f : TA0) (h2_f : Rep M (emb_TA0 d2_f) c2_f) (q2_f : ∀ j v, c2_f[j]? = some v → M.cell? (ad2_f.add j) = some v) (ad2 : Addr) (q2 : ∀ j v, [(.pointer (some ad2_f) : Value)][j]? = some v → M.cell? (ad2.add j) = some v) (r : List UInt8 × Bool × Int) (hF : print_writer_object_1 n d0 d1_f_1 d1_f_2 d1_f_3 d2_f = some r) : OkH Tryd.prog M [Ent.obj b1_f (.cells #[.pointer A_1, .slice A_2 d1_f_1.length cap_1, .bool d1_f_2, .int .i64 d1_f_3] 50 (0, 0)), Ent.row 5 1 (.slice A_2 d1_f_1.length cap_1) d1_f_1.length cs_1] 54 [.int .i64 d0, .pointer (some ad1), .pointer (some ad2)] (fun M' E' v => ∃ (A_11 : Option Addr) (A_12 : Option Addr) (cap_7 : Nat) (cs_5 : List Value), v = .tuple #[] ∧ E' = [Ent.obj b1_f (.cells #[.pointer A_11, .slice A_12 r.1.length cap_7, .bool r.2.1, .int .i64 r.2.2] 50 (0, 0)), Ent.row 5 1 (.slice A_12 r.1.length cap_7) r.1.length cs_5] ∧ (A_11 = none ∨ A_11 = some ⟨b1_f, 0, none⟩) ∧ RepSeq M' (r.1.map embB) cs_5) := by
 unfold print_writer_object_1 at hF
 intro M1 hM0 w0 H w p0
 replace hG := GL.mono hM0 hG
 replace hr_1 := RepSeq.mono hM0 _ _ hr_1
 replace q1 := fun j v h => hM0.cell (q1 j v h)
 replace h2_f := Rep.mono hM0 _ _ h2_f
 replace q2_f := fun j v h => hM0.cell (q2_f j v h)
 replace q2 := fun j v h => hM0.cell (q2 j v h)
 obtain ⟨A_3, cap_2, A_4, cap_3, rfl, h_1, h_2⟩ := TA0.opn h2_f
 refine R_enter 25 Tryd.func54 rfl rfl (by simp) fun a0 f0 => R_seq (R_mix (E := [Ent.obj b1_f (.cells #[.pointer A_1, .slice A_2 d1_f_1.length cap_1, .bool d1_f_2, .int .i64 d1_f_3] 50 (0, 0)), Ent.row 5 1 (.slice A_2 d1_f_1.length cap_1) d1_f_1.length cs_1]) (Hr := (H)) [(0, true), (1, true), (2, true), (3, true), (4, true), (5, true), (6, true), (7, true), (8, false)] p0 (by kernel_rfl) (by kernel_rfl) rfl (by kernel_rfl) (M_eq (v := .pointer (some (⟨b1_f, 0, none⟩))) f0 (by kernel_rfl) (by kernel_rfl) rfl rfl (fun _ pq => Y30 (v := .pointer (some (⟨b1_f, 0, none⟩))) rfl (ad := ad1) (pq.cell (q1 0 _ rfl))) fun _ f => M_eq (v := .pointer (some ad2_f)) f (by kernel_rfl) (by kernel_rfl) rfl rfl (fun _ pq => Y30 (v := .pointer (some ad2_f)) rfl (ad := ad2) (pq.cell (q2 0 _ rfl))) fun _ f => Y0 default f 2 fun _ f => M_eq (v := .slice A_4 d2_f.fKeys.length cap_3) f (by kernel_rfl) (by kernel_rfl) rfl rfl (fun _ pq => Y30 (v := .slice A_4 d2_f.fKeys.length cap_3) rfl (ad := ad2_f.add 5) (pq.cell (q2_f 5 _ rfl))) fun _ f => Y0 default f 1 fun _ f => ?_))
 obtain ⟨x_1, hx_1, hF_1⟩ := bS hF
 obtain ⟨ad_1, c_1, e_1, -, hr_2, hc_1⟩ := Sli.at_ h_2 hx_1
 obtain rfl : c_1 = [S x_1] := hr_2
 refine M_eq (v := .pointer (some (ad_1.add (d0.toNat * 1)))) f (by kernel_rfl) (by kernel_rfl) rfl rfl (fun _ pq => Y29 e_1 rfl (len := d2_f.fKeys.length) (cap := cap_3) (k := .i64) (i := d0) (e := 9) (sz := 1) (getI_nn hx_1) (getI_lt hx_1)) fun _ f => M_eq (v := S x_1) f (by kernel_rfl) (by kernel_rfl) rfl rfl (fun _ pq => Y30 (v := S x_1) rfl (ad := ad_1.add (d0.toNat * 1)) (pq.cell (hc_1 0 _ rfl))) fun _ f => M_fix (E := [Ent.obj b1_f (.cells #[.pointer A_1, .slice A_2 d1_f_1.length cap_1, .bool d1_f_2, .int .i64 d1_f_3] 50 (0, 0)), Ent.row 5 1 (.slice A_2 d1_f_1.length cap_1) d1_f_1.length cs_1]) fun w_1 p_1 => ?_
 obtain ⟨x_2, hx_2, hF_2⟩ := bS hF_1
 refine Y16 (E := [Ent.obj b1_f (.cells #[.pointer A_1, .slice A_2 d1_f_1.length cap_1, .bool d1_f_2, .int .i64 d1_f_3] 50 (0, 0)), Ent.row 5 1 (.slice A_2 d1_f_1.length cap_1) d1_f_1.length cs_1]) (H := (H)) f p_1 (print_writer_quote_ok n _ hG b1_f A_1 hb_1 d1_f_1 A_2 cap_1 cs_1 hr_1 (d1_f_2) d1_f_3 x_1 x_2 hx_2) fun _ M_1 E_1 w_2 hM_1 p_2 q_1 _ f => ?_
 obtain ⟨A_5, A_6, cap_4, cs_2, rfl, rfl, hb_2, hr_3⟩ := q_1
 refine W_end rfl (M_go (M1 := M_1) (E := [Ent.obj b1_f (.cells #[.pointer A_5, .slice A_6 x_2.1.length cap_4, .bool x_2.2.1, .int .i64 x_2.2.2] 50 (0, 0)), Ent.row 5 1 (.slice A_6 x_2.1.length cap_4) x_2.1.length cs_2]) hM_1 p_2 (M_end rfl fun w_3 p_3 => T_n (RR (Y14 f p_3 (fzu hM_1 q1) 0 rfl fun _ f => Y f 2 fun _ f => ?_))))
 obtain ⟨x_3, hx_3, hF_3⟩ := bS hF_2
 refine Y16 (E := [Ent.obj b1_f (.cells #[.pointer A_5, .slice A_6 x_2.1.length cap_4, .bool x_2.2.1, .int .i64 x_2.2.2] 50 (0, 0)), Ent.row 5 1 (.slice A_6 x_2.1.length cap_4) x_2.1.length cs_2]) (H := (H)) f p_3 (strings_Builder_WriteByte_2_ok n _ (GL.mono hM_1 hG) b1_f A_5 hb_2 x_2.1 A_6 cap_4 cs_2 hr_3 (x_2.2.1) x_2.2.2 (58 : Int) x_3 hx_3) fun _ M_2 E_2 w_4 hM_2 p_4 q_2 _ f => ?_
 obtain ⟨A_7, A_8, cap_5, cs_3, rfl, rfl, hb_3, hr_4⟩ := q_2
 refine eT (RR (Y14 f p_4 (fzu (hM_1.trans hM_2) q1) 0 rfl fun _ f => Y f 2 fun _ f => Z f (Y30 (v := .bool x_3.2.2.1) rfl (ad := ⟨b1_f, 2, none⟩) (p_4.ownCell 0 rfl 2)) fun _ f => eT (RcF f hF_3 (fun h_3 hF_4 => ?_) fun h_3 hF_6 => ?_)))
 ·refine R_reg (Y14 f p_4 (fzu (hM_1.trans hM_2) q1) 0 rfl fun _ f => Y f 2 fun _ f => ?_)
  obtain ⟨x_4, hx_4, hF_5⟩ := bS hF_4
  refine Y16 (E := [Ent.obj b1_f (.cells #[.pointer A_7, .slice A_8 x_3.2.1.length cap_5, .bool x_3.2.2.1, .int .i64 x_3.2.2.2] 50 (0, 0)), Ent.row 5 1 (.slice A_8 x_3.2.1.length cap_5) x_3.2.1.length cs_3]) (H := (H)) f p_4 (strings_Builder_WriteByte_2_ok n _ (GL.mono (hM_1.trans hM_2) hG) b1_f A_7 hb_3 x_3.2.1 A_8 cap_5 cs_3 hr_4 (x_3.2.2.1) x_3.2.2.2 (32 : Int) x_4 hx_4) fun _ M_3 E_3 w_5 hM_3 p_5 q_3 _ f => ?_
  obtain ⟨A_9, A_10, cap_6, cs_4, rfl, rfl, hb_4, hr_5⟩ := q_3
  refine W_end rfl (E_end0 f rfl  ?_)
  obtain rfl := sI hF_5
  exact ⟨_, rfl, M_3, _, ((hM_1.trans hM_2).trans hM_3), p_5, ⟨A_9, A_10, cap_6, cs_4, rfl, rfl, hb_4, hr_5⟩⟩
 ·refine wp_skip (E_end0 f rfl  ?_)
  obtain rfl := sI hF_6
  exact ⟨_, rfl, M_2, _, (hM_1.trans hM_2), p_4, ⟨A_7, A_8, cap_5, cs_3, rfl, rfl, hb_3, hr_4⟩⟩
def print_writer_parts_s1 (n : Nat) (rec_print_writer_value : (List UInt8) → Bool → Int → TA0 → Option (List UInt8 × Bool × Int)) (d1 : TA0) (d4_1_f : TA0) (s_1 : Int × List UInt8 × Bool × Int) : Option (Lp (Int × List UInt8 × Bool × Int) (List UInt8 × Bool × Int)) :=
    bif (decide (s_1.1 < ((d1.fList.length : Nat) : Int))) then
      (((bif (decide ((0 : Int) < s_1.1)) then
          ((strings_Builder_WriteByte_2 n s_1.2.1 (s_1.2.2.1) s_1.2.2.2 (44 : Int)).bind fun x_2 =>
          some ((x_2.2.1, (x_2.2.2.1), x_2.2.2.2)))
        else
          some ((s_1.2.1, (s_1.2.2.1), s_1.2.2.2)) : Option (List UInt8 × Bool × Int))).bind fun y_1 =>
      (print_writer_line n y_1.1 (y_1.2.1) y_1.2.2).bind fun x_3 =>
      (print_writer_object_1 n s_1.1 x_3.1 (x_3.2.1) x_3.2.2 d4_1_f).bind fun x_4 =>
      (getI d1.fList s_1.1).bind fun x_5 =>
      (rec_print_writer_value x_4.1 (x_4.2.1) x_4.2.2 x_5).bind fun x_6 =>
      need (inR .i64 (s_1.1 + 1)) <|
      some (.nx (s_1.1 + 1, x_6.1, (x_6.2.1), x_6.2.2)))
    else
      some (.br (s_1.2.1, (s_1.2.2.1), s_1.2.2.2))
def print_writer_parts (n : Nat) (rec_print_writer_value : (List UInt8) → Bool → Int → TA0 → Option (List UInt8 × Bool × Int)) (d0_1 : List UInt8) (d0_2 : Bool) (d0_3 : Int) (d1 : TA0) (d2 : Int) (d3 : Int) (d4_1_f : TA0) : Option (List UInt8 × Bool × Int) :=
  (strings_Builder_WriteByte_2 n d0_1 (d0_2) d0_3 d2).bind fun x_1 =>
  need (inR .i64 (x_1.2.2.2 + 1)) <|
  (loopF (print_writer_parts_s1 n rec_print_writer_value d1 d4_1_f) n ((0 : Int), x_1.2.1, (x_1.2.2.1), x_1.2.2.2 + 1)).bind fun y_2 =>
  need (inR .i64 (y_2.2.2 - 1)) <|
  ((bif (decide ((0 : Int) < ((d1.fList.length : Nat) : Int))) then
      ((print_writer_line n y_2.1 (y_2.2.1) (y_2.2.2 - 1)).bind fun x_7 =>
      some ((x_7.1, (x_7.2.1), x_7.2.2)))
    else
      some ((y_2.1, (y_2.2.1), y_2.2.2 - 1)) : Option (List UInt8 × Bool × Int))).bind fun y_3 =>
  (strings_Builder_WriteByte_2 n y_3.1 (y_3.2.1) y_3.2.2 d3).bind fun x_8 =>
  some ((x_8.2.1, (x_8.2.2.1), x_8.2.2.2))
set_option maxRecDepth 20000 in
theorem print_writer_parts_ok (n : Nat) (rec_print_writer_value : (List UInt8) → Bool → Int → TA0 → Option (List UInt8 × Bool × Int)) (hrec_print_writer_value : ∀ (M : Mem) (hG : GL M) (b0 : Nat) (A_1 : Option Addr) (hb_1 : (A_1 = none ∨ A_1 = some ⟨b0, 0, none⟩)) (d0_1 : List UInt8) (A_2 : Option Addr) (cap_1 : Nat) (cs_1 : List Value) (hr_1 : RepSeq M (d0_1.map embB) cs_1) (d0_2 : Bool) (d0_3 : Int) (ad1 : Addr) (c1 : List Value) (d1 : TA0) (h1 : Rep M (emb_TA0 d1) c1) (q1 : ∀ j v, c1[j]? = some v → M.cell? (ad1.add j) = some v) (r : List UInt8 × Bool × Int) (hF : rec_print_writer_value d0_1 d0_2 d0_3 d1 = some r), OkH Tryd.prog M [Ent.obj b0 (.cells #[.pointer A_1, .slice A_2 d0_1.length cap_1, .bool d0_2, .int .i64 d0_3] 50 (0, 0)), Ent.row 5 1 (.slice A_2 d0_1.length cap_1) d0_1.length cs_1] 23 [.pointer (some (⟨b0, 0, none⟩)), .pointer (some ad1)] (fun M' E' v => ∃ (A_3 : Option Addr) (A_4 : Option Addr) (cap_2 : Nat) (cs_2 : List Value), v = .tuple #[] ∧ E' = [Ent.obj b0 (.cells #[.pointer A_3, .slice A_4 r.1.length cap_2, .bool r.2.1, .int .i64 r.2.2] 50 (0, 0)), Ent.row 5 1 (.slice A_4 r.1.length cap_2) r.1.length cs_2] ∧ (A_3 = none ∨ A_3 = some ⟨b0, 0, none⟩) ∧ RepSeq M' (r.1.map embB) cs_2)) (M : Mem) (hG : GL M) (b0 : Nat) (A_1 : Option Addr) (hb_1 : (A_1 = none ∨ A_1 = some ⟨b0, 0, none⟩)) (d0_1 : List UInt8) (A_2 : Option Addr) (cap_1 : Nat) (cs_1 : List Value) (hr_1 : RepSeq M (d0_1.map embB) cs_1) (d0_2 : Bool) (d0_3 : Int) (ad1 : Addr) (c1 : List Value) (d1 : TA0) (h1 : Rep M (emb_TA0 d1) c1) (q1 : ∀ j v, c1[j]? = some v → M.cell? (ad1.add j) = some v) (d2 : Int) (d3 : Int) (ad4_0 : Addr) (q4_0 : ∀ j v, [(.pointer (some (⟨b0, 0, none⟩)) : Value)][j]? = some v → M.cell? (ad4_0.add j) = some v) (ad4_1_f : Addr) (c4_1_f : List Value) (d4_1_f : TA0) (h4_1_f : Rep M (emb_TA0 d4_1_f) c4_1_f) (q4_1_f : ∀ j v, c4_1_f[j]? = some v → M.cell? (ad4_1_f.add j) = some v) (ad4_1 : Addr) (q4_1 : ∀ j v, [(.pointer (some ad4_1_f) : Value)][j]? = some v → M.cell? (ad4_1.add j) = some v) (r : List UInt8 × Bool × Int) (hF : print_writer_parts n rec_print_writer_value d0_1 d0_2 d0_3 d1 d2 d3 d4_1_f = some r) : OkH Tryd.prog M [Ent.obj b0 (.cells #[.pointer A_1, .slice A_2 d0_1.length cap_1, .bool d0_2, .int .i64 d0_3] 50 (0, 0)), Ent.row 5 1 (.slice A_2 d0_1.length cap_1) d0_1.length cs_1] 52 [.pointer (some (⟨b0, 0, none⟩)), .pointer (some ad1), .int .u8 d2, .int .u8 d3, .func (.func 54) #[] #[.pointer (some ad4_0), .pointer (some ad4_1)]] (fun M' E' v => ∃ (A_31 : Option Addr) (A_32 : Option Addr) (cap_19 : Nat) (cs_13 : List Value), v = .tuple #[] ∧ E' = [Ent.obj b0 (.cells #[.pointer A_31, .slice A_32 r.1.length cap_19, .bool r.2.1, .int .i64 r.2.2] 50 (0, 0)), Ent.row 5 1 (.slice A_32 r.1.length cap_19) r.1.length cs_13] ∧ (A_31 = none ∨ A_31 = some ⟨b0, 0, none⟩) ∧ RepSeq M' (r.1.map embB) cs_13) := by
 unfold print_writer_parts at hF
 intro M1 hM0 w0 H w p0
 replace hG := GL.mono hM0 hG
 replace hr_1 := RepSeq.mono hM0 _ _ hr_1
 replace h1 := Rep.mono hM0 _ _ h1
 replace q1 := fun j v h => hM0.cell (q1 j v h)
 replace q4_0 := fun j v h => hM0.cell (q4_0 j v h)
 replace h4_1_f := Rep.mono hM0 _ _ h4_1_f
 replace q4_1_f := fun j v h => hM0.cell (q4_1_f j v h)
 replace q4_1 := fun j v h => hM0.cell (q4_1 j v h)
 obtain ⟨A_3, cap_2, A_4, cap_3, rfl, h_1, h_2⟩ := TA0.opn h1
 obtain ⟨A_5, cap_4, A_6, cap_5, rfl, h_3, h_4⟩ := TA0.opn h4_1_f
 refine R_enter 71 Tryd.func52 rfl rfl (by simp) fun a0 f0 => RR (Y f0 4 fun _ f => ?_)
 obtain ⟨x_1, hx_1, hF_1⟩ := bS hF
 refine Y16 (E := [Ent.obj b0 (.cells #[.pointer A_1, .slice A_2 d0_1.length cap_1, .bool d0_2, .int .i64 d0_3] 50 (0, 0)), Ent.row 5 1 (.slice A_2 d0_1.length cap_1) d0_1.length cs_1]) (H := (H)) f p0 (strings_Builder_WriteByte_2_ok n _ hG b0 A_1 hb_1 d0_1 A_2 cap_1 cs_1 hr_1 (d0_2) d0_3 d2 x_1 hx_1) fun _ M_1 E_1 w_1 hM_1 p_1 q_1 _ f => ?_
 obtain ⟨A_7, A_8, cap_6, cs_2, rfl, rfl, hb_2, hr_2⟩ := q_1
 refine eT (RR (Y f 3 fun _ f => Z f (Y30 (v := .int .i64 x_1.2.2.2) rfl (ad := ⟨b0, 3, none⟩) (p_1.ownCell 0 rfl 3)) fun _ f => ?_))
 obtain ⟨g_1, hF_2⟩ := nS hF_1
 refine Y f 1 fun _ f => ?_
 have f := f.st 20 (congrArg (Value.int .i64) (inR_wrap g_1))
 refine Y f 2 fun _ f => Y26 f p_1 0 rfl rfl (b := b0) (j := 3) (v := .int .i64 (x_1.2.2.2 + 1)) rfl (by exact rfl) (by simp) (by simp) ((Ent.obj b0 (.cells #[.pointer A_7, .slice A_8 x_1.2.1.length cap_6, .bool x_1.2.2.1, .int .i64 (x_1.2.2.2 + 1)] 50 (0, 0))) :: (Ent.row 5 1 (.slice A_8 x_1.2.1.length cap_6) x_1.2.1.length cs_2) :: H) rfl fun w_2 p_2 _ f => eT (R_seq (RR (Y f 3 fun _ f => Y14 f p_2 (fzu hM_1 q1) 4 rfl fun _ f => Y f 2 fun _ f => eT (wp_block ?_))))
 have p_3 := p_2.pl [1]
 obtain ⟨b_1, hL_1, hF_3⟩ := bS hF_2
 refine wp_mono (Q := fun e a w => (e = .exit 0 ∧ (∃ y_2 : List UInt8 × Bool × Int, b_1 = y_2 ∧ ∃ M_8 : Mem, M_1.le M_8 ∧ ∃ (A_23 : Option Addr), ∃ (A_24 : Option Addr), ∃ (cap_15 : Nat), ∃ (cs_9 : List Value), (A_23 = none ∨ A_23 = some ⟨b0, 0, none⟩) ∧ RepSeq M_8 (y_2.1.map embB) cs_9 ∧ Frm 71 [(0, .pointer (some (⟨b0, 0, none⟩))), (1, .pointer (some ad1)), (3, .int .u8 d3)] a ∧ Hp w0 M_8 ((Ent.row 5 1 (.slice A_24 y_2.1.length cap_15) y_2.1.length cs_9) :: (Ent.obj b0 (.cells #[.pointer A_23, .slice A_24 y_2.1.length cap_15, .bool y_2.2.1, .int .i64 y_2.2.2] 50 (0, 0))) :: H) w))) (R_loop (n := 71) (w0 := w0) (M := M_1) (fun (x : Nat × (Int × List UInt8 × Bool × Int) × (Option Addr) × (Option Addr) × Nat × (List Value)) => match x with | (m_1, s_1, A_9, A_10, cap_7, cs_3) => [(0, .pointer (some (⟨b0, 0, none⟩))), (1, .pointer (some ad1)), (3, .int .u8 d3), (4, .func (.func 54) #[] #[.pointer (some ad4_0), .pointer (some ad4_1)]), (27, .int .i64 ((d1.fList.length : Nat) : Int)), (28, .int .i64 s_1.1)]) (fun (x : Nat × (Int × List UInt8 × Bool × Int) × (Option Addr) × (Option Addr) × Nat × (List Value)) => match x with | (m_1, s_1, A_9, A_10, cap_7, cs_3) => ((Ent.row 5 1 (.slice A_10 s_1.2.1.length cap_7) s_1.2.1.length cs_3) :: (Ent.obj b0 (.cells #[.pointer A_9, .slice A_10 s_1.2.1.length cap_7, .bool s_1.2.2.1, .int .i64 s_1.2.2.2] 50 (0, 0))) :: H)) (fun (x : Nat × (Int × List UInt8 × Bool × Int) × (Option Addr) × (Option Addr) × Nat × (List Value)) (MM : Mem) => match x with | (m_1, s_1, A_9, A_10, cap_7, cs_3) => loopF (print_writer_parts_s1 n rec_print_writer_value d1 d4_1_f) m_1 s_1 = some b_1 ∧ (A_9 = none ∨ A_9 = some ⟨b0, 0, none⟩) ∧ RepSeq MM (s_1.2.1.map embB) cs_3) (fun (x : Nat × (Int × List UInt8 × Bool × Int) × (Option Addr) × (Option Addr) × Nat × (List Value)) => match x with | (m_1, s_1, A_9, A_10, cap_7, cs_3) => m_1) (n, ((0 : Int), x_1.2.1, (x_1.2.2.1), x_1.2.2.2 + 1), A_7, A_8, cap_6, cs_2) (f.kp) p_3 ⟨hL_1, hb_2, hr_2⟩ ?_) ?_
 ·rintro ⟨m_1, s_1, A_9, A_10, cap_7, cs_3⟩ M_2 _ w_3 hM_2 I_1 f p_4
  obtain ⟨I_1L, hb_3, hr_3⟩ := I_1
  obtain ⟨m_2, r_1, rfl, hs_1, hn_1⟩ := loop_step I_1L
  unfold print_writer_parts_s1 at hs_1
  refine RR (Y f 1 fun _ f => eT (R_seq (RcF f hs_1 (fun h_5 hF_4 => ?_) fun h_5 hF_14 => ?_)))
  ·have k_1 := dI.1 h_5
   refine wp_skip (T_n (R_seq (wp_block (RR (Y f 2 fun _ f => eT (R_seq (RR (Y f 2 fun _ f => eT ?_))))))))
   obtain ⟨j_1, hj_1, hF_5⟩ := bS hF_4
   refine R_mid (fun a_17 w_5 => ∃ y_1 : List UInt8 × Bool × Int, j_1 = y_1 ∧ ∃ M_4 : Mem, M_2.le M_4 ∧ ∃ (A_13 : Option Addr), ∃ (A_14 : Option Addr), ∃ (cap_9 : Nat), ∃ (cs_5 : List Value), (A_13 = none ∨ A_13 = some ⟨b0, 0, none⟩) ∧ RepSeq M_4 (y_1.1.map embB) cs_5 ∧ Frm 71 [(0, .pointer (some (⟨b0, 0, none⟩))), (1, .pointer (some ad1)), (3, .int .u8 d3), (4, .func (.func 54) #[] #[.pointer (some ad4_0), .pointer (some ad4_1)]), (10, .int .i64 s_1.1), (27, .int .i64 ((d1.fList.length : Nat) : Int)), (28, .int .i64 s_1.1)] a_17 ∧ Hp w0 M_4 ((Ent.row 5 1 (.slice A_14 y_1.1.length cap_9) y_1.1.length cs_5) :: (Ent.obj b0 (.cells #[.pointer A_13, .slice A_14 y_1.1.length cap_9, .bool y_1.2.1, .int .i64 y_1.2.2] 50 (0, 0))) :: H) w_5) ?_ ?_
   ·refine RcF f hj_1 (fun h_6 hF_6 => ?_) fun h_6 hF_8 => ?_
    ·have k_2 := dI.1 h_6
     refine R_reg (Y f 3 fun _ f => ?_)
     obtain ⟨x_2, hx_2, hF_7⟩ := bS hF_6
     have p_6 := p_4.pl [1]
     refine Y16 (E := [Ent.obj b0 (.cells #[.pointer A_9, .slice A_10 s_1.2.1.length cap_7, .bool s_1.2.2.1, .int .i64 s_1.2.2.2] 50 (0, 0)), Ent.row 5 1 (.slice A_10 s_1.2.1.length cap_7) s_1.2.1.length cs_3]) (H := (H)) f p_6 (strings_Builder_WriteByte_2_ok n _ (GL.mono (hM_1.trans hM_2) hG) b0 A_9 hb_3 s_1.2.1 A_10 cap_7 cs_3 hr_3 (s_1.2.2.1) s_1.2.2.2 (44 : Int) x_2 hx_2) fun _ M_3 E_2 w_4 hM_3 p_5 q_2 _ f => ?_
     obtain ⟨A_11, A_12, cap_8, cs_4, rfl, rfl, hb_4, hr_4⟩ := q_2
     refine W_end rfl ?_
     have p_8 := p_5.pl [1]
     refine T_n ?_
     exact ⟨(x_2.2.1, (x_2.2.2.1), x_2.2.2.2), (sI hF_7).symm, M_3, hM_3, A_11, A_12, cap_8, cs_4, hb_4, hr_4, f.kp, p_8⟩
    ·have k_3 := iff_f dI h_6
     refine wp_skip (T_n ?_)
     exact ⟨(s_1.2.1, (s_1.2.2.1), s_1.2.2.2), (sI hF_8).symm, M_2, (mR _), A_9, A_10, cap_7, cs_3, hb_3, hr_3, f.kp, p_4⟩
   ·rintro a_17 w_5 ⟨y_1, hq_1, M_4, hM_4, A_13, A_14, cap_9, cs_5, hb_5, hr_5, f, p_7⟩
    subst j_1
    refine T_n (RR (Y f 1 fun _ f => ?_))
    obtain ⟨x_3, hx_3, hF_9⟩ := bS hF_5
    have p_10 := p_7.pl [1]
    refine Y16 (E := [Ent.obj b0 (.cells #[.pointer A_13, .slice A_14 y_1.1.length cap_9, .bool y_1.2.1, .int .i64 y_1.2.2] 50 (0, 0)), Ent.row 5 1 (.slice A_14 y_1.1.length cap_9) y_1.1.length cs_5]) (H := (H)) f p_10 (print_writer_line_ok n _ (GL.mono ((hM_1.trans hM_2).trans hM_4) hG) b0 A_13 hb_5 y_1.1 A_14 cap_9 cs_5 hr_5 (y_1.2.1) y_1.2.2 x_3 hx_3) fun _ M_5 E_3 w_6 hM_5 p_9 q_3 _ f => ?_
    obtain ⟨A_15, A_16, cap_10, cs_6, rfl, rfl, hb_6, hr_6⟩ := q_3
    refine eT (RR (Y f 2 fun _ f => ?_))
    obtain ⟨x_4, hx_4, hF_10⟩ := bS hF_9
    refine Y16 (E := [Ent.obj b0 (.cells #[.pointer A_15, .slice A_16 x_3.1.length cap_10, .bool x_3.2.1, .int .i64 x_3.2.2] 50 (0, 0)), Ent.row 5 1 (.slice A_16 x_3.1.length cap_10) x_3.1.length cs_6]) (H := (H)) f p_9 (print_writer_object_1_ok n _ (GL.mono (((hM_1.trans hM_2).trans hM_4).trans hM_5) hG) s_1.1 b0 A_15 hb_6 x_3.1 A_16 cap_10 cs_6 hr_6 (x_3.2.1) x_3.2.2 ad4_0 ((fzu (((hM_1.trans hM_2).trans hM_4).trans hM_5) q4_0)) ad4_1_f [.int .i8 d4_1_f.fKind, .bool d4_1_f.fBool, .int .i64 d4_1_f.fNum, S d4_1_f.fText, .slice A_5 d4_1_f.fList.length cap_4, .slice A_6 d4_1_f.fKeys.length cap_5] d4_1_f (TA0.shutx (x := d4_1_f) (h_3.mono (((hM_1.trans hM_2).trans hM_4).trans hM_5)) (h_4.mono (((hM_1.trans hM_2).trans hM_4).trans hM_5))) (fz_at ((fzu (((hM_1.trans hM_2).trans hM_4).trans hM_5) q4_1_f)) 0 rfl) ad4_1 ((fzu (((hM_1.trans hM_2).trans hM_4).trans hM_5) q4_1)) x_4 hx_4) fun _ M_6 E_4 w_7 hM_6 p_11 q_4 _ f => ?_
    obtain ⟨A_17, A_18, cap_11, cs_7, rfl, rfl, hb_7, hr_7⟩ := q_4
    refine eT (R_reg (Y f 4 fun _ f => Y14 f p_11 (fzu ((((hM_1.trans hM_2).trans hM_4).trans hM_5).trans hM_6) q1) 4 rfl fun _ f => Y f 1 fun _ f => ?_))
    obtain ⟨x_5, hx_5, hF_11⟩ := bS hF_10
    obtain ⟨ad_1, c_1, e_1, -, hr_8, hc_1⟩ := Sli.at_ (h_1.mono ((((hM_1.trans hM_2).trans hM_4).trans hM_5).trans hM_6)) hx_5
    obtain ⟨A_19, cap_12, A_20, cap_13, rfl, h_7, h_8⟩ := TA0.opn hr_8
    refine Z f (Y29 e_1 rfl (len := d1.fList.length) (cap := cap_2) (k := .i64) (i := s_1.1) (e := 26) (sz := 6) (getI_nn hx_5) (getI_lt hx_5)) fun _ f => ?_
    obtain ⟨x_6, hx_6, hF_12⟩ := bS hF_11
    refine Y16 (E := [Ent.obj b0 (.cells #[.pointer A_17, .slice A_18 x_4.1.length cap_11, .bool x_4.2.1, .int .i64 x_4.2.2] 50 (0, 0)), Ent.row 5 1 (.slice A_18 x_4.1.length cap_11) x_4.1.length cs_7]) (H := (H)) f p_11 (hrec_print_writer_value _ (GL.mono ((((hM_1.trans hM_2).trans hM_4).trans hM_5).trans hM_6) hG) b0 A_17 hb_7 x_4.1 A_18 cap_11 cs_7 hr_7 (x_4.2.1) x_4.2.2 (ad_1.add (s_1.1.toNat * 6)) [.int .i8 x_5.fKind, .bool x_5.fBool, .int .i64 x_5.fNum, S x_5.fText, .slice A_19 x_5.fList.length cap_12, .slice A_20 x_5.fKeys.length cap_13] x_5 (TA0.shutx (x := x_5) h_7 h_8) (fz_at (hc_1) 0 rfl) x_6 hx_6) fun _ M_7 E_5 w_8 hM_7 p_12 q_5 _ f => ?_
    obtain ⟨A_21, A_22, cap_14, cs_8, rfl, rfl, hb_8, hr_9⟩ := q_5
    refine W_end rfl (B_n (T_n (R_reg ?_)))
    obtain ⟨g_2, hF_13⟩ := nS hF_12
    refine Y f 1 fun _ f => ?_
    have f := f.st 50 (congrArg (Value.int .i64) (inR_wrap g_2))
    refine Y f 1 fun _ f => W_end rfl ?_
    have p_14 := p_12.pl [1]
    refine T_n ?_
    obtain rfl := sI hF_13
    exact ⟨⟨m_2, (s_1.1 + 1, x_6.1, (x_6.2.1), x_6.2.2), A_21, A_22, cap_14, cs_8⟩, Nat.lt_succ_self _, M_7, ((((hM_2.trans hM_4).trans hM_5).trans hM_6).trans hM_7), ⟨hn_1, hb_8, hr_9⟩, f.kp, p_14⟩
  ·have k_4 := iff_f dI h_5
   refine wp_exit (T_x (T_x ?_))
   obtain rfl := sI hF_14
   exact ⟨rfl, (s_1.2.1, (s_1.2.2.1), s_1.2.2.2), (sI hn_1).symm, M_2, hM_2, A_9, A_10, cap_7, cs_3, hb_3, hr_3, f.kp, p_4⟩
 ·rintro _ _ w_10 ⟨rfl, y_2, hq_, M_8, hM_8, A_23, A_24, cap_15, cs_9, hb_9, hr_10, f, p_13⟩
  subst b_1
  refine B_x (T_n (RR (Y f 3 fun _ f => Z f (Y30 (v := .int .i64 y_2.2.2) rfl (ad := ⟨b0, 3, none⟩) (p_13.ownCell 1 rfl 3)) fun _ f => ?_)))
  obtain ⟨g_3, hF_15⟩ := nS hF_3
  refine Y f 1 fun _ f => ?_
  have f := f.st 55 (congrArg (Value.int .i64) (inR_wrap g_3))
  refine Y f 2 fun _ f => Y26 f p_13 1 rfl rfl (b := b0) (j := 3) (v := .int .i64 (y_2.2.2 - 1)) rfl (by exact rfl) (by simp) (by simp) ((Ent.row 5 1 (.slice A_24 y_2.1.length cap_15) y_2.1.length cs_9) :: (Ent.obj b0 (.cells #[.pointer A_23, .slice A_24 y_2.1.length cap_15, .bool y_2.2.1, .int .i64 (y_2.2.2 - 1)] 50 (0, 0))) :: H) rfl fun w_11 p_15 _ f => eT (R_seq (RR (Y f 3 fun _ f => Y14 f p_15 (fzu (hM_1.trans hM_8) q1) 4 rfl fun _ f => Y f 2 fun _ f => eT ?_)))
  obtain ⟨j_2, hj_2, hF_16⟩ := bS hF_15
  refine R_mid (fun a_41 w_13 => ∃ y_3 : List UInt8 × Bool × Int, j_2 = y_3 ∧ ∃ M_10 : Mem, M_8.le M_10 ∧ ∃ (A_27 : Option Addr), ∃ (A_28 : Option Addr), ∃ (cap_17 : Nat), ∃ (cs_11 : List Value), (A_27 = none ∨ A_27 = some ⟨b0, 0, none⟩) ∧ RepSeq M_10 (y_3.1.map embB) cs_11 ∧ Frm 71 [(0, .pointer (some (⟨b0, 0, none⟩))), (3, .int .u8 d3)] a_41 ∧ Hp w0 M_10 ((Ent.row 5 1 (.slice A_28 y_3.1.length cap_17) y_3.1.length cs_11) :: (Ent.obj b0 (.cells #[.pointer A_27, .slice A_28 y_3.1.length cap_17, .bool y_3.2.1, .int .i64 y_3.2.2] 50 (0, 0))) :: H) w_13) ?_ ?_
  ·refine RcF f hj_2 (fun h_9 hF_17 => ?_) fun h_9 hF_19 => ?_
   ·have k_5 := dI.1 h_9
    refine R_reg (Y f 1 fun _ f => ?_)
    obtain ⟨x_7, hx_7, hF_18⟩ := bS hF_17
    have p_17 := p_15.pl [1]
    refine Y16 (E := [Ent.obj b0 (.cells #[.pointer A_23, .slice A_24 y_2.1.length cap_15, .bool y_2.2.1, .int .i64 (y_2.2.2 - 1)] 50 (0, 0)), Ent.row 5 1 (.slice A_24 y_2.1.length cap_15) y_2.1.length cs_9]) (H := (H)) f p_17 (print_writer_line_ok n _ (GL.mono (hM_1.trans hM_8) hG) b0 A_23 hb_9 y_2.1 A_24 cap_15 cs_9 hr_10 (y_2.2.1) (y_2.2.2 - 1) x_7 hx_7) fun _ M_9 E_6 w_12 hM_9 p_16 q_6 _ f => ?_
    obtain ⟨A_25, A_26, cap_16, cs_10, rfl, rfl, hb_10, hr_11⟩ := q_6
    refine W_end rfl ?_
    have p_19 := p_16.pl [1]
    refine T_n ?_
    exact ⟨(x_7.1, (x_7.2.1), x_7.2.2), (sI hF_18).symm, M_9, hM_9, A_25, A_26, cap_16, cs_10, hb_10, hr_11, f.kp, p_19⟩
   ·have k_6 := iff_f dI h_9
    refine wp_skip (T_n ?_)
    exact ⟨(y_2.1, (y_2.2.1), y_2.2.2 - 1), (sI hF_19).symm, M_8, (mR _), A_23, A_24, cap_15, cs_9, hb_9, hr_10, f.kp, p_15⟩
  ·rintro a_41 w_13 ⟨y_3, hq_2, M_10, hM_10, A_27, A_28, cap_17, cs_11, hb_11, hr_12, f, p_18⟩
   subst j_2
   refine T_n (R_reg (Y f 4 fun _ f => ?_))
   obtain ⟨x_8, hx_8, hF_20⟩ := bS hF_16
   have p_21 := p_18.pl [1]
   refine Y16 (E := [Ent.obj b0 (.cells #[.pointer A_27, .slice A_28 y_3.1.length cap_17, .bool y_3.2.1, .int .i64 y_3.2.2] 50 (0, 0)), Ent.row 5 1 (.slice A_28 y_3.1.length cap_17) y_3.1.length cs_11]) (H := (H)) f p_21 (strings_Builder_WriteByte_2_ok n _ (GL.mono ((hM_1.trans hM_8).trans hM_10) hG) b0 A_27 hb_11 y_3.1 A_28 cap_17 cs_11 hr_12 (y_3.2.1) y_3.2.2 d3 x_8 hx_8) fun _ M_11 E_7 w_14 hM_11 p_20 q_7 _ f => ?_
   obtain ⟨A_29, A_30, cap_18, cs_12, rfl, rfl, hb_12, hr_13⟩ := q_7
   refine W_end rfl (E_end0 f rfl  ?_)
   obtain rfl := sI hF_20
   exact ⟨_, rfl, M_11, _, (((hM_1.trans hM_8).trans hM_10).trans hM_11), p_20, ⟨A_29, A_30, cap_18, cs_12, rfl, rfl, hb_12, hr_13⟩⟩
def print_writer_object (n : Nat) (rec_print_writer_value : (List UInt8) → Bool → Int → TA0 → Option (List UInt8 × Bool × Int)) (d0_1 : List UInt8) (d0_2 : Bool) (d0_3 : Int) (d1 : TA0) : Option (List UInt8 × Bool × Int) :=
  (print_writer_parts n rec_print_writer_value d0_1 (d0_2) d0_3 d1 (123 : Int) (125 : Int) d1).bind fun x_1 =>
  some ((x_1.1, (x_1.2.1), x_1.2.2))
theorem print_writer_object_ok (n : Nat) (rec_print_writer_value : (List UInt8) → Bool → Int → TA0 → Option (List UInt8 × Bool × Int)) (hrec_print_writer_value : ∀ (M : Mem) (hG : GL M) (b0 : Nat) (A_1 : Option Addr) (hb_1 : (A_1 = none ∨ A_1 = some ⟨b0, 0, none⟩)) (d0_1 : List UInt8) (A_2 : Option Addr) (cap_1 : Nat) (cs_1 : List Value) (hr_1 : RepSeq M (d0_1.map embB) cs_1) (d0_2 : Bool) (d0_3 : Int) (ad1 : Addr) (c1 : List Value) (d1 : TA0) (h1 : Rep M (emb_TA0 d1) c1) (q1 : ∀ j v, c1[j]? = some v → M.cell? (ad1.add j) = some v) (r : List UInt8 × Bool × Int) (hF : rec_print_writer_value d0_1 d0_2 d0_3 d1 = some r), OkH Tryd.prog M [Ent.obj b0 (.cells #[.pointer A_1, .slice A_2 d0_1.length cap_1, .bool d0_2, .int .i64 d0_3] 50 (0, 0)), Ent.row 5 1 (.slice A_2 d0_1.length cap_1) d0_1.length cs_1] 23 [.pointer (some (⟨b0, 0, none⟩)), .pointer (some ad1)] (fun M' E' v => ∃ (A_3 : Option Addr) (A_4 : Option Addr) (cap_2 : Nat) (cs_2 : List Value), v = .tuple #[] ∧ E' = [Ent.obj b0 (.cells #[.pointer A_3, .slice A_4 r.1.length cap_2, .bool r.2.1, .int .i64 r.2.2] 50 (0, 0)), Ent.row 5 1 (.slice A_4 r.1.length cap_2) r.1.length cs_2] ∧ (A_3 = none ∨ A_3 = some ⟨b0, 0, none⟩) ∧ RepSeq M' (r.1.map embB) cs_2)) (M : Mem) (hG : GL M) (b0 : Nat) (A_1 : Option Addr) (hb_1 : (A_1 = none ∨ A_1 = some ⟨b0, 0, none⟩)) (d0_1 : List UInt8) (A_2 : Option Addr) (cap_1 : Nat) (cs_1 : List Value) (hr_1 : RepSeq M (d0_1.map embB) cs_1) (d0_2 : Bool) (d0_3 : Int) (ad1 : Addr) (c1 : List Value) (d1 : TA0) (h1 : Rep M (emb_TA0 d1) c1) (q1 : ∀ j v, c1[j]? = some v → M.cell? (ad1.add j) = some v) (r : List UInt8 × Bool × Int) (hF : print_writer_object n rec_print_writer_value d0_1 d0_2 d0_3 d1 = some r) : OkH Tryd.prog M [Ent.obj b0 (.cells #[.pointer A_1, .slice A_2 d0_1.length cap_1, .bool d0_2, .int .i64 d0_3] 50 (0, 0)), Ent.row 5 1 (.slice A_2 d0_1.length cap_1) d0_1.length cs_1] 38 [.pointer (some (⟨b0, 0, none⟩)), .pointer (some ad1)] (fun M' E' v => ∃ (A_7 : Option Addr) (A_8 : Option Addr) (cap_5 : Nat) (cs_3 : List Value), v = .tuple #[] ∧ E' = [Ent.obj b0 (.cells #[.pointer A_7, .slice A_8 r.1.length cap_5, .bool r.2.1, .int .i64 r.2.2] 50 (0, 0)), Ent.row 5 1 (.slice A_8 r.1.length cap_5) r.1.length cs_3] ∧ (A_7 = none ∨ A_7 = some ⟨b0, 0, none⟩) ∧ RepSeq M' (r.1.map embB) cs_3) := by
 unfold print_writer_object at hF
 intro M1 hM0 w0 H w p0
 replace hG := GL.mono hM0 hG
 replace hr_1 := RepSeq.mono hM0 _ _ hr_1
 replace h1 := Rep.mono hM0 _ _ h1
 replace q1 := fun j v h => hM0.cell (q1 j v h)
 obtain ⟨A_3, cap_2, A_4, cap_3, rfl, h_1, h_2⟩ := TA0.opn h1
 refine R_enter 8 Tryd.func38 rfl rfl (by simp) fun a0 f0 => RR (Y12 (cs := #[.pointer (some (⟨b0, 0, none⟩))]) (T := 45) f0 p0 fun b_1 M_1 w_1 hM_1 hc_1 p_1 _ f => ?_)
 have hc_2 := fz_box hc_1
 refine Y12 (cs := #[.pointer (some ad1)]) (T := 44) f p_1 fun b_2 M_2 w_2 hM_2 hc_3 p_2 _ f => ?_
 have hc_4 := fz_box hc_3
 refine eT (R_reg (Y14 f p_2 (fzu hM_2 hc_2) 0 rfl fun _ f => Y14 f p_2 hc_4 0 rfl fun _ f => Y f 1 fun _ f => ?_))
 obtain ⟨x_1, hx_1, hF_1⟩ := bS hF
 refine Y16 (E := [Ent.obj b0 (.cells #[.pointer A_1, .slice A_2 d0_1.length cap_1, .bool d0_2, .int .i64 d0_3] 50 (0, 0)), Ent.row 5 1 (.slice A_2 d0_1.length cap_1) d0_1.length cs_1]) (H := (H)) f p_2 (print_writer_parts_ok n rec_print_writer_value hrec_print_writer_value _ (GL.mono (hM_1.trans hM_2) hG) b0 A_1 hb_1 d0_1 A_2 cap_1 cs_1 (RepSeq.mono (hM_1.trans hM_2) _ _ hr_1) (d0_2) d0_3 ad1 [.int .i8 d1.fKind, .bool d1.fBool, .int .i64 d1.fNum, S d1.fText, .slice A_3 d1.fList.length cap_2, .slice A_4 d1.fKeys.length cap_3] d1 (TA0.shutx (x := d1) (h_1.mono (hM_1.trans hM_2)) (h_2.mono (hM_1.trans hM_2))) (fz_at ((fzu (hM_1.trans hM_2) q1)) 0 rfl) (123 : Int) (125 : Int) (⟨b_1, 0, none⟩) ((fzu hM_2 hc_2)) ad1 [.int .i8 d1.fKind, .bool d1.fBool, .int .i64 d1.fNum, S d1.fText, .slice A_3 d1.fList.length cap_2, .slice A_4 d1.fKeys.length cap_3] d1 (TA0.shutx (x := d1) (h_1.mono (hM_1.trans hM_2)) (h_2.mono (hM_1.trans hM_2))) (fz_at ((fzu (hM_1.trans hM_2) q1)) 0 rfl) (⟨b_2, 0, none⟩) (hc_4) x_1 hx_1) fun _ M_3 E_1 w_3 hM_3 p_3 q_1 _ f => ?_
 obtain ⟨A_5, A_6, cap_4, cs_2, rfl, rfl, hb_2, hr_2⟩ := q_1
 refine W_end rfl (E_end0 f rfl  ?_)
 obtain rfl := sI hF_1
 exact ⟨_, rfl, M_3, _, ((hM_1.trans hM_2).trans hM_3), p_3, ⟨A_5, A_6, cap_4, cs_2, rfl, rfl, hb_2, hr_2⟩⟩
def print_writer_value_b (n : Nat) (rec_print_writer_value : (List UInt8) → Bool → Int → TA0 → Option (List UInt8 × Bool × Int)) (d0_1 : List UInt8) (d0_2 : Bool) (d0_3 : Int) (d1 : TA0) : Option (List UInt8 × Bool × Int) :=
  need (0 ≤ d1.fKind ∧ d1.fKind < 6) <|
  bif (decide (d1.fKind = 0)) then
    ((print_writer_null n d0_1 (d0_2) d0_3 d1).bind fun x_1 =>
    some ((x_1.1, (x_1.2.1), x_1.2.2)))
  else
    bif (decide (d1.fKind = 1)) then
      ((print_writer_bool n d0_1 (d0_2) d0_3 d1).bind fun x_2 =>
      some ((x_2.1, (x_2.2.1), x_2.2.2)))
    else
      bif (decide (d1.fKind = 2)) then
        ((print_writer_number n d0_1 (d0_2) d0_3 d1).bind fun x_3 =>
        some ((x_3.1, (x_3.2.1), x_3.2.2)))
      else
        bif (decide (d1.fKind = 3)) then
          ((print_writer_text n d0_1 (d0_2) d0_3 d1).bind fun x_4 =>
          some ((x_4.1, (x_4.2.1), x_4.2.2)))
        else
          bif (decide (d1.fKind = 4)) then
            ((print_writer_list_2 n rec_print_writer_value d0_1 (d0_2) d0_3 d1).bind fun x_5 =>
            some ((x_5.1, (x_5.2.1), x_5.2.2)))
          else
            (print_writer_object n rec_print_writer_value d0_1 (d0_2) d0_3 d1).bind fun x_6 =>
            some ((x_6.1, (x_6.2.1), x_6.2.2))
theorem print_writer_value_b_ok (n : Nat) (rec_print_writer_value : (List UInt8) → Bool → Int → TA0 → Option (List UInt8 × Bool × Int)) (hrec_print_writer_value : ∀ (M : Mem) (hG : GL M) (b0 : Nat) (A_1 : Option Addr) (hb_1 : (A_1 = none ∨ A_1 = some ⟨b0, 0, none⟩)) (d0_1 : List UInt8) (A_2 : Option Addr) (cap_1 : Nat) (cs_1 : List Value) (hr_1 : RepSeq M (d0_1.map embB) cs_1) (d0_2 : Bool) (d0_3 : Int) (ad1 : Addr) (c1 : List Value) (d1 : TA0) (h1 : Rep M (emb_TA0 d1) c1) (q1 : ∀ j v, c1[j]? = some v → M.cell? (ad1.add j) = some v) (r : List UInt8 × Bool × Int) (hF : rec_print_writer_value d0_1 d0_2 d0_3 d1 = some r), OkH Tryd.prog M [Ent.obj b0 (.cells #[.pointer A_1, .slice A_2 d0_1.length cap_1, .bool d0_2, .int .i64 d0_3] 50 (0, 0)), Ent.row 5 1 (.slice A_2 d0_1.length cap_1) d0_1.length cs_1] 23 [.pointer (some (⟨b0, 0, none⟩)), .pointer (some ad1)] (fun M' E' v => ∃ (A_3 : Option Addr) (A_4 : Option Addr) (cap_2 : Nat) (cs_2 : List Value), v = .tuple #[] ∧ E' = [Ent.obj b0 (.cells #[.pointer A_3, .slice A_4 r.1.length cap_2, .bool r.2.1, .int .i64 r.2.2] 50 (0, 0)), Ent.row 5 1 (.slice A_4 r.1.length cap_2) r.1.length cs_2] ∧ (A_3 = none ∨ A_3 = some ⟨b0, 0, none⟩) ∧ RepSeq M' (r.1.map embB) cs_2)) (M : Mem) (hG : GL M) (b0 : Nat) (A_1 : Option Addr) (hb_1 : (A_1 = none ∨ A_1 = some ⟨b0, 0, none⟩)) (d0_1 : List UInt8) (A_2 : Option Addr) (cap_1 : Nat) (cs_1 : List Value) (hr_1 : RepSeq M (d0_1.map embB) cs_1) (d0_2 : Bool) (d0_3 : Int) (ad1 : Addr) (c1 : List Value) (d1 : TA0) (h1 : Rep M (emb_TA0 d1) c1) (q1 : ∀ j v, c1[j]? = some v → M.cell? (ad1.add j) = some v) (r : List UInt8 × Bool × Int) (hF : print_writer_value_b n rec_print_writer_value d0_1 d0_2 d0_3 d1 = some r) : OkH Tryd.prog M [Ent.obj b0 (.cells #[.pointer A_1, .slice A_2 d0_1.length cap_1, .bool d0_2, .int .i64 d0_3] 50 (0, 0)), Ent.row 5 1 (.slice A_2 d0_1.length cap_1) d0_1.length cs_1] 23 [.pointer (some (⟨b0, 0, none⟩)), .pointer (some ad1)] (fun M' E' v => ∃ (A_19 : Option Addr) (A_20 : Option Addr) (cap_11 : Nat) (cs_9 : List Value), v = .tuple #[] ∧ E' = [Ent.obj b0 (.cells #[.pointer A_19, .slice A_20 r.1.length cap_11, .bool r.2.1, .int .i64 r.2.2] 50 (0, 0)), Ent.row 5 1 (.slice A_20 r.1.length cap_11) r.1.length cs_9] ∧ (A_19 = none ∨ A_19 = some ⟨b0, 0, none⟩) ∧ RepSeq M' (r.1.map embB) cs_9) := by
 unfold print_writer_value_b at hF
 intro M1 hM0 w0 H w p0
 replace hG := GL.mono hM0 hG
 replace hr_1 := RepSeq.mono hM0 _ _ hr_1
 replace h1 := Rep.mono hM0 _ _ h1
 replace q1 := fun j v h => hM0.cell (q1 j v h)
 obtain ⟨A_5, cap_3, A_6, cap_4, rfl, h_1, h_2⟩ := TA0.opn h1
 refine R_enter 13 Tryd.func23 rfl rfl (by simp) fun a0 f0 => R_reg (Y f0 4 fun _ f => Y14 f p0 q1 0 rfl fun _ f => ?_)
 obtain ⟨g_1, hF_1⟩ := nS hF
 rcases cE hF_1 with ⟨h_3, hF_2⟩ | ⟨h_3, hF_4⟩
 ·have e_1 : d1.fKind = 0 := of_decide_eq_true h_3
  have f := Frm.set f 8 (v := .int .i8 d1.fKind) (v' := .int .i8 0) (by kernel_rfl) (congrArg (Value.int .i8) e_1)
  refine Y f 1 fun _ f => Y f 2 fun _ f => ?_
  obtain ⟨x_1, hx_1, hF_3⟩ := bS hF_2
  refine Y16 (E := [Ent.obj b0 (.cells #[.pointer A_1, .slice A_2 d0_1.length cap_1, .bool d0_2, .int .i64 d0_3] 50 (0, 0)), Ent.row 5 1 (.slice A_2 d0_1.length cap_1) d0_1.length cs_1]) (H := (H)) f p0 (print_writer_null_ok n _ hG b0 A_1 hb_1 d0_1 A_2 cap_1 cs_1 hr_1 (d0_2) d0_3 ad1 [.int .i8 d1.fKind, .bool d1.fBool, .int .i64 d1.fNum, S d1.fText, .slice A_5 d1.fList.length cap_3, .slice A_6 d1.fKeys.length cap_4] d1 (TA0.shutx (x := d1) h_1 h_2) (fz_at (q1) 0 rfl) x_1 hx_1) fun _ M_1 E_1 w_1 hM_1 p_1 q_1 _ f => ?_
  obtain ⟨A_7, A_8, cap_5, cs_3, rfl, rfl, hb_3, hr_3⟩ := q_1
  refine W_end rfl (E_end0 f rfl  ?_)
  obtain rfl := sI hF_3
  exact ⟨_, rfl, M_1, _, hM_1, p_1, ⟨A_7, A_8, cap_5, cs_3, rfl, rfl, hb_3, hr_3⟩⟩
 ·have e_2 : ¬ (d1.fKind = 0) := of_decide_eq_false h_3
  rcases cE hF_4 with ⟨h_4, hF_5⟩ | ⟨h_4, hF_7⟩
  ·have e_3 : d1.fKind = 1 := of_decide_eq_true h_4
   have f := Frm.set f 8 (v := .int .i8 d1.fKind) (v' := .int .i8 1) (by kernel_rfl) (congrArg (Value.int .i8) e_3)
   refine Y f 1 fun _ f => Y f 2 fun _ f => ?_
   obtain ⟨x_2, hx_2, hF_6⟩ := bS hF_5
   refine Y16 (E := [Ent.obj b0 (.cells #[.pointer A_1, .slice A_2 d0_1.length cap_1, .bool d0_2, .int .i64 d0_3] 50 (0, 0)), Ent.row 5 1 (.slice A_2 d0_1.length cap_1) d0_1.length cs_1]) (H := (H)) f p0 (print_writer_bool_ok n _ hG b0 A_1 hb_1 d0_1 A_2 cap_1 cs_1 hr_1 (d0_2) d0_3 ad1 [.int .i8 d1.fKind, .bool d1.fBool, .int .i64 d1.fNum, S d1.fText, .slice A_5 d1.fList.length cap_3, .slice A_6 d1.fKeys.length cap_4] d1 (TA0.shutx (x := d1) h_1 h_2) (fz_at (q1) 0 rfl) x_2 hx_2) fun _ M_2 E_2 w_2 hM_2 p_2 q_2 _ f => ?_
   obtain ⟨A_9, A_10, cap_6, cs_4, rfl, rfl, hb_4, hr_4⟩ := q_2
   refine W_end rfl (E_end0 f rfl  ?_)
   obtain rfl := sI hF_6
   exact ⟨_, rfl, M_2, _, hM_2, p_2, ⟨A_9, A_10, cap_6, cs_4, rfl, rfl, hb_4, hr_4⟩⟩
  ·have e_4 : ¬ (d1.fKind = 1) := of_decide_eq_false h_4
   rcases cE hF_7 with ⟨h_5, hF_8⟩ | ⟨h_5, hF_10⟩
   ·have e_5 : d1.fKind = 2 := of_decide_eq_true h_5
    have f := Frm.set f 8 (v := .int .i8 d1.fKind) (v' := .int .i8 2) (by kernel_rfl) (congrArg (Value.int .i8) e_5)
    refine Y f 1 fun _ f => Y f 2 fun _ f => ?_
    obtain ⟨x_3, hx_3, hF_9⟩ := bS hF_8
    refine Y16 (E := [Ent.obj b0 (.cells #[.pointer A_1, .slice A_2 d0_1.length cap_1, .bool d0_2, .int .i64 d0_3] 50 (0, 0)), Ent.row 5 1 (.slice A_2 d0_1.length cap_1) d0_1.length cs_1]) (H := (H)) f p0 (print_writer_number_ok n _ hG b0 A_1 hb_1 d0_1 A_2 cap_1 cs_1 hr_1 (d0_2) d0_3 ad1 [.int .i8 d1.fKind, .bool d1.fBool, .int .i64 d1.fNum, S d1.fText, .slice A_5 d1.fList.length cap_3, .slice A_6 d1.fKeys.length cap_4] d1 (TA0.shutx (x := d1) h_1 h_2) (fz_at (q1) 0 rfl) x_3 hx_3) fun _ M_3 E_3 w_3 hM_3 p_3 q_3 _ f => ?_
    obtain ⟨A_11, A_12, cap_7, cs_5, rfl, rfl, hb_5, hr_5⟩ := q_3
    refine W_end rfl (E_end0 f rfl  ?_)
    obtain rfl := sI hF_9
    exact ⟨_, rfl, M_3, _, hM_3, p_3, ⟨A_11, A_12, cap_7, cs_5, rfl, rfl, hb_5, hr_5⟩⟩
   ·have e_6 : ¬ (d1.fKind = 2) := of_decide_eq_false h_5
    rcases cE hF_10 with ⟨h_6, hF_11⟩ | ⟨h_6, hF_13⟩
    ·have e_7 : d1.fKind = 3 := of_decide_eq_true h_6
     have f := Frm.set f 8 (v := .int .i8 d1.fKind) (v' := .int .i8 3) (by kernel_rfl) (congrArg (Value.int .i8) e_7)
     refine Y f 1 fun _ f => Y f 2 fun _ f => ?_
     obtain ⟨x_4, hx_4, hF_12⟩ := bS hF_11
     refine Y16 (E := [Ent.obj b0 (.cells #[.pointer A_1, .slice A_2 d0_1.length cap_1, .bool d0_2, .int .i64 d0_3] 50 (0, 0)), Ent.row 5 1 (.slice A_2 d0_1.length cap_1) d0_1.length cs_1]) (H := (H)) f p0 (print_writer_text_ok n _ hG b0 A_1 hb_1 d0_1 A_2 cap_1 cs_1 hr_1 (d0_2) d0_3 ad1 [.int .i8 d1.fKind, .bool d1.fBool, .int .i64 d1.fNum, S d1.fText, .slice A_5 d1.fList.length cap_3, .slice A_6 d1.fKeys.length cap_4] d1 (TA0.shutx (x := d1) h_1 h_2) (fz_at (q1) 0 rfl) x_4 hx_4) fun _ M_4 E_4 w_4 hM_4 p_4 q_4 _ f => ?_
     obtain ⟨A_13, A_14, cap_8, cs_6, rfl, rfl, hb_6, hr_6⟩ := q_4
     refine W_end rfl (E_end0 f rfl  ?_)
     obtain rfl := sI hF_12
     exact ⟨_, rfl, M_4, _, hM_4, p_4, ⟨A_13, A_14, cap_8, cs_6, rfl, rfl, hb_6, hr_6⟩⟩
    ·have e_8 : ¬ (d1.fKind = 3) := of_decide_eq_false h_6
     rcases cE hF_13 with ⟨h_7, hF_14⟩ | ⟨h_7, hF_16⟩
     ·have e_9 : d1.fKind = 4 := of_decide_eq_true h_7
      have f := Frm.set f 8 (v := .int .i8 d1.fKind) (v' := .int .i8 4) (by kernel_rfl) (congrArg (Value.int .i8) e_9)
      refine Y f 1 fun _ f => Y f 2 fun _ f => ?_
      obtain ⟨x_5, hx_5, hF_15⟩ := bS hF_14
      refine Y16 (E := [Ent.obj b0 (.cells #[.pointer A_1, .slice A_2 d0_1.length cap_1, .bool d0_2, .int .i64 d0_3] 50 (0, 0)), Ent.row 5 1 (.slice A_2 d0_1.length cap_1) d0_1.length cs_1]) (H := (H)) f p0 (print_writer_list_2_ok n rec_print_writer_value hrec_print_writer_value _ hG b0 A_1 hb_1 d0_1 A_2 cap_1 cs_1 hr_1 (d0_2) d0_3 ad1 [.int .i8 d1.fKind, .bool d1.fBool, .int .i64 d1.fNum, S d1.fText, .slice A_5 d1.fList.length cap_3, .slice A_6 d1.fKeys.length cap_4] d1 (TA0.shutx (x := d1) h_1 h_2) (fz_at (q1) 0 rfl) x_5 hx_5) fun _ M_5 E_5 w_5 hM_5 p_5 q_5 _ f => ?_
      obtain ⟨A_15, A_16, cap_9, cs_7, rfl, rfl, hb_7, hr_7⟩ := q_5
      refine W_end rfl (E_end0 f rfl  ?_)
      obtain rfl := sI hF_15
      exact ⟨_, rfl, M_5, _, hM_5, p_5, ⟨A_15, A_16, cap_9, cs_7, rfl, rfl, hb_7, hr_7⟩⟩
     ·have e_10 : ¬ (d1.fKind = 4) := of_decide_eq_false h_7
      have e_11 : d1.fKind = 5 := by omega
      have f := Frm.set f 8 (v := .int .i8 d1.fKind) (v' := .int .i8 5) (by kernel_rfl) (congrArg (Value.int .i8) e_11)
      refine Y f 1 fun _ f => Y f 2 fun _ f => ?_
      obtain ⟨x_6, hx_6, hF_17⟩ := bS hF_16
      refine Y16 (E := [Ent.obj b0 (.cells #[.pointer A_1, .slice A_2 d0_1.length cap_1, .bool d0_2, .int .i64 d0_3] 50 (0, 0)), Ent.row 5 1 (.slice A_2 d0_1.length cap_1) d0_1.length cs_1]) (H := (H)) f p0 (print_writer_object_ok n rec_print_writer_value hrec_print_writer_value _ hG b0 A_1 hb_1 d0_1 A_2 cap_1 cs_1 hr_1 (d0_2) d0_3 ad1 [.int .i8 d1.fKind, .bool d1.fBool, .int .i64 d1.fNum, S d1.fText, .slice A_5 d1.fList.length cap_3, .slice A_6 d1.fKeys.length cap_4] d1 (TA0.shutx (x := d1) h_1 h_2) (fz_at (q1) 0 rfl) x_6 hx_6) fun _ M_6 E_6 w_6 hM_6 p_6 q_6 _ f => ?_
      obtain ⟨A_17, A_18, cap_10, cs_8, rfl, rfl, hb_8, hr_8⟩ := q_6
      refine W_end rfl (E_end0 f rfl  ?_)
      obtain rfl := sI hF_17
      exact ⟨_, rfl, M_6, _, hM_6, p_6, ⟨A_17, A_18, cap_10, cs_8, rfl, rfl, hb_8, hr_8⟩⟩
def print_writer_value_k (n : Nat) : Nat → (List UInt8) → Bool → Int → TA0 → Option (List UInt8 × Bool × Int)
  | 0 => fun _ _ _ _ => none
  | k + 1 => print_writer_value_b n (print_writer_value_k n k)
def print_writer_value (n : Nat) (d0_1 : List UInt8) (d0_2 : Bool) (d0_3 : Int) (d1 : TA0) : Option (List UInt8 × Bool × Int) := print_writer_value_k n n d0_1 d0_2 d0_3 d1
theorem print_writer_value_ok (n : Nat) (M : Mem) (hG : GL M) (b0 : Nat) (A_1 : Option Addr) (hb_1 : (A_1 = none ∨ A_1 = some ⟨b0, 0, none⟩)) (d0_1 : List UInt8) (A_2 : Option Addr) (cap_1 : Nat) (cs_1 : List Value) (hr_1 : RepSeq M (d0_1.map embB) cs_1) (d0_2 : Bool) (d0_3 : Int) (ad1 : Addr) (c1 : List Value) (d1 : TA0) (h1 : Rep M (emb_TA0 d1) c1) (q1 : ∀ j v, c1[j]? = some v → M.cell? (ad1.add j) = some v) (r : List UInt8 × Bool × Int) (hF : print_writer_value n d0_1 d0_2 d0_3 d1 = some r) : OkH Tryd.prog M [Ent.obj b0 (.cells #[.pointer A_1, .slice A_2 d0_1.length cap_1, .bool d0_2, .int .i64 d0_3] 50 (0, 0)), Ent.row 5 1 (.slice A_2 d0_1.length cap_1) d0_1.length cs_1] 23 [.pointer (some (⟨b0, 0, none⟩)), .pointer (some ad1)] (fun M' E' v => ∃ (A_19 : Option Addr) (A_20 : Option Addr) (cap_11 : Nat) (cs_9 : List Value), v = .tuple #[] ∧ E' = [Ent.obj b0 (.cells #[.pointer A_19, .slice A_20 r.1.length cap_11, .bool r.2.1, .int .i64 r.2.2] 50 (0, 0)), Ent.row 5 1 (.slice A_20 r.1.length cap_11) r.1.length cs_9] ∧ (A_19 = none ∨ A_19 = some ⟨b0, 0, none⟩) ∧ RepSeq M' (r.1.map embB) cs_9) := by
 have key : ∀ (k : Nat) (M : Mem) (hG : GL M) (b0 : Nat) (A_1 : Option Addr) (hb_1 : (A_1 = none ∨ A_1 = some ⟨b0, 0, none⟩)) (d0_1 : List UInt8) (A_2 : Option Addr) (cap_1 : Nat) (cs_1 : List Value) (hr_1 : RepSeq M (d0_1.map embB) cs_1) (d0_2 : Bool) (d0_3 : Int) (ad1 : Addr) (c1 : List Value) (d1 : TA0) (h1 : Rep M (emb_TA0 d1) c1) (q1 : ∀ j v, c1[j]? = some v → M.cell? (ad1.add j) = some v) (r : List UInt8 × Bool × Int) (hF : print_writer_value_k n k d0_1 d0_2 d0_3 d1 = some r), OkH Tryd.prog M [Ent.obj b0 (.cells #[.pointer A_1, .slice A_2 d0_1.length cap_1, .bool d0_2, .int .i64 d0_3] 50 (0, 0)), Ent.row 5 1 (.slice A_2 d0_1.length cap_1) d0_1.length cs_1] 23 [.pointer (some (⟨b0, 0, none⟩)), .pointer (some ad1)] (fun M' E' v => ∃ (A_19 : Option Addr) (A_20 : Option Addr) (cap_11 : Nat) (cs_9 : List Value), v = .tuple #[] ∧ E' = [Ent.obj b0 (.cells #[.pointer A_19, .slice A_20 r.1.length cap_11, .bool r.2.1, .int .i64 r.2.2] 50 (0, 0)), Ent.row 5 1 (.slice A_20 r.1.length cap_11) r.1.length cs_9] ∧ (A_19 = none ∨ A_19 = some ⟨b0, 0, none⟩) ∧ RepSeq M' (r.1.map embB) cs_9) := by
  intro k
  induction k with
  | zero => intro M hG b0 A_1 hb_1 d0_1 A_2 cap_1 cs_1 hr_1 d0_2 d0_3 ad1 c1 d1 h1 q1 r hF; simp [print_writer_value_k] at hF
  | succ k ih => intro M hG b0 A_1 hb_1 d0_1 A_2 cap_1 cs_1 hr_1 d0_2 d0_3 ad1 c1 d1 h1 q1 r hF; exact print_writer_value_b_ok n (print_writer_value_k n k) ih M hG b0 A_1 hb_1 d0_1 A_2 cap_1 cs_1 hr_1 d0_2 d0_3 ad1 c1 d1 h1 q1 r hF
 exact key n M hG b0 A_1 hb_1 d0_1 A_2 cap_1 cs_1 hr_1 d0_2 d0_3 ad1 c1 d1 h1 q1 r hF
def strings_Builder_Len (n : Nat) (d0_1 : List UInt8) (d0_2 : Bool) (d0_3 : Int) : Option (Int × List UInt8 × Bool × Int) :=
  some ((((d0_1.length : Nat) : Int), d0_1, (d0_2), d0_3))
theorem strings_Builder_Len_ok (n : Nat) (M : Mem) (hG : GL M) (b0 : Nat) (A_1 : Option Addr) (hb_1 : (A_1 = none ∨ A_1 = some ⟨b0, 0, none⟩)) (d0_1 : List UInt8) (A_2 : Option Addr) (cap_1 : Nat) (cs_1 : List Value) (hr_1 : RepSeq M (d0_1.map embB) cs_1) (d0_2 : Bool) (d0_3 : Int) (r : Int × List UInt8 × Bool × Int) (hF : strings_Builder_Len n d0_1 d0_2 d0_3 = some r) : OkH Tryd.prog M [Ent.obj b0 (.cells #[.pointer A_1, .slice A_2 d0_1.length cap_1, .bool d0_2, .int .i64 d0_3] 50 (0, 0)), Ent.row 5 1 (.slice A_2 d0_1.length cap_1) d0_1.length cs_1] 24 [.pointer (some (⟨b0, 0, none⟩))] (fun M' E' v => ∃ (A_3 : Option Addr) (A_4 : Option Addr) (cap_2 : Nat) (cs_2 : List Value), v = .int .i64 r.1 ∧ E' = [Ent.obj b0 (.cells #[.pointer A_3, .slice A_4 r.2.1.length cap_2, .bool r.2.2.1, .int .i64 r.2.2.2] 50 (0, 0)), Ent.row 5 1 (.slice A_4 r.2.1.length cap_2) r.2.1.length cs_2] ∧ (A_3 = none ∨ A_3 = some ⟨b0, 0, none⟩) ∧ RepSeq M' (r.2.1.map embB) cs_2) := by
 unfold strings_Builder_Len at hF
 intro M1 hM0 w0 H w p0
 replace hG := GL.mono hM0 hG
 replace hr_1 := RepSeq.mono hM0 _ _ hr_1
 refine R_enter 8 Tryd.func24 rfl rfl (by simp) fun a0 f0 => RR (Y f0 1 fun _ f => eT (RR (Y f 3 fun _ f => Z f (Y30 (v := .slice A_2 d0_1.length cap_1) rfl (ad := ⟨b0, 1, none⟩) (p0.ownCell 0 rfl 1)) fun _ f => Y f 2 fun _ f => eT (wp_ret (E_ret1 f rfl (by kernel_rfl : Vc.look _ 2 = some (.int .i64 ((d0_1.length : Nat) : Int))) ?_)))))
 obtain rfl := sI hF
 exact ⟨_, rfl, M1, _, (mR _), p0, ⟨A_1, A_2, cap_1, cs_1, rfl, rfl, hb_1, hr_1⟩⟩
def strings_Builder_String_2 (n : Nat) (d0_1 : List UInt8) (d0_2 : Bool) (d0_3 : Int) : Option (List UInt8 × List UInt8 × Bool × Int) :=
  some ((d0_1, d0_1, (d0_2), d0_3))
theorem strings_Builder_String_2_ok (n : Nat) (M : Mem) (hG : GL M) (b0 : Nat) (A_1 : Option Addr) (hb_1 : (A_1 = none ∨ A_1 = some ⟨b0, 0, none⟩)) (d0_1 : List UInt8) (A_2 : Option Addr) (cap_1 : Nat) (cs_1 : List Value) (hr_1 : RepSeq M (d0_1.map embB) cs_1) (d0_2 : Bool) (d0_3 : Int) (r : List UInt8 × List UInt8 × Bool × Int) (hF : strings_Builder_String_2 n d0_1 d0_2 d0_3 = some r) : OkH Tryd.prog M [Ent.obj b0 (.cells #[.pointer A_1, .slice A_2 d0_1.length cap_1, .bool d0_2, .int .i64 d0_3] 50 (0, 0)), Ent.row 5 1 (.slice A_2 d0_1.length cap_1) d0_1.length cs_1] 25 [.pointer (some (⟨b0, 0, none⟩))] (fun M' E' v => ∃ (A_3 : Option Addr) (A_4 : Option Addr) (cap_2 : Nat), v = S r.1 ∧ E' = [Ent.obj b0 (.cells #[.pointer A_3, .slice A_4 r.2.1.length cap_2, .bool r.2.2.1, .int .i64 r.2.2.2] 50 (0, 0))] ∧ (A_3 = none ∨ A_3 = some ⟨b0, 0, none⟩) ∧ Sli M' 1 embB A_4 cap_2 r.2.1) := by
 unfold strings_Builder_String_2 at hF
 intro M1 hM0 w0 H w p0
 replace hG := GL.mono hM0 hG
 replace hr_1 := RepSeq.mono hM0 _ _ hr_1
 refine R_enter 14 Tryd.func25 rfl rfl (by simp) fun a0 f0 => RR (Y f0 1 fun _ f => eT (R_seq ?_))
 have p_1 := p0.pl [1]
 refine R_mix (E := [Ent.row 5 1 (.slice A_2 d0_1.length cap_1) d0_1.length cs_1]) (Hr := ((Ent.obj b0 (.cells #[.pointer A_1, .slice A_2 d0_1.length cap_1, .bool d0_2, .int .i64 d0_3] 50 (0, 0))) :: H)) [(0, true), (1, true), (2, true), (3, true), (5, true), (6, true), (7, true), (8, true), (9, true), (4, false), (10, false), (11, true)] p_1 (by kernel_rfl) (by kernel_rfl) rfl (by kernel_rfl) (Y0 default f 3 fun _ f => M_eq (v := .slice A_2 d0_1.length cap_1) f (by kernel_rfl) (by kernel_rfl) rfl rfl (fun _ pq => Y30 (v := .slice A_2 d0_1.length cap_1) rfl (ad := ⟨b0, 1, none⟩) (pq.ownCell 0 rfl 1)) fun _ f => Y0 default f 3 fun _ f => M_eq (v := .slice A_2 d0_1.length cap_1) f (by kernel_rfl) (by kernel_rfl) rfl rfl (fun _ pq => Y30 (v := .slice A_2 d0_1.length cap_1) rfl (ad := ⟨b0, 1, none⟩) (pq.ownCell 0 rfl 1)) fun _ f => Y0 default f 1 fun _ f => M_fix (E := [Ent.row 5 1 (.slice A_2 d0_1.length cap_1) d0_1.length cs_1]) fun w_1 p_2 => W_sliceData (v := .slice A_2 d0_1.length cap_1) f p_2 (by kernel_rfl) (by kernel_rfl) rfl rfl rfl (by kernel_rfl) (by kernel_rfl) fun q_1 w_2 p_3 hd_1 _ f => W_end rfl (M_go (M1 := M1) (E := [Ent.row 5 1 (.slice A_2 d0_1.length cap_1) d0_1.length cs_1]) (mR _) p_3 (M_fix (E := [Ent.row 5 1 (.slice A_2 d0_1.length cap_1) d0_1.length cs_1]) fun w_3 p_4 => ?_)))
 refine W_unsafeString (q := q_1) (v := .slice A_2 d0_1.length cap_1) (l := d0_1) (A := A_2) (cap := cap_1) rfl f p_4 hr_1 hd_1 (by kernel_rfl) (by kernel_rfl) rfl rfl rfl (by kernel_rfl) (by kernel_rfl) (by kernel_rfl) (by kernel_rfl) fun M_1 w_4 hM_1 p_5 h_1 _ f => W_end rfl (M_go (M1 := M_1) (E := []) hM_1 p_5 (Y0 default f 1 fun _ f => M_end rfl fun w_5 p_6 => T_n (wp_ret (E_ret1 f rfl (by kernel_rfl : Vc.look _ 2 = some (S d0_1)) ?_))))
 obtain rfl := sI hF
 exact ⟨_, rfl, M_1, _, hM_1, p_6, ⟨A_1, A_2, cap_1, rfl, rfl, hb_1, h_1⟩⟩
def print_text (n : Nat) (d0 : TA0) (d1 : Bool) : Option (List UInt8 × Int) :=
  (tree_Check n d0).bind fun x_1 =>
  bif (!(decide (x_1 = 0))) then
    (some ((([] : List UInt8), x_1)))
  else
    (tree_Sorted n d0).bind fun x_2 =>
    (print_writer_value n ([] : List UInt8) (d1) (0 : Int) x_2).bind fun x_3 =>
    (strings_Builder_Len n x_3.1 (x_3.2.1) x_3.2.2).bind fun x_4 =>
    bif (decide ((32768 : Int) < x_4.1)) then
      (some ((([] : List UInt8), (3 : Int))))
    else
      (strings_Builder_String_2 n x_4.2.1 (x_4.2.2.1) x_4.2.2.2).bind fun x_5 =>
      some ((x_5.1, (0 : Int)))
theorem print_text_ok (n : Nat) (M : Mem) (hG : GL M) (c0 : List Value) (d0 : TA0) (h0 : Rep M (emb_TA0 d0) c0) (d1 : Bool) (r : List UInt8 × Int) (hF : print_text n d0 d1 = some r) : Ok Tryd.prog M 17 [.agg c0.toArray, .bool d1] (fun _ v => v = .tuple #[S r.1, .int .i64 r.2]) := by
 unfold print_text at hF
 intro M1 hM0 w0 H w p0
 replace hG := GL.mono hM0 hG
 replace h0 := Rep.mono hM0 _ _ h0
 obtain ⟨A_1, cap_1, A_2, cap_2, rfl, h_1, h_2⟩ := TA0.opn h0
 refine R_enter 30 Tryd.func17 rfl rfl (by simp) fun a0 f0 => RR (Y12 (cs := #[.int .i8 d0.fKind, .bool d0.fBool, .int .i64 d0.fNum, S d0.fText, .slice A_1 d0.fList.length cap_1, .slice A_2 d0.fKeys.length cap_2]) (T := 26) f0 p0 fun b_1 M_1 w_1 hM_1 hc_1 p_1 _ f => ?_)
 have hc_2 := fz_box hc_1
 refine Y f 2 fun _ f => eT (R_seq (RR (Z (v := .agg #[.int .i8 d0.fKind, .bool d0.fBool, .int .i64 d0.fNum, S d0.fText, .slice A_1 d0.fList.length cap_1, .slice A_2 d0.fKeys.length cap_2]) f (Y31 (cs := [.int .i8 d0.fKind, .bool d0.fBool, .int .i64 d0.fNum, S d0.fText, .slice A_1 d0.fList.length cap_1, .slice A_2 d0.fKeys.length cap_2]) rfl (ad := ⟨b_1, 0, none⟩) (fun j v h => p_1.cell (hc_2 j v h))) fun _ f => ?_)))
 obtain ⟨x_1, hx_1, hF_1⟩ := bS hF
 refine Y17 f p_1 (tree_Check_ok n _ (GL.mono hM_1 hG) _ d0 (TA0.shutx (x := d0) (h_1.mono hM_1) (h_2.mono hM_1)) x_1 hx_1) fun w_2 p_2 _ f => Y f 1 fun _ f => eT (RR (Y f 2 fun _ f => eT (RcF f hF_1 (fun h_3 hF_2 => ?_) fun h_3 hF_3 => ?_)))
 ·have k_1 : ¬ (x_1 = 0) := (not_iff dI).1 h_3
  refine RR (Y f 3 fun _ f => eT (wp_ret (T_r (E_ret2 f rfl (by kernel_rfl : Vc.look _ 4 = some (S [])) (by kernel_rfl : Vc.look _ 5 = some (.int .i64 x_1)) ?_))))
  obtain rfl := sI hF_2
  exact ⟨_, rfl, M_1, hM_1, p_2, rfl⟩
 ·have k_2 : ¬ (¬ (x_1 = 0)) := iff_f (not_iff dI) h_3
  refine wp_skip (T_n (RR (Y f 2 fun _ f => Y11 f p_2 (.cells #[.pointer none, .slice none 0 0, .bool d1, .int .i64 0] 50 (0, 0)) fun b_2 w_3 p_3 _ f => Y f 1 fun _ f => eT (RR (Z (v := .agg #[.int .i8 d0.fKind, .bool d0.fBool, .int .i64 d0.fNum, S d0.fText, .slice A_1 d0.fList.length cap_1, .slice A_2 d0.fKeys.length cap_2]) f (Y31 (cs := [.int .i8 d0.fKind, .bool d0.fBool, .int .i64 d0.fNum, S d0.fText, .slice A_1 d0.fList.length cap_1, .slice A_2 d0.fKeys.length cap_2]) rfl (ad := ⟨b_1, 0, none⟩) (fun j v h => p_3.cell (hc_2 j v h))) fun _ f => ?_)))))
  obtain ⟨x_2, hx_2, hF_4⟩ := bS hF_3
  refine Y15 f p_3 (tree_Sorted_ok n _ (GL.mono hM_1 hG) _ d0 (TA0.shutx (x := d0) (h_1.mono hM_1) (h_2.mono hM_1)) x_2 hx_2) fun _ M_2 w_4 hM_2 p_4 q_1 _ f => ?_
  obtain ⟨c_1, rfl, hr_1⟩ := q_1
  obtain ⟨A_3, cap_3, A_4, cap_4, rfl, h_4, h_5⟩ := TA0.opn hr_1
  refine Y11 f p_4 (.cells #[.int .i8 0, .bool false, .int .i64 0, S [], .slice none 0 0, .slice none 0 0] 26 (0, 0)) fun b_3 w_5 p_5 _ f => Y27 (vs := [.int .i8 x_2.fKind, .bool x_2.fBool, .int .i64 x_2.fNum, S x_2.fText, .slice A_3 x_2.fList.length cap_3, .slice A_4 x_2.fKeys.length cap_4]) (j := 0) f p_5 rfl rfl (by simp [Value.oneCell', S]) (by simp) (by decide) (cs' := #[.int .i8 x_2.fKind, .bool x_2.fBool, .int .i64 x_2.fNum, S x_2.fText, .slice A_3 x_2.fList.length cap_3, .slice A_4 x_2.fKeys.length cap_4]) fun w_6 p_6 _ f => eT (RR (Y f 1 fun _ f => ?_))
  obtain ⟨M_3, hM_3, p_7, hc_3⟩ := p_6.fzOwn
  obtain ⟨A_5, cap_5, hv_1⟩ : ∃ A cap, Value.slice none 0 0 = .slice A ([] : List UInt8).length cap := ⟨none, 0, rfl⟩
  have p_8 : Hp w0 M_3 ((Ent.row 5 1 (.slice A_5 ([] : List UInt8).length cap_5) ([] : List UInt8).length []) :: (Ent.obj b_2 (.cells #[.pointer none, .slice A_5 ([] : List UInt8).length cap_5, .bool d1, .int .i64 0] 50 (0, 0))) :: H) w_6 := by rw [← hv_1]; exact p_7.nilRow 5 1
  have hr_2 : RepSeq M_3 (([] : List UInt8).map embB) [] := rfl
  obtain ⟨x_3, hx_3, hF_5⟩ := bS hF_4
  have p_10 := p_8.pl [1]
  refine Y16 (E := [Ent.obj b_2 (.cells #[.pointer none, .slice A_5 ([] : List UInt8).length cap_5, .bool d1, .int .i64 0] 50 (0, 0)), Ent.row 5 1 (.slice A_5 ([] : List UInt8).length cap_5) ([] : List UInt8).length []]) (H := (H)) f p_10 (print_writer_value_ok n _ (GL.mono ((hM_1.trans hM_2).trans hM_3) hG) b_2 none (.inl rfl) ([] : List UInt8) A_5 cap_5 [] hr_2 (d1) (0 : Int) (⟨b_3, 0, none⟩) [.int .i8 x_2.fKind, .bool x_2.fBool, .int .i64 x_2.fNum, S x_2.fText, .slice A_3 x_2.fList.length cap_3, .slice A_4 x_2.fKeys.length cap_4] x_2 (TA0.shutx (x := x_2) (h_4.mono hM_3) (h_5.mono hM_3)) (fz_at (hc_3) 0 rfl) x_3 hx_3) fun _ M_4 E_1 w_7 hM_4 p_9 q_2 _ f => ?_
  obtain ⟨A_6, A_7, cap_6, cs_1, rfl, rfl, hb_1, hr_3⟩ := q_2
  refine eT (R_seq (RR (Y f 3 fun _ f => ?_)))
  obtain ⟨x_4, hx_4, hF_6⟩ := bS hF_5
  refine Y16 (E := [Ent.obj b_2 (.cells #[.pointer A_6, .slice A_7 x_3.1.length cap_6, .bool x_3.2.1, .int .i64 x_3.2.2] 50 (0, 0)), Ent.row 5 1 (.slice A_7 x_3.1.length cap_6) x_3.1.length cs_1]) (H := (H)) f p_9 (strings_Builder_Len_ok n _ (GL.mono (((hM_1.trans hM_2).trans hM_3).trans hM_4) hG) b_2 A_6 hb_1 x_3.1 A_7 cap_6 cs_1 hr_3 (x_3.2.1) x_3.2.2 x_4 hx_4) fun _ M_5 E_2 w_8 hM_5 p_11 q_3 _ f => ?_
  obtain ⟨A_8, A_9, cap_7, cs_2, rfl, rfl, hb_2, hr_4⟩ := q_3
  refine Y f 1 fun _ f => eT (RcF f hF_6 (fun h_6 hF_7 => ?_) fun h_6 hF_8 => ?_)
  ·have k_3 := dI.1 h_6
   refine RR (Y f 2 fun _ f => eT (wp_ret (T_r (E_ret2 f rfl (by kernel_rfl : Vc.look _ 4 = some (S [])) (by kernel_rfl : Vc.look _ 5 = some (.int .i64 3)) ?_))))
   obtain rfl := sI hF_7
   exact ⟨_, rfl, M_5, ((((hM_1.trans hM_2).trans hM_3).trans hM_4).trans hM_5), (p_11.dropN 2), rfl⟩
  ·have k_4 := iff_f dI h_6
   refine wp_skip (T_n (RR (Y f 3 fun _ f => ?_)))
   obtain ⟨x_5, hx_5, hF_9⟩ := bS hF_8
   refine Y16 (E := [Ent.obj b_2 (.cells #[.pointer A_8, .slice A_9 x_4.2.1.length cap_7, .bool x_4.2.2.1, .int .i64 x_4.2.2.2] 50 (0, 0)), Ent.row 5 1 (.slice A_9 x_4.2.1.length cap_7) x_4.2.1.length cs_2]) (H := (H)) f p_11 (strings_Builder_String_2_ok n _ (GL.mono ((((hM_1.trans hM_2).trans hM_3).trans hM_4).trans hM_5) hG) b_2 A_8 hb_2 x_4.2.1 A_9 cap_7 cs_2 hr_4 (x_4.2.2.1) x_4.2.2.2 x_5 hx_5) fun _ M_6 E_3 w_9 hM_6 p_12 q_4 _ f => ?_
   obtain ⟨A_10, A_11, cap_8, rfl, rfl, hb_3, h_7⟩ := q_4
   refine Y f 2 fun _ f => eT (wp_ret (E_ret2 f rfl (by kernel_rfl : Vc.look _ 4 = some (S x_5.1)) (by kernel_rfl : Vc.look _ 5 = some (.int .i64 0)) ?_))
   obtain rfl := sI hF_9
   exact ⟨_, rfl, M_6, (((((hM_1.trans hM_2).trans hM_3).trans hM_4).trans hM_5).trans hM_6), (p_12.dropN 1), rfl⟩
def print_Print (n : Nat) (d0 : TA0) : Option (List UInt8 × Int) :=
  (print_text n d0 (false)).bind fun x_1 =>
  some ((x_1.1, x_1.2))
theorem print_Print_ok (n : Nat) (M : Mem) (hG : GL M) (c0 : List Value) (d0 : TA0) (h0 : Rep M (emb_TA0 d0) c0) (r : List UInt8 × Int) (hF : print_Print n d0 = some r) : Ok Tryd.prog M 9 [.agg c0.toArray] (fun _ v => v = .tuple #[S r.1, .int .i64 r.2]) := by
 unfold print_Print at hF
 intro M1 hM0 w0 H w p0
 replace hG := GL.mono hM0 hG
 replace h0 := Rep.mono hM0 _ _ h0
 obtain ⟨A_1, cap_1, A_2, cap_2, rfl, h_1, h_2⟩ := TA0.opn h0
 refine R_enter 8 Tryd.func9 rfl rfl (by simp) fun a0 f0 => RR (Y12 (cs := #[.int .i8 d0.fKind, .bool d0.fBool, .int .i64 d0.fNum, S d0.fText, .slice A_1 d0.fList.length cap_1, .slice A_2 d0.fKeys.length cap_2]) (T := 26) f0 p0 fun b_1 M_1 w_1 hM_1 hc_1 p_1 _ f => ?_)
 have hc_2 := fz_box hc_1
 refine Y f 2 fun _ f => eT (RR (Z (v := .agg #[.int .i8 d0.fKind, .bool d0.fBool, .int .i64 d0.fNum, S d0.fText, .slice A_1 d0.fList.length cap_1, .slice A_2 d0.fKeys.length cap_2]) f (Y31 (cs := [.int .i8 d0.fKind, .bool d0.fBool, .int .i64 d0.fNum, S d0.fText, .slice A_1 d0.fList.length cap_1, .slice A_2 d0.fKeys.length cap_2]) rfl (ad := ⟨b_1, 0, none⟩) (fun j v h => p_1.cell (hc_2 j v h))) fun _ f => ?_))
 obtain ⟨x_1, hx_1, hF_1⟩ := bS hF
 refine Y17 f p_1 (print_text_ok n _ (GL.mono hM_1 hG) _ d0 (TA0.shutx (x := d0) (h_1.mono hM_1) (h_2.mono hM_1)) (false) x_1 hx_1) fun w_2 p_2 _ f => Y f 4 fun _ f => eT (wp_ret (E_ret2 f rfl (by kernel_rfl : Vc.look _ 2 = some (S x_1.1)) (by kernel_rfl : Vc.look _ 3 = some (.int .i64 x_1.2)) ?_))
 obtain rfl := sI hF_1
 exact ⟨_, rfl, M_1, hM_1, p_2, rfl⟩
def print_Broad (n : Nat) (d0 : TA0) : Option (List UInt8 × Int) :=
  (print_text n d0 (true)).bind fun x_1 =>
  some ((x_1.1, x_1.2))
theorem print_Broad_ok (n : Nat) (M : Mem) (hG : GL M) (c0 : List Value) (d0 : TA0) (h0 : Rep M (emb_TA0 d0) c0) (r : List UInt8 × Int) (hF : print_Broad n d0 = some r) : Ok Tryd.prog M 10 [.agg c0.toArray] (fun _ v => v = .tuple #[S r.1, .int .i64 r.2]) := by
 unfold print_Broad at hF
 intro M1 hM0 w0 H w p0
 replace hG := GL.mono hM0 hG
 replace h0 := Rep.mono hM0 _ _ h0
 obtain ⟨A_1, cap_1, A_2, cap_2, rfl, h_1, h_2⟩ := TA0.opn h0
 refine R_enter 8 Tryd.func10 rfl rfl (by simp) fun a0 f0 => RR (Y12 (cs := #[.int .i8 d0.fKind, .bool d0.fBool, .int .i64 d0.fNum, S d0.fText, .slice A_1 d0.fList.length cap_1, .slice A_2 d0.fKeys.length cap_2]) (T := 26) f0 p0 fun b_1 M_1 w_1 hM_1 hc_1 p_1 _ f => ?_)
 have hc_2 := fz_box hc_1
 refine Y f 2 fun _ f => eT (RR (Z (v := .agg #[.int .i8 d0.fKind, .bool d0.fBool, .int .i64 d0.fNum, S d0.fText, .slice A_1 d0.fList.length cap_1, .slice A_2 d0.fKeys.length cap_2]) f (Y31 (cs := [.int .i8 d0.fKind, .bool d0.fBool, .int .i64 d0.fNum, S d0.fText, .slice A_1 d0.fList.length cap_1, .slice A_2 d0.fKeys.length cap_2]) rfl (ad := ⟨b_1, 0, none⟩) (fun j v h => p_1.cell (hc_2 j v h))) fun _ f => ?_))
 obtain ⟨x_1, hx_1, hF_1⟩ := bS hF
 refine Y17 f p_1 (print_text_ok n _ (GL.mono hM_1 hG) _ d0 (TA0.shutx (x := d0) (h_1.mono hM_1) (h_2.mono hM_1)) (true) x_1 hx_1) fun w_2 p_2 _ f => Y f 4 fun _ f => eT (wp_ret (E_ret2 f rfl (by kernel_rfl : Vc.look _ 2 = some (S x_1.1)) (by kernel_rfl : Vc.look _ 3 = some (.int .i64 x_1.2)) ?_))
 obtain rfl := sI hF_1
 exact ⟨_, rfl, M_1, hM_1, p_2, rfl⟩
def print_Len (n : Nat) (d0 : TA0) : Option Int :=
  (print_Print n d0).bind fun x_1 =>
  some ((x_1.1.length : Int))
theorem print_Len_ok (n : Nat) (M : Mem) (hG : GL M) (c0 : List Value) (d0 : TA0) (h0 : Rep M (emb_TA0 d0) c0) (r : Int) (hF : print_Len n d0 = some r) : Ok Tryd.prog M 16 [.agg c0.toArray] (fun _ v => v = .int .i64 r) := by
 unfold print_Len at hF
 intro M1 hM0 w0 H w p0
 replace hG := GL.mono hM0 hG
 replace h0 := Rep.mono hM0 _ _ h0
 obtain ⟨A_1, cap_1, A_2, cap_2, rfl, h_1, h_2⟩ := TA0.opn h0
 refine R_enter 12 Tryd.func16 rfl rfl (by simp) fun a0 f0 => RR (Y12 (cs := #[.int .i8 d0.fKind, .bool d0.fBool, .int .i64 d0.fNum, S d0.fText, .slice A_1 d0.fList.length cap_1, .slice A_2 d0.fKeys.length cap_2]) (T := 26) f0 p0 fun b_1 M_1 w_1 hM_1 hc_1 p_1 _ f => ?_)
 have hc_2 := fz_box hc_1
 refine Y f 1 fun _ f => eT (RR (Z (v := .agg #[.int .i8 d0.fKind, .bool d0.fBool, .int .i64 d0.fNum, S d0.fText, .slice A_1 d0.fList.length cap_1, .slice A_2 d0.fKeys.length cap_2]) f (Y31 (cs := [.int .i8 d0.fKind, .bool d0.fBool, .int .i64 d0.fNum, S d0.fText, .slice A_1 d0.fList.length cap_1, .slice A_2 d0.fKeys.length cap_2]) rfl (ad := ⟨b_1, 0, none⟩) (fun j v h => p_1.cell (hc_2 j v h))) fun _ f => ?_))
 obtain ⟨x_1, hx_1, hF_1⟩ := bS hF
 refine Y17 f p_1 (print_Print_ok n _ (GL.mono hM_1 hG) _ d0 (TA0.shutx (x := d0) (h_1.mono hM_1) (h_2.mono hM_1)) x_1 hx_1) fun w_2 p_2 _ f => Y f 5 fun _ f => eT (RR (Y f 3 fun _ f => eT (wp_ret (E_ret1 f rfl (by kernel_rfl : Vc.look _ 2 = some (.int .i64 (x_1.1.length : Int))) ?_))))
 obtain rfl := sI hF_1
 exact ⟨_, rfl, M_1, hM_1, p_2, rfl⟩
def law05_wakes (n : Nat) : Option Bool :=
  (print_Print n (⟨(5 : Int), (false), (0 : Int), ([] : List UInt8), [(⟨(4 : Int), (false), (0 : Int), ([] : List UInt8), [(⟨(2 : Int), (false), (1 : Int), ([] : List UInt8), ([] : List TA0), ([] : List (List UInt8))⟩ : TA0), z_TA0], ([] : List (List UInt8))⟩ : TA0), (⟨(3 : Int), (false), (0 : Int), ([] : List UInt8), ([] : List TA0), ([] : List (List UInt8))⟩ : TA0)], ([[98], [97]] : List (List UInt8))⟩ : TA0)).bind fun x_1 =>
  bif (decide (x_1.2 = 0)) then
    (bif (decide (x_1.1 = [123, 34, 97, 34, 58, 34, 34, 44, 34, 98, 34, 58, 91, 49, 44, 110, 117, 108, 108, 93, 125])) then
      ((print_Len n (⟨(5 : Int), (false), (0 : Int), ([] : List UInt8), [(⟨(4 : Int), (false), (0 : Int), ([] : List UInt8), [(⟨(2 : Int), (false), (1 : Int), ([] : List UInt8), ([] : List TA0), ([] : List (List UInt8))⟩ : TA0), z_TA0], ([] : List (List UInt8))⟩ : TA0), (⟨(3 : Int), (false), (0 : Int), ([] : List UInt8), ([] : List TA0), ([] : List (List UInt8))⟩ : TA0)], ([[98], [97]] : List (List UInt8))⟩ : TA0)).bind fun x_2 =>
      some ((decide (x_2 = (x_1.1.length : Int)))))
    else
      some ((false)))
  else
    some ((false))
theorem law05_wakes_ok (n : Nat) (M : Mem) (hG : GL M) (r : Bool) (hF : law05_wakes n = some r) : Ok Tryd.prog M 8 [] (fun _ v => v = .bool r) := by
 unfold law05_wakes at hF
 intro M1 hM0 w0 H w p0
 replace hG := GL.mono hM0 hG
 refine R_enter 30 Tryd.func8 rfl rfl (by simp) fun a0 f0 => RR (Y f0 1 fun _ f => eT (RR (V_allocS (k := 2) (c := 2) f p0 (.cells #[S [98], S [97]] 9 (0, 0)) (by kernel_rfl) (fun _ => by kernel_rfl) fun b_1 w_1 p_1 _ f => Y f 2 fun _ f => V_allocS (k := 2) (c := 2) f p_1 (.cells #[.int .i8 2, .bool false, .int .i64 1, S [], .slice none 0 0, .slice none 0 0, .int .i8 0, .bool false, .int .i64 0, S [], .slice none 0 0, .slice none 0 0] 26 (0, 0)) (by kernel_rfl) (fun _ => by kernel_rfl) fun b_2 w_2 p_2 _ f => Y f 2 fun _ f => V_allocS (k := 2) (c := 2) f p_2 (.cells #[.int .i8 4, .bool false, .int .i64 0, S [], .slice (some ⟨b_2, 0, none⟩) 2 2, .slice none 0 0, .int .i8 3, .bool false, .int .i64 0, S [], .slice none 0 0, .slice none 0 0] 26 (0, 0)) (by kernel_rfl) (fun _ => by kernel_rfl) fun b_3 w_3 p_3 _ f => Y f 1 fun _ f => Y11 f p_3 (.cells #[.int .i8 0, .bool false, .int .i64 0, S [], .slice none 0 0, .slice none 0 0] 26 (0, 0)) fun b_4 w_4 p_4 _ f => ?_)))
 have p_5 := p_4.pl [2]
 have hr_1 : RepSeq M1 ([(⟨(2 : Int), (false), (1 : Int), ([] : List UInt8), ([] : List TA0), ([] : List (List UInt8))⟩ : TA0), z_TA0].map emb_TA0) [.int .i8 2, .bool false, .int .i64 1, S [], .slice none 0 0, .slice none 0 0, .int .i8 0, .bool false, .int .i64 0, S [], .slice none 0 0, .slice none 0 0] := ⟨_, _, rfl, TA0.shut Sli.nil Sli.nil, ⟨_, _, rfl, TA0.shut Sli.nil Sli.nil, rfl⟩⟩
 have p_6 : Hp w0 M1 ((Ent.row 26 6 (.slice (some ⟨b_2, 0, none⟩) 2 2) [(⟨(2 : Int), (false), (1 : Int), ([] : List UInt8), ([] : List TA0), ([] : List (List UInt8))⟩ : TA0), z_TA0].length [.int .i8 2, .bool false, .int .i64 1, S [], .slice none 0 0, .slice none 0 0, .int .i8 0, .bool false, .int .i64 0, S [], .slice none 0 0, .slice none 0 0]) :: (Ent.obj b_4 (.cells #[.int .i8 0, .bool false, .int .i64 0, S [], .slice none 0 0, .slice none 0 0] 26 (0, 0))) :: (Ent.obj b_3 (.cells #[.int .i8 4, .bool false, .int .i64 0, S [], .slice (some ⟨b_2, 0, none⟩) 2 2, .slice none 0 0, .int .i8 3, .bool false, .int .i64 0, S [], .slice none 0 0, .slice none 0 0] 26 (0, 0))) :: (Ent.obj b_1 (.cells #[S [98], S [97]] 9 (0, 0))) :: H) w_4 := p_5.objRow (n := 2) (cap := 2) (size := 6) (by decide) (by decide) (blk_eq (by decide) rfl) rfl rfl
 obtain ⟨A_1, cap_1, M_1, hv_1, hM_1, p_7, h_1⟩ := p_6.rowSli (f := emb_TA0) (xs := [(⟨(2 : Int), (false), (1 : Int), ([] : List UInt8), ([] : List TA0), ([] : List (List UInt8))⟩ : TA0), z_TA0]) szd_TA0 hr_1
 have p_8 : Hp w0 M_1 ((Ent.obj b_4 (.cells #[.int .i8 0, .bool false, .int .i64 0, S [], .slice none 0 0, .slice none 0 0] 26 (0, 0))) :: (Ent.obj b_3 (.cells #[.int .i8 4, .bool false, .int .i64 0, S [], .slice A_1 [(⟨(2 : Int), (false), (1 : Int), ([] : List UInt8), ([] : List TA0), ([] : List (List UInt8))⟩ : TA0), z_TA0].length cap_1, .slice none 0 0, .int .i8 3, .bool false, .int .i64 0, S [], .slice none 0 0, .slice none 0 0] 26 (0, 0))) :: (Ent.obj b_1 (.cells #[S [98], S [97]] 9 (0, 0))) :: H) w_4 := by rw [hv_1] at p_7; exact p_7
 have p_9 := p_8.pl [1]
 have hr_2 : RepSeq M_1 ([(⟨(4 : Int), (false), (0 : Int), ([] : List UInt8), [(⟨(2 : Int), (false), (1 : Int), ([] : List UInt8), ([] : List TA0), ([] : List (List UInt8))⟩ : TA0), z_TA0], ([] : List (List UInt8))⟩ : TA0), (⟨(3 : Int), (false), (0 : Int), ([] : List UInt8), ([] : List TA0), ([] : List (List UInt8))⟩ : TA0)].map emb_TA0) [.int .i8 4, .bool false, .int .i64 0, S [], .slice A_1 [(⟨(2 : Int), (false), (1 : Int), ([] : List UInt8), ([] : List TA0), ([] : List (List UInt8))⟩ : TA0), z_TA0].length cap_1, .slice none 0 0, .int .i8 3, .bool false, .int .i64 0, S [], .slice none 0 0, .slice none 0 0] := ⟨_, _, rfl, TA0.shut h_1 Sli.nil, ⟨_, _, rfl, TA0.shut Sli.nil Sli.nil, rfl⟩⟩
 have p_10 : Hp w0 M_1 ((Ent.row 26 6 (.slice (some ⟨b_3, 0, none⟩) 2 2) [(⟨(4 : Int), (false), (0 : Int), ([] : List UInt8), [(⟨(2 : Int), (false), (1 : Int), ([] : List UInt8), ([] : List TA0), ([] : List (List UInt8))⟩ : TA0), z_TA0], ([] : List (List UInt8))⟩ : TA0), (⟨(3 : Int), (false), (0 : Int), ([] : List UInt8), ([] : List TA0), ([] : List (List UInt8))⟩ : TA0)].length [.int .i8 4, .bool false, .int .i64 0, S [], .slice A_1 [(⟨(2 : Int), (false), (1 : Int), ([] : List UInt8), ([] : List TA0), ([] : List (List UInt8))⟩ : TA0), z_TA0].length cap_1, .slice none 0 0, .int .i8 3, .bool false, .int .i64 0, S [], .slice none 0 0, .slice none 0 0]) :: (Ent.obj b_4 (.cells #[.int .i8 0, .bool false, .int .i64 0, S [], .slice none 0 0, .slice none 0 0] 26 (0, 0))) :: (Ent.obj b_1 (.cells #[S [98], S [97]] 9 (0, 0))) :: H) w_4 := p_9.objRow (n := 2) (cap := 2) (size := 6) (by decide) (by decide) (blk_eq (by decide) rfl) rfl rfl
 obtain ⟨A_2, cap_2, M_2, hv_2, hM_2, p_11, h_2⟩ := p_10.rowSli (f := emb_TA0) (xs := [(⟨(4 : Int), (false), (0 : Int), ([] : List UInt8), [(⟨(2 : Int), (false), (1 : Int), ([] : List UInt8), ([] : List TA0), ([] : List (List UInt8))⟩ : TA0), z_TA0], ([] : List (List UInt8))⟩ : TA0), (⟨(3 : Int), (false), (0 : Int), ([] : List UInt8), ([] : List TA0), ([] : List (List UInt8))⟩ : TA0)]) szd_TA0 hr_2
 have f := Frm.set f 11 (v := .agg #[.int .i8 5, .bool false, .int .i64 0, S [], .slice (some ⟨b_3, 0, none⟩) 2 2, .slice (some ⟨b_1, 0, none⟩) 2 2]) (v' := .agg #[.int .i8 5, .bool false, .int .i64 0, S [], .slice A_2 [(⟨(4 : Int), (false), (0 : Int), ([] : List UInt8), [(⟨(2 : Int), (false), (1 : Int), ([] : List UInt8), ([] : List TA0), ([] : List (List UInt8))⟩ : TA0), z_TA0], ([] : List (List UInt8))⟩ : TA0), (⟨(3 : Int), (false), (0 : Int), ([] : List UInt8), ([] : List TA0), ([] : List (List UInt8))⟩ : TA0)].length cap_2, .slice (some ⟨b_1, 0, none⟩) 2 2]) (by kernel_rfl) (by rw [hv_2])
 have p_12 := p_11.pl [1]
 have hr_3 : RepSeq M_2 (([[98], [97]] : List (List UInt8)).map Dat.str) [S [98], S [97]] := ⟨_, _, rfl, rfl, ⟨_, _, rfl, rfl, rfl⟩⟩
 have p_13 : Hp w0 M_2 ((Ent.row 9 1 (.slice (some ⟨b_1, 0, none⟩) 2 2) ([[98], [97]] : List (List UInt8)).length [S [98], S [97]]) :: (Ent.obj b_4 (.cells #[.int .i8 0, .bool false, .int .i64 0, S [], .slice none 0 0, .slice none 0 0] 26 (0, 0))) :: H) w_4 := p_12.objRow (n := 2) (cap := 2) (size := 1) (by decide) (by decide) (blk_eq (by decide) rfl) rfl rfl
 obtain ⟨A_3, cap_3, M_3, hv_3, hM_3, p_14, h_3⟩ := p_13.rowSli (f := Dat.str) (xs := ([[98], [97]] : List (List UInt8))) szd_str hr_3
 have f := Frm.set f 11 (v := .agg #[.int .i8 5, .bool false, .int .i64 0, S [], .slice A_2 [(⟨(4 : Int), (false), (0 : Int), ([] : List UInt8), [(⟨(2 : Int), (false), (1 : Int), ([] : List UInt8), ([] : List TA0), ([] : List (List UInt8))⟩ : TA0), z_TA0], ([] : List (List UInt8))⟩ : TA0), (⟨(3 : Int), (false), (0 : Int), ([] : List UInt8), ([] : List TA0), ([] : List (List UInt8))⟩ : TA0)].length cap_2, .slice (some ⟨b_1, 0, none⟩) 2 2]) (v' := .agg #[.int .i8 5, .bool false, .int .i64 0, S [], .slice A_2 [(⟨(4 : Int), (false), (0 : Int), ([] : List UInt8), [(⟨(2 : Int), (false), (1 : Int), ([] : List UInt8), ([] : List TA0), ([] : List (List UInt8))⟩ : TA0), z_TA0], ([] : List (List UInt8))⟩ : TA0), (⟨(3 : Int), (false), (0 : Int), ([] : List UInt8), ([] : List TA0), ([] : List (List UInt8))⟩ : TA0)].length cap_2, .slice A_3 ([[98], [97]] : List (List UInt8)).length cap_3]) (by kernel_rfl) (by rw [hv_3])
 refine Y27 (vs := [.int .i8 5, .bool false, .int .i64 0, S [], .slice A_2 [(⟨(4 : Int), (false), (0 : Int), ([] : List UInt8), [(⟨(2 : Int), (false), (1 : Int), ([] : List UInt8), ([] : List TA0), ([] : List (List UInt8))⟩ : TA0), z_TA0], ([] : List (List UInt8))⟩ : TA0), (⟨(3 : Int), (false), (0 : Int), ([] : List UInt8), ([] : List TA0), ([] : List (List UInt8))⟩ : TA0)].length cap_2, .slice A_3 ([[98], [97]] : List (List UInt8)).length cap_3]) (j := 0) f p_14 rfl rfl (by simp [Value.oneCell', S]) (by simp) (by decide) (cs' := #[.int .i8 5, .bool false, .int .i64 0, S [], .slice A_2 [(⟨(4 : Int), (false), (0 : Int), ([] : List UInt8), [(⟨(2 : Int), (false), (1 : Int), ([] : List UInt8), ([] : List TA0), ([] : List (List UInt8))⟩ : TA0), z_TA0], ([] : List (List UInt8))⟩ : TA0), (⟨(3 : Int), (false), (0 : Int), ([] : List UInt8), ([] : List TA0), ([] : List (List UInt8))⟩ : TA0)].length cap_2, .slice A_3 ([[98], [97]] : List (List UInt8)).length cap_3]) fun w_5 p_15 _ f => eT (RR (Z (v := .agg #[.int .i8 5, .bool false, .int .i64 0, S [], .slice A_2 [(⟨(4 : Int), (false), (0 : Int), ([] : List UInt8), [(⟨(2 : Int), (false), (1 : Int), ([] : List UInt8), ([] : List TA0), ([] : List (List UInt8))⟩ : TA0), z_TA0], ([] : List (List UInt8))⟩ : TA0), (⟨(3 : Int), (false), (0 : Int), ([] : List UInt8), ([] : List TA0), ([] : List (List UInt8))⟩ : TA0)].length cap_2, .slice A_3 ([[98], [97]] : List (List UInt8)).length cap_3]) f (Y31 (cs := [.int .i8 5, .bool false, .int .i64 0, S [], .slice A_2 [(⟨(4 : Int), (false), (0 : Int), ([] : List UInt8), [(⟨(2 : Int), (false), (1 : Int), ([] : List UInt8), ([] : List TA0), ([] : List (List UInt8))⟩ : TA0), z_TA0], ([] : List (List UInt8))⟩ : TA0), (⟨(3 : Int), (false), (0 : Int), ([] : List UInt8), ([] : List TA0), ([] : List (List UInt8))⟩ : TA0)].length cap_2, .slice A_3 ([[98], [97]] : List (List UInt8)).length cap_3]) rfl (ad := ⟨b_4, 0, none⟩) (own_cells (p_15.ownCell 0 rfl) 0 rfl)) fun _ f => ?_))
 obtain ⟨x_1, hx_1, hF_1⟩ := bS hF
 refine Y17 f p_15 (print_Print_ok n _ (GL.mono ((hM_1.trans hM_2).trans hM_3) hG) _ (⟨(5 : Int), (false), (0 : Int), ([] : List UInt8), [(⟨(4 : Int), (false), (0 : Int), ([] : List UInt8), [(⟨(2 : Int), (false), (1 : Int), ([] : List UInt8), ([] : List TA0), ([] : List (List UInt8))⟩ : TA0), z_TA0], ([] : List (List UInt8))⟩ : TA0), (⟨(3 : Int), (false), (0 : Int), ([] : List UInt8), ([] : List TA0), ([] : List (List UInt8))⟩ : TA0)], ([[98], [97]] : List (List UInt8))⟩ : TA0) (TA0.shut (h_2.mono hM_3) h_3) x_1 hx_1) fun w_6 p_16 _ f => Y f 5 fun _ f => eT (RR (Y f 3 fun _ f => ?_))
 rcases cE hF_1 with ⟨h_4, hF_2⟩ | ⟨h_4, hF_6⟩
 ·have k_1 := dI.1 h_4
  have f := f.st 19 (cB h_4)
  refine Y f 1 fun _ f => Z f (Y37 rfl (l := x_1.1) (m := [123, 34, 97, 34, 58, 34, 34, 44, 34, 98, 34, 58, 91, 49, 44, 110, 117, 108, 108, 93, 125])) fun _ f => Y f 2 fun _ f => ?_
  rcases cE hF_2 with ⟨h_5, hF_3⟩ | ⟨h_5, hF_5⟩
  ·have k_2 := dI.1 h_5
   have f := f.st 23 (cB h_5)
   refine Z (v := .agg #[.int .i8 5, .bool false, .int .i64 0, S [], .slice A_2 [(⟨(4 : Int), (false), (0 : Int), ([] : List UInt8), [(⟨(2 : Int), (false), (1 : Int), ([] : List UInt8), ([] : List TA0), ([] : List (List UInt8))⟩ : TA0), z_TA0], ([] : List (List UInt8))⟩ : TA0), (⟨(3 : Int), (false), (0 : Int), ([] : List UInt8), ([] : List TA0), ([] : List (List UInt8))⟩ : TA0)].length cap_2, .slice A_3 ([[98], [97]] : List (List UInt8)).length cap_3]) f (Y31 (cs := [.int .i8 5, .bool false, .int .i64 0, S [], .slice A_2 [(⟨(4 : Int), (false), (0 : Int), ([] : List UInt8), [(⟨(2 : Int), (false), (1 : Int), ([] : List UInt8), ([] : List TA0), ([] : List (List UInt8))⟩ : TA0), z_TA0], ([] : List (List UInt8))⟩ : TA0), (⟨(3 : Int), (false), (0 : Int), ([] : List UInt8), ([] : List TA0), ([] : List (List UInt8))⟩ : TA0)].length cap_2, .slice A_3 ([[98], [97]] : List (List UInt8)).length cap_3]) rfl (ad := ⟨b_4, 0, none⟩) (own_cells (p_16.ownCell 0 rfl) 0 rfl)) fun _ f => ?_
   obtain ⟨x_2, hx_2, hF_4⟩ := bS hF_3
   refine Y17 f p_16 (print_Len_ok n _ (GL.mono ((hM_1.trans hM_2).trans hM_3) hG) _ (⟨(5 : Int), (false), (0 : Int), ([] : List UInt8), [(⟨(4 : Int), (false), (0 : Int), ([] : List UInt8), [(⟨(2 : Int), (false), (1 : Int), ([] : List UInt8), ([] : List TA0), ([] : List (List UInt8))⟩ : TA0), z_TA0], ([] : List (List UInt8))⟩ : TA0), (⟨(3 : Int), (false), (0 : Int), ([] : List UInt8), ([] : List TA0), ([] : List (List UInt8))⟩ : TA0)], ([[98], [97]] : List (List UInt8))⟩ : TA0) (TA0.shut (h_2.mono hM_3) h_3) x_2 hx_2) fun w_7 p_17 _ f => Y f 5 fun _ f => eT (wp_ret (E_ret1 f rfl (by kernel_rfl : Vc.look _ 0 = some (.bool (decide (x_2 = (x_1.1.length : Int))))) ?_))
   obtain rfl := sI hF_4
   exact ⟨_, rfl, M_3, ((hM_1.trans hM_2).trans hM_3), (p_17.dropN 1), rfl⟩
  ·have k_3 := iff_f dI h_5
   have f := f.st 23 (cB h_5)
   refine Y f 7 fun _ f => eT (wp_ret (E_ret1 f rfl (by kernel_rfl : Vc.look _ 0 = some (.bool false)) ?_))
   obtain rfl := sI hF_5
   exact ⟨_, rfl, M_3, ((hM_1.trans hM_2).trans hM_3), (p_16.dropN 1), rfl⟩
 ·have k_4 := iff_f dI h_4
  have f := f.st 19 (cB h_4)
  refine Y f 11 fun _ f => eT (wp_ret (E_ret1 f rfl (by kernel_rfl : Vc.look _ 0 = some (.bool false)) ?_))
  obtain rfl := sI hF_6
  exact ⟨_, rfl, M_3, ((hM_1.trans hM_2).trans hM_3), (p_16.dropN 1), rfl⟩
end Go.Proofs.YtfaedhhjamaniaaDoor
end

section
namespace Go.Proofs.YtfaedhhjamaniaaDoor
open Go Go.Vc
theorem ws_run {n : Nat} {a s : List UInt8} {br : Bool} {d : Int} (h : a.length + s.length ≤ 10000000000000) : strings_Builder_WriteString_2 n a br d s = some ((s.length : Int), (), a ++ s, br, d) := by
 unfold strings_Builder_WriteString_2 strings_Builder_copyCheck_6 strings_Builder_copyCheck_4
 rw [bnd, need_t (by show (a.length + s.length) * 1 ≤ _; omega)]
theorem wb_run {n : Nat} {a : List UInt8} {br : Bool} {d : Int} (c : Int) (hc : 0 ≤ c ∧ c < 256) (h : a.length ≤ 10000000000000) : strings_Builder_WriteByte_2 n a br d c = some ((), a ++ [UInt8.ofNat c.toNat], br, d) := by
 unfold strings_Builder_WriteByte_2 strings_Builder_copyCheck_6 strings_Builder_copyCheck_4
 rw [bnd, need_t hc, need_t (by show (a.length + 1) * 1 ≤ _; omega)]
theorem wsL {n : Nat} {a s : List UInt8} (h : a.length + s.length ≤ 10000000000000) : strings_Builder_WriteString n a s = some ((s.length : Int), (), a ++ s) := by
 unfold strings_Builder_WriteString strings_Builder_copyCheck_3 strings_Builder_copyCheck
 rw [bnd, need_t (by omega)]
theorem wbL {n : Nat} {a : List UInt8} (c : Int) (hc : 0 ≤ c ∧ c < 256) (h : a.length ≤ 10000000000000) : strings_Builder_WriteByte n a c = some ((), a ++ [UInt8.ofNat c.toNat]) := by
 unfold strings_Builder_WriteByte strings_Builder_copyCheck_3 strings_Builder_copyCheck
 rw [bnd, need_t hc, need_t (by omega)]
theorem rep_two : ∀ d : Nat, Lib.repeatL [32, 32] d = List.replicate (2 * d) (32 : UInt8)
 | 0 => rfl
 | d + 1 => by
  rw [Lib.repeatL, rep_two d]
  have : 2 * (d + 1) = (2 * d + 1) + 1 := by omega
  rw [this, List.replicate_succ, List.replicate_succ]; rfl
theorem line_run {n : Nat} {a : List UInt8} {br : Bool} {d : Nat} (hd : d ≤ 1000) (h : a.length + (lineV br d).length ≤ 10000000000000) : print_writer_line n a br (d : Int) = some (a ++ lineV br d, br, (d : Int)) := by
 unfold print_writer_line
 cases br with
 | false => simp [lineV]
 | true =>
  have e : lineV true d = 10 :: List.replicate (2 * d) 32 := rfl
  rw [e] at h ⊢
  simp only [List.length_cons, List.length_replicate] at h
  simp only [cT]
  rw [wb_run 10 (by omega) (by omega), bnd]
  dsimp only
  unfold h_Repeat
  rw [need_t ⟨by omega, by omega, by decide⟩, bnd]
  have e2 : ((d : Int)).toNat = d := by omega
  rw [e2, rep_two, ws_run (by simp; omega), bnd]
  simp
def qtab : List (Int × Int) := mput (mput (mput (mput (mput (mput (mput ([] : List (Int × Int)) (34 : Int) (34 : Int)) (92 : Int) (92 : Int)) (8 : Int) (98 : Int)) (9 : Int) (116 : Int)) (10 : Int) (110 : Int)) (12 : Int) (102 : Int)) (13 : Int) (114 : Int)
def hexs : List UInt8 := [48, 49, 50, 51, 52, 53, 54, 55, 56, 57, 97, 98, 99, 100, 101, 102]
def okQ (i : Nat) : Bool :=
  if (mget qtab (i : Int)).isSome = true then decide (0 ≤ (mget qtab (i : Int)).getD 0 ∧ (mget qtab (i : Int)).getD 0 < 256) && decide ([92, UInt8.ofNat ((mget qtab (i : Int)).getD 0).toNat] = qb (UInt8.ofNat i))
  else if (i : Int) < 32 then decide (inR .u8 (48 + bShr .u8 (i : Int) 4)) && (decide (0 ≤ 48 + bShr .u8 (i : Int) 4 ∧ 48 + bShr .u8 (i : Int) 4 < 256) && (decide (getI hexs (bAnd .u8 (i : Int) 15) = some (hexs.getD (bAnd .u8 (i : Int) 15).toNat 0)) && decide ([92, 117, 48, 48, UInt8.ofNat (48 + bShr .u8 (i : Int) 4).toNat, UInt8.ofNat (((hexs.getD (bAnd .u8 (i : Int) 15).toNat 0).toNat : Int)).toNat] = qb (UInt8.ofNat i))))
  else decide ([UInt8.ofNat ((i : Int)).toNat] = qb (UInt8.ofNat i))
theorem okQ_all : (List.range 256).all okQ = true := by decide +kernel
theorem okQ_at (c : UInt8) : okQ c.toNat = true := List.all_eq_true.1 okQ_all _ (List.mem_range.2 c.toNat_lt)
theorem quote_loop {n : Nat} {s : List UInt8} (hs : s.length ≤ 5000) (hn : 6000 < n) : loopF (runes_Quote_s1 n s qtab) n ((0 : Int), [34]) = some (34 :: s.flatMap qb) := by
 have key := loop_all (n := n) (step := runes_Quote_s1 n s qtab) (fun k : Nat => ((k : Int), 34 :: (s.take k).flatMap qb)) s.length (34 :: s.flatMap qb) (fun k hk => ?_) ?_ (by omega)
 ·simpa using key
 ·have hfl := flat_len (s.take k)
  have htl : (s.take k).length ≤ 5000 := by rw [List.length_take]; omega
  have hi : inR .i64 ((k : Int) + 1) := inR_small (by omega) (by omega)
  have e1 : (s.take (k + 1)).flatMap qb = (s.take k).flatMap qb ++ qb (s.getD k 0) := by
   rw [List.take_add_one, List.flatMap_append]
   congr 1
   simp [List.getD, hk]
  show runes_Quote_s1 n s qtab ((k : Int), 34 :: (s.take k).flatMap qb) = some (.nx (((k + 1 : Nat) : Int), 34 :: (s.take (k + 1)).flatMap qb))
  rw [e1]
  generalize hA : (s.take k).flatMap qb = A at *
  have hAl : A.length ≤ 40000 := by omega
  have hq := okQ_at (s.getD k 0)
  unfold runes_Quote_s1
  simp only [decide_eq_true (by omega : (k : Int) < (s.length : Int)), cT, getI_at 0 hk, bnd]
  generalize s.getD k 0 = c at *
  have ec : UInt8.ofNat c.toNat = c := UInt8.ofNat_toNat
  unfold okQ at hq
  rw [ec] at hq
  by_cases h1 : (mget qtab (c.toNat : Int)).isSome = true
  ·rw [if_pos h1] at hq
   simp only [Bool.and_eq_true, decide_eq_true_eq] at hq
   rw [h1, cT, wbL 92 (by omega) (by simp; omega), bnd, wbL _ hq.1 (by simp; omega), bnd, need_t hi, ← hq.2]
   simp
  ·rw [if_neg h1] at hq
   have h1' : (mget qtab (c.toNat : Int)).isSome = false := by simpa using h1
   rw [h1', cF]
   by_cases h2 : (c.toNat : Int) < 32
   ·rw [if_pos h2] at hq
    simp only [Bool.and_eq_true, decide_eq_true_eq] at hq
    obtain ⟨q1, q2, q3, q4⟩ := hq
    rw [decide_eq_true h2, cT, wsL (by simp; omega), bnd, need_t q1, wbL _ q2 (by simp; omega), bnd]
    have q3' : getI ([48, 49, 50, 51, 52, 53, 54, 55, 56, 57, 97, 98, 99, 100, 101, 102] : List UInt8) (bAnd .u8 (c.toNat : Int) 15) = some (hexs.getD (bAnd .u8 (c.toNat : Int) 15).toNat 0) := q3
    rw [q3', bnd, wbL _ (by have := (hexs.getD (bAnd .u8 (c.toNat : Int) 15).toNat 0).toNat_lt; omega) (by simp; omega), bnd, need_t hi, ← q4]
    simp
   ·rw [if_neg h2] at hq
    simp only [decide_eq_true_eq] at hq
    rw [decide_eq_false h2, cF, wbL _ (by have := c.toNat_lt; omega) (by simp; omega), bnd, need_t hi, ← hq]
    simp
 ·show runes_Quote_s1 n s qtab ((s.length : Int), _) = _
  unfold runes_Quote_s1
  simp
theorem valid_run5 {n : Nat} {s : List UInt8} (hs : s.length ≤ 5000) : runes_Valid n s = some (Lib.validD s) := by
 unfold runes_Valid h_ValidString
 rw [need_t (by omega), bnd]
theorem Quote_run {n : Nat} {s : List UInt8} (hs : s.length ≤ 5000) (hn : 6000 < n) (hv : Lib.validD s = true) : runes_Quote n s = some (quoteV s, 0) := by
 unfold runes_Quote
 have hq := flat_len s
 rw [valid_run5 hs, bnd, hv]
 have e1 : runes_short n = some qtab := rfl
 simp only [Bool.not_true, cF, e1, bnd]
 rw [wbL 34 (by omega) (by simp), bnd]
 have e2 : ([] ++ [UInt8.ofNat (34 : Int).toNat] : List UInt8) = [34] := rfl
 rw [e2, quote_loop hs hn, bnd, wbL 34 (by omega) (by rw [List.length_cons]; omega), bnd]
 rfl
theorem quote_run {n : Nat} {a s : List UInt8} {br : Bool} {d : Int} (hs : s.length ≤ 5000) (hn : 6000 < n) (hv : Lib.validD s = true) (h : a.length + (quoteV s).length ≤ 10000000000000) : print_writer_quote n a br d s = some (a ++ quoteV s, br, d) := by
 unfold print_writer_quote
 rw [Quote_run hs hn hv, bnd, ws_run h, bnd]
theorem partsV_app (br : Bool) (d : Nat) (o : Bool) : ∀ (l m : List TA0) (ks : List (List UInt8)) (first : Bool), partsV br d o first ks (l ++ m) = partsV br d o first ks l ++ partsV br d o (first && decide (l.length = 0)) (ks.drop l.length) m
 | [], m, ks, first => by rw [partsV_nil]; simp
 | x :: l, m, ks, first => by
  rw [List.cons_append, partsV_cons, partsV_cons, partsV_app br d o l m ks.tail false]
  have e : ks.tail.drop l.length = ks.drop (x :: l).length := by
   rw [List.length_cons, ← List.drop_one, List.drop_drop, Nat.add_comm]
  rw [e, Bool.false_and, decide_eq_false (by simp : ¬ (x :: l).length = 0), Bool.and_false]
  simp only [List.append_assoc]
theorem parts_le (br : Bool) (d : Nat) (o : Bool) (l : List TA0) (ks : List (List UInt8)) (i : Nat) : (partsV br d o true ks (l.take i)).length ≤ (partsV br d o true ks l).length := by
 have h := partsV_app br d o (l.take i) (l.drop i) ks true
 rw [List.take_append_drop] at h
 rw [h, List.length_append]
 omega
theorem list_loop {n : Nat} (rec : List UInt8 → Bool → Int → TA0 → Option (List UInt8 × Bool × Int)) (v : TA0) (br : Bool) (d : Nat) (b : List UInt8) (hw : v.fList.length ≤ 3000) (hd : d ≤ 500) (hn : 6000 < n) (hL : b.length + (partsV br (d + 1) false true v.fKeys v.fList).length ≤ 10000000000000)
  (hr : ∀ x ∈ v.fList, ∀ a, a.length + (textV br (d + 1) x).length ≤ 10000000000000 → rec a br ((d + 1 : Nat) : Int) x = some (a ++ textV br (d + 1) x, br, ((d + 1 : Nat) : Int))) :
  loopF (print_writer_parts_2_s1 n rec v) n ((0 : Int), b, br, ((d + 1 : Nat) : Int)) = some (b ++ partsV br (d + 1) false true v.fKeys v.fList, br, ((d + 1 : Nat) : Int)) := by
 have key := loop_all (n := n) (step := print_writer_parts_2_s1 n rec v) (fun k : Nat => ((k : Int), b ++ partsV br (d + 1) false true v.fKeys (v.fList.take k), br, ((d + 1 : Nat) : Int))) v.fList.length (b ++ partsV br (d + 1) false true v.fKeys v.fList, br, ((d + 1 : Nat) : Int)) (fun k hk => ?_) ?_ (by omega)
 ·rw [List.take_zero, partsV_nil, List.append_nil] at key
  exact key
 ·have hi : inR .i64 ((k : Int) + 1) := inR_small (by omega) (by omega)
  have hx : v.fList[k]? = some v.fList[k] := List.getElem?_eq_getElem hk
  have hp := partsV_take br (d + 1) false v.fKeys hx
  have hle := parts_le br (d + 1) false v.fList v.fKeys (k + 1)
  rw [hp, List.length_append, List.length_append] at hle
  show print_writer_parts_2_s1 n rec v ((k : Int), b ++ partsV br (d + 1) false true v.fKeys (v.fList.take k), br, ((d + 1 : Nat) : Int)) = some (.nx (((k + 1 : Nat) : Int), b ++ partsV br (d + 1) false true v.fKeys (v.fList.take (k + 1)), br, ((d + 1 : Nat) : Int)))
  rw [hp]
  generalize hA : partsV br (d + 1) false true v.fKeys (v.fList.take k) = A at *
  have hg : getI v.fList (k : Int) = some v.fList[k] := by
   unfold getI
   rw [if_pos (by omega)]
   simp
  have hll : (leadV br (d + 1) false (decide (k = 0)) (v.fKeys.getD k [])).length = (if decide (k = 0) = true then ([] : List UInt8) else [44]).length + (lineV br (d + 1)).length := by
   unfold leadV headV
   simp
  unfold print_writer_parts_2_s1 print_writer_list_1
  simp only [decide_eq_true (by omega : (k : Int) < ((v.fList.length : Nat) : Int)), cT]
  have e1 : (bif decide ((0 : Int) < (k : Int)) then ((strings_Builder_WriteByte_2 n (b ++ A) br ((d + 1 : Nat) : Int) (44 : Int)).bind fun x_2 => some ((x_2.2.1, (x_2.2.2.1), x_2.2.2.2))) else some ((b ++ A, br, ((d + 1 : Nat) : Int))) : Option (List UInt8 × Bool × Int)) = some (b ++ A ++ (if decide (k = 0) = true then [] else [44]), br, ((d + 1 : Nat) : Int)) := by
   by_cases h0 : k = 0
   ·subst h0; simp
   ·rw [decide_eq_true (by omega : (0 : Int) < (k : Int)), cT, wb_run 44 (by omega) (by simp; omega), bnd, if_neg (by simpa using h0)]; rfl
  rw [e1, bnd, line_run (by omega) (by simp only [List.length_append]; omega), bnd, bnd, hg, bnd, hr _ (List.getElem_mem hk) _ (by simp only [List.length_append]; omega), bnd, need_t hi]
  congr 3
  unfold leadV headV
  simp
 ·show print_writer_parts_2_s1 n rec v ((v.fList.length : Int), _) = _
  unfold print_writer_parts_2_s1
  simp
theorem object_loop {n : Nat} (rec : List UInt8 → Bool → Int → TA0 → Option (List UInt8 × Bool × Int)) (v : TA0) (br : Bool) (d : Nat) (b : List UInt8) (hw : v.fList.length ≤ 3000) (hd : d ≤ 500) (hn : 6000 < n) (hL : b.length + (partsV br (d + 1) true true v.fKeys v.fList).length ≤ 10000000000000)
  (hk : v.fKeys.length = v.fList.length) (hkk : ∀ k ∈ v.fKeys, k.length ≤ 5000 ∧ Lib.validD k = true)
  (hr : ∀ x ∈ v.fList, ∀ a, a.length + (textV br (d + 1) x).length ≤ 10000000000000 → rec a br ((d + 1 : Nat) : Int) x = some (a ++ textV br (d + 1) x, br, ((d + 1 : Nat) : Int))) :
  loopF (print_writer_parts_s1 n rec v v) n ((0 : Int), b, br, ((d + 1 : Nat) : Int)) = some (b ++ partsV br (d + 1) true true v.fKeys v.fList, br, ((d + 1 : Nat) : Int)) := by
 have key := loop_all (n := n) (step := print_writer_parts_s1 n rec v v) (fun k : Nat => ((k : Int), b ++ partsV br (d + 1) true true v.fKeys (v.fList.take k), br, ((d + 1 : Nat) : Int))) v.fList.length (b ++ partsV br (d + 1) true true v.fKeys v.fList, br, ((d + 1 : Nat) : Int)) (fun k hk' => ?_) ?_ (by omega)
 ·rw [List.take_zero, partsV_nil, List.append_nil] at key
  exact key
 ·have hi : inR .i64 ((k : Int) + 1) := inR_small (by omega) (by omega)
  have hx : v.fList[k]? = some v.fList[k] := List.getElem?_eq_getElem hk'
  have hp := partsV_take br (d + 1) true v.fKeys hx
  have hle := parts_le br (d + 1) true v.fList v.fKeys (k + 1)
  rw [hp, List.length_append, List.length_append] at hle
  have hkey : v.fKeys.getD k [] ∈ v.fKeys := by
   have : k < v.fKeys.length := by omega
   simp [List.getD, this]
  have hkq := hkk _ hkey
  show print_writer_parts_s1 n rec v v ((k : Int), b ++ partsV br (d + 1) true true v.fKeys (v.fList.take k), br, ((d + 1 : Nat) : Int)) = some (.nx (((k + 1 : Nat) : Int), b ++ partsV br (d + 1) true true v.fKeys (v.fList.take (k + 1)), br, ((d + 1 : Nat) : Int)))
  rw [hp]
  generalize hA : partsV br (d + 1) true true v.fKeys (v.fList.take k) = A at *
  have hg : getI v.fList (k : Int) = some v.fList[k] := by
   unfold getI
   rw [if_pos (by omega)]
   simp
  have hgk : getI v.fKeys (k : Int) = some (v.fKeys.getD k []) := getI_at [] (by omega)
  have hll : (leadV br (d + 1) true (decide (k = 0)) (v.fKeys.getD k [])).length = (if decide (k = 0) = true then ([] : List UInt8) else [44]).length + (lineV br (d + 1)).length + (quoteV (v.fKeys.getD k [])).length + 1 + (if br = true then ([32] : List UInt8) else []).length := by
   unfold leadV headV
   simp only [if_pos, List.length_append, List.length_cons]
   omega
  unfold print_writer_parts_s1
  simp only [decide_eq_true (by omega : (k : Int) < ((v.fList.length : Nat) : Int)), cT]
  have e1 : (bif decide ((0 : Int) < (k : Int)) then ((strings_Builder_WriteByte_2 n (b ++ A) br ((d + 1 : Nat) : Int) (44 : Int)).bind fun x_2 => some ((x_2.2.1, (x_2.2.2.1), x_2.2.2.2))) else some ((b ++ A, br, ((d + 1 : Nat) : Int))) : Option (List UInt8 × Bool × Int)) = some (b ++ A ++ (if decide (k = 0) = true then [] else [44]), br, ((d + 1 : Nat) : Int)) := by
   by_cases h0 : k = 0
   ·subst h0; simp
   ·rw [decide_eq_true (by omega : (0 : Int) < (k : Int)), cT, wb_run 44 (by omega) (by simp; omega), bnd, if_neg (by simpa using h0)]; rfl
  have e2 : ∀ a : List UInt8, a.length + (quoteV (v.fKeys.getD k [])).length + 1 + (if br = true then ([32] : List UInt8) else []).length ≤ 10000000000000 → print_writer_object_1 n (k : Int) a br ((d + 1 : Nat) : Int) v = some (a ++ headV br true (v.fKeys.getD k []), br, ((d + 1 : Nat) : Int)) := fun a ha => by
   unfold print_writer_object_1
   rw [hgk, bnd, quote_run hkq.1 hn hkq.2 (by omega), bnd, wb_run 58 (by omega) (by simp only [List.length_append]; omega), bnd]
   cases br with
   | false => simp [headV]
   | true =>
    simp only [cT]
    rw [wb_run 32 (by omega) (by simp only [List.length_append, List.length_cons, List.length_nil, if_pos] at ha ⊢; omega), bnd]
    simp [headV]
  rw [e1, bnd, line_run (by omega) (by simp only [List.length_append]; omega), bnd, e2 _ (by simp only [List.length_append]; omega), bnd, hg, bnd, hr _ (List.getElem_mem hk') _ (by
   have e5 : (headV br true (v.fKeys.getD k [])).length = (quoteV (v.fKeys.getD k [])).length + 1 + (if br = true then ([32] : List UInt8) else []).length := by
    unfold headV
    simp only [if_pos, List.length_append, List.length_cons]
    omega
   simp only [List.length_append]; omega), bnd, need_t hi]
  congr 3
  unfold leadV
  simp only [List.append_assoc]
 ·show print_writer_parts_s1 n rec v v ((v.fList.length : Int), _) = _
  unfold print_writer_parts_s1
  simp
theorem value_run {n : Nat} (hn : 6000 < n) : ∀ (m k d : Nat) (v : TA0) (b : List UInt8) (br : Bool), m ≤ k → Small m v → OkV v → d + m ≤ 100 → b.length + (textV br d v).length ≤ 10000000000000 → print_writer_value_k n k b br (d : Int) v = some (b ++ textV br d v, br, (d : Int))
 | 0, _, _, _, _, _, _, h, _, _, _ => h.elim
 | m + 1, 0, _, _, _, _, hk, _, _, _, _ => absurd hk (by omega)
 | m + 1, k + 1, d, v, b, br, hk, hs, hv, hd, hL => by
  obtain ⟨hp, hno, hto, -⟩ := alone_ok (OkV_iff.1 hv).1
  have hw := hs.wide
  have h0 := hp.1
  have h5 := hp.2.1
  have hrec : ∀ x ∈ v.fList, ∀ a : List UInt8, a.length + (textV br (d + 1) x).length ≤ 10000000000000 → print_writer_value_k n k a br ((d + 1 : Nat) : Int) x = some (a ++ textV br (d + 1) x, br, ((d + 1 : Nat) : Int)) :=
   fun x hx a ha => value_run hn m k (d + 1) x a br (by omega) (hs.2.2.2.2 x hx) (hv.part hx) (by omega) ha
  have hd1 : inR .i64 ((d : Int) + 1) := inR_small (by omega) (by omega)
  have hd2 : inR .i64 (((d + 1 : Nat) : Int) - 1) := inR_small (by omega) (by omega)
  have ed : (((d + 1 : Nat) : Int) - 1) = (d : Int) := by omega
  have ed2 : ((d : Int) + 1) = ((d + 1 : Nat) : Int) := by omega
  rw [textV_eq] at hL ⊢
  show print_writer_value_b n (print_writer_value_k n k) b br (d : Int) v = _
  unfold print_writer_value_b
  rw [need_t (by omega)]
  by_cases k0 : v.fKind = 0
  ·rw [decide_eq_true k0, cT]
   have n1 : ¬ v.fKind = 1 := by omega
   have n2 : ¬ v.fKind = 2 := by omega
   have n3 : ¬ v.fKind = 3 := by omega
   have n4 : ¬ v.fKind = 4 := by omega
   have n5 : ¬ v.fKind = 5 := by omega
   rw [if_neg n1, if_neg n2, if_neg n3, if_neg n4, if_neg n5] at hL ⊢
   unfold print_writer_null
   rw [ws_run hL, bnd, bnd]
  ·rw [decide_eq_false k0, cF]
   by_cases k1 : v.fKind = 1
   ·rw [if_pos k1] at hL ⊢
    rw [decide_eq_true k1, cT]
    unfold print_writer_bool
    cases hb : v.fBool with
    | true =>
     rw [hb, if_pos rfl] at hL
     rw [cT, if_pos rfl, ws_run hL, bnd, bnd]
    | false =>
     rw [hb, if_neg (by simp)] at hL
     rw [cF, if_neg (by simp), ws_run hL, bnd, bnd]
   ·rw [if_neg k1] at hL ⊢
    rw [decide_eq_false k1, cF]
    by_cases k2 : v.fKind = 2
    ·rw [if_pos k2] at hL ⊢
     rw [decide_eq_true k2, cT]
     unfold print_writer_number h_numText
     have e3 : (Go.Num.text v.fNum).1 = numB v.fNum := rfl
     rw [bnd, e3, ws_run hL, bnd, bnd]
    ·rw [if_neg k2] at hL ⊢
     rw [decide_eq_false k2, cF]
     by_cases k3 : v.fKind = 3
     ·rw [if_pos k3] at hL ⊢
      rw [decide_eq_true k3, cT]
      unfold print_writer_text
      rw [quote_run hw.2.2.1 hn hto.1 hL, bnd, bnd]
     ·rw [if_neg k3] at hL ⊢
      rw [decide_eq_false k3, cF]
      by_cases k4 : v.fKind = 4
      ·rw [if_pos k4] at hL ⊢
       rw [decide_eq_true k4, cT]
       simp only [List.length_cons, List.length_append, List.length_nil] at hL
       unfold print_writer_list_2 print_writer_parts_2
       rw [wb_run 91 (by omega) (by omega), bnd, need_t hd1, ed2]
       simp only []
       rw [list_loop (print_writer_value_k n k) v br d _ hw.1 (by omega) hn (by simp only [List.length_append, List.length_cons, List.length_nil]; omega) hrec, bnd, need_t hd2, ed]
       have e9 : ∀ a : List UInt8, a.length + (if v.fList.length = 0 then ([] : List UInt8) else lineV br d).length ≤ 10000000000000 → (bif decide ((0 : Int) < ((v.fList.length : Nat) : Int)) then ((print_writer_line n a br (d : Int)).bind fun x_7 => some ((x_7.1, (x_7.2.1), x_7.2.2))) else some ((a, br, (d : Int))) : Option (List UInt8 × Bool × Int)) = some (a ++ (if v.fList.length = 0 then [] else lineV br d), br, (d : Int)) := fun a ha => by
        by_cases hz : v.fList.length = 0
        ·rw [decide_eq_false (by omega), cF, if_pos hz, List.append_nil]
        ·rw [if_neg hz] at ha ⊢
         rw [decide_eq_true (by omega), cT, line_run (by omega) ha, bnd]
       rw [e9 _ (by simp only [List.length_append, List.length_cons, List.length_nil]; omega), bnd, wb_run 93 (by omega) (by simp only [List.length_append, List.length_cons, List.length_nil]; omega), bnd, bnd, bnd]
       simp
      ·rw [if_neg k4] at hL ⊢
       have k5 : v.fKind = 5 := by omega
       rw [if_pos k5] at hL ⊢
       rw [decide_eq_false k4, cF]
       simp only [List.length_cons, List.length_append, List.length_nil] at hL
       unfold print_writer_object print_writer_parts
       rw [wb_run 123 (by omega) (by omega), bnd, need_t hd1, ed2]
       simp only []
       rw [object_loop (print_writer_value_k n k) v br d _ hw.1 (by omega) hn (by simp only [List.length_append, List.length_cons, List.length_nil]; omega) (plain_len hp k5) (fun q hq => ⟨hw.2.2.2 q hq, hto.2 q hq⟩) hrec, bnd, need_t hd2, ed]
       have e9 : ∀ a : List UInt8, a.length + (if v.fList.length = 0 then ([] : List UInt8) else lineV br d).length ≤ 10000000000000 → (bif decide ((0 : Int) < ((v.fList.length : Nat) : Int)) then ((print_writer_line n a br (d : Int)).bind fun x_7 => some ((x_7.1, (x_7.2.1), x_7.2.2))) else some ((a, br, (d : Int))) : Option (List UInt8 × Bool × Int)) = some (a ++ (if v.fList.length = 0 then [] else lineV br d), br, (d : Int)) := fun a ha => by
        by_cases hz : v.fList.length = 0
        ·rw [decide_eq_false (by omega), cF, if_pos hz, List.append_nil]
        ·rw [if_neg hz] at ha ⊢
         rw [decide_eq_true (by omega), cT, line_run (by omega) ha, bnd]
       rw [e9 _ (by simp only [List.length_append, List.length_cons, List.length_nil]; omega), bnd, wb_run 125 (by omega) (by simp only [List.length_append, List.length_cons, List.length_nil]; omega), bnd, bnd, bnd]
       simp
def printV (br : Bool) (v : TA0) : List UInt8 × Int :=
  if checkV v = 0 then (if 32768 < (textV br 0 (sortV v)).length then ([], 3) else (textV br 0 (sortV v), 0)) else ([], checkV v)
theorem text_run {n : Nat} (hn : 6000 < n) {v : TA0} (h : Fine v) (br : Bool) : print_text n v br = some (printV br v) := by
 unfold print_text printV
 rw [check_run hn h, bnd]
 by_cases hc : checkV v = 0
 ·have hok := (checkV_ok hc).1
  have hf := h.sort hok
  have hl := text_len_gen br 60 0 (sortV v) hf.small (by omega)
  have hfew := hf.few
  rw [decide_eq_true hc, if_pos hc]
  simp only [Bool.not_true, cF]
  have e1 : sortedV v = sortV v := by unfold sortedV; rw [if_pos hc]
  rw [Sorted_run hn h, bnd, e1]
  unfold print_writer_value
  have e2 : ((0 : Nat) : Int) = 0 := rfl
  rw [← e2, value_run hn 60 n 0 (sortV v) [] br (by omega) hf.small hok.sort (by omega) (by simp only [List.length_nil]; omega), bnd]
  unfold strings_Builder_Len strings_Builder_String_2
  simp only [List.nil_append, bnd]
  by_cases hlong : 32768 < (textV br 0 (sortV v)).length
  ·rw [decide_eq_true (by omega), cT, if_pos hlong]
  ·rw [decide_eq_false (by omega), cF, if_neg hlong]
 ·rw [decide_eq_false hc, if_neg hc]
  simp only [Bool.not_false, cT]
theorem Print_run {n : Nat} (hn : 6000 < n) {v : TA0} (h : Fine v) : print_Print n v = some (printV false v) := by
 unfold print_Print
 rw [text_run hn h, bnd]
theorem Broad_run {n : Nat} (hn : 6000 < n) {v : TA0} (h : Fine v) : print_Broad n v = some (printV true v) := by
 unfold print_Broad
 rw [text_run hn h, bnd]
theorem wakes5 : law05_wakes 10000 = some true := by decide +kernel
theorem printV_ok {br : Bool} {v : TA0} (h : (printV br v).2 = 0) : checkV v = 0 ∧ (printV br v).1 = textV br 0 (sortV v) ∧ (textV br 0 (sortV v)).length ≤ 32768 := by
 unfold printV at h ⊢
 by_cases hc : checkV v = 0
 ·rw [if_pos hc] at h ⊢
  by_cases hl : 32768 < (textV br 0 (sortV v)).length
  ·rw [if_pos hl] at h; cases h
  ·rw [if_neg hl]; exact ⟨hc, rfl, by omega⟩
 ·rw [if_neg hc] at h; exact absurd h hc
end Go.Proofs.YtfaedhhjamaniaaDoor
end

section
namespace Go.Proofs.YtfaedhhjamaniaaDoor
open Go Go.Vc Go.RowKit
def ref03_sorted_s2 (n : Nat) (d0 : TA0) (s_1 : Int × List TA0 × List (List UInt8)) (s_2 : Int) : Option (Lp Int Int) :=
    bif (decide (s_2 < ((s_1.2.2.length : Nat) : Int))) then
      ((getI s_1.2.2 s_2).bind fun x_3 =>
      (getI d0.fKeys s_1.1).bind fun x_4 =>
      bif (Op.bytesLess x_3 x_4) then
        (need (inR .i64 (s_2 + 1)) <|
        some (.nx (s_2 + 1)))
      else
        some (.br s_2))
    else
      some (.br s_2)
def ref03_sorted_s1 (n : Nat) (rec_ref03_sorted : TA0 → Option TA0) (d0 : TA0) (s_1 : Int × List TA0 × List (List UInt8)) : Option (Lp (Int × List TA0 × List (List UInt8)) (List TA0 × List (List UInt8))) :=
    bif (decide (s_1.1 < ((d0.fList.length : Nat) : Int))) then
      ((getI d0.fList s_1.1).bind fun x_1 =>
      (rec_ref03_sorted x_1).bind fun x_2 =>
      bif (decide (d0.fKind = 4)) then
        (need ((s_1.2.1.length + 1) * 80 ≤ 140737488355328) <|
        need (inR .i64 (s_1.1 + 1)) <|
        some (.nx (s_1.1 + 1, s_1.2.1 ++ [(⟨x_2.fKind, (x_2.fBool), x_2.fNum, x_2.fText, x_2.fList, x_2.fKeys⟩ : TA0)], s_1.2.2)))
      else
        (loopF (ref03_sorted_s2 n d0 s_1) n (0 : Int)).bind fun y_1 =>
        need (0 ≤ y_1 ∧ y_1 ≤ (s_1.2.2.length : Int)) <|
        need ((([] : List (List UInt8)).length + (s_1.2.2.length - y_1.toNat)) * 16 ≤ 140737488355328) <|
        need (0 ≤ y_1 ∧ y_1 ≤ (s_1.2.1.length : Int)) <|
        need ((([] : List TA0).length + (s_1.2.1.length - y_1.toNat)) * 80 ≤ 140737488355328) <|
        (((getI d0.fKeys s_1.1).bind fun x_5 =>
          need (0 ≤ y_1 ∧ y_1 ≤ (s_1.2.2.length : Int)) <|
          need (((s_1.2.2.take y_1.toNat).length + 1) * 16 ≤ 140737488355328) <|
          need ((((s_1.2.2.take y_1.toNat) ++ [x_5]).length + (([] : List (List UInt8)) ++ (s_1.2.2.take s_1.2.2.length).drop y_1.toNat).length) * 16 ≤ 140737488355328) <|
          some (((s_1.2.2.take y_1.toNat) ++ [x_5]) ++ (([] : List (List UInt8)) ++ (s_1.2.2.take s_1.2.2.length).drop y_1.toNat)) : Option (List (List UInt8)))).bind fun y_2 =>
        ((need (0 ≤ y_1 ∧ y_1 ≤ (s_1.2.1.length : Int)) <|
          need (((s_1.2.1.take y_1.toNat).length + 1) * 80 ≤ 140737488355328) <|
          need ((((s_1.2.1.take y_1.toNat) ++ [(⟨x_2.fKind, (x_2.fBool), x_2.fNum, x_2.fText, x_2.fList, x_2.fKeys⟩ : TA0)]).length + (([] : List TA0) ++ (s_1.2.1.take s_1.2.1.length).drop y_1.toNat).length) * 80 ≤ 140737488355328) <|
          some (((s_1.2.1.take y_1.toNat) ++ [(⟨x_2.fKind, (x_2.fBool), x_2.fNum, x_2.fText, x_2.fList, x_2.fKeys⟩ : TA0)]) ++ (([] : List TA0) ++ (s_1.2.1.take s_1.2.1.length).drop y_1.toNat)) : Option (List TA0))).bind fun y_3 =>
        need (inR .i64 (s_1.1 + 1)) <|
        some (.nx (s_1.1 + 1, y_3, y_2)))
    else
      some (.br (s_1.2.1, s_1.2.2))
def ref03_sorted_b (n : Nat) (rec_ref03_sorted : TA0 → Option TA0) (d0 : TA0) : Option TA0 :=
  (loopF (ref03_sorted_s1 n rec_ref03_sorted d0) n ((0 : Int), ([] : List TA0), ([] : List (List UInt8)))).bind fun y_4 =>
  some ((⟨d0.fKind, (d0.fBool), d0.fNum, d0.fText, y_4.1, y_4.2⟩ : TA0))
set_option maxRecDepth 20000 in
theorem ref03_sorted_b_ok (n : Nat) (rec_ref03_sorted : TA0 → Option TA0) (hrec_ref03_sorted : ∀ (M : Mem) (c0 : List Value) (d0 : TA0) (h0 : Rep M (emb_TA0 d0) c0) (r : TA0) (hF : rec_ref03_sorted d0 = some r), Ok Tryd.prog M 20 [.agg c0.toArray] (fun M' v => ∃ (c0 : List Value), v = .agg c0.toArray ∧ Rep M' (emb_TA0 r) c0)) (M : Mem) (c0 : List Value) (d0 : TA0) (h0 : Rep M (emb_TA0 d0) c0) (r : TA0) (hF : ref03_sorted_b n rec_ref03_sorted d0 = some r) : Ok Tryd.prog M 20 [.agg c0.toArray] (fun M' v => ∃ (c0 : List Value), v = .agg c0.toArray ∧ Rep M' (emb_TA0 r) c0) := by
 unfold ref03_sorted_b at hF
 intro M1 hM0 w0 H w p0
 replace h0 := Rep.mono hM0 _ _ h0
 obtain ⟨A_1, cap_1, A_2, cap_2, rfl, h_1, h_2⟩ := TA0.opn h0
 refine R_enter 97 Tryd.func20 rfl rfl (by simp) fun a0 f0 => RR (Y12 (cs := #[.int .i8 d0.fKind, .bool d0.fBool, .int .i64 d0.fNum, S d0.fText, .slice A_1 d0.fList.length cap_1, .slice A_2 d0.fKeys.length cap_2]) (T := 26) f0 p0 fun b_1 M_1 w_1 hM_1 hc_1 p_1 _ f => ?_)
 have hc_2 := fz_box hc_1
 refine Y11 f p_1 (.cells #[.int .i8 0, .bool false, .int .i64 0, S [], .slice none 0 0, .slice none 0 0] 26 (0, 0)) fun b_2 w_2 p_2 _ f => eT (RR (Y f 1 fun _ f => Y14 f p_2 hc_2 0 rfl fun _ f => Y f 1 fun _ f => Y14 f p_2 hc_2 1 rfl fun _ f => Y f 1 fun _ f => Y14 f p_2 hc_2 2 rfl fun _ f => Y f 1 fun _ f => Y14 f p_2 hc_2 3 rfl fun _ f => Y f 1 fun _ f => ?_))
 refine Y11 f p_2 (.cells #[.int .i8 0, .bool false, .int .i64 0, S [], .slice none 0 0, .slice none 0 0] 26 (0, 0)) fun b_3 w_3 p_3 _ f => Y27 (vs := [.int .i8 d0.fKind, .bool d0.fBool, .int .i64 d0.fNum, S d0.fText, .slice none 0 0, .slice none 0 0]) (j := 0) f p_3 rfl rfl (by simp [Value.oneCell', S]) (by simp) (by decide) (cs' := #[.int .i8 d0.fKind, .bool d0.fBool, .int .i64 d0.fNum, S d0.fText, .slice none 0 0, .slice none 0 0]) fun w_4 p_4 _ f => eT (R_seq (RR (Y f 1 fun _ f => eT (wp_block ?_))))
 obtain ⟨A_3, cap_3, hv_1⟩ : ∃ A cap, Value.slice none 0 0 = .slice A ([] : List TA0).length cap := ⟨none, 0, rfl⟩
 have p_5 : Hp w0 M_1 ((Ent.row 26 6 (.slice A_3 ([] : List TA0).length cap_3) ([] : List TA0).length []) :: (Ent.obj b_3 (.cells #[.int .i8 d0.fKind, .bool d0.fBool, .int .i64 d0.fNum, S d0.fText, .slice A_3 ([] : List TA0).length cap_3, .slice none 0 0] 26 (0, 0))) :: (Ent.obj b_2 (.cells #[.int .i8 0, .bool false, .int .i64 0, S [], .slice none 0 0, .slice none 0 0] 26 (0, 0))) :: H) w_4 := by rw [← hv_1]; exact p_4.nilRow 26 6
 have hr_1 : RepSeq M_1 (([] : List TA0).map emb_TA0) [] := rfl
 obtain ⟨A_4, cap_4, hv_2⟩ : ∃ A cap, Value.slice none 0 0 = .slice A ([] : List (List UInt8)).length cap := ⟨none, 0, rfl⟩
 have p_6 : Hp w0 M_1 ((Ent.row 9 1 (.slice A_4 ([] : List (List UInt8)).length cap_4) ([] : List (List UInt8)).length []) :: (Ent.row 26 6 (.slice A_3 ([] : List TA0).length cap_3) ([] : List TA0).length []) :: (Ent.obj b_3 (.cells #[.int .i8 d0.fKind, .bool d0.fBool, .int .i64 d0.fNum, S d0.fText, .slice A_3 ([] : List TA0).length cap_3, .slice A_4 ([] : List (List UInt8)).length cap_4] 26 (0, 0))) :: (Ent.obj b_2 (.cells #[.int .i8 0, .bool false, .int .i64 0, S [], .slice none 0 0, .slice none 0 0] 26 (0, 0))) :: H) w_4 := by rw [← hv_2]; exact p_5.nilRow 9 1
 have hr_2 : RepSeq M_1 (([] : List (List UInt8)).map Dat.str) [] := rfl
 have p_10 := p_6.pl [3, 3, 2, 3]
 obtain ⟨b_4, hL_1, hF_1⟩ := bS hF
 refine wp_mono (Q := fun e a w => (e = .exit 0 ∧ (∃ y_4 : List TA0 × List (List UInt8), b_4 = y_4 ∧ ∃ M_14 : Mem, M_1.le M_14 ∧ ∃ (A_44 : Option Addr), ∃ (cap_45 : Nat), ∃ (cs_20 : List Value), ∃ (A_45 : Option Addr), ∃ (cap_46 : Nat), ∃ (cs_21 : List Value), RepSeq M_14 (y_4.1.map emb_TA0) cs_20 ∧ RepSeq M_14 (y_4.2.map Dat.str) cs_21 ∧ Frm 97 [(2, .pointer (some (⟨b_2, 0, none⟩))), (3, .pointer (some (⟨b_3, 0, none⟩)))] a ∧ Hp w0 M_14 ((Ent.row 26 6 (.slice A_44 y_4.1.length cap_45) y_4.1.length cs_20) :: (Ent.row 9 1 (.slice A_45 y_4.2.length cap_46) y_4.2.length cs_21) :: (Ent.obj b_3 (.cells #[.int .i8 d0.fKind, .bool d0.fBool, .int .i64 d0.fNum, S d0.fText, .slice A_44 y_4.1.length cap_45, .slice A_45 y_4.2.length cap_46] 26 (0, 0))) :: (Ent.obj b_2 (.cells #[.int .i8 0, .bool false, .int .i64 0, S [], .slice none 0 0, .slice none 0 0] 26 (0, 0))) :: H) w))) (R_loop (n := 97) (w0 := w0) (M := M_1) (fun (x : Nat × (Int × List TA0 × List (List UInt8)) × (Option Addr) × Nat × (List Value) × (Option Addr) × Nat × (List Value)) => match x with | (m_1, s_1, A_5, cap_5, cs_1, A_6, cap_6, cs_2) => [(1, .pointer (some (⟨b_1, 0, none⟩))), (2, .pointer (some (⟨b_2, 0, none⟩))), (3, .pointer (some (⟨b_3, 0, none⟩))), (4, .int .i64 s_1.1)]) (fun (x : Nat × (Int × List TA0 × List (List UInt8)) × (Option Addr) × Nat × (List Value) × (Option Addr) × Nat × (List Value)) => match x with | (m_1, s_1, A_5, cap_5, cs_1, A_6, cap_6, cs_2) => ((Ent.row 26 6 (.slice A_5 s_1.2.1.length cap_5) s_1.2.1.length cs_1) :: (Ent.row 9 1 (.slice A_6 s_1.2.2.length cap_6) s_1.2.2.length cs_2) :: (Ent.obj b_3 (.cells #[.int .i8 d0.fKind, .bool d0.fBool, .int .i64 d0.fNum, S d0.fText, .slice A_5 s_1.2.1.length cap_5, .slice A_6 s_1.2.2.length cap_6] 26 (0, 0))) :: (Ent.obj b_2 (.cells #[.int .i8 0, .bool false, .int .i64 0, S [], .slice none 0 0, .slice none 0 0] 26 (0, 0))) :: H)) (fun (x : Nat × (Int × List TA0 × List (List UInt8)) × (Option Addr) × Nat × (List Value) × (Option Addr) × Nat × (List Value)) (MM : Mem) => match x with | (m_1, s_1, A_5, cap_5, cs_1, A_6, cap_6, cs_2) => loopF (ref03_sorted_s1 n rec_ref03_sorted d0) m_1 s_1 = some b_4 ∧ RepSeq MM (s_1.2.1.map emb_TA0) cs_1 ∧ RepSeq MM (s_1.2.2.map Dat.str) cs_2) (fun (x : Nat × (Int × List TA0 × List (List UInt8)) × (Option Addr) × Nat × (List Value) × (Option Addr) × Nat × (List Value)) => match x with | (m_1, s_1, A_5, cap_5, cs_1, A_6, cap_6, cs_2) => m_1) (n, ((0 : Int), ([] : List TA0), ([] : List (List UInt8))), A_3, cap_3, [], A_4, cap_4, []) (f.kp) p_10 ⟨hL_1, hr_1, hr_2⟩ ?_) ?_
 ·rintro ⟨m_1, s_1, A_5, cap_5, cs_1, A_6, cap_6, cs_2⟩ M_2 _ w_5 hM_2 I_1 f p_11
  obtain ⟨I_1L, hr_3, hr_4⟩ := I_1
  obtain ⟨m_2, r_1, rfl, hs_1, hn_1⟩ := loop_step I_1L
  unfold ref03_sorted_s1 at hs_1
  refine R_seq (RR (Y f 2 fun _ f => Y14 f p_11 (fzu hM_2 hc_2) 4 rfl fun _ f => Y f 2 fun _ f => eT (RcF f hs_1 (fun h_3 hF_2 => ?_) fun h_3 hF_31 => ?_)))
  ·have k_1 := dI.1 h_3
   refine wp_skip (T_n (R_seq (wp_block (RR (Y f 1 fun _ f => Y14 f p_11 (fzu hM_2 hc_2) 4 rfl fun _ f => Y f 1 fun _ f => ?_)))))
   obtain ⟨x_1, hx_1, hF_3⟩ := bS hF_2
   obtain ⟨ad_1, c_1, e_1, -, hr_5, hc_3⟩ := Sli.at_ (h_1.mono (hM_1.trans hM_2)) hx_1
   obtain ⟨A_7, cap_7, A_8, cap_8, rfl, h_4, h_5⟩ := TA0.opn hr_5
   refine Z f (Y29 e_1 rfl (len := d0.fList.length) (cap := cap_1) (k := .i64) (i := s_1.1) (e := 26) (sz := 6) (getI_nn hx_1) (getI_lt hx_1)) fun _ f => Z (v := .agg #[.int .i8 x_1.fKind, .bool x_1.fBool, .int .i64 x_1.fNum, S x_1.fText, .slice A_7 x_1.fList.length cap_7, .slice A_8 x_1.fKeys.length cap_8]) f (Y31 (cs := [.int .i8 x_1.fKind, .bool x_1.fBool, .int .i64 x_1.fNum, S x_1.fText, .slice A_7 x_1.fList.length cap_7, .slice A_8 x_1.fKeys.length cap_8]) rfl (ad := ad_1.add (s_1.1.toNat * 6)) (fun j v h => p_11.cell (hc_3 j v h))) fun _ f => ?_
   obtain ⟨x_2, hx_2, hF_4⟩ := bS hF_3
   refine Y15 f p_11 (hrec_ref03_sorted _ _ x_1 (TA0.shutx (x := x_1) h_4 h_5) x_2 hx_2) fun _ M_3 w_6 hM_3 p_12 q_1 _ f => ?_
   obtain ⟨c_2, rfl, hr_6⟩ := q_1
   obtain ⟨A_9, cap_9, A_10, cap_10, rfl, h_6, h_7⟩ := TA0.opn hr_6
   refine Y11 f p_12 (.cells #[.int .i8 0, .bool false, .int .i64 0, S [], .slice none 0 0, .slice none 0 0] 26 (0, 0)) fun b_5 w_7 p_13 _ f => Y27 (vs := [.int .i8 x_2.fKind, .bool x_2.fBool, .int .i64 x_2.fNum, S x_2.fText, .slice A_9 x_2.fList.length cap_9, .slice A_10 x_2.fKeys.length cap_10]) (j := 0) f p_13 rfl rfl (by simp [Value.oneCell', S]) (by simp) (by decide) (cs' := #[.int .i8 x_2.fKind, .bool x_2.fBool, .int .i64 x_2.fNum, S x_2.fText, .slice A_9 x_2.fList.length cap_9, .slice A_10 x_2.fKeys.length cap_10]) fun w_8 p_14 _ f => eT (R_seq (RR (Y f 1 fun _ f => Y14 f p_14 (fzu (hM_2.trans hM_3) hc_2) 0 rfl fun _ f => Y f 1 fun _ f => eT (RcF f hF_4 (fun h_8 hF_5 => ?_) fun h_8 hF_8 => ?_))))
   ·have k_2 := dI.1 h_8
    refine RR (Y f 1 fun _ f => Z f (Y30 (v := .slice A_5 s_1.2.1.length cap_5) rfl (ad := ⟨b_3, 4, none⟩) (p_14.ownCell 3 rfl 4)) fun _ f => Z (v := .agg #[.int .i8 x_2.fKind, .bool x_2.fBool, .int .i64 x_2.fNum, S x_2.fText, .slice A_9 x_2.fList.length cap_9, .slice A_10 x_2.fKeys.length cap_10]) f (Y31 (cs := [.int .i8 x_2.fKind, .bool x_2.fBool, .int .i64 x_2.fNum, S x_2.fText, .slice A_9 x_2.fList.length cap_9, .slice A_10 x_2.fKeys.length cap_10]) rfl (ad := ⟨b_5, 0, none⟩) (own_cells (p_14.ownCell 0 rfl) 0 rfl)) fun _ f => V_allocS (k := 1) (c := 1) f p_14 (.cells #[.int .i8 x_2.fKind, .bool x_2.fBool, .int .i64 x_2.fNum, S x_2.fText, .slice A_9 x_2.fList.length cap_9, .slice A_10 x_2.fKeys.length cap_10] 26 (0, 0)) (by kernel_rfl) (fun _ => by kernel_rfl) fun b_6 w_9 p_15 _ f => ?_)
    have p_16 := p_15.pl [2]
    obtain ⟨g_1, hF_6⟩ := nS hF_5
    refine Y19 (z := .agg #[.int .i8 0, .bool false, .int .i64 0, S [], .slice none 0 0, .slice none 0 0]) (f := emb_TA0) (xs := s_1.2.1) (ys := [(⟨x_2.fKind, (x_2.fBool), x_2.fNum, x_2.fText, x_2.fList, x_2.fKeys⟩ : TA0)]) (news := [.int .i8 x_2.fKind, .bool x_2.fBool, .int .i64 x_2.fNum, S x_2.fText, .slice A_9 x_2.fList.length cap_9, .slice A_10 x_2.fKeys.length cap_10]) (ad := ⟨b_6, 0, none⟩) (m := 1) (c := 1) f p_16 (RepSeq.mono hM_3 _ _ hr_3) (by exact ⟨_, _, rfl, TA0.shut h_6 h_7, rfl⟩) rfl rfl rfl rfl (own_cells (p_16.ownCell 1 rfl) 0 rfl) (by exact g_1) (by have hg_ := g_1; first | omega | (simp only [List.length_cons, List.length_nil] at *; omega)) fun A_11 cap_11 cs_3 w_10 p_17 hr_7 _ f => ?_
    have p_18 := p_17.pl [1]
    have p_19 := p_18.drop
    refine Y f 1 fun _ f => Y26 f p_19 3 rfl rfl (b := b_3) (j := 4) (v := .slice A_11 (s_1.2.1 ++ [(⟨x_2.fKind, (x_2.fBool), x_2.fNum, x_2.fText, x_2.fList, x_2.fKeys⟩ : TA0)]).length cap_11) rfl (by exact rfl) (by simp) (by simp) ((Ent.row 26 6 (.slice A_11 (s_1.2.1 ++ [(⟨x_2.fKind, (x_2.fBool), x_2.fNum, x_2.fText, x_2.fList, x_2.fKeys⟩ : TA0)]).length cap_11) (s_1.2.1 ++ [(⟨x_2.fKind, (x_2.fBool), x_2.fNum, x_2.fText, x_2.fList, x_2.fKeys⟩ : TA0)]).length cs_3) :: (Ent.obj b_5 (.cells #[.int .i8 x_2.fKind, .bool x_2.fBool, .int .i64 x_2.fNum, S x_2.fText, .slice A_9 x_2.fList.length cap_9, .slice A_10 x_2.fKeys.length cap_10] 26 (0, 0))) :: (Ent.row 9 1 (.slice A_6 s_1.2.2.length cap_6) s_1.2.2.length cs_2) :: (Ent.obj b_3 (.cells #[.int .i8 d0.fKind, .bool d0.fBool, .int .i64 d0.fNum, S d0.fText, .slice A_11 (s_1.2.1 ++ [(⟨x_2.fKind, (x_2.fBool), x_2.fNum, x_2.fText, x_2.fList, x_2.fKeys⟩ : TA0)]).length cap_11, .slice A_6 s_1.2.2.length cap_6] 26 (0, 0))) :: (Ent.obj b_2 (.cells #[.int .i8 0, .bool false, .int .i64 0, S [], .slice none 0 0, .slice none 0 0] 26 (0, 0))) :: H) rfl fun w_11 p_20 _ f => eT (wp_exit (T_x (B_x (T_n (R_reg (Y f 1 fun _ f => ?_))))))
    obtain ⟨g_2, hF_7⟩ := nS hF_6
    refine Y f 1 fun _ f => ?_
    have f := f.st 24 (congrArg (Value.int .i64) (inR_wrap g_2))
    refine Y f 1 fun _ f => W_end rfl ?_
    have p_127 := p_20.pl [4, 4, 4, 3, 4]
    refine T_n ?_
    obtain rfl := sI hF_7
    exact ⟨⟨m_2, (s_1.1 + 1, s_1.2.1 ++ [(⟨x_2.fKind, (x_2.fBool), x_2.fNum, x_2.fText, x_2.fList, x_2.fKeys⟩ : TA0)], s_1.2.2), A_11, cap_11, cs_3, A_6, cap_6, cs_2⟩, Nat.lt_succ_self _, M_3, (hM_2.trans hM_3), ⟨hn_1, hr_7, (RepSeq.mono hM_3 _ _ hr_4)⟩, f.kp, (p_127.dropN 1)⟩
   ·have k_3 := iff_f dI h_8
    refine wp_skip (T_n (RR (Y f 1 fun _ f => eT (R_seq (wp_block ?_)))))
    obtain ⟨b_7, hL_2, hF_9⟩ := bS hF_8
    refine wp_mono (Q := fun e a w => (e = .exit 2 ∧ (∃ y_1 : Int, b_7 = y_1 ∧ ∃ M_5 : Mem, M_3.le M_5 ∧ Frm 97 [(1, .pointer (some (⟨b_1, 0, none⟩))), (2, .pointer (some (⟨b_2, 0, none⟩))), (3, .pointer (some (⟨b_3, 0, none⟩))), (4, .int .i64 s_1.1), (5, .pointer (some (⟨b_5, 0, none⟩))), (6, .int .i64 y_1)] a ∧ Hp w0 M_5 ((Ent.obj b_5 (.cells #[.int .i8 x_2.fKind, .bool x_2.fBool, .int .i64 x_2.fNum, S x_2.fText, .slice A_9 x_2.fList.length cap_9, .slice A_10 x_2.fKeys.length cap_10] 26 (0, 0))) :: (Ent.row 26 6 (.slice A_5 s_1.2.1.length cap_5) s_1.2.1.length cs_1) :: (Ent.row 9 1 (.slice A_6 s_1.2.2.length cap_6) s_1.2.2.length cs_2) :: (Ent.obj b_3 (.cells #[.int .i8 d0.fKind, .bool d0.fBool, .int .i64 d0.fNum, S d0.fText, .slice A_5 s_1.2.1.length cap_5, .slice A_6 s_1.2.2.length cap_6] 26 (0, 0))) :: (Ent.obj b_2 (.cells #[.int .i8 0, .bool false, .int .i64 0, S [], .slice none 0 0, .slice none 0 0] 26 (0, 0))) :: H) w))) (R_loop (n := 97) (w0 := w0) (M := M_3) (fun (x : Nat × Int) => match x with | (m_3, s_2) => [(1, .pointer (some (⟨b_1, 0, none⟩))), (2, .pointer (some (⟨b_2, 0, none⟩))), (3, .pointer (some (⟨b_3, 0, none⟩))), (4, .int .i64 s_1.1), (5, .pointer (some (⟨b_5, 0, none⟩))), (6, .int .i64 s_2)]) (fun (x : Nat × Int) => match x with | (m_3, s_2) => ((Ent.obj b_5 (.cells #[.int .i8 x_2.fKind, .bool x_2.fBool, .int .i64 x_2.fNum, S x_2.fText, .slice A_9 x_2.fList.length cap_9, .slice A_10 x_2.fKeys.length cap_10] 26 (0, 0))) :: (Ent.row 26 6 (.slice A_5 s_1.2.1.length cap_5) s_1.2.1.length cs_1) :: (Ent.row 9 1 (.slice A_6 s_1.2.2.length cap_6) s_1.2.2.length cs_2) :: (Ent.obj b_3 (.cells #[.int .i8 d0.fKind, .bool d0.fBool, .int .i64 d0.fNum, S d0.fText, .slice A_5 s_1.2.1.length cap_5, .slice A_6 s_1.2.2.length cap_6] 26 (0, 0))) :: (Ent.obj b_2 (.cells #[.int .i8 0, .bool false, .int .i64 0, S [], .slice none 0 0, .slice none 0 0] 26 (0, 0))) :: H)) (fun (x : Nat × Int) (MM : Mem) => match x with | (m_3, s_2) => loopF (ref03_sorted_s2 n d0 s_1) m_3 s_2 = some b_7) (fun (x : Nat × Int) => match x with | (m_3, s_2) => m_3) (n, (0 : Int)) (f.kp) p_14 hL_2 ?_) ?_
    ·rintro ⟨m_3, s_2⟩ M_4 _ w_12 hM_4 I_2 f p_21
     have I_2L := I_2
     obtain ⟨m_4, r_2, rfl, hs_2, hn_2⟩ := loop_step I_2L
     unfold ref03_sorted_s2 at hs_2
     refine R_seq (R_seq (R_draw p_21 (by kernel_rfl) (by kernel_rfl) (Y5 default f 2 fun _ f => Y2 (v := .slice A_6 s_1.2.2.length cap_6) f (fun _ pq => Y30 (v := .slice A_6 s_1.2.2.length cap_6) rfl (ad := ⟨b_3, 5, none⟩) (pq.ownCell 3 rfl 5)) fun _ f => Y5 default f 3 fun _ f => ?_)))
     rcases cE hs_2 with ⟨h_9, hF_10⟩ | ⟨h_9, hF_16⟩
     ·have k_4 := dI.1 h_9
      have f := f.st 45 (cB h_9)
      refine Y5 default f 1 fun _ f => Y2 (v := .slice A_6 s_1.2.2.length cap_6) f (fun _ pq => Y30 (v := .slice A_6 s_1.2.2.length cap_6) rfl (ad := ⟨b_3, 5, none⟩) (pq.ownCell 3 rfl 5)) fun _ f => Y5 default f 1 fun _ f => ?_
      obtain ⟨x_3, hx_3, hF_11⟩ := bS hF_10
      obtain ⟨b_8, cap_12, hv_3, hcap_1⟩ := p_21.rowAddr 2 rfl (getI_pos hx_3)
      have f := f.st 47 (hv_3)
      refine Y2 (v := .pointer (some ((⟨b_8, 0, none⟩ : Addr).add (s_2.toNat * 1)))) f (fun _ pq => Y28 rfl (ad := ⟨b_8, 0, none⟩) (len := s_1.2.2.length) (cap := cap_12) (k := .i64) (i := s_2) (e := 9) (sz := 1) (getI_nn hx_3) (getI_lt hx_3)) fun _ f => ?_
      have f := f.st 47 (hv_3.symm)
      obtain ⟨c_3, -, hr_8, hc_4⟩ := RepSeq.get s_2.toNat (szd_all szd_str) (RepSeq.mono (hM_3.trans hM_4) _ _ hr_4) (getI_map hx_3)
      obtain rfl : c_3 = [S x_3] := hr_8
      refine Y2 (v := S x_3) f (fun _ pq => Y30 (v := S x_3) rfl (ad := (⟨b_8, 0, none⟩ : Addr).add (s_2.toNat * 1)) (by simpa [Addr.add] using (fun j v h => row_at (pq.rowCell 2 rfl hv_3) hc_4 j v h) 0 _ rfl)) fun _ f => Y5 default f 1 fun _ f => Y4 f (fzu ((hM_2.trans hM_3).trans hM_4) hc_2) 5 rfl fun _ f => Y5 default f 1 fun _ f => ?_
      obtain ⟨x_4, hx_4, hF_12⟩ := bS hF_11
      obtain ⟨ad_2, c_4, e_2, -, hr_9, hc_5⟩ := Sli.at_ (h_2.mono (((hM_1.trans hM_2).trans hM_3).trans hM_4)) hx_4
      obtain rfl : c_4 = [S x_4] := hr_9
      refine Y2 (v := .pointer (some (ad_2.add (s_1.1.toNat * 1)))) f (fun _ pq => Y29 e_2 rfl (len := d0.fKeys.length) (cap := cap_2) (k := .i64) (i := s_1.1) (e := 9) (sz := 1) (getI_nn hx_4) (getI_lt hx_4)) fun _ f => Y4 f hc_5 0 rfl fun _ f => Y2 (v := .bool (Op.bytesLess x_3 x_4)) f (fun _ pq => X_strlt rfl (l := x_3) (m := x_4) (by kernel_rfl) (by kernel_rfl)) fun _ f => Y5 default f 1 fun _ f => Q_end rfl ?_
      intro w_13 p_22
      refine T_n (RcF f hF_12 (fun h_10 hF_13 => ?_) fun h_10 hF_15 => ?_)
      ·refine wp_skip (T_n (wp_block (R_reg (Y f 1 fun _ f => ?_))))
       obtain ⟨g_3, hF_14⟩ := nS hF_13
       refine Y f 1 fun _ f => ?_
       have f := f.st 59 (congrArg (Value.int .i64) (inR_wrap g_3))
       refine Y f 1 fun _ f => W_end rfl (B_n (T_n ?_))
       obtain rfl := sI hF_14
       exact ⟨⟨m_4, s_2 + 1⟩, Nat.lt_succ_self _, M_4, hM_4, hn_2, f.kp, p_22⟩
      ·refine wp_exit (T_x (T_x ?_))
       obtain rfl := sI hF_15
       exact ⟨rfl, s_2, (sI hn_2).symm, M_4, hM_4, f.kp, p_22⟩
     ·have k_7 := iff_f dI h_9
      have f := f.st 45 (cB h_9)
      refine Y5 default f 12 fun _ f => Q_end rfl ?_
      intro w_14 p_23
      refine T_n (Y7 f (wp_exit (T_x (T_x ?_))))
      obtain rfl := sI hF_16
      exact ⟨rfl, s_2, (sI hn_2).symm, M_4, hM_4, f.kp, p_23⟩
    ·rintro _ _ w_16 ⟨rfl, y_1, hq_, M_5, hM_5, f, p_24⟩
     subst b_7
     refine B_x (T_n (RR (Y f 1 fun _ f => eT (RR (Y f 1 fun _ f => eT (RR (Y f 2 fun _ f => Z f (Y30 (v := .slice A_6 s_1.2.2.length cap_6) rfl (ad := ⟨b_3, 5, none⟩) (p_24.ownCell 3 rfl 5)) fun _ f => Y f 1 fun _ f => ?_)))))))
     obtain ⟨g_4, hF_17⟩ := nS hF_9
     obtain ⟨A_12, cap_13, hv_4, hcap_2, hcn_1⟩ := p_24.rowShape 2 rfl
     have f := f.st 62 (hv_4)
     refine Z f (Y34 rfl (A := A_12) (len := s_1.2.2.length) (cap := cap_13) (k := .i64) (a := y_1) (e := 9) (sz := 1) (by omega) (by omega)) fun _ f => ?_
     have f := f.st 62 (hv_4.symm)
     obtain ⟨A_13, cap_14, hv_5⟩ : ∃ A cap, Value.slice none 0 0 = .slice A ([] : List (List UInt8)).length cap := ⟨none, 0, rfl⟩
     have p_25 : Hp w0 M_5 ((Ent.row 9 1 (.slice A_13 ([] : List (List UInt8)).length cap_14) ([] : List (List UInt8)).length []) :: (Ent.obj b_5 (.cells #[.int .i8 x_2.fKind, .bool x_2.fBool, .int .i64 x_2.fNum, S x_2.fText, .slice A_9 x_2.fList.length cap_9, .slice A_10 x_2.fKeys.length cap_10] 26 (0, 0))) :: (Ent.row 26 6 (.slice A_5 s_1.2.1.length cap_5) s_1.2.1.length cs_1) :: (Ent.row 9 1 (.slice A_6 s_1.2.2.length cap_6) s_1.2.2.length cs_2) :: (Ent.obj b_3 (.cells #[.int .i8 d0.fKind, .bool d0.fBool, .int .i64 d0.fNum, S d0.fText, .slice A_5 s_1.2.1.length cap_5, .slice A_6 s_1.2.2.length cap_6] 26 (0, 0))) :: (Ent.obj b_2 (.cells #[.int .i8 0, .bool false, .int .i64 0, S [], .slice none 0 0, .slice none 0 0] 26 (0, 0))) :: H) w_16 := by rw [← hv_5]; exact p_24.nilRow 9 1
     have f := f.st 60 (hv_5)
     have hr_10 : RepSeq M_5 (([] : List (List UInt8)).map Dat.str) [] := rfl
     obtain ⟨g_5, hF_18⟩ := nS hF_17
     refine Y20 (z := S []) (f := Dat.str) (xs := ([] : List (List UInt8))) (ys := s_1.2.2) (lo := y_1.toNat) (hi := s_1.2.2.length) f p_25 szd_str hr_10 (RepSeq.mono (hM_3.trans hM_5) _ _ hr_4) 3 rfl hv_4 (by omega) (by omega) rfl rfl rfl g_5 (by omega) fun A_14 cap_15 cs_4 w_17 p_26 hr_11 _ f => Y f 1 fun _ f => eT (RR (Y f 2 fun _ f => Z f (Y30 (v := .slice A_5 s_1.2.1.length cap_5) rfl (ad := ⟨b_3, 4, none⟩) (p_26.ownCell 4 rfl 4)) fun _ f => Y f 1 fun _ f => ?_))
     obtain ⟨g_6, hF_19⟩ := nS hF_18
     obtain ⟨A_15, cap_16, hv_6, hcap_3, hcn_2⟩ := p_26.rowShape 2 rfl
     have f := f.st 68 (hv_6)
     refine Z f (Y34 rfl (A := A_15) (len := s_1.2.1.length) (cap := cap_16) (k := .i64) (a := y_1) (e := 26) (sz := 6) (by omega) (by omega)) fun _ f => ?_
     have f := f.st 68 (hv_6.symm)
     obtain ⟨A_16, cap_17, hv_7⟩ : ∃ A cap, Value.slice none 0 0 = .slice A ([] : List TA0).length cap := ⟨none, 0, rfl⟩
     have p_27 : Hp w0 M_5 ((Ent.row 26 6 (.slice A_16 ([] : List TA0).length cap_17) ([] : List TA0).length []) :: (Ent.row 9 1 (.slice A_14 (([] : List (List UInt8)) ++ (s_1.2.2.take s_1.2.2.length).drop y_1.toNat).length cap_15) (([] : List (List UInt8)) ++ (s_1.2.2.take s_1.2.2.length).drop y_1.toNat).length cs_4) :: (Ent.obj b_5 (.cells #[.int .i8 x_2.fKind, .bool x_2.fBool, .int .i64 x_2.fNum, S x_2.fText, .slice A_9 x_2.fList.length cap_9, .slice A_10 x_2.fKeys.length cap_10] 26 (0, 0))) :: (Ent.row 26 6 (.slice A_5 s_1.2.1.length cap_5) s_1.2.1.length cs_1) :: (Ent.row 9 1 (.slice A_6 s_1.2.2.length cap_6) s_1.2.2.length cs_2) :: (Ent.obj b_3 (.cells #[.int .i8 d0.fKind, .bool d0.fBool, .int .i64 d0.fNum, S d0.fText, .slice A_5 s_1.2.1.length cap_5, .slice A_6 s_1.2.2.length cap_6] 26 (0, 0))) :: (Ent.obj b_2 (.cells #[.int .i8 0, .bool false, .int .i64 0, S [], .slice none 0 0, .slice none 0 0] 26 (0, 0))) :: H) w_17 := by rw [← hv_7]; exact p_26.nilRow 26 6
     have f := f.st 66 (hv_7)
     have hr_12 : RepSeq M_5 (([] : List TA0).map emb_TA0) [] := rfl
     obtain ⟨g_7, hF_20⟩ := nS hF_19
     refine Y20 (z := .agg #[.int .i8 0, .bool false, .int .i64 0, S [], .slice none 0 0, .slice none 0 0]) (f := emb_TA0) (xs := ([] : List TA0)) (ys := s_1.2.1) (lo := y_1.toNat) (hi := s_1.2.1.length) f p_27 szd_TA0 hr_12 (RepSeq.mono (hM_3.trans hM_5) _ _ hr_3) 3 rfl hv_6 (by omega) (by omega) rfl rfl rfl g_7 (by omega) fun A_17 cap_18 cs_5 w_18 p_28 hr_13 _ f => Y f 1 fun _ f => eT (R_seq ?_)
     obtain ⟨j_1, hj_1, hF_21⟩ := bS hF_20
     refine R_mid (fun a_110 w_40 => ∃ y_2 : List (List UInt8), j_1 = y_2 ∧ ∃ M_9 : Mem, M_5.le M_9 ∧ ∃ (A_30 : Option Addr), ∃ (cap_31 : Nat), ∃ (cs_12 : List Value), RepSeq M_9 (y_2.map Dat.str) cs_12 ∧ Frm 97 [(1, .pointer (some (⟨b_1, 0, none⟩))), (2, .pointer (some (⟨b_2, 0, none⟩))), (3, .pointer (some (⟨b_3, 0, none⟩))), (4, .int .i64 s_1.1), (5, .pointer (some (⟨b_5, 0, none⟩))), (6, .int .i64 y_1), (8, .slice A_17 (([] : List TA0) ++ (s_1.2.1.take s_1.2.1.length).drop y_1.toNat).length cap_18)] a_110 ∧ Hp w0 M_9 ((Ent.row 9 1 (.slice A_30 y_2.length cap_31) y_2.length cs_12) :: (Ent.row 26 6 (.slice A_17 (([] : List TA0) ++ (s_1.2.1.take s_1.2.1.length).drop y_1.toNat).length cap_18) (([] : List TA0) ++ (s_1.2.1.take s_1.2.1.length).drop y_1.toNat).length cs_5) :: (Ent.obj b_5 (.cells #[.int .i8 x_2.fKind, .bool x_2.fBool, .int .i64 x_2.fNum, S x_2.fText, .slice A_9 x_2.fList.length cap_9, .slice A_10 x_2.fKeys.length cap_10] 26 (0, 0))) :: (Ent.row 26 6 (.slice A_5 s_1.2.1.length cap_5) s_1.2.1.length cs_1) :: (Ent.obj b_3 (.cells #[.int .i8 d0.fKind, .bool d0.fBool, .int .i64 d0.fNum, S d0.fText, .slice A_5 s_1.2.1.length cap_5, .slice A_30 y_2.length cap_31] 26 (0, 0))) :: (Ent.obj b_2 (.cells #[.int .i8 0, .bool false, .int .i64 0, S [], .slice none 0 0, .slice none 0 0] 26 (0, 0))) :: H) w_40) ?_ ?_
     ·have p_44 := p_28.pl [6, 6, 5, 5, 4, 6, 6]
      obtain ⟨x_5, hx_5, hF_22⟩ := bS hj_1
      obtain ⟨g_8, hF_23⟩ := nS hF_22
      obtain ⟨g_9, hF_24⟩ := nS hF_23
      obtain ⟨g_10, hF_25⟩ := nS hF_24
      refine R_plan (ks := [13, 14]) (E := [Ent.row 9 1 (.slice A_14 (([] : List (List UInt8)) ++ (s_1.2.2.take s_1.2.2.length).drop y_1.toNat).length cap_15) (([] : List (List UInt8)) ++ (s_1.2.2.take s_1.2.2.length).drop y_1.toNat).length cs_4, Ent.row 9 1 (.slice A_6 s_1.2.2.length cap_6) s_1.2.2.length cs_2]) (Hr := ((Ent.row 26 6 (.slice A_17 (([] : List TA0) ++ (s_1.2.1.take s_1.2.1.length).drop y_1.toNat).length cap_18) (([] : List TA0) ++ (s_1.2.1.take s_1.2.1.length).drop y_1.toNat).length cs_5) :: (Ent.obj b_5 (.cells #[.int .i8 x_2.fKind, .bool x_2.fBool, .int .i64 x_2.fNum, S x_2.fText, .slice A_9 x_2.fList.length cap_9, .slice A_10 x_2.fKeys.length cap_10] 26 (0, 0))) :: (Ent.row 26 6 (.slice A_5 s_1.2.1.length cap_5) s_1.2.1.length cs_1) :: (Ent.obj b_3 (.cells #[.int .i8 d0.fKind, .bool d0.fBool, .int .i64 d0.fNum, S d0.fText, .slice A_5 s_1.2.1.length cap_5, .slice A_6 s_1.2.2.length cap_6] 26 (0, 0))) :: (Ent.obj b_2 (.cells #[.int .i8 0, .bool false, .int .i64 0, S [], .slice none 0 0, .slice none 0 0] 26 (0, 0))) :: H)) (.quiet 0 (.quiet 1 (.quiet 2 (.quiet 4 (.quiet 5 (.quiet 6 (.quiet 7 (.quiet 8 (.quiet 11 (.alt 3 (.alt 9 (.alt 10 (.alt 12 .done .none) .none) .none) (.alt 9 (.alt 3 (.alt 10 (.alt 12 .done .none) .none) .none) .none))))))))))) p_44 (by kernel_rfl) (by kernel_rfl) (by kernel_rfl) (Y1 (v := .pointer (some (⟨b_3, 5, none⟩))) rfl f rfl rfl (fun _ _ => by kernel_rfl) fun _ f => Y1 (v := .slice A_6 s_1.2.2.length cap_6) rfl f rfl rfl (fun _ pq => Y30 (v := .slice A_6 s_1.2.2.length cap_6) rfl (ad := ⟨b_3, 5, none⟩) (pq.ownCell 3 rfl 5)) fun _ f => Y1 (v := .int .i64 y_1) rfl f rfl rfl (fun _ _ => by kernel_rfl) fun _ f => Y1 (v := .pointer (some ((⟨b_1, 0, none⟩ : Addr).add 5))) rfl f rfl rfl (fun _ _ => by kernel_rfl) fun _ f => Y1 (v := .slice A_2 d0.fKeys.length cap_2) rfl f rfl rfl (fun _ pq => Y30 (v := .slice A_2 d0.fKeys.length cap_2) rfl (ad := (⟨b_1, 0, none⟩ : Addr).add 5) (pq.cell ((fzu ((hM_2.trans hM_3).trans hM_5) hc_2) 5 _ rfl))) fun _ f => Y1 (v := .int .i64 s_1.1) rfl f rfl rfl (fun _ _ => by kernel_rfl) fun _ f => ?_)
      obtain ⟨ad_4, c_6, e_4, -, hr_18, hc_7⟩ := Sli.at_ (h_2.mono (((hM_1.trans hM_2).trans hM_3).trans hM_5)) hx_5
      obtain rfl : c_6 = [S x_5] := hr_18
      refine Y1 (v := .pointer (some (ad_4.add (s_1.1.toNat * 1)))) rfl f rfl rfl (fun _ pq => Y29 e_4 rfl (len := d0.fKeys.length) (cap := cap_2) (k := .i64) (i := s_1.1) (e := 9) (sz := 1) (getI_nn hx_5) (getI_lt hx_5)) fun _ f => Y1 (v := S x_5) rfl f rfl rfl (fun _ pq => Y30 (v := S x_5) rfl (ad := ad_4.add (s_1.1.toNat * 1)) (pq.cell (hc_7 0 _ rfl))) fun _ f => Y1 (v := .slice A_14 (([] : List (List UInt8)) ++ (s_1.2.2.take s_1.2.2.length).drop y_1.toNat).length cap_15) rfl f rfl rfl (fun _ _ => by kernel_rfl) fun _ f => N_alt rfl (fun w_22 p_45 => ?_) ?_
      ·obtain ⟨A_22, cap_23, hv_10, hcap_5, hcn_4⟩ := p_45.rowShape 1 rfl
       have f := f.st 73 (hv_10)
       refine Z f (Y35 rfl (A := A_22) (len := s_1.2.2.length) (cap := cap_23) (k' := .i64) (b := y_1) (e := 9) (sz := 1) (by omega) (by omega)) fun _ f => ?_
       have f := f.st 73 (hv_10.symm)
       refine W_end rfl (N_goN 2 (mR _) p_45 rfl (N_alt rfl (fun w_23 p_46 => ?_) ?_))
       ·refine V_allocS (k := 1) (c := 1) f p_46 (.cells #[S x_5] 9 (0, 0)) (by kernel_rfl) (fun _ => by kernel_rfl) fun b_10 w_24 p_47 _ f => W_end rfl (N_goN 3 (mR _) p_47 rfl (N_alt rfl (fun w_25 p_48 => ?_) ?_))
        ·have p_49 := p_48.pl [2]
         have hr_19 : RepSeq M_5 ((s_1.2.2.take y_1.toNat).map Dat.str) (cs_2.take (y_1.toNat * 1)) := by rw [List.map_take]; exact RepSeq.takeD _ (szd_all szd_str) (RepSeq.mono (hM_3.trans hM_5) _ _ hr_4)
         have hl_7 : (s_1.2.2.take y_1.toNat).length = y_1.toNat := by rw [List.length_take]; omega
         have p_50 : Hp w0 M_5 ((Ent.row 9 1 (.slice (cutA A_22 1 0 cap_23) (s_1.2.2.take y_1.toNat).length cap_23) (s_1.2.2.take y_1.toNat).length (cs_2.take (y_1.toNat * 1))) :: (Ent.obj b_10 (.cells #[S x_5] 9 (0, 0))) :: (Ent.row 9 1 (.slice A_14 (([] : List (List UInt8)) ++ (s_1.2.2.take s_1.2.2.length).drop y_1.toNat).length cap_15) (([] : List (List UInt8)) ++ (s_1.2.2.take s_1.2.2.length).drop y_1.toNat).length cs_4) :: (Ent.row 26 6 (.slice A_17 (([] : List TA0) ++ (s_1.2.1.take s_1.2.1.length).drop y_1.toNat).length cap_18) (([] : List TA0) ++ (s_1.2.1.take s_1.2.1.length).drop y_1.toNat).length cs_5) :: (Ent.obj b_5 (.cells #[.int .i8 x_2.fKind, .bool x_2.fBool, .int .i64 x_2.fNum, S x_2.fText, .slice A_9 x_2.fList.length cap_9, .slice A_10 x_2.fKeys.length cap_10] 26 (0, 0))) :: (Ent.row 26 6 (.slice A_5 s_1.2.1.length cap_5) s_1.2.1.length cs_1) :: (Ent.obj b_3 (.cells #[.int .i8 d0.fKind, .bool d0.fBool, .int .i64 d0.fNum, S d0.fText, .slice A_5 s_1.2.1.length cap_5, .slice A_6 s_1.2.2.length cap_6] 26 (0, 0))) :: (Ent.obj b_2 (.cells #[.int .i8 0, .bool false, .int .i64 0, S [], .slice none 0 0, .slice none 0 0] 26 (0, 0))) :: H) w_25 := by rw [hl_7]; exact p_49.rowFront hv_10 (by omega)
         have f := Frm.set f 75 (v := .slice (cutA A_22 1 0 cap_23) y_1.toNat cap_23) (v' := .slice (cutA A_22 1 0 cap_23) (s_1.2.2.take y_1.toNat).length cap_23) (by kernel_rfl) (by rw [hl_7])
         refine Y19 (z := S []) (f := Dat.str) (xs := s_1.2.2.take y_1.toNat) (ys := [x_5]) (news := [S x_5]) (ad := ⟨b_10, 0, none⟩) (m := 1) (c := 1) f p_50 hr_19 (by exact ⟨_, _, rfl, rfl, rfl⟩) rfl rfl rfl rfl (own_cells (p_50.ownCell 1 rfl) 0 rfl) (by exact g_9) (by have hg_ := g_9; first | omega | (simp only [List.length_cons, List.length_nil] at *; omega)) fun A_23 cap_24 cs_8 w_26 p_51 hr_20 _ f => ?_
         have p_52 := p_51.pl [1]
         have p_53 := p_52.drop
         refine W_end rfl (N_goN 2 (mR _) p_53 rfl (N_alt rfl (fun w_27 p_54 => ?_) ?_))
         ·have p_55 := p_54.pl [1]
          obtain ⟨A_24, cap_25, M_7, hv_11, hM_7, p_56, h_12⟩ := p_55.rowSli (f := Dat.str) (xs := ([] : List (List UInt8)) ++ (s_1.2.2.take s_1.2.2.length).drop y_1.toNat) szd_str hr_11
          have f := f.st 83 (hv_11)
          refine Y21 (z := S []) (f := Dat.str) (xs := (s_1.2.2.take y_1.toNat) ++ [x_5]) (ys := ([] : List (List UInt8)) ++ (s_1.2.2.take s_1.2.2.length).drop y_1.toNat) (c := cap_25) f p_56 (RepSeq.mono hM_7 _ _ hr_20) h_12 rfl rfl rfl g_10 (by omega) fun A_25 cap_26 cs_9 w_28 p_57 hr_21 _ f => W_end rfl (N_goN 1 hM_7 p_57 rfl (N_tail fun w_29 p_58 => Y f 1 fun _ f => Y26 f p_58 4 rfl rfl (b := b_3) (j := 5) (v := .slice A_25 (((s_1.2.2.take y_1.toNat) ++ [x_5]) ++ (([] : List (List UInt8)) ++ (s_1.2.2.take s_1.2.2.length).drop y_1.toNat)).length cap_26) rfl (by exact rfl) (by simp) (by simp) ((Ent.row 9 1 (.slice A_25 (((s_1.2.2.take y_1.toNat) ++ [x_5]) ++ (([] : List (List UInt8)) ++ (s_1.2.2.take s_1.2.2.length).drop y_1.toNat)).length cap_26) (((s_1.2.2.take y_1.toNat) ++ [x_5]) ++ (([] : List (List UInt8)) ++ (s_1.2.2.take s_1.2.2.length).drop y_1.toNat)).length cs_9) :: (Ent.row 26 6 (.slice A_17 (([] : List TA0) ++ (s_1.2.1.take s_1.2.1.length).drop y_1.toNat).length cap_18) (([] : List TA0) ++ (s_1.2.1.take s_1.2.1.length).drop y_1.toNat).length cs_5) :: (Ent.obj b_5 (.cells #[.int .i8 x_2.fKind, .bool x_2.fBool, .int .i64 x_2.fNum, S x_2.fText, .slice A_9 x_2.fList.length cap_9, .slice A_10 x_2.fKeys.length cap_10] 26 (0, 0))) :: (Ent.row 26 6 (.slice A_5 s_1.2.1.length cap_5) s_1.2.1.length cs_1) :: (Ent.obj b_3 (.cells #[.int .i8 d0.fKind, .bool d0.fBool, .int .i64 d0.fNum, S d0.fText, .slice A_5 s_1.2.1.length cap_5, .slice A_25 (((s_1.2.2.take y_1.toNat) ++ [x_5]) ++ (([] : List (List UInt8)) ++ (s_1.2.2.take s_1.2.2.length).drop y_1.toNat)).length cap_26] 26 (0, 0))) :: (Ent.obj b_2 (.cells #[.int .i8 0, .bool false, .int .i64 0, S [], .slice none 0 0, .slice none 0 0] 26 (0, 0))) :: H) rfl fun w_30 p_59 _ f => W_end rfl (N_te (T_n ?_))))
          exact ⟨((s_1.2.2.take y_1.toNat) ++ [x_5]) ++ (([] : List (List UInt8)) ++ (s_1.2.2.take s_1.2.2.length).drop y_1.toNat), (sI hF_25).symm, M_7, hM_7, A_25, cap_26, cs_9, hr_21, f.kp, p_59⟩
         exact N_none
        exact N_none
       exact N_none
      refine N_alt rfl (fun w_31 p_60 => ?_) ?_
      ·refine V_allocS (k := 1) (c := 1) f p_60 (.cells #[S x_5] 9 (0, 0)) (by kernel_rfl) (fun _ => by kernel_rfl) fun b_11 w_32 p_61 _ f => W_end rfl (N_goN 3 (mR _) p_61 rfl (N_alt rfl (fun w_33 p_62 => ?_) ?_))
       ·obtain ⟨A_26, cap_27, hv_12, hcap_6, hcn_5⟩ := p_62.rowShape 2 rfl
        have f := f.st 73 (hv_12)
        refine Z f (Y35 rfl (A := A_26) (len := s_1.2.2.length) (cap := cap_27) (k' := .i64) (b := y_1) (e := 9) (sz := 1) (by omega) (by omega)) fun _ f => ?_
        have f := f.st 73 (hv_12.symm)
        refine W_end rfl (N_goN 3 (mR _) p_62 rfl (N_alt rfl (fun w_34 p_63 => ?_) ?_))
        ·have p_64 := p_63.pl [2]
         have hr_22 : RepSeq M_5 ((s_1.2.2.take y_1.toNat).map Dat.str) (cs_2.take (y_1.toNat * 1)) := by rw [List.map_take]; exact RepSeq.takeD _ (szd_all szd_str) (RepSeq.mono (hM_3.trans hM_5) _ _ hr_4)
         have hl_8 : (s_1.2.2.take y_1.toNat).length = y_1.toNat := by rw [List.length_take]; omega
         have p_65 : Hp w0 M_5 ((Ent.row 9 1 (.slice (cutA A_26 1 0 cap_27) (s_1.2.2.take y_1.toNat).length cap_27) (s_1.2.2.take y_1.toNat).length (cs_2.take (y_1.toNat * 1))) :: (Ent.obj b_11 (.cells #[S x_5] 9 (0, 0))) :: (Ent.row 9 1 (.slice A_14 (([] : List (List UInt8)) ++ (s_1.2.2.take s_1.2.2.length).drop y_1.toNat).length cap_15) (([] : List (List UInt8)) ++ (s_1.2.2.take s_1.2.2.length).drop y_1.toNat).length cs_4) :: (Ent.row 26 6 (.slice A_17 (([] : List TA0) ++ (s_1.2.1.take s_1.2.1.length).drop y_1.toNat).length cap_18) (([] : List TA0) ++ (s_1.2.1.take s_1.2.1.length).drop y_1.toNat).length cs_5) :: (Ent.obj b_5 (.cells #[.int .i8 x_2.fKind, .bool x_2.fBool, .int .i64 x_2.fNum, S x_2.fText, .slice A_9 x_2.fList.length cap_9, .slice A_10 x_2.fKeys.length cap_10] 26 (0, 0))) :: (Ent.row 26 6 (.slice A_5 s_1.2.1.length cap_5) s_1.2.1.length cs_1) :: (Ent.obj b_3 (.cells #[.int .i8 d0.fKind, .bool d0.fBool, .int .i64 d0.fNum, S d0.fText, .slice A_5 s_1.2.1.length cap_5, .slice A_6 s_1.2.2.length cap_6] 26 (0, 0))) :: (Ent.obj b_2 (.cells #[.int .i8 0, .bool false, .int .i64 0, S [], .slice none 0 0, .slice none 0 0] 26 (0, 0))) :: H) w_34 := by rw [hl_8]; exact p_64.rowFront hv_12 (by omega)
         have f := Frm.set f 75 (v := .slice (cutA A_26 1 0 cap_27) y_1.toNat cap_27) (v' := .slice (cutA A_26 1 0 cap_27) (s_1.2.2.take y_1.toNat).length cap_27) (by kernel_rfl) (by rw [hl_8])
         refine Y19 (z := S []) (f := Dat.str) (xs := s_1.2.2.take y_1.toNat) (ys := [x_5]) (news := [S x_5]) (ad := ⟨b_11, 0, none⟩) (m := 1) (c := 1) f p_65 hr_22 (by exact ⟨_, _, rfl, rfl, rfl⟩) rfl rfl rfl rfl (own_cells (p_65.ownCell 1 rfl) 0 rfl) (by exact g_9) (by have hg_ := g_9; first | omega | (simp only [List.length_cons, List.length_nil] at *; omega)) fun A_27 cap_28 cs_10 w_35 p_66 hr_23 _ f => ?_
         have p_67 := p_66.pl [1]
         have p_68 := p_67.drop
         refine W_end rfl (N_goN 2 (mR _) p_68 rfl (N_alt rfl (fun w_36 p_69 => ?_) ?_))
         ·have p_70 := p_69.pl [1]
          obtain ⟨A_28, cap_29, M_8, hv_13, hM_8, p_71, h_13⟩ := p_70.rowSli (f := Dat.str) (xs := ([] : List (List UInt8)) ++ (s_1.2.2.take s_1.2.2.length).drop y_1.toNat) szd_str hr_11
          have f := f.st 83 (hv_13)
          refine Y21 (z := S []) (f := Dat.str) (xs := (s_1.2.2.take y_1.toNat) ++ [x_5]) (ys := ([] : List (List UInt8)) ++ (s_1.2.2.take s_1.2.2.length).drop y_1.toNat) (c := cap_29) f p_71 (RepSeq.mono hM_8 _ _ hr_23) h_13 rfl rfl rfl g_10 (by omega) fun A_29 cap_30 cs_11 w_37 p_72 hr_24 _ f => W_end rfl (N_goN 1 hM_8 p_72 rfl (N_tail fun w_38 p_73 => Y f 1 fun _ f => Y26 f p_73 4 rfl rfl (b := b_3) (j := 5) (v := .slice A_29 (((s_1.2.2.take y_1.toNat) ++ [x_5]) ++ (([] : List (List UInt8)) ++ (s_1.2.2.take s_1.2.2.length).drop y_1.toNat)).length cap_30) rfl (by exact rfl) (by simp) (by simp) ((Ent.row 9 1 (.slice A_29 (((s_1.2.2.take y_1.toNat) ++ [x_5]) ++ (([] : List (List UInt8)) ++ (s_1.2.2.take s_1.2.2.length).drop y_1.toNat)).length cap_30) (((s_1.2.2.take y_1.toNat) ++ [x_5]) ++ (([] : List (List UInt8)) ++ (s_1.2.2.take s_1.2.2.length).drop y_1.toNat)).length cs_11) :: (Ent.row 26 6 (.slice A_17 (([] : List TA0) ++ (s_1.2.1.take s_1.2.1.length).drop y_1.toNat).length cap_18) (([] : List TA0) ++ (s_1.2.1.take s_1.2.1.length).drop y_1.toNat).length cs_5) :: (Ent.obj b_5 (.cells #[.int .i8 x_2.fKind, .bool x_2.fBool, .int .i64 x_2.fNum, S x_2.fText, .slice A_9 x_2.fList.length cap_9, .slice A_10 x_2.fKeys.length cap_10] 26 (0, 0))) :: (Ent.row 26 6 (.slice A_5 s_1.2.1.length cap_5) s_1.2.1.length cs_1) :: (Ent.obj b_3 (.cells #[.int .i8 d0.fKind, .bool d0.fBool, .int .i64 d0.fNum, S d0.fText, .slice A_5 s_1.2.1.length cap_5, .slice A_29 (((s_1.2.2.take y_1.toNat) ++ [x_5]) ++ (([] : List (List UInt8)) ++ (s_1.2.2.take s_1.2.2.length).drop y_1.toNat)).length cap_30] 26 (0, 0))) :: (Ent.obj b_2 (.cells #[.int .i8 0, .bool false, .int .i64 0, S [], .slice none 0 0, .slice none 0 0] 26 (0, 0))) :: H) rfl fun w_39 p_74 _ f => W_end rfl (N_te (T_n ?_))))
          exact ⟨((s_1.2.2.take y_1.toNat) ++ [x_5]) ++ (([] : List (List UInt8)) ++ (s_1.2.2.take s_1.2.2.length).drop y_1.toNat), (sI hF_25).symm, M_8, hM_8, A_29, cap_30, cs_11, hr_24, f.kp, p_74⟩
         exact N_none
        exact N_none
       exact N_none
      exact N_none
     ·rintro a_110 w_40 ⟨y_2, hq_1, M_9, hM_9, A_30, cap_31, cs_12, hr_25, f, p_75⟩
      subst j_1
      refine T_n ?_
      obtain ⟨j_2, hj_2, hF_26⟩ := bS hF_21
      refine R_mid (fun a_137 w_62 => ∃ y_3 : List TA0, j_2 = y_3 ∧ ∃ M_13 : Mem, M_9.le M_13 ∧ ∃ (A_43 : Option Addr), ∃ (cap_44 : Nat), ∃ (cs_19 : List Value), RepSeq M_13 (y_3.map emb_TA0) cs_19 ∧ Frm 97 [(1, .pointer (some (⟨b_1, 0, none⟩))), (2, .pointer (some (⟨b_2, 0, none⟩))), (3, .pointer (some (⟨b_3, 0, none⟩))), (4, .int .i64 s_1.1)] a_137 ∧ Hp w0 M_13 ((Ent.row 26 6 (.slice A_43 y_3.length cap_44) y_3.length cs_19) :: (Ent.row 9 1 (.slice A_30 y_2.length cap_31) y_2.length cs_12) :: (Ent.obj b_5 (.cells #[.int .i8 x_2.fKind, .bool x_2.fBool, .int .i64 x_2.fNum, S x_2.fText, .slice A_9 x_2.fList.length cap_9, .slice A_10 x_2.fKeys.length cap_10] 26 (0, 0))) :: (Ent.obj b_3 (.cells #[.int .i8 d0.fKind, .bool d0.fBool, .int .i64 d0.fNum, S d0.fText, .slice A_43 y_3.length cap_44, .slice A_30 y_2.length cap_31] 26 (0, 0))) :: (Ent.obj b_2 (.cells #[.int .i8 0, .bool false, .int .i64 0, S [], .slice none 0 0, .slice none 0 0] 26 (0, 0))) :: H) w_62) ?_ ?_
      ·have p_90 := p_75.pl [5, 5, 4, 3, 5, 5]
       obtain ⟨g_11, hF_27⟩ := nS hj_2
       obtain ⟨g_12, hF_28⟩ := nS hF_27
       obtain ⟨g_13, hF_29⟩ := nS hF_28
       refine R_plan (ks := [9, 10]) (E := [Ent.row 26 6 (.slice A_17 (([] : List TA0) ++ (s_1.2.1.take s_1.2.1.length).drop y_1.toNat).length cap_18) (([] : List TA0) ++ (s_1.2.1.take s_1.2.1.length).drop y_1.toNat).length cs_5, Ent.row 26 6 (.slice A_5 s_1.2.1.length cap_5) s_1.2.1.length cs_1]) (Hr := ((Ent.row 9 1 (.slice A_30 y_2.length cap_31) y_2.length cs_12) :: (Ent.obj b_5 (.cells #[.int .i8 x_2.fKind, .bool x_2.fBool, .int .i64 x_2.fNum, S x_2.fText, .slice A_9 x_2.fList.length cap_9, .slice A_10 x_2.fKeys.length cap_10] 26 (0, 0))) :: (Ent.obj b_3 (.cells #[.int .i8 d0.fKind, .bool d0.fBool, .int .i64 d0.fNum, S d0.fText, .slice A_5 s_1.2.1.length cap_5, .slice A_30 y_2.length cap_31] 26 (0, 0))) :: (Ent.obj b_2 (.cells #[.int .i8 0, .bool false, .int .i64 0, S [], .slice none 0 0, .slice none 0 0] 26 (0, 0))) :: H)) (.quiet 0 (.quiet 1 (.quiet 2 (.quiet 4 (.quiet 7 (.alt 3 (.alt 5 (.alt 6 (.alt 8 .done .none) .none) .none) (.alt 5 (.alt 3 (.alt 6 (.alt 8 .done .none) .none) .none) .none))))))) p_90 (by kernel_rfl) (by kernel_rfl) (by kernel_rfl) (Y1 (v := .pointer (some (⟨b_3, 4, none⟩))) rfl f rfl rfl (fun _ _ => by kernel_rfl) fun _ f => Y1 (v := .slice A_5 s_1.2.1.length cap_5) rfl f rfl rfl (fun _ pq => Y30 (v := .slice A_5 s_1.2.1.length cap_5) rfl (ad := ⟨b_3, 4, none⟩) (pq.ownCell 2 rfl 4)) fun _ f => Y1 (v := .int .i64 y_1) rfl f rfl rfl (fun _ _ => by kernel_rfl) fun _ f => Y1 (v := .agg #[.int .i8 x_2.fKind, .bool x_2.fBool, .int .i64 x_2.fNum, S x_2.fText, .slice A_9 x_2.fList.length cap_9, .slice A_10 x_2.fKeys.length cap_10]) rfl f rfl rfl (fun _ pq => Y31 (cs := [.int .i8 x_2.fKind, .bool x_2.fBool, .int .i64 x_2.fNum, S x_2.fText, .slice A_9 x_2.fList.length cap_9, .slice A_10 x_2.fKeys.length cap_10]) rfl (ad := ⟨b_5, 0, none⟩) (own_cells (pq.ownCell 1 rfl) 0 rfl)) fun _ f => Y1 (v := .slice A_17 (([] : List TA0) ++ (s_1.2.1.take s_1.2.1.length).drop y_1.toNat).length cap_18) rfl f rfl rfl (fun _ _ => by kernel_rfl) fun _ f => N_alt rfl (fun w_44 p_91 => ?_) ?_)
       ·obtain ⟨A_35, cap_36, hv_16, hcap_8, hcn_7⟩ := p_91.rowShape 1 rfl
        have f := f.st 87 (hv_16)
        refine Z f (Y35 rfl (A := A_35) (len := s_1.2.1.length) (cap := cap_36) (k' := .i64) (b := y_1) (e := 26) (sz := 6) (by omega) (by omega)) fun _ f => ?_
        have f := f.st 87 (hv_16.symm)
        refine W_end rfl (N_goN 2 (mR _) p_91 rfl (N_alt rfl (fun w_45 p_92 => ?_) ?_))
        ·refine V_allocS (k := 1) (c := 1) f p_92 (.cells #[.int .i8 x_2.fKind, .bool x_2.fBool, .int .i64 x_2.fNum, S x_2.fText, .slice A_9 x_2.fList.length cap_9, .slice A_10 x_2.fKeys.length cap_10] 26 (0, 0)) (by kernel_rfl) (fun _ => by kernel_rfl) fun b_13 w_46 p_93 _ f => W_end rfl (N_goN 3 (mR _) p_93 rfl (N_alt rfl (fun w_47 p_94 => ?_) ?_))
         ·have p_95 := p_94.pl [2]
          have hr_29 : RepSeq M_9 ((s_1.2.1.take y_1.toNat).map emb_TA0) (cs_1.take (y_1.toNat * 6)) := by rw [List.map_take]; exact RepSeq.takeD _ (szd_all szd_TA0) (RepSeq.mono ((hM_3.trans hM_5).trans hM_9) _ _ hr_3)
          have hl_10 : (s_1.2.1.take y_1.toNat).length = y_1.toNat := by rw [List.length_take]; omega
          have p_96 : Hp w0 M_9 ((Ent.row 26 6 (.slice (cutA A_35 6 0 cap_36) (s_1.2.1.take y_1.toNat).length cap_36) (s_1.2.1.take y_1.toNat).length (cs_1.take (y_1.toNat * 6))) :: (Ent.obj b_13 (.cells #[.int .i8 x_2.fKind, .bool x_2.fBool, .int .i64 x_2.fNum, S x_2.fText, .slice A_9 x_2.fList.length cap_9, .slice A_10 x_2.fKeys.length cap_10] 26 (0, 0))) :: (Ent.row 26 6 (.slice A_17 (([] : List TA0) ++ (s_1.2.1.take s_1.2.1.length).drop y_1.toNat).length cap_18) (([] : List TA0) ++ (s_1.2.1.take s_1.2.1.length).drop y_1.toNat).length cs_5) :: (Ent.row 9 1 (.slice A_30 y_2.length cap_31) y_2.length cs_12) :: (Ent.obj b_5 (.cells #[.int .i8 x_2.fKind, .bool x_2.fBool, .int .i64 x_2.fNum, S x_2.fText, .slice A_9 x_2.fList.length cap_9, .slice A_10 x_2.fKeys.length cap_10] 26 (0, 0))) :: (Ent.obj b_3 (.cells #[.int .i8 d0.fKind, .bool d0.fBool, .int .i64 d0.fNum, S d0.fText, .slice A_5 s_1.2.1.length cap_5, .slice A_30 y_2.length cap_31] 26 (0, 0))) :: (Ent.obj b_2 (.cells #[.int .i8 0, .bool false, .int .i64 0, S [], .slice none 0 0, .slice none 0 0] 26 (0, 0))) :: H) w_47 := by rw [hl_10]; exact p_95.rowFront hv_16 (by omega)
          have f := Frm.set f 89 (v := .slice (cutA A_35 6 0 cap_36) y_1.toNat cap_36) (v' := .slice (cutA A_35 6 0 cap_36) (s_1.2.1.take y_1.toNat).length cap_36) (by kernel_rfl) (by rw [hl_10])
          refine Y19 (z := .agg #[.int .i8 0, .bool false, .int .i64 0, S [], .slice none 0 0, .slice none 0 0]) (f := emb_TA0) (xs := s_1.2.1.take y_1.toNat) (ys := [(⟨x_2.fKind, (x_2.fBool), x_2.fNum, x_2.fText, x_2.fList, x_2.fKeys⟩ : TA0)]) (news := [.int .i8 x_2.fKind, .bool x_2.fBool, .int .i64 x_2.fNum, S x_2.fText, .slice A_9 x_2.fList.length cap_9, .slice A_10 x_2.fKeys.length cap_10]) (ad := ⟨b_13, 0, none⟩) (m := 1) (c := 1) f p_96 hr_29 (by exact ⟨_, _, rfl, TA0.shut (h_6.mono (hM_5.trans hM_9)) (h_7.mono (hM_5.trans hM_9)), rfl⟩) rfl rfl rfl rfl (own_cells (p_96.ownCell 1 rfl) 0 rfl) (by exact g_12) (by have hg_ := g_12; first | omega | (simp only [List.length_cons, List.length_nil] at *; omega)) fun A_36 cap_37 cs_15 w_48 p_97 hr_30 _ f => ?_
          have p_98 := p_97.pl [1]
          have p_99 := p_98.drop
          refine W_end rfl (N_goN 2 (mR _) p_99 rfl (N_alt rfl (fun w_49 p_100 => ?_) ?_))
          ·have p_101 := p_100.pl [1]
           obtain ⟨A_37, cap_38, M_11, hv_17, hM_11, p_102, h_15⟩ := p_101.rowSli (f := emb_TA0) (xs := ([] : List TA0) ++ (s_1.2.1.take s_1.2.1.length).drop y_1.toNat) szd_TA0 (RepSeq.mono hM_9 _ _ hr_13)
           have f := f.st 93 (hv_17)
           refine Y21 (z := .agg #[.int .i8 0, .bool false, .int .i64 0, S [], .slice none 0 0, .slice none 0 0]) (f := emb_TA0) (xs := (s_1.2.1.take y_1.toNat) ++ [(⟨x_2.fKind, (x_2.fBool), x_2.fNum, x_2.fText, x_2.fList, x_2.fKeys⟩ : TA0)]) (ys := ([] : List TA0) ++ (s_1.2.1.take s_1.2.1.length).drop y_1.toNat) (c := cap_38) f p_102 (RepSeq.mono hM_11 _ _ hr_30) h_15 rfl rfl rfl g_13 (by omega) fun A_38 cap_39 cs_16 w_50 p_103 hr_31 _ f => W_end rfl (N_goN 1 hM_11 p_103 rfl (N_tail fun w_51 p_104 => Y f 1 fun _ f => Y26 f p_104 3 rfl rfl (b := b_3) (j := 4) (v := .slice A_38 (((s_1.2.1.take y_1.toNat) ++ [(⟨x_2.fKind, (x_2.fBool), x_2.fNum, x_2.fText, x_2.fList, x_2.fKeys⟩ : TA0)]) ++ (([] : List TA0) ++ (s_1.2.1.take s_1.2.1.length).drop y_1.toNat)).length cap_39) rfl (by exact rfl) (by simp) (by simp) ((Ent.row 26 6 (.slice A_38 (((s_1.2.1.take y_1.toNat) ++ [(⟨x_2.fKind, (x_2.fBool), x_2.fNum, x_2.fText, x_2.fList, x_2.fKeys⟩ : TA0)]) ++ (([] : List TA0) ++ (s_1.2.1.take s_1.2.1.length).drop y_1.toNat)).length cap_39) (((s_1.2.1.take y_1.toNat) ++ [(⟨x_2.fKind, (x_2.fBool), x_2.fNum, x_2.fText, x_2.fList, x_2.fKeys⟩ : TA0)]) ++ (([] : List TA0) ++ (s_1.2.1.take s_1.2.1.length).drop y_1.toNat)).length cs_16) :: (Ent.row 9 1 (.slice A_30 y_2.length cap_31) y_2.length cs_12) :: (Ent.obj b_5 (.cells #[.int .i8 x_2.fKind, .bool x_2.fBool, .int .i64 x_2.fNum, S x_2.fText, .slice A_9 x_2.fList.length cap_9, .slice A_10 x_2.fKeys.length cap_10] 26 (0, 0))) :: (Ent.obj b_3 (.cells #[.int .i8 d0.fKind, .bool d0.fBool, .int .i64 d0.fNum, S d0.fText, .slice A_38 (((s_1.2.1.take y_1.toNat) ++ [(⟨x_2.fKind, (x_2.fBool), x_2.fNum, x_2.fText, x_2.fList, x_2.fKeys⟩ : TA0)]) ++ (([] : List TA0) ++ (s_1.2.1.take s_1.2.1.length).drop y_1.toNat)).length cap_39, .slice A_30 y_2.length cap_31] 26 (0, 0))) :: (Ent.obj b_2 (.cells #[.int .i8 0, .bool false, .int .i64 0, S [], .slice none 0 0, .slice none 0 0] 26 (0, 0))) :: H) rfl fun w_52 p_105 _ f => W_end rfl (N_te (T_n ?_))))
           exact ⟨((s_1.2.1.take y_1.toNat) ++ [(⟨x_2.fKind, (x_2.fBool), x_2.fNum, x_2.fText, x_2.fList, x_2.fKeys⟩ : TA0)]) ++ (([] : List TA0) ++ (s_1.2.1.take s_1.2.1.length).drop y_1.toNat), (sI hF_29).symm, M_11, hM_11, A_38, cap_39, cs_16, hr_31, f.kp, p_105⟩
          exact N_none
         exact N_none
        exact N_none
       refine N_alt rfl (fun w_53 p_106 => ?_) ?_
       ·refine V_allocS (k := 1) (c := 1) f p_106 (.cells #[.int .i8 x_2.fKind, .bool x_2.fBool, .int .i64 x_2.fNum, S x_2.fText, .slice A_9 x_2.fList.length cap_9, .slice A_10 x_2.fKeys.length cap_10] 26 (0, 0)) (by kernel_rfl) (fun _ => by kernel_rfl) fun b_14 w_54 p_107 _ f => W_end rfl (N_goN 3 (mR _) p_107 rfl (N_alt rfl (fun w_55 p_108 => ?_) ?_))
        ·obtain ⟨A_39, cap_40, hv_18, hcap_9, hcn_8⟩ := p_108.rowShape 2 rfl
         have f := f.st 87 (hv_18)
         refine Z f (Y35 rfl (A := A_39) (len := s_1.2.1.length) (cap := cap_40) (k' := .i64) (b := y_1) (e := 26) (sz := 6) (by omega) (by omega)) fun _ f => ?_
         have f := f.st 87 (hv_18.symm)
         refine W_end rfl (N_goN 3 (mR _) p_108 rfl (N_alt rfl (fun w_56 p_109 => ?_) ?_))
         ·have p_110 := p_109.pl [2]
          have hr_32 : RepSeq M_9 ((s_1.2.1.take y_1.toNat).map emb_TA0) (cs_1.take (y_1.toNat * 6)) := by rw [List.map_take]; exact RepSeq.takeD _ (szd_all szd_TA0) (RepSeq.mono ((hM_3.trans hM_5).trans hM_9) _ _ hr_3)
          have hl_11 : (s_1.2.1.take y_1.toNat).length = y_1.toNat := by rw [List.length_take]; omega
          have p_111 : Hp w0 M_9 ((Ent.row 26 6 (.slice (cutA A_39 6 0 cap_40) (s_1.2.1.take y_1.toNat).length cap_40) (s_1.2.1.take y_1.toNat).length (cs_1.take (y_1.toNat * 6))) :: (Ent.obj b_14 (.cells #[.int .i8 x_2.fKind, .bool x_2.fBool, .int .i64 x_2.fNum, S x_2.fText, .slice A_9 x_2.fList.length cap_9, .slice A_10 x_2.fKeys.length cap_10] 26 (0, 0))) :: (Ent.row 26 6 (.slice A_17 (([] : List TA0) ++ (s_1.2.1.take s_1.2.1.length).drop y_1.toNat).length cap_18) (([] : List TA0) ++ (s_1.2.1.take s_1.2.1.length).drop y_1.toNat).length cs_5) :: (Ent.row 9 1 (.slice A_30 y_2.length cap_31) y_2.length cs_12) :: (Ent.obj b_5 (.cells #[.int .i8 x_2.fKind, .bool x_2.fBool, .int .i64 x_2.fNum, S x_2.fText, .slice A_9 x_2.fList.length cap_9, .slice A_10 x_2.fKeys.length cap_10] 26 (0, 0))) :: (Ent.obj b_3 (.cells #[.int .i8 d0.fKind, .bool d0.fBool, .int .i64 d0.fNum, S d0.fText, .slice A_5 s_1.2.1.length cap_5, .slice A_30 y_2.length cap_31] 26 (0, 0))) :: (Ent.obj b_2 (.cells #[.int .i8 0, .bool false, .int .i64 0, S [], .slice none 0 0, .slice none 0 0] 26 (0, 0))) :: H) w_56 := by rw [hl_11]; exact p_110.rowFront hv_18 (by omega)
          have f := Frm.set f 89 (v := .slice (cutA A_39 6 0 cap_40) y_1.toNat cap_40) (v' := .slice (cutA A_39 6 0 cap_40) (s_1.2.1.take y_1.toNat).length cap_40) (by kernel_rfl) (by rw [hl_11])
          refine Y19 (z := .agg #[.int .i8 0, .bool false, .int .i64 0, S [], .slice none 0 0, .slice none 0 0]) (f := emb_TA0) (xs := s_1.2.1.take y_1.toNat) (ys := [(⟨x_2.fKind, (x_2.fBool), x_2.fNum, x_2.fText, x_2.fList, x_2.fKeys⟩ : TA0)]) (news := [.int .i8 x_2.fKind, .bool x_2.fBool, .int .i64 x_2.fNum, S x_2.fText, .slice A_9 x_2.fList.length cap_9, .slice A_10 x_2.fKeys.length cap_10]) (ad := ⟨b_14, 0, none⟩) (m := 1) (c := 1) f p_111 hr_32 (by exact ⟨_, _, rfl, TA0.shut (h_6.mono (hM_5.trans hM_9)) (h_7.mono (hM_5.trans hM_9)), rfl⟩) rfl rfl rfl rfl (own_cells (p_111.ownCell 1 rfl) 0 rfl) (by exact g_12) (by have hg_ := g_12; first | omega | (simp only [List.length_cons, List.length_nil] at *; omega)) fun A_40 cap_41 cs_17 w_57 p_112 hr_33 _ f => ?_
          have p_113 := p_112.pl [1]
          have p_114 := p_113.drop
          refine W_end rfl (N_goN 2 (mR _) p_114 rfl (N_alt rfl (fun w_58 p_115 => ?_) ?_))
          ·have p_116 := p_115.pl [1]
           obtain ⟨A_41, cap_42, M_12, hv_19, hM_12, p_117, h_16⟩ := p_116.rowSli (f := emb_TA0) (xs := ([] : List TA0) ++ (s_1.2.1.take s_1.2.1.length).drop y_1.toNat) szd_TA0 (RepSeq.mono hM_9 _ _ hr_13)
           have f := f.st 93 (hv_19)
           refine Y21 (z := .agg #[.int .i8 0, .bool false, .int .i64 0, S [], .slice none 0 0, .slice none 0 0]) (f := emb_TA0) (xs := (s_1.2.1.take y_1.toNat) ++ [(⟨x_2.fKind, (x_2.fBool), x_2.fNum, x_2.fText, x_2.fList, x_2.fKeys⟩ : TA0)]) (ys := ([] : List TA0) ++ (s_1.2.1.take s_1.2.1.length).drop y_1.toNat) (c := cap_42) f p_117 (RepSeq.mono hM_12 _ _ hr_33) h_16 rfl rfl rfl g_13 (by omega) fun A_42 cap_43 cs_18 w_59 p_118 hr_34 _ f => W_end rfl (N_goN 1 hM_12 p_118 rfl (N_tail fun w_60 p_119 => Y f 1 fun _ f => Y26 f p_119 3 rfl rfl (b := b_3) (j := 4) (v := .slice A_42 (((s_1.2.1.take y_1.toNat) ++ [(⟨x_2.fKind, (x_2.fBool), x_2.fNum, x_2.fText, x_2.fList, x_2.fKeys⟩ : TA0)]) ++ (([] : List TA0) ++ (s_1.2.1.take s_1.2.1.length).drop y_1.toNat)).length cap_43) rfl (by exact rfl) (by simp) (by simp) ((Ent.row 26 6 (.slice A_42 (((s_1.2.1.take y_1.toNat) ++ [(⟨x_2.fKind, (x_2.fBool), x_2.fNum, x_2.fText, x_2.fList, x_2.fKeys⟩ : TA0)]) ++ (([] : List TA0) ++ (s_1.2.1.take s_1.2.1.length).drop y_1.toNat)).length cap_43) (((s_1.2.1.take y_1.toNat) ++ [(⟨x_2.fKind, (x_2.fBool), x_2.fNum, x_2.fText, x_2.fList, x_2.fKeys⟩ : TA0)]) ++ (([] : List TA0) ++ (s_1.2.1.take s_1.2.1.length).drop y_1.toNat)).length cs_18) :: (Ent.row 9 1 (.slice A_30 y_2.length cap_31) y_2.length cs_12) :: (Ent.obj b_5 (.cells #[.int .i8 x_2.fKind, .bool x_2.fBool, .int .i64 x_2.fNum, S x_2.fText, .slice A_9 x_2.fList.length cap_9, .slice A_10 x_2.fKeys.length cap_10] 26 (0, 0))) :: (Ent.obj b_3 (.cells #[.int .i8 d0.fKind, .bool d0.fBool, .int .i64 d0.fNum, S d0.fText, .slice A_42 (((s_1.2.1.take y_1.toNat) ++ [(⟨x_2.fKind, (x_2.fBool), x_2.fNum, x_2.fText, x_2.fList, x_2.fKeys⟩ : TA0)]) ++ (([] : List TA0) ++ (s_1.2.1.take s_1.2.1.length).drop y_1.toNat)).length cap_43, .slice A_30 y_2.length cap_31] 26 (0, 0))) :: (Ent.obj b_2 (.cells #[.int .i8 0, .bool false, .int .i64 0, S [], .slice none 0 0, .slice none 0 0] 26 (0, 0))) :: H) rfl fun w_61 p_120 _ f => W_end rfl (N_te (T_n ?_))))
           exact ⟨((s_1.2.1.take y_1.toNat) ++ [(⟨x_2.fKind, (x_2.fBool), x_2.fNum, x_2.fText, x_2.fList, x_2.fKeys⟩ : TA0)]) ++ (([] : List TA0) ++ (s_1.2.1.take s_1.2.1.length).drop y_1.toNat), (sI hF_29).symm, M_12, hM_12, A_42, cap_43, cs_18, hr_34, f.kp, p_120⟩
          exact N_none
         exact N_none
        exact N_none
       exact N_none
      ·rintro a_137 w_62 ⟨y_3, hq_2, M_13, hM_13, A_43, cap_44, cs_19, hr_35, f, p_121⟩
       subst j_2
       refine B_n (T_n (R_reg (Y f 1 fun _ f => ?_)))
       obtain ⟨g_14, hF_30⟩ := nS hF_26
       refine Y f 1 fun _ f => ?_
       have f := f.st 24 (congrArg (Value.int .i64) (inR_wrap g_14))
       refine Y f 1 fun _ f => W_end rfl ?_
       have p_132 := p_121.pl [4, 4, 3, 3, 4]
       refine T_n ?_
       obtain rfl := sI hF_30
       exact ⟨⟨m_2, (s_1.1 + 1, y_3, y_2), A_43, cap_44, cs_19, A_30, cap_31, cs_12⟩, Nat.lt_succ_self _, M_13, ((((hM_2.trans hM_3).trans hM_5).trans hM_9).trans hM_13), ⟨hn_1, hr_35, (RepSeq.mono hM_13 _ _ hr_25)⟩, f.kp, (p_132.dropN 1)⟩
  ·have k_8 := iff_f dI h_3
   refine wp_exit (T_x (T_x ?_))
   obtain rfl := sI hF_31
   exact ⟨rfl, (s_1.2.1, s_1.2.2), (sI hn_1).symm, M_2, hM_2, A_5, cap_5, cs_1, A_6, cap_6, cs_2, hr_3, hr_4, f.kp, p_11⟩
 ·rintro _ _ w_64 ⟨rfl, y_4, hq_, M_14, hM_14, A_44, cap_45, cs_20, A_45, cap_46, cs_21, hr_36, hr_37, f, p_122⟩
  subst b_4
  refine B_x (T_n (RR (Z (v := .agg #[.int .i8 d0.fKind, .bool d0.fBool, .int .i64 d0.fNum, S d0.fText, .slice A_44 y_4.1.length cap_45, .slice A_45 y_4.2.length cap_46]) f (Y31 (cs := [.int .i8 d0.fKind, .bool d0.fBool, .int .i64 d0.fNum, S d0.fText, .slice A_44 y_4.1.length cap_45, .slice A_45 y_4.2.length cap_46]) rfl (ad := ⟨b_3, 0, none⟩) (own_cells (p_122.ownCell 2 rfl) 0 rfl)) fun _ f => ?_)))
  obtain ⟨A_46, cap_47, M_15, hv_20, hM_15, p_133, h_17⟩ := p_122.rowSli (f := emb_TA0) (xs := y_4.1) szd_TA0 hr_36
  have f := Frm.set f 96 (v := .agg #[.int .i8 d0.fKind, .bool d0.fBool, .int .i64 d0.fNum, S d0.fText, .slice A_44 y_4.1.length cap_45, .slice A_45 y_4.2.length cap_46]) (v' := .agg #[.int .i8 d0.fKind, .bool d0.fBool, .int .i64 d0.fNum, S d0.fText, .slice A_46 y_4.1.length cap_47, .slice A_45 y_4.2.length cap_46]) (by kernel_rfl) (by rw [hv_20])
  have p_134 : Hp w0 M_15 ((Ent.row 9 1 (.slice A_45 y_4.2.length cap_46) y_4.2.length cs_21) :: (Ent.obj b_3 (.cells #[.int .i8 d0.fKind, .bool d0.fBool, .int .i64 d0.fNum, S d0.fText, .slice A_46 y_4.1.length cap_47, .slice A_45 y_4.2.length cap_46] 26 (0, 0))) :: (Ent.obj b_2 (.cells #[.int .i8 0, .bool false, .int .i64 0, S [], .slice none 0 0, .slice none 0 0] 26 (0, 0))) :: H) w_64 := by rw [hv_20] at p_133; exact p_133
  obtain ⟨A_47, cap_48, M_16, hv_21, hM_16, p_135, h_18⟩ := p_134.rowSli (f := Dat.str) (xs := y_4.2) szd_str (RepSeq.mono hM_15 _ _ hr_37)
  have f := Frm.set f 96 (v := .agg #[.int .i8 d0.fKind, .bool d0.fBool, .int .i64 d0.fNum, S d0.fText, .slice A_46 y_4.1.length cap_47, .slice A_45 y_4.2.length cap_46]) (v' := .agg #[.int .i8 d0.fKind, .bool d0.fBool, .int .i64 d0.fNum, S d0.fText, .slice A_46 y_4.1.length cap_47, .slice A_47 y_4.2.length cap_48]) (by kernel_rfl) (by rw [hv_21])
  have p_136 : Hp w0 M_16 ((Ent.obj b_3 (.cells #[.int .i8 d0.fKind, .bool d0.fBool, .int .i64 d0.fNum, S d0.fText, .slice A_46 y_4.1.length cap_47, .slice A_47 y_4.2.length cap_48] 26 (0, 0))) :: (Ent.obj b_2 (.cells #[.int .i8 0, .bool false, .int .i64 0, S [], .slice none 0 0, .slice none 0 0] 26 (0, 0))) :: H) w_64 := by rw [hv_21] at p_135; exact p_135
  have p_137 := p_136.pl [1]
  refine Y27 (vs := [.int .i8 d0.fKind, .bool d0.fBool, .int .i64 d0.fNum, S d0.fText, .slice A_46 y_4.1.length cap_47, .slice A_47 y_4.2.length cap_48]) (j := 0) f p_137 rfl rfl (by simp [Value.oneCell', S]) (by simp) (by decide) (cs' := #[.int .i8 d0.fKind, .bool d0.fBool, .int .i64 d0.fNum, S d0.fText, .slice A_46 y_4.1.length cap_47, .slice A_47 y_4.2.length cap_48]) fun w_65 p_138 _ f => eT (wp_ret (E_rv1 f rfl (Y10 (cs := [.int .i8 d0.fKind, .bool d0.fBool, .int .i64 d0.fNum, S d0.fText, .slice A_46 y_4.1.length cap_47, .slice A_47 y_4.2.length cap_48]) (ad := ⟨b_2, 0, none⟩) f (own_cells (p_138.ownCell 0 rfl) 0 rfl)) ?_))
  obtain rfl := sI hF_1
  exact ⟨_, rfl, M_16, (((hM_1.trans hM_14).trans hM_15).trans hM_16), (p_138.dropN 2), ⟨[.int .i8 d0.fKind, .bool d0.fBool, .int .i64 d0.fNum, S d0.fText, .slice A_46 y_4.1.length cap_47, .slice A_47 y_4.2.length cap_48], rfl, (TA0.shut (h_17.mono hM_16) h_18)⟩⟩
def ref03_sorted_k (n : Nat) : Nat → TA0 → Option TA0
  | 0 => fun _ => none
  | k + 1 => ref03_sorted_b n (ref03_sorted_k n k)
def ref03_sorted (n : Nat) (d0 : TA0) : Option TA0 := ref03_sorted_k n n d0
theorem ref03_sorted_ok (n : Nat) (M : Mem) (c0 : List Value) (d0 : TA0) (h0 : Rep M (emb_TA0 d0) c0) (r : TA0) (hF : ref03_sorted n d0 = some r) : Ok Tryd.prog M 20 [.agg c0.toArray] (fun M' v => ∃ (c0 : List Value), v = .agg c0.toArray ∧ Rep M' (emb_TA0 r) c0) := by
 have key : ∀ (k : Nat) (M : Mem) (c0 : List Value) (d0 : TA0) (h0 : Rep M (emb_TA0 d0) c0) (r : TA0) (hF : ref03_sorted_k n k d0 = some r), Ok Tryd.prog M 20 [.agg c0.toArray] (fun M' v => ∃ (c0 : List Value), v = .agg c0.toArray ∧ Rep M' (emb_TA0 r) c0) := by
  intro k
  induction k with
  | zero => intro M c0 d0 h0 r hF; simp [ref03_sorted_k] at hF
  | succ k ih => intro M c0 d0 h0 r hF; exact ref03_sorted_b_ok n (ref03_sorted_k n k) ih M c0 d0 h0 r hF
 exact key n M c0 d0 h0 r hF
def ref03_compare_s1 (n : Nat) (rec_ref03_compare : TA0 → TA0 → Option Int) (d0 : TA0) (d1 : TA0) (s_1 : Int) : Option (Lp Int (Sum Int Unit)) :=
    ((bif (decide (s_1 < ((d0.fList.length : Nat) : Int))) then
        (some ((decide (s_1 < ((d1.fList.length : Nat) : Int)))))
      else
        some ((false)) : Option Bool)).bind fun y_1 =>
    bif y_1 then
      (((bif (decide (d0.fKind = 5)) then
          ((getI d0.fKeys s_1).bind fun x_1 =>
          (getI d1.fKeys s_1).bind fun x_2 =>
          some ((!(decide (x_1 = x_2)))))
        else
          some ((false)) : Option Bool)).bind fun y_2 =>
      bif y_2 then
        ((getI d0.fKeys s_1).bind fun x_3 =>
        (getI d1.fKeys s_1).bind fun x_4 =>
        bif (Op.bytesLess x_3 x_4) then
          (some (.br (.inl (-1 : Int))))
        else
          some (.br (.inl (1 : Int))))
      else
        (getI d0.fList s_1).bind fun x_5 =>
        (getI d1.fList s_1).bind fun x_6 =>
        (rec_ref03_compare x_5 x_6).bind fun x_7 =>
        bif (!(decide (x_7 = 0))) then
          (some (.br (.inl x_7)))
        else
          need (inR .i64 (s_1 + 1)) <|
          some (.nx (s_1 + 1)))
    else
      some (.br (.inr ()))
def ref03_compare_b (n : Nat) (rec_ref03_compare : TA0 → TA0 → Option Int) (d0 : TA0) (d1 : TA0) : Option Int :=
  bif (!(decide (d0.fKind = d1.fKind))) then
    (bif (decide (d0.fKind < d1.fKind)) then
      (some ((-1 : Int)))
    else
      some ((1 : Int)))
  else
    bif (!(d0.fBool == d1.fBool)) then
      (bif d1.fBool then
        (some ((-1 : Int)))
      else
        some ((1 : Int)))
    else
      bif (!(decide (d0.fNum = d1.fNum))) then
        (bif (decide (d0.fNum < d1.fNum)) then
          (some ((-1 : Int)))
        else
          some ((1 : Int)))
      else
        bif (!(decide (d0.fText = d1.fText))) then
          (bif (Op.bytesLess d0.fText d1.fText) then
            (some ((-1 : Int)))
          else
            some ((1 : Int)))
        else
          (loopF (ref03_compare_s1 n rec_ref03_compare d0 d1) n (0 : Int)).bind fun b_3 =>
          (match b_3 with 
          | .inl y_3 => some (y_3) 
          | .inr y_4 => bif (!(decide (((d0.fList.length : Nat) : Int) = ((d1.fList.length : Nat) : Int)))) then
              (bif (decide (((d0.fList.length : Nat) : Int) < ((d1.fList.length : Nat) : Int))) then
                (some ((-1 : Int)))
              else
                some ((1 : Int)))
            else
              some ((0 : Int)))
set_option maxRecDepth 20000 in
theorem ref03_compare_b_ok (n : Nat) (rec_ref03_compare : TA0 → TA0 → Option Int) (hrec_ref03_compare : ∀ (M : Mem) (c0 : List Value) (d0 : TA0) (h0 : Rep M (emb_TA0 d0) c0) (c1 : List Value) (d1 : TA0) (h1 : Rep M (emb_TA0 d1) c1) (r : Int) (hF : rec_ref03_compare d0 d1 = some r), Ok Tryd.prog M 19 [.agg c0.toArray, .agg c1.toArray] (fun _ v => v = .int .i64 r)) (M : Mem) (c0 : List Value) (d0 : TA0) (h0 : Rep M (emb_TA0 d0) c0) (c1 : List Value) (d1 : TA0) (h1 : Rep M (emb_TA0 d1) c1) (r : Int) (hF : ref03_compare_b n rec_ref03_compare d0 d1 = some r) : Ok Tryd.prog M 19 [.agg c0.toArray, .agg c1.toArray] (fun _ v => v = .int .i64 r) := by
 unfold ref03_compare_b at hF
 intro M1 hM0 w0 H w p0
 replace h0 := Rep.mono hM0 _ _ h0
 replace h1 := Rep.mono hM0 _ _ h1
 obtain ⟨A_1, cap_1, A_2, cap_2, rfl, h_1, h_2⟩ := TA0.opn h0
 obtain ⟨A_3, cap_3, A_4, cap_4, rfl, h_3, h_4⟩ := TA0.opn h1
 refine R_enter 113 Tryd.func19 rfl rfl (by simp) fun a0 f0 => RR (Y12 (cs := #[.int .i8 d0.fKind, .bool d0.fBool, .int .i64 d0.fNum, S d0.fText, .slice A_1 d0.fList.length cap_1, .slice A_2 d0.fKeys.length cap_2]) (T := 26) f0 p0 fun b_1 M_1 w_1 hM_1 hc_1 p_1 _ f => ?_)
 have hc_2 := fz_box hc_1
 refine Y12 (cs := #[.int .i8 d1.fKind, .bool d1.fBool, .int .i64 d1.fNum, S d1.fText, .slice A_3 d1.fList.length cap_3, .slice A_4 d1.fKeys.length cap_4]) (T := 26) f p_1 fun b_2 M_2 w_2 hM_2 hc_3 p_2 _ f => ?_
 have hc_4 := fz_box hc_3
 refine Y f 1 fun _ f => eT (R_seq (RR (Y f 1 fun _ f => Y14 f p_2 (fzu hM_2 hc_2) 0 rfl fun _ f => Y f 1 fun _ f => Y14 f p_2 hc_4 0 rfl fun _ f => Y f 1 fun _ f => eT (RcF f hF (fun h_5 hF_1 => ?_) fun h_5 hF_4 => ?_))))
 ·have k_1 : ¬ (d0.fKind = d1.fKind) := (not_iff dI).1 h_5
  refine R_seq (RR (Y f 1 fun _ f => Y14 f p_2 (fzu hM_2 hc_2) 0 rfl fun _ f => Y f 1 fun _ f => Y14 f p_2 hc_4 0 rfl fun _ f => Y f 1 fun _ f => eT (RcF f hF_1 (fun h_6 hF_2 => ?_) fun h_6 hF_3 => ?_)))
  ·have k_2 := dI.1 h_6
   refine RR (Y f 1 fun _ f => eT (wp_ret (T_r (T_r (E_ret1 f rfl (by kernel_rfl : Vc.look _ 4 = some (.int .i64 (-1))) ?_)))))
   obtain rfl := sI hF_2
   exact ⟨_, rfl, M_2, (hM_1.trans hM_2), p_2, rfl⟩
  ·have k_3 := iff_f dI h_6
   refine wp_skip (T_n (RR (Y f 1 fun _ f => eT (wp_ret (T_r (E_ret1 f rfl (by kernel_rfl : Vc.look _ 4 = some (.int .i64 1)) ?_))))))
   obtain rfl := sI hF_3
   exact ⟨_, rfl, M_2, (hM_1.trans hM_2), p_2, rfl⟩
 ·have k_4 : ¬ (¬ (d0.fKind = d1.fKind)) := iff_f (not_iff dI) h_5
  refine wp_skip (T_n (R_seq (RR (Y f 1 fun _ f => Y14 f p_2 (fzu hM_2 hc_2) 1 rfl fun _ f => Y f 1 fun _ f => Y14 f p_2 hc_4 1 rfl fun _ f => Y f 1 fun _ f => eT (RcF f hF_4 (fun h_7 hF_5 => ?_) fun h_7 hF_8 => ?_)))))
  ·have k_5 : (d0.fBool == d1.fBool) = false := by simpa using h_7
   refine R_seq (RR (Y f 1 fun _ f => Y14 f p_2 hc_4 1 rfl fun _ f => eT (RcF f hF_5 (fun h_8 hF_6 => ?_) fun h_8 hF_7 => ?_)))
   ·refine RR (Y f 1 fun _ f => eT (wp_ret (T_r (T_r (E_ret1 f rfl (by kernel_rfl : Vc.look _ 4 = some (.int .i64 (-1))) ?_)))))
    obtain rfl := sI hF_6
    exact ⟨_, rfl, M_2, (hM_1.trans hM_2), p_2, rfl⟩
   ·refine wp_skip (T_n (RR (Y f 1 fun _ f => eT (wp_ret (T_r (E_ret1 f rfl (by kernel_rfl : Vc.look _ 4 = some (.int .i64 1)) ?_))))))
    obtain rfl := sI hF_7
    exact ⟨_, rfl, M_2, (hM_1.trans hM_2), p_2, rfl⟩
  ·have k_8 : (d0.fBool == d1.fBool) = true := by simpa using h_7
   refine wp_skip (T_n (R_seq (RR (Y f 1 fun _ f => Y14 f p_2 (fzu hM_2 hc_2) 2 rfl fun _ f => Y f 1 fun _ f => Y14 f p_2 hc_4 2 rfl fun _ f => Y f 1 fun _ f => eT (RcF f hF_8 (fun h_9 hF_9 => ?_) fun h_9 hF_12 => ?_)))))
   ·have k_9 : ¬ (d0.fNum = d1.fNum) := (not_iff dI).1 h_9
    refine R_seq (RR (Y f 1 fun _ f => Y14 f p_2 (fzu hM_2 hc_2) 2 rfl fun _ f => Y f 1 fun _ f => Y14 f p_2 hc_4 2 rfl fun _ f => Y f 1 fun _ f => eT (RcF f hF_9 (fun h_10 hF_10 => ?_) fun h_10 hF_11 => ?_)))
    ·have k_10 := dI.1 h_10
     refine RR (Y f 1 fun _ f => eT (wp_ret (T_r (T_r (E_ret1 f rfl (by kernel_rfl : Vc.look _ 4 = some (.int .i64 (-1))) ?_)))))
     obtain rfl := sI hF_10
     exact ⟨_, rfl, M_2, (hM_1.trans hM_2), p_2, rfl⟩
    ·have k_11 := iff_f dI h_10
     refine wp_skip (T_n (RR (Y f 1 fun _ f => eT (wp_ret (T_r (E_ret1 f rfl (by kernel_rfl : Vc.look _ 4 = some (.int .i64 1)) ?_))))))
     obtain rfl := sI hF_11
     exact ⟨_, rfl, M_2, (hM_1.trans hM_2), p_2, rfl⟩
   ·have k_12 : ¬ (¬ (d0.fNum = d1.fNum)) := iff_f (not_iff dI) h_9
    refine wp_skip (T_n (R_seq (RR (Y f 1 fun _ f => Y14 f p_2 (fzu hM_2 hc_2) 3 rfl fun _ f => Y f 1 fun _ f => Y14 f p_2 hc_4 3 rfl fun _ f => Z f (Y38 rfl (l := d0.fText) (m := d1.fText)) fun _ f => eT (RcF f hF_12 (fun h_11 hF_13 => ?_) fun h_11 hF_16 => ?_)))))
    ·have k_13 : ¬ (d0.fText = d1.fText) := (not_iff dI).1 h_11
     refine R_seq (RR (Y f 1 fun _ f => Y14 f p_2 (fzu hM_2 hc_2) 3 rfl fun _ f => Y f 1 fun _ f => Y14 f p_2 hc_4 3 rfl fun _ f => Z (v := .bool (Op.bytesLess d0.fText d1.fText)) f (X_strlt rfl (l := d0.fText) (m := d1.fText) (by kernel_rfl) (by kernel_rfl)) fun _ f => eT (RcF f hF_13 (fun h_12 hF_14 => ?_) fun h_12 hF_15 => ?_)))
     ·refine RR (Y f 1 fun _ f => eT (wp_ret (T_r (T_r (E_ret1 f rfl (by kernel_rfl : Vc.look _ 4 = some (.int .i64 (-1))) ?_)))))
      obtain rfl := sI hF_14
      exact ⟨_, rfl, M_2, (hM_1.trans hM_2), p_2, rfl⟩
     ·refine wp_skip (T_n (RR (Y f 1 fun _ f => eT (wp_ret (T_r (E_ret1 f rfl (by kernel_rfl : Vc.look _ 4 = some (.int .i64 1)) ?_))))))
      obtain rfl := sI hF_15
      exact ⟨_, rfl, M_2, (hM_1.trans hM_2), p_2, rfl⟩
    ·have k_16 : ¬ (¬ (d0.fText = d1.fText)) := iff_f (not_iff dI) h_11
     refine wp_skip (T_n (R_seq (RR (Y f 1 fun _ f => eT (wp_block ?_)))))
     obtain ⟨b_3, hL_1, hF_17⟩ := bS hF_16
     refine wp_mono (Q := fun e a w => (e = .ret ∧ (∃ y_3 : Int, b_3 = .inl y_3 ∧ ∃ M_6 : Mem, M_2.le M_6 ∧ Frm 113 [(4, .int .i64 y_3)] a ∧ Hp w0 M_6 (H) w)) ∨ (e = .exit 0 ∧ (∃ y_4 : Unit, b_3 = .inr y_4 ∧ ∃ M_7 : Mem, M_2.le M_7 ∧ Frm 113 [(2, .pointer (some (⟨b_1, 0, none⟩))), (3, .pointer (some (⟨b_2, 0, none⟩)))] a ∧ Hp w0 M_7 (H) w))) (R_loop (n := 113) (w0 := w0) (M := M_2) (fun (x : Nat × Int) => match x with | (m_1, s_1) => [(2, .pointer (some (⟨b_1, 0, none⟩))), (3, .pointer (some (⟨b_2, 0, none⟩))), (5, .int .i64 s_1)]) (fun (x : Nat × Int) => match x with | (m_1, s_1) => (H)) (fun (x : Nat × Int) (MM : Mem) => match x with | (m_1, s_1) => loopF (ref03_compare_s1 n rec_ref03_compare d0 d1) m_1 s_1 = some b_3) (fun (x : Nat × Int) => match x with | (m_1, s_1) => m_1) (n, (0 : Int)) (f.kp) p_2 hL_1 ?_) ?_
     ·rintro ⟨m_1, s_1⟩ M_3 _ w_3 hM_3 I_1 f p_3
      have I_1L := I_1
      obtain ⟨m_2, r_1, rfl, hs_1, hn_1⟩ := loop_step I_1L
      unfold ref03_compare_s1 at hs_1
      refine R_seq (R_seq ?_)
      obtain ⟨j_1, hj_1, hF_18⟩ := bS hs_1
      refine R_mid (fun a_58 w_4 => ∃ y_1 : Bool, j_1 = y_1 ∧ ∃ M_4 : Mem, M_3.le M_4 ∧ Frm 113 [(2, .pointer (some (⟨b_1, 0, none⟩))), (3, .pointer (some (⟨b_2, 0, none⟩))), (5, .int .i64 s_1), (55, .bool y_1)] a_58 ∧ Hp w0 M_4 (H) w_4) ?_ ?_
      ·refine R_reg (Y f 2 fun _ f => Y14 f p_3 (fzu (hM_2.trans hM_3) hc_2) 4 rfl fun _ f => Y f 3 fun _ f => ?_)
       rcases cE hj_1 with ⟨h_13, hF_19⟩ | ⟨h_13, hF_20⟩
       ·have k_17 := dI.1 h_13
        have f := f.st 49 (cB h_13)
        refine Y f 2 fun _ f => Y14 f p_3 (fzu hM_3 hc_4) 4 rfl fun _ f => Y f 3 fun _ f => eT ?_
        exact ⟨(decide (s_1 < ((d1.fList.length : Nat) : Int))), (sI hF_19).symm, M_3, (mR _), f.kp, p_3⟩
       ·have k_18 := iff_f dI h_13
        have f := f.st 49 (cB h_13)
        refine Y f 6 fun _ f => eT ?_
        exact ⟨(false), (sI hF_20).symm, M_3, (mR _), f.kp, p_3⟩
      ·rintro a_58 w_4 ⟨y_1, hq_1, M_4, hM_4, f, p_4⟩
       subst j_1
       refine T_n (RcF f hF_18 (fun h_14 hF_21 => ?_) fun h_14 hF_39 => ?_)
       ·refine wp_skip (T_n (R_seq (wp_block (R_seq (R_seq ?_)))))
        obtain ⟨j_2, hj_2, hF_22⟩ := bS hF_21
        refine R_mid (fun a_75 w_7 => ∃ y_2 : Bool, j_2 = y_2 ∧ ∃ M_5 : Mem, M_4.le M_5 ∧ Frm 113 [(2, .pointer (some (⟨b_1, 0, none⟩))), (3, .pointer (some (⟨b_2, 0, none⟩))), (5, .int .i64 s_1), (73, .bool y_2)] a_75 ∧ Hp w0 M_5 (H) w_7) ?_ ?_
        ·refine R_draw p_4 (by kernel_rfl) (by kernel_rfl) (Y5 default f 1 fun _ f => Y4 f (fzu ((hM_2.trans hM_3).trans hM_4) hc_2) 0 rfl fun _ f => Y5 default f 2 fun _ f => ?_)
         rcases cE hj_2 with ⟨h_15, hF_23⟩ | ⟨h_15, hF_26⟩
         ·have k_20 := dI.1 h_15
          have f := f.st 61 (cB h_15)
          refine Y5 default f 1 fun _ f => Y4 f (fzu ((hM_2.trans hM_3).trans hM_4) hc_2) 5 rfl fun _ f => Y5 default f 1 fun _ f => ?_
          obtain ⟨x_1, hx_1, hF_24⟩ := bS hF_23
          obtain ⟨ad_1, c_1, e_1, -, hr_1, hc_5⟩ := Sli.at_ (h_2.mono (((hM_1.trans hM_2).trans hM_3).trans hM_4)) hx_1
          obtain rfl : c_1 = [S x_1] := hr_1
          refine Y2 (v := .pointer (some (ad_1.add (s_1.toNat * 1)))) f (fun _ pq => Y29 e_1 rfl (len := d0.fKeys.length) (cap := cap_2) (k := .i64) (i := s_1) (e := 9) (sz := 1) (getI_nn hx_1) (getI_lt hx_1)) fun _ f => Y4 f hc_5 0 rfl fun _ f => Y5 default f 1 fun _ f => Y4 f (fzu (hM_3.trans hM_4) hc_4) 5 rfl fun _ f => Y5 default f 1 fun _ f => ?_
          obtain ⟨x_2, hx_2, hF_25⟩ := bS hF_24
          obtain ⟨ad_2, c_2, e_2, -, hr_2, hc_6⟩ := Sli.at_ (h_4.mono (((hM_1.trans hM_2).trans hM_3).trans hM_4)) hx_2
          obtain rfl : c_2 = [S x_2] := hr_2
          refine Y2 (v := .pointer (some (ad_2.add (s_1.toNat * 1)))) f (fun _ pq => Y29 e_2 rfl (len := d1.fKeys.length) (cap := cap_4) (k := .i64) (i := s_1) (e := 9) (sz := 1) (getI_nn hx_2) (getI_lt hx_2)) fun _ f => Y4 f hc_6 0 rfl fun _ f => Y2 (v := .bool (!(decide (x_1 = x_2)))) f (fun _ pq => Y38 rfl (l := x_1) (m := x_2)) fun _ f => Y5 default f 1 fun _ f => Q_end rfl ?_
          intro w_5 p_5
          refine T_n ?_
          exact ⟨(!(decide (x_1 = x_2))), (sI hF_25).symm, M_4, (mR _), f.kp, p_5⟩
         ·have k_21 := iff_f dI h_15
          have f := f.st 61 (cB h_15)
          refine Y5 default f 12 fun _ f => Q_end rfl ?_
          intro w_6 p_6
          refine T_n ?_
          exact ⟨(false), (sI hF_26).symm, M_4, (mR _), f.kp, p_6⟩
        ·rintro a_75 w_7 ⟨y_2, hq_2, M_5, hM_5, f, p_7⟩
         subst j_2
         refine T_n (RcF f hF_22 (fun h_16 hF_27 => ?_) fun h_16 hF_32 => ?_)
         ·refine R_seq (R_seq (R_draw p_7 (by kernel_rfl) (by kernel_rfl) (Y5 default f 1 fun _ f => Y4 f (fzu (((hM_2.trans hM_3).trans hM_4).trans hM_5) hc_2) 5 rfl fun _ f => Y5 default f 1 fun _ f => ?_)))
          obtain ⟨x_3, hx_3, hF_28⟩ := bS hF_27
          obtain ⟨ad_3, c_3, e_3, -, hr_3, hc_7⟩ := Sli.at_ (h_2.mono ((((hM_1.trans hM_2).trans hM_3).trans hM_4).trans hM_5)) hx_3
          obtain rfl : c_3 = [S x_3] := hr_3
          refine Y2 (v := .pointer (some (ad_3.add (s_1.toNat * 1)))) f (fun _ pq => Y29 e_3 rfl (len := d0.fKeys.length) (cap := cap_2) (k := .i64) (i := s_1) (e := 9) (sz := 1) (getI_nn hx_3) (getI_lt hx_3)) fun _ f => Y4 f hc_7 0 rfl fun _ f => Y5 default f 1 fun _ f => Y4 f (fzu ((hM_3.trans hM_4).trans hM_5) hc_4) 5 rfl fun _ f => Y5 default f 1 fun _ f => ?_
          obtain ⟨x_4, hx_4, hF_29⟩ := bS hF_28
          obtain ⟨ad_4, c_4, e_4, -, hr_4, hc_8⟩ := Sli.at_ (h_4.mono ((((hM_1.trans hM_2).trans hM_3).trans hM_4).trans hM_5)) hx_4
          obtain rfl : c_4 = [S x_4] := hr_4
          refine Y2 (v := .pointer (some (ad_4.add (s_1.toNat * 1)))) f (fun _ pq => Y29 e_4 rfl (len := d1.fKeys.length) (cap := cap_4) (k := .i64) (i := s_1) (e := 9) (sz := 1) (getI_nn hx_4) (getI_lt hx_4)) fun _ f => Y4 f hc_8 0 rfl fun _ f => Y2 (v := .bool (Op.bytesLess x_3 x_4)) f (fun _ pq => X_strlt rfl (l := x_3) (m := x_4) (by kernel_rfl) (by kernel_rfl)) fun _ f => Q_end rfl ?_
          intro w_8 p_8
          refine T_n (RcF f hF_29 (fun h_17 hF_30 => ?_) fun h_17 hF_31 => ?_)
          ·refine RR (Y f 1 fun _ f => eT (wp_ret (T_r (T_r (B_r (T_r (T_r ?_)))))))
           obtain rfl := sI hF_30
           exact .inl ⟨rfl, (-1 : Int), (sI hn_1).symm, M_5, ((hM_3.trans hM_4).trans hM_5), f.kp, p_8⟩
          ·refine wp_skip (T_n (RR (Y f 1 fun _ f => eT (wp_ret (T_r (B_r (T_r (T_r ?_))))))))
           obtain rfl := sI hF_31
           exact .inl ⟨rfl, (1 : Int), (sI hn_1).symm, M_5, ((hM_3.trans hM_4).trans hM_5), f.kp, p_8⟩
         ·refine wp_skip (T_n (R_seq (R_draw p_7 (by kernel_rfl) (by kernel_rfl) (Y5 default f 1 fun _ f => Y4 f (fzu (((hM_2.trans hM_3).trans hM_4).trans hM_5) hc_2) 4 rfl fun _ f => Y5 default f 1 fun _ f => ?_))))
          obtain ⟨x_5, hx_5, hF_33⟩ := bS hF_32
          obtain ⟨ad_5, c_5, e_5, -, hr_5, hc_9⟩ := Sli.at_ (h_1.mono ((((hM_1.trans hM_2).trans hM_3).trans hM_4).trans hM_5)) hx_5
          obtain ⟨A_5, cap_5, A_6, cap_6, rfl, h_18, h_19⟩ := TA0.opn hr_5
          refine Y2 (v := .pointer (some (ad_5.add (s_1.toNat * 6)))) f (fun _ pq => Y29 e_5 rfl (len := d0.fList.length) (cap := cap_1) (k := .i64) (i := s_1) (e := 26) (sz := 6) (getI_nn hx_5) (getI_lt hx_5)) fun _ f => Y2 (v := .agg #[.int .i8 x_5.fKind, .bool x_5.fBool, .int .i64 x_5.fNum, S x_5.fText, .slice A_5 x_5.fList.length cap_5, .slice A_6 x_5.fKeys.length cap_6]) f (fun _ pq => Y31 (cs := [.int .i8 x_5.fKind, .bool x_5.fBool, .int .i64 x_5.fNum, S x_5.fText, .slice A_5 x_5.fList.length cap_5, .slice A_6 x_5.fKeys.length cap_6]) rfl (ad := ad_5.add (s_1.toNat * 6)) (fun j v h => pq.cell (hc_9 j v h))) fun _ f => Y5 default f 1 fun _ f => Y4 f (fzu ((hM_3.trans hM_4).trans hM_5) hc_4) 4 rfl fun _ f => Y5 default f 1 fun _ f => ?_
          obtain ⟨x_6, hx_6, hF_34⟩ := bS hF_33
          obtain ⟨ad_6, c_6, e_6, -, hr_6, hc_10⟩ := Sli.at_ (h_3.mono ((((hM_1.trans hM_2).trans hM_3).trans hM_4).trans hM_5)) hx_6
          obtain ⟨A_7, cap_7, A_8, cap_8, rfl, h_20, h_21⟩ := TA0.opn hr_6
          refine Y2 (v := .pointer (some (ad_6.add (s_1.toNat * 6)))) f (fun _ pq => Y29 e_6 rfl (len := d1.fList.length) (cap := cap_3) (k := .i64) (i := s_1) (e := 26) (sz := 6) (getI_nn hx_6) (getI_lt hx_6)) fun _ f => Y2 (v := .agg #[.int .i8 x_6.fKind, .bool x_6.fBool, .int .i64 x_6.fNum, S x_6.fText, .slice A_7 x_6.fList.length cap_7, .slice A_8 x_6.fKeys.length cap_8]) f (fun _ pq => Y31 (cs := [.int .i8 x_6.fKind, .bool x_6.fBool, .int .i64 x_6.fNum, S x_6.fText, .slice A_7 x_6.fList.length cap_7, .slice A_8 x_6.fKeys.length cap_8]) rfl (ad := ad_6.add (s_1.toNat * 6)) (fun j v h => pq.cell (hc_10 j v h))) fun _ f => ?_
          obtain ⟨x_7, hx_7, hF_35⟩ := bS hF_34
          refine Y3 f (hrec_ref03_compare _ _ x_5 (TA0.shutx (x := x_5) h_18 h_19) _ x_6 (TA0.shutx (x := x_6) h_20 h_21) x_7 hx_7) fun _ f => Y5 default f 1 fun _ f => Q_end rfl ?_
          intro w_10 p_10
          refine T_n (RR (Y f 2 fun _ f => eT (RcF f hF_35 (fun h_22 hF_36 => ?_) fun h_22 hF_37 => ?_)))
          ·have k_26 : ¬ (x_7 = 0) := (not_iff dI).1 h_22
           refine RR (Y f 2 fun _ f => eT (wp_ret (B_r (T_r (T_r ?_)))))
           obtain rfl := sI hF_36
           exact .inl ⟨rfl, x_7, (sI hn_1).symm, M_5, ((hM_3.trans hM_4).trans hM_5), f.kp, p_10⟩
          ·have k_27 : ¬ (¬ (x_7 = 0)) := iff_f (not_iff dI) h_22
           refine wp_skip (B_n (T_n (R_reg (Y f 1 fun _ f => ?_))))
           obtain ⟨g_1, hF_38⟩ := nS hF_37
           refine Y f 1 fun _ f => ?_
           have f := f.st 57 (congrArg (Value.int .i64) (inR_wrap g_1))
           refine Y f 1 fun _ f => eT ?_
           obtain rfl := sI hF_38
           exact ⟨⟨m_2, s_1 + 1⟩, Nat.lt_succ_self _, M_5, ((hM_3.trans hM_4).trans hM_5), hn_1, f.kp, p_10⟩
       ·refine wp_exit (T_x (T_x ?_))
        obtain rfl := sI hF_39
        exact .inr ⟨rfl, (), (sI hn_1).symm, M_4, (hM_3.trans hM_4), f.kp, p_4⟩
     ·rintro _ _ w_13 (⟨rfl, y_3, rfl, M_6, hM_6, f, p_11⟩ | ⟨rfl, y_4, rfl, M_7, hM_7, f, p_12⟩)
      ·refine B_r (T_r (E_ret1 f rfl (by kernel_rfl : Vc.look _ 4 = some (.int .i64 y_3)) ?_))
       obtain rfl := sI hF_17
       exact ⟨_, rfl, M_6, ((hM_1.trans hM_2).trans hM_6), p_11, rfl⟩
      ·refine B_x (T_n (R_seq (RR (Y f 1 fun _ f => Y14 f p_12 (fzu (hM_2.trans hM_7) hc_2) 4 rfl fun _ f => Y f 2 fun _ f => Y14 f p_12 (fzu hM_7 hc_4) 4 rfl fun _ f => Y f 2 fun _ f => eT (RcF f hF_17 (fun h_23 hF_40 => ?_) fun h_23 hF_43 => ?_)))))
       ·have k_29 : ¬ (((d0.fList.length : Nat) : Int) = ((d1.fList.length : Nat) : Int)) := (not_iff dI).1 h_23
        refine R_seq (RR (Y f 1 fun _ f => Y14 f p_12 (fzu (hM_2.trans hM_7) hc_2) 4 rfl fun _ f => Y f 2 fun _ f => Y14 f p_12 (fzu hM_7 hc_4) 4 rfl fun _ f => Y f 2 fun _ f => eT (RcF f hF_40 (fun h_24 hF_41 => ?_) fun h_24 hF_42 => ?_)))
        ·have k_30 := dI.1 h_24
         refine RR (Y f 1 fun _ f => eT (wp_ret (T_r (T_r (E_ret1 f rfl (by kernel_rfl : Vc.look _ 4 = some (.int .i64 (-1))) ?_)))))
         obtain rfl := sI hF_41
         exact ⟨_, rfl, M_7, ((hM_1.trans hM_2).trans hM_7), p_12, rfl⟩
        ·have k_31 := iff_f dI h_24
         refine wp_skip (T_n (RR (Y f 1 fun _ f => eT (wp_ret (T_r (E_ret1 f rfl (by kernel_rfl : Vc.look _ 4 = some (.int .i64 1)) ?_))))))
         obtain rfl := sI hF_42
         exact ⟨_, rfl, M_7, ((hM_1.trans hM_2).trans hM_7), p_12, rfl⟩
       ·have k_32 : ¬ (¬ (((d0.fList.length : Nat) : Int) = ((d1.fList.length : Nat) : Int))) := iff_f (not_iff dI) h_23
        refine wp_skip (T_n (RR (Y f 1 fun _ f => eT (wp_ret (E_ret1 f rfl (by kernel_rfl : Vc.look _ 4 = some (.int .i64 0)) ?_)))))
        obtain rfl := sI hF_43
        exact ⟨_, rfl, M_7, ((hM_1.trans hM_2).trans hM_7), p_12, rfl⟩
def ref03_compare_k (n : Nat) : Nat → TA0 → TA0 → Option Int
  | 0 => fun _ _ => none
  | k + 1 => ref03_compare_b n (ref03_compare_k n k)
def ref03_compare (n : Nat) (d0 : TA0) (d1 : TA0) : Option Int := ref03_compare_k n n d0 d1
theorem ref03_compare_ok (n : Nat) (M : Mem) (c0 : List Value) (d0 : TA0) (h0 : Rep M (emb_TA0 d0) c0) (c1 : List Value) (d1 : TA0) (h1 : Rep M (emb_TA0 d1) c1) (r : Int) (hF : ref03_compare n d0 d1 = some r) : Ok Tryd.prog M 19 [.agg c0.toArray, .agg c1.toArray] (fun _ v => v = .int .i64 r) := by
 have key : ∀ (k : Nat) (M : Mem) (c0 : List Value) (d0 : TA0) (h0 : Rep M (emb_TA0 d0) c0) (c1 : List Value) (d1 : TA0) (h1 : Rep M (emb_TA0 d1) c1) (r : Int) (hF : ref03_compare_k n k d0 d1 = some r), Ok Tryd.prog M 19 [.agg c0.toArray, .agg c1.toArray] (fun _ v => v = .int .i64 r) := by
  intro k
  induction k with
  | zero => intro M c0 d0 h0 c1 d1 h1 r hF; simp [ref03_compare_k] at hF
  | succ k ih => intro M c0 d0 h0 c1 d1 h1 r hF; exact ref03_compare_b_ok n (ref03_compare_k n k) ih M c0 d0 h0 c1 d1 h1 r hF
 exact key n M c0 d0 h0 c1 d1 h1 r hF
def ref03_Equal (n : Nat) (d0 : TA0) (d1 : TA0) : Option Bool :=
  (ref03_Check n d0).bind fun x_1 =>
  bif (decide (x_1 = 0)) then
    ((ref03_Check n d1).bind fun x_2 =>
    bif (decide (x_2 = 0)) then
      ((ref03_sorted n d0).bind fun x_3 =>
      (ref03_sorted n d1).bind fun x_4 =>
      (ref03_compare n x_3 x_4).bind fun x_5 =>
      some ((decide (x_5 = 0))))
    else
      some ((false)))
  else
    some ((false))
theorem ref03_Equal_ok (n : Nat) (M : Mem) (c0 : List Value) (d0 : TA0) (h0 : Rep M (emb_TA0 d0) c0) (c1 : List Value) (d1 : TA0) (h1 : Rep M (emb_TA0 d1) c1) (r : Bool) (hF : ref03_Equal n d0 d1 = some r) : Ok Tryd.prog M 11 [.agg c0.toArray, .agg c1.toArray] (fun _ v => v = .bool r) := by
 unfold ref03_Equal at hF
 intro M1 hM0 w0 H w p0
 replace h0 := Rep.mono hM0 _ _ h0
 replace h1 := Rep.mono hM0 _ _ h1
 obtain ⟨A_1, cap_1, A_2, cap_2, rfl, h_1, h_2⟩ := TA0.opn h0
 obtain ⟨A_3, cap_3, A_4, cap_4, rfl, h_3, h_4⟩ := TA0.opn h1
 refine R_enter 21 Tryd.func11 rfl rfl (by simp) fun a0 f0 => RR (Y12 (cs := #[.int .i8 d0.fKind, .bool d0.fBool, .int .i64 d0.fNum, S d0.fText, .slice A_1 d0.fList.length cap_1, .slice A_2 d0.fKeys.length cap_2]) (T := 26) f0 p0 fun b_1 M_1 w_1 hM_1 hc_1 p_1 _ f => ?_)
 have hc_2 := fz_box hc_1
 refine Y12 (cs := #[.int .i8 d1.fKind, .bool d1.fBool, .int .i64 d1.fNum, S d1.fText, .slice A_3 d1.fList.length cap_3, .slice A_4 d1.fKeys.length cap_4]) (T := 26) f p_1 fun b_2 M_2 w_2 hM_2 hc_3 p_2 _ f => ?_
 have hc_4 := fz_box hc_3
 refine Y f 1 fun _ f => eT (R_seq (R_mix (E := []) (Hr := (H)) [(0, true), (1, true), (2, true), (3, true), (4, true), (5, true), (6, true), (7, true), (8, true), (9, true), (11, true), (10, false), (12, false), (13, false), (14, true), (15, true), (16, true)] p_2 (by kernel_rfl) (by kernel_rfl) rfl (by kernel_rfl) (M_eq (v := .agg #[.int .i8 d0.fKind, .bool d0.fBool, .int .i64 d0.fNum, S d0.fText, .slice A_1 d0.fList.length cap_1, .slice A_2 d0.fKeys.length cap_2]) f (by kernel_rfl) (by kernel_rfl) rfl rfl (fun _ pq => Y31 (cs := [.int .i8 d0.fKind, .bool d0.fBool, .int .i64 d0.fNum, S d0.fText, .slice A_1 d0.fList.length cap_1, .slice A_2 d0.fKeys.length cap_2]) rfl (ad := ⟨b_1, 0, none⟩) (fun j v h => pq.cell ((fzu hM_2 hc_2) j v h))) fun _ f => ?_)))
 obtain ⟨x_1, hx_1, hF_1⟩ := bS hF
 refine M_okv (v := .int .i64 x_1) f (by kernel_rfl) (by kernel_rfl) rfl rfl (fun _ => by kernel_rfl) (ref03_Check_ok n _ _ d0 (TA0.shutx (x := d0) (h_1.mono (hM_1.trans hM_2)) (h_2.mono (hM_1.trans hM_2))) x_1 hx_1) fun _ f => Y0 default f 2 fun _ f => ?_
 rcases cE hF_1 with ⟨h_5, hF_2⟩ | ⟨h_5, hF_9⟩
 ·have k_1 := dI.1 h_5
  have f := f.st 8 (cB h_5)
  refine M_eq (v := .agg #[.int .i8 d1.fKind, .bool d1.fBool, .int .i64 d1.fNum, S d1.fText, .slice A_3 d1.fList.length cap_3, .slice A_4 d1.fKeys.length cap_4]) f (by kernel_rfl) (by kernel_rfl) rfl rfl (fun _ pq => Y31 (cs := [.int .i8 d1.fKind, .bool d1.fBool, .int .i64 d1.fNum, S d1.fText, .slice A_3 d1.fList.length cap_3, .slice A_4 d1.fKeys.length cap_4]) rfl (ad := ⟨b_2, 0, none⟩) (fun j v h => pq.cell (hc_4 j v h))) fun _ f => ?_
  obtain ⟨x_2, hx_2, hF_3⟩ := bS hF_2
  refine M_okv (v := .int .i64 x_2) f (by kernel_rfl) (by kernel_rfl) rfl rfl (fun _ => by kernel_rfl) (ref03_Check_ok n _ _ d1 (TA0.shutx (x := d1) (h_3.mono (hM_1.trans hM_2)) (h_4.mono (hM_1.trans hM_2))) x_2 hx_2) fun _ f => Y0 default f 3 fun _ f => ?_
  rcases cE hF_3 with ⟨h_6, hF_4⟩ | ⟨h_6, hF_8⟩
  ·have k_2 := dI.1 h_6
   have f := f.st 13 (cB h_6)
   refine M_eq (v := .agg #[.int .i8 d0.fKind, .bool d0.fBool, .int .i64 d0.fNum, S d0.fText, .slice A_1 d0.fList.length cap_1, .slice A_2 d0.fKeys.length cap_2]) f (by kernel_rfl) (by kernel_rfl) rfl rfl (fun _ pq => Y31 (cs := [.int .i8 d0.fKind, .bool d0.fBool, .int .i64 d0.fNum, S d0.fText, .slice A_1 d0.fList.length cap_1, .slice A_2 d0.fKeys.length cap_2]) rfl (ad := ⟨b_1, 0, none⟩) (fun j v h => pq.cell ((fzu hM_2 hc_2) j v h))) fun _ f => M_eq (v := .agg #[.int .i8 d1.fKind, .bool d1.fBool, .int .i64 d1.fNum, S d1.fText, .slice A_3 d1.fList.length cap_3, .slice A_4 d1.fKeys.length cap_4]) f (by kernel_rfl) (by kernel_rfl) rfl rfl (fun _ pq => Y31 (cs := [.int .i8 d1.fKind, .bool d1.fBool, .int .i64 d1.fNum, S d1.fText, .slice A_3 d1.fList.length cap_3, .slice A_4 d1.fKeys.length cap_4]) rfl (ad := ⟨b_2, 0, none⟩) (fun j v h => pq.cell (hc_4 j v h))) fun _ f => M_fix (E := []) fun w_5 p_5 => ?_
   obtain ⟨x_3, hx_3, hF_5⟩ := bS hF_4
   refine Y15 f p_5 (ref03_sorted_ok n _ _ d0 (TA0.shutx (x := d0) (h_1.mono (hM_1.trans hM_2)) (h_2.mono (hM_1.trans hM_2))) x_3 hx_3) fun _ M_3 w_6 hM_3 p_6 q_1 _ f => ?_
   obtain ⟨c_1, rfl, hr_1⟩ := q_1
   obtain ⟨A_5, cap_5, A_6, cap_6, rfl, h_7, h_8⟩ := TA0.opn hr_1
   refine W_end rfl (M_go (M1 := M_3) (E := []) hM_3 p_6 (M_fix (E := []) fun w_7 p_7 => ?_))
   obtain ⟨x_4, hx_4, hF_6⟩ := bS hF_5
   refine Y15 f p_7 (ref03_sorted_ok n _ _ d1 (TA0.shutx (x := d1) (h_3.mono ((hM_1.trans hM_2).trans hM_3)) (h_4.mono ((hM_1.trans hM_2).trans hM_3))) x_4 hx_4) fun _ M_4 w_8 hM_4 p_8 q_2 _ f => ?_
   obtain ⟨c_2, rfl, hr_2⟩ := q_2
   obtain ⟨A_7, cap_7, A_8, cap_8, rfl, h_9, h_10⟩ := TA0.opn hr_2
   refine W_end rfl (M_go (M1 := M_4) (E := []) (hM_3.trans hM_4) p_8 (M_fix (E := []) fun w_9 p_9 => ?_))
   obtain ⟨x_5, hx_5, hF_7⟩ := bS hF_6
   refine Y17 f p_9 (ref03_compare_ok n _ _ x_3 (TA0.shutx (x := x_3) (h_7.mono hM_4) (h_8.mono hM_4)) _ x_4 (TA0.shutx (x := x_4) h_9 h_10) x_5 hx_5) fun w_10 p_10 _ f => W_end rfl (M_go (M1 := M_4) (E := []) (hM_3.trans hM_4) p_10 (Y0 default f 3 fun _ f => M_end rfl fun w_11 p_11 => T_n (wp_ret (E_ret1 f rfl (by kernel_rfl : Vc.look _ 4 = some (.bool (decide (x_5 = 0)))) ?_))))
   obtain rfl := sI hF_7
   exact ⟨_, rfl, M_4, (((hM_1.trans hM_2).trans hM_3).trans hM_4), p_11, rfl⟩
  ·have k_3 := iff_f dI h_6
   have f := f.st 13 (cB h_6)
   refine Y0 default f 2 fun _ f => M_fix (E := []) fun w_12 p_12 => Y f 1 fun _ f => W_end rfl (M_go (M1 := M_2) (E := []) (mR _) p_12 (M_fix (E := []) fun w_13 p_13 => Y f 1 fun _ f => W_end rfl (M_go (M1 := M_2) (E := []) (mR _) p_13 (M_fix (E := []) fun w_14 p_14 => Y f 1 fun _ f => ?_))))
   refine W_end rfl (M_go (M1 := M_2) (E := []) (mR _) p_14 (Y0 default f 3 fun _ f => M_end rfl fun w_15 p_15 => T_n (wp_ret (E_ret1 f rfl (by kernel_rfl : Vc.look _ 4 = some (.bool false)) ?_))))
   obtain rfl := sI hF_8
   exact ⟨_, rfl, M_2, (hM_1.trans hM_2), p_15, rfl⟩
 ·have k_4 := iff_f dI h_5
  have f := f.st 8 (cB h_5)
  refine Y0 default f 7 fun _ f => M_fix (E := []) fun w_16 p_16 => Y f 1 fun _ f => W_end rfl (M_go (M1 := M_2) (E := []) (mR _) p_16 (M_fix (E := []) fun w_17 p_17 => Y f 1 fun _ f => W_end rfl (M_go (M1 := M_2) (E := []) (mR _) p_17 (M_fix (E := []) fun w_18 p_18 => Y f 1 fun _ f => ?_))))
  refine W_end rfl (M_go (M1 := M_2) (E := []) (mR _) p_18 (Y0 default f 3 fun _ f => M_end rfl fun w_19 p_19 => T_n (wp_ret (E_ret1 f rfl (by kernel_rfl : Vc.look _ 4 = some (.bool false)) ?_))))
  obtain rfl := sI hF_9
  exact ⟨_, rfl, M_2, (hM_1.trans hM_2), p_19, rfl⟩
def law05_PrintSame (n : Nat) (d0 : TA0) (d1 : TA0) : Option Bool :=
  (((ref03_Great n d0).bind fun x_1 =>
    bif x_1 then
      (some ((true)))
    else
      (ref03_Great n d1).bind fun x_2 =>
      some ((x_2)) : Option Bool)).bind fun y_1 =>
  bif y_1 then
    ((law05_wakes n).bind fun x_3 =>
    some ((x_3)))
  else
    (print_Print n d0).bind fun x_4 =>
    (print_Print n d1).bind fun x_5 =>
    (print_Broad n d0).bind fun x_6 =>
    (print_Broad n d1).bind fun x_7 =>
    (ref03_Equal n d0 d1).bind fun x_8 =>
    ((bif (decide (x_4.2 = 0)) then
        (bif (decide (x_5.2 = 0)) then
          (some ((!((decide (x_4.1 = x_5.1)) == x_8))))
        else
          some ((false)))
      else
        some ((false)) : Option Bool)).bind fun y_2 =>
    bif y_2 then
      (some ((false)))
    else
      bif (!(decide (x_6.2 = 0))) then
        ((law05_wakes n).bind fun x_9 =>
        some ((x_9)))
      else
        bif (!(decide (x_7.2 = 0))) then
          ((law05_wakes n).bind fun x_10 =>
          some ((x_10)))
        else
          bif ((decide (x_6.1 = x_7.1)) == x_8) then
            ((law05_wakes n).bind fun x_11 =>
            some ((x_11)))
          else
            some ((false))
set_option maxRecDepth 20000 in
theorem law05_PrintSame_ok (n : Nat) (M : Mem) (hG : GL M) (c0 : List Value) (d0 : TA0) (h0 : Rep M (emb_TA0 d0) c0) (c1 : List Value) (d1 : TA0) (h1 : Rep M (emb_TA0 d1) c1) (r : Bool) (hF : law05_PrintSame n d0 d1 = some r) : Ok Tryd.prog M 4 [.agg c0.toArray, .agg c1.toArray] (fun _ v => v = .bool r) := by
 unfold law05_PrintSame at hF
 intro M1 hM0 w0 H w p0
 replace hG := GL.mono hM0 hG
 replace h0 := Rep.mono hM0 _ _ h0
 replace h1 := Rep.mono hM0 _ _ h1
 obtain ⟨A_1, cap_1, A_2, cap_2, rfl, h_1, h_2⟩ := TA0.opn h0
 obtain ⟨A_3, cap_3, A_4, cap_4, rfl, h_3, h_4⟩ := TA0.opn h1
 refine R_enter 73 Tryd.func4 rfl rfl (by simp) fun a0 f0 => RR (Y12 (cs := #[.int .i8 d0.fKind, .bool d0.fBool, .int .i64 d0.fNum, S d0.fText, .slice A_1 d0.fList.length cap_1, .slice A_2 d0.fKeys.length cap_2]) (T := 26) f0 p0 fun b_1 M_1 w_1 hM_1 hc_1 p_1 _ f => ?_)
 have hc_2 := fz_box hc_1
 refine Y12 (cs := #[.int .i8 d1.fKind, .bool d1.fBool, .int .i64 d1.fNum, S d1.fText, .slice A_3 d1.fList.length cap_3, .slice A_4 d1.fKeys.length cap_4]) (T := 26) f p_1 fun b_2 M_2 w_2 hM_2 hc_3 p_2 _ f => ?_
 have hc_4 := fz_box hc_3
 refine Y f 1 fun _ f => eT (R_seq (R_seq ?_))
 obtain ⟨j_1, hj_1, hF_1⟩ := bS hF
 refine R_mid (fun a_11 w_5 => ∃ y_1 : Bool, j_1 = y_1 ∧ ∃ M_3 : Mem, M_2.le M_3 ∧ Frm 73 [(2, .pointer (some (⟨b_1, 0, none⟩))), (3, .pointer (some (⟨b_2, 0, none⟩))), (19, .bool y_1)] a_11 ∧ Hp w0 M_3 (H) w_5) ?_ ?_
 ·refine R_reg (Z (v := .agg #[.int .i8 d0.fKind, .bool d0.fBool, .int .i64 d0.fNum, S d0.fText, .slice A_1 d0.fList.length cap_1, .slice A_2 d0.fKeys.length cap_2]) f (Y31 (cs := [.int .i8 d0.fKind, .bool d0.fBool, .int .i64 d0.fNum, S d0.fText, .slice A_1 d0.fList.length cap_1, .slice A_2 d0.fKeys.length cap_2]) rfl (ad := ⟨b_1, 0, none⟩) (fun j v h => p_2.cell ((fzu hM_2 hc_2) j v h))) fun _ f => ?_)
  obtain ⟨x_1, hx_1, hF_2⟩ := bS hj_1
  refine Y17 f p_2 (ref03_Great_ok n _ _ d0 (TA0.shutx (x := d0) (h_1.mono (hM_1.trans hM_2)) (h_2.mono (hM_1.trans hM_2))) x_1 hx_1) fun w_3 p_3 _ f => Y f 1 fun _ f => ?_
  rcases cE hF_2 with ⟨h_5, hF_3⟩ | ⟨h_5, hF_4⟩
  ·have f := f.st 16 (cB h_5)
   refine Y f 3 fun _ f => eT ?_
   exact ⟨(true), (sI hF_3).symm, M_2, (mR _), f.kp, p_3⟩
  ·have f := f.st 16 (cB h_5)
   refine Z (v := .agg #[.int .i8 d1.fKind, .bool d1.fBool, .int .i64 d1.fNum, S d1.fText, .slice A_3 d1.fList.length cap_3, .slice A_4 d1.fKeys.length cap_4]) f (Y31 (cs := [.int .i8 d1.fKind, .bool d1.fBool, .int .i64 d1.fNum, S d1.fText, .slice A_3 d1.fList.length cap_3, .slice A_4 d1.fKeys.length cap_4]) rfl (ad := ⟨b_2, 0, none⟩) (fun j v h => p_3.cell (hc_4 j v h))) fun _ f => ?_
   obtain ⟨x_2, hx_2, hF_5⟩ := bS hF_4
   refine Y17 f p_3 (ref03_Great_ok n _ _ d1 (TA0.shutx (x := d1) (h_3.mono (hM_1.trans hM_2)) (h_4.mono (hM_1.trans hM_2))) x_2 hx_2) fun w_4 p_4 _ f => Y f 1 fun _ f => eT ?_
   exact ⟨(x_2), (sI hF_5).symm, M_2, (mR _), f.kp, p_4⟩
 ·rintro a_11 w_5 ⟨y_1, hq_1, M_3, hM_3, f, p_5⟩
  subst j_1
  refine T_n (RcF f hF_1 (fun h_6 hF_6 => ?_) fun h_6 hF_8 => ?_)
  ·refine RR ?_
   obtain ⟨x_3, hx_3, hF_7⟩ := bS hF_6
   refine Y17 f p_5 (law05_wakes_ok n _ (GL.mono ((hM_1.trans hM_2).trans hM_3) hG) x_3 hx_3) fun w_6 p_6 _ f => Y f 1 fun _ f => eT (wp_ret (T_r (E_ret1 f rfl (by kernel_rfl : Vc.look _ 4 = some (.bool x_3)) ?_)))
   obtain rfl := sI hF_7
   exact ⟨_, rfl, M_3, ((hM_1.trans hM_2).trans hM_3), p_6, rfl⟩
  ·refine wp_skip (T_n (RR (Z (v := .agg #[.int .i8 d0.fKind, .bool d0.fBool, .int .i64 d0.fNum, S d0.fText, .slice A_1 d0.fList.length cap_1, .slice A_2 d0.fKeys.length cap_2]) f (Y31 (cs := [.int .i8 d0.fKind, .bool d0.fBool, .int .i64 d0.fNum, S d0.fText, .slice A_1 d0.fList.length cap_1, .slice A_2 d0.fKeys.length cap_2]) rfl (ad := ⟨b_1, 0, none⟩) (fun j v h => p_5.cell ((fzu (hM_2.trans hM_3) hc_2) j v h))) fun _ f => ?_)))
   obtain ⟨x_4, hx_4, hF_9⟩ := bS hF_8
   refine Y17 f p_5 (print_Print_ok n _ (GL.mono ((hM_1.trans hM_2).trans hM_3) hG) _ d0 (TA0.shutx (x := d0) (h_1.mono ((hM_1.trans hM_2).trans hM_3)) (h_2.mono ((hM_1.trans hM_2).trans hM_3))) x_4 hx_4) fun w_7 p_7 _ f => Y f 5 fun _ f => eT (RR (Z (v := .agg #[.int .i8 d1.fKind, .bool d1.fBool, .int .i64 d1.fNum, S d1.fText, .slice A_3 d1.fList.length cap_3, .slice A_4 d1.fKeys.length cap_4]) f (Y31 (cs := [.int .i8 d1.fKind, .bool d1.fBool, .int .i64 d1.fNum, S d1.fText, .slice A_3 d1.fList.length cap_3, .slice A_4 d1.fKeys.length cap_4]) rfl (ad := ⟨b_2, 0, none⟩) (fun j v h => p_7.cell ((fzu hM_3 hc_4) j v h))) fun _ f => ?_))
   obtain ⟨x_5, hx_5, hF_10⟩ := bS hF_9
   refine Y17 f p_7 (print_Print_ok n _ (GL.mono ((hM_1.trans hM_2).trans hM_3) hG) _ d1 (TA0.shutx (x := d1) (h_3.mono ((hM_1.trans hM_2).trans hM_3)) (h_4.mono ((hM_1.trans hM_2).trans hM_3))) x_5 hx_5) fun w_8 p_8 _ f => Y f 5 fun _ f => eT (RR (Z (v := .agg #[.int .i8 d0.fKind, .bool d0.fBool, .int .i64 d0.fNum, S d0.fText, .slice A_1 d0.fList.length cap_1, .slice A_2 d0.fKeys.length cap_2]) f (Y31 (cs := [.int .i8 d0.fKind, .bool d0.fBool, .int .i64 d0.fNum, S d0.fText, .slice A_1 d0.fList.length cap_1, .slice A_2 d0.fKeys.length cap_2]) rfl (ad := ⟨b_1, 0, none⟩) (fun j v h => p_8.cell ((fzu (hM_2.trans hM_3) hc_2) j v h))) fun _ f => ?_))
   obtain ⟨x_6, hx_6, hF_11⟩ := bS hF_10
   refine Y17 f p_8 (print_Broad_ok n _ (GL.mono ((hM_1.trans hM_2).trans hM_3) hG) _ d0 (TA0.shutx (x := d0) (h_1.mono ((hM_1.trans hM_2).trans hM_3)) (h_2.mono ((hM_1.trans hM_2).trans hM_3))) x_6 hx_6) fun w_9 p_9 _ f => Y f 5 fun _ f => eT (RR (Z (v := .agg #[.int .i8 d1.fKind, .bool d1.fBool, .int .i64 d1.fNum, S d1.fText, .slice A_3 d1.fList.length cap_3, .slice A_4 d1.fKeys.length cap_4]) f (Y31 (cs := [.int .i8 d1.fKind, .bool d1.fBool, .int .i64 d1.fNum, S d1.fText, .slice A_3 d1.fList.length cap_3, .slice A_4 d1.fKeys.length cap_4]) rfl (ad := ⟨b_2, 0, none⟩) (fun j v h => p_9.cell ((fzu hM_3 hc_4) j v h))) fun _ f => ?_))
   obtain ⟨x_7, hx_7, hF_12⟩ := bS hF_11
   refine Y17 f p_9 (print_Broad_ok n _ (GL.mono ((hM_1.trans hM_2).trans hM_3) hG) _ d1 (TA0.shutx (x := d1) (h_3.mono ((hM_1.trans hM_2).trans hM_3)) (h_4.mono ((hM_1.trans hM_2).trans hM_3))) x_7 hx_7) fun w_10 p_10 _ f => Y f 5 fun _ f => eT (RR (Z (v := .agg #[.int .i8 d0.fKind, .bool d0.fBool, .int .i64 d0.fNum, S d0.fText, .slice A_1 d0.fList.length cap_1, .slice A_2 d0.fKeys.length cap_2]) f (Y31 (cs := [.int .i8 d0.fKind, .bool d0.fBool, .int .i64 d0.fNum, S d0.fText, .slice A_1 d0.fList.length cap_1, .slice A_2 d0.fKeys.length cap_2]) rfl (ad := ⟨b_1, 0, none⟩) (fun j v h => p_10.cell ((fzu (hM_2.trans hM_3) hc_2) j v h))) fun _ f => Z (v := .agg #[.int .i8 d1.fKind, .bool d1.fBool, .int .i64 d1.fNum, S d1.fText, .slice A_3 d1.fList.length cap_3, .slice A_4 d1.fKeys.length cap_4]) f (Y31 (cs := [.int .i8 d1.fKind, .bool d1.fBool, .int .i64 d1.fNum, S d1.fText, .slice A_3 d1.fList.length cap_3, .slice A_4 d1.fKeys.length cap_4]) rfl (ad := ⟨b_2, 0, none⟩) (fun j v h => p_10.cell ((fzu hM_3 hc_4) j v h))) fun _ f => ?_))
   obtain ⟨x_8, hx_8, hF_13⟩ := bS hF_12
   refine Y17 f p_10 (ref03_Equal_ok n _ _ d0 (TA0.shutx (x := d0) (h_1.mono ((hM_1.trans hM_2).trans hM_3)) (h_2.mono ((hM_1.trans hM_2).trans hM_3))) _ d1 (TA0.shutx (x := d1) (h_3.mono ((hM_1.trans hM_2).trans hM_3)) (h_4.mono ((hM_1.trans hM_2).trans hM_3))) x_8 hx_8) fun w_11 p_11 _ f => Y f 1 fun _ f => eT (R_seq (R_seq ?_))
   obtain ⟨j_2, hj_2, hF_14⟩ := bS hF_13
   refine R_mid (fun a_37 w_12 => ∃ y_2 : Bool, j_2 = y_2 ∧ ∃ M_4 : Mem, M_3.le M_4 ∧ Frm 73 [(9, S x_6.1), (10, .int .i64 x_6.2), (11, S x_7.1), (12, .int .i64 x_7.2), (13, .bool x_8), (56, .bool y_2)] a_37 ∧ Hp w0 M_4 (H) w_12) ?_ ?_
   ·refine R_reg (Y f 3 fun _ f => ?_)
    rcases cE hj_2 with ⟨h_7, hF_15⟩ | ⟨h_7, hF_18⟩
    ·have k_5 := dI.1 h_7
     have f := f.st 46 (cB h_7)
     refine Y f 4 fun _ f => ?_
     rcases cE hF_15 with ⟨h_8, hF_16⟩ | ⟨h_8, hF_17⟩
     ·have k_6 := dI.1 h_8
      have f := f.st 50 (cB h_8)
      refine Y f 2 fun _ f => Z f (Y37 rfl (l := x_4.1) (m := x_5.1)) fun _ f => Y f 3 fun _ f => eT ?_
      exact ⟨(!((decide (x_4.1 = x_5.1)) == x_8)), (sI hF_16).symm, M_3, (mR _), f.kp, p_11⟩
     ·have k_7 := iff_f dI h_8
      have f := f.st 50 (cB h_8)
      refine Y f 6 fun _ f => eT ?_
      exact ⟨(false), (sI hF_17).symm, M_3, (mR _), f.kp, p_11⟩
    ·have k_8 := iff_f dI h_7
     have f := f.st 46 (cB h_7)
     refine Y f 10 fun _ f => eT ?_
     exact ⟨(false), (sI hF_18).symm, M_3, (mR _), f.kp, p_11⟩
   ·rintro a_37 w_12 ⟨y_2, hq_2, M_4, hM_4, f, p_12⟩
    subst j_2
    refine T_n (RcF f hF_14 (fun h_9 hF_19 => ?_) fun h_9 hF_20 => ?_)
    ·refine RR (Y f 1 fun _ f => eT (wp_ret (T_r (E_ret1 f rfl (by kernel_rfl : Vc.look _ 4 = some (.bool false)) ?_))))
     obtain rfl := sI hF_19
     exact ⟨_, rfl, M_4, (((hM_1.trans hM_2).trans hM_3).trans hM_4), p_12, rfl⟩
    ·refine wp_skip (T_n (RR (Y f 3 fun _ f => ?_)))
     rcases cE hF_20 with ⟨h_10, hF_21⟩ | ⟨h_10, hF_23⟩
     ·have k_11 : ¬ (x_6.2 = 0) := (not_iff dI).1 h_10
      have f := f.st 59 (cB h_10)
      refine Y f 11 fun _ f => ?_
      obtain ⟨x_9, hx_9, hF_22⟩ := bS hF_21
      refine Y17 f p_12 (law05_wakes_ok n _ (GL.mono (((hM_1.trans hM_2).trans hM_3).trans hM_4) hG) x_9 hx_9) fun w_13 p_13 _ f => Y f 2 fun _ f => eT (wp_ret (E_ret1 f rfl (by kernel_rfl : Vc.look _ 4 = some (.bool x_9)) ?_))
      obtain rfl := sI hF_22
      exact ⟨_, rfl, M_4, (((hM_1.trans hM_2).trans hM_3).trans hM_4), p_13, rfl⟩
     ·have k_12 : ¬ (¬ (x_6.2 = 0)) := iff_f (not_iff dI) h_10
      have f := f.st 59 (cB h_10)
      refine Y f 4 fun _ f => ?_
      rcases cE hF_23 with ⟨h_11, hF_24⟩ | ⟨h_11, hF_26⟩
      ·have k_13 : ¬ (x_7.2 = 0) := (not_iff dI).1 h_11
       have f := f.st 63 (cB h_11)
       refine Y f 7 fun _ f => ?_
       obtain ⟨x_10, hx_10, hF_25⟩ := bS hF_24
       refine Y17 f p_12 (law05_wakes_ok n _ (GL.mono (((hM_1.trans hM_2).trans hM_3).trans hM_4) hG) x_10 hx_10) fun w_14 p_14 _ f => Y f 2 fun _ f => eT (wp_ret (E_ret1 f rfl (by kernel_rfl : Vc.look _ 4 = some (.bool x_10)) ?_))
       obtain rfl := sI hF_25
       exact ⟨_, rfl, M_4, (((hM_1.trans hM_2).trans hM_3).trans hM_4), p_14, rfl⟩
      ·have k_14 : ¬ (¬ (x_7.2 = 0)) := iff_f (not_iff dI) h_11
       have f := f.st 63 (cB h_11)
       refine Y f 2 fun _ f => Z f (Y37 rfl (l := x_6.1) (m := x_7.1)) fun _ f => Y f 4 fun _ f => ?_
       rcases cE hF_26 with ⟨h_12, hF_27⟩ | ⟨h_12, hF_29⟩
       ·have f := f.st 70 (cB h_12)
        obtain ⟨x_11, hx_11, hF_28⟩ := bS hF_27
        refine Y17 f p_12 (law05_wakes_ok n _ (GL.mono (((hM_1.trans hM_2).trans hM_3).trans hM_4) hG) x_11 hx_11) fun w_15 p_15 _ f => Y f 2 fun _ f => eT (wp_ret (E_ret1 f rfl (by kernel_rfl : Vc.look _ 4 = some (.bool x_11)) ?_))
        obtain rfl := sI hF_28
        exact ⟨_, rfl, M_4, (((hM_1.trans hM_2).trans hM_3).trans hM_4), p_15, rfl⟩
       ·have f := f.st 70 (cB h_12)
        refine Y f 3 fun _ f => eT (wp_ret (E_ret1 f rfl (by kernel_rfl : Vc.look _ 4 = some (.bool false)) ?_))
        obtain rfl := sI hF_29
        exact ⟨_, rfl, M_4, (((hM_1.trans hM_2).trans hM_3).trans hM_4), p_12, rfl⟩
def posP (p : KV) : List KV → Nat
  | [] => 0
  | q :: r => bif leK p q then 0 else posP p r + 1
theorem posP_le (p : KV) : ∀ l, posP p l ≤ l.length
 | [] => Nat.le_refl _
 | q :: r => by
  have := posP_le p r
  rw [posP, List.length_cons]
  cases leK p q with
  | true => rw [cT]; omega
  | false => rw [cF]; omega
theorem posP_lt (p : KV) : ∀ (l : List KV) (i : Nat) (h : i < l.length), i < posP p l → leK p l[i] = false
 | q :: r, i, h, hi => by
  rw [posP] at hi
  cases hq : leK p q with
  | true => rw [hq, cT] at hi; omega
  | false =>
   rw [hq, cF] at hi
   cases i with
   | zero => exact hq
   | succ i => exact posP_lt p r i (by rw [List.length_cons] at h; omega) (by omega)
theorem posP_at (p : KV) : ∀ (l : List KV) (h : posP p l < l.length), leK p l[posP p l] = true
 | q :: r, h => by
  cases hq : leK p q with
  | true =>
   have e : posP p (q :: r) = 0 := by rw [posP, hq, cT]
   simp only [e]
   exact hq
  | false =>
   have e : posP p (q :: r) = posP p r + 1 := by rw [posP, hq, cF]
   simp only [e] at h ⊢
   rw [List.length_cons] at h
   exact posP_at p r (by omega)
theorem insP_pos (p : KV) : ∀ l, insP p l = l.take (posP p l) ++ p :: l.drop (posP p l)
 | [] => rfl
 | q :: r => by
  rw [insP, posP]
  cases leK p q with
  | true => rw [cT, cT]; rfl
  | false => rw [cF, cF, insP_pos p r]; rfl
def foldKV (l : List KV) : List KV := l.foldl (fun acc p => insP p acc) []
theorem foldKV_snoc (l : List KV) (p : KV) : foldKV (l ++ [p]) = insP p (foldKV l) := by unfold foldKV; rw [List.foldl_append]; rfl
theorem foldKV_perm_gen : ∀ (l acc : List KV), (l.foldl (fun acc p => insP p acc) acc).Perm (l ++ acc)
 | [], acc => List.Perm.refl _
 | p :: r, acc => by
  rw [List.foldl_cons]
  refine (foldKV_perm_gen r _).trans ?_
  refine ((insP_perm p acc).append_left r).trans ?_
  exact List.perm_middle
theorem foldKV_sorted_gen : ∀ (l acc : List KV), acc.Pairwise (fun a b => leK a b = true) → (l.foldl (fun acc p => insP p acc) acc).Pairwise (fun a b => leK a b = true)
 | [], acc, h => h
 | p :: r, acc, h => foldKV_sorted_gen r _ (insP_sorted p acc h)
theorem foldKV_eq {l : List KV} (hn : (l.map (·.1)).Nodup) : foldKV l = isortP l := by
 refine sorted_one hn ?_ (foldKV_sorted_gen l [] List.Pairwise.nil)
 have := foldKV_perm_gen l []
 rwa [List.append_nil] at this
theorem foldKV_len (l : List KV) : (foldKV l).length = l.length := by
 have := (foldKV_perm_gen l []).length_eq
 rwa [List.append_nil] at this
theorem sorted_ref {n : Nat} (hn : 6000 < n) : ∀ (k d : Nat) (v : TA0), d ≤ k → Small d v → OkV v → ref03_sorted_k n k v = some (sortV v)
 | _, 0, v, _, h, _ => h.elim
 | 0, d + 1, v, h, _, _ => absurd h (by omega)
 | k + 1, d + 1, v, hk, hs, hok => by
  obtain ⟨h1, h2, h3, h4, h5⟩ := hs
  obtain ⟨ha, hl⟩ := OkV_iff.1 hok
  obtain ⟨hp, _, _, hnd⟩ := alone_ok ha
  show ref03_sorted_b n (ref03_sorted_k n k) v = _
  unfold ref03_sorted_b
  have ih : ∀ x ∈ v.fList, ref03_sorted_k n k x = some (sortV x) := fun x hx => sorted_ref hn k d x (by omega) (h5 x hx) (hl x hx)
  have ev : ∀ x : TA0, (⟨x.fKind, (x.fBool), x.fNum, x.fText, x.fList, x.fKeys⟩ : TA0) = x := fun x => by cases x; rfl
  by_cases hkind : v.fKind = 5
  ·have hkl : v.fKeys.length = v.fList.length := hp.2.2.2.2.2.2.1 hkind
   obtain ⟨ps, hps⟩ : ∃ ps : List KV, ps = v.fKeys.zip (v.fList.map sortV) := ⟨_, rfl⟩
   have hpl : ps.length = v.fList.length := by rw [hps]; simp [hkl]
   have := loop_all (step := ref03_sorted_s1 n (ref03_sorted_k n k) v) (n := n) (fun q => ((q : Int), (foldKV (ps.take q)).map (·.2), (foldKV (ps.take q)).map (·.1))) v.fList.length ((foldKV ps).map (·.2), (foldKV ps).map (·.1)) (fun q hq => by
    have hx : v.fList[q]? = some v.fList[q] := List.getElem?_eq_getElem hq
    have hg : getI v.fList (q : Int) = some v.fList[q] := by simp [getI]
    have hgk : getI v.fKeys (q : Int) = some (v.fKeys.getD q []) := getI_at [] (by omega)
    have hpq : ps[q]? = some (v.fKeys.getD q [], sortV v.fList[q]) := by
     rw [hps]
     simp [List.getElem?_zip_eq_some, hx, List.getD, (by omega : q < v.fKeys.length)]
    obtain ⟨p, hpe⟩ : ∃ p : KV, p = (v.fKeys.getD q [], sortV v.fList[q]) := ⟨_, rfl⟩
    rw [← hpe] at hpq
    have hp1 : v.fKeys.getD q [] = p.1 := by rw [hpe]
    have hp2 : sortV v.fList[q] = p.2 := by rw [hpe]
    have hfold : foldKV (ps.take (q + 1)) = insP p (foldKV (ps.take q)) := by rw [List.take_add_one, hpq]; exact foldKV_snoc _ _
    have hfl : (foldKV (ps.take q)).length = q := by rw [foldKV_len]; simp; omega
    rw [hp1] at hgk
    unfold ref03_sorted_s1
    dsimp only
    rw [decide_eq_true (by omega), cT, hg, bnd, ih _ (List.getElem_mem hq), bnd, decide_eq_false (by omega), cF, hfold]
    generalize foldKV (ps.take q) = L at hfl ⊢
    have hpos := posP_le p L
    have hin := loop_all (step := ref03_sorted_s2 n v ((q : Int), L.map (·.2), L.map (·.1))) (n := n) (fun i => (i : Int)) (posP p L) ((posP p L : Nat) : Int) (fun i hi => by
     unfold ref03_sorted_s2
     dsimp only
     have hgi : getI (L.map (·.1)) (i : Int) = some (L[i]'(by omega)).1 := by simp [getI, (by omega : i < L.length)]
     have := posP_lt p L i (by omega) hi
     have hless : Op.bytesLess (L[i]'(by omega)).1 p.1 = true := by
      rw [less_cb]
      unfold leK at this
      simpa using this
     rw [decide_eq_true (by rw [List.length_map]; omega), cT, hgi, bnd, hgk, bnd, hless, cT, need_i (by omega) (by omega)]
     rfl) (by
     unfold ref03_sorted_s2
     dsimp only
     by_cases he : posP p L = L.length
     ·rw [decide_eq_false (by rw [List.length_map]; omega), cF]
     ·have hlt : posP p L < L.length := by omega
      have hgi : getI (L.map (·.1)) ((posP p L : Nat) : Int) = some (L[posP p L]).1 := by simp [getI, hlt]
      have := posP_at p L hlt
      have hless : Op.bytesLess (L[posP p L]).1 p.1 = false := by
       rw [less_cb]
       unfold leK at this
       simpa using this
      rw [decide_eq_true (by rw [List.length_map]; omega), cT, hgi, bnd, hgk, bnd, hless, cF]) (by omega)
    have e0 : ((0 : Nat) : Int) = 0 := rfl
    rw [e0] at hin
    have hL1 : (L.map (·.1)).length = q := by rw [List.length_map, hfl]
    have hL2 : (L.map (·.2)).length = q := by rw [List.length_map, hfl]
    rw [hin, bnd, hL1, hL2, Int.toNat_natCast]
    rw [need_t ⟨by omega, by omega⟩, need_t (by simp; omega), need_t ⟨by omega, by omega⟩, need_t (by simp; omega), hgk, bnd, need_t ⟨by omega, by omega⟩, need_t (by simp; omega), need_t (by simp; omega), bnd, need_t ⟨by omega, by omega⟩, need_t (by simp; omega), need_t (by simp; omega), bnd, need_i (by omega) (by omega), ev, hp2, insP_pos]
    congr 3
    ·simp [List.map_take, List.map_drop, List.take_of_length_le, hfl]
    ) (by
    unfold ref03_sorted_s1
    dsimp only
    rw [decide_eq_false (by omega), cF, List.take_of_length_le (by omega)]) (by omega)
   have e0 : ((0 : Nat) : Int) = 0 := rfl
   have e1 : foldKV [] = [] := rfl
   simp only [List.take_zero, e1, List.map_nil, e0] at this
   rw [this, bnd, sortV_5 hkind]
   have hkeys : ps.map (·.1) = v.fKeys := by rw [hps]; exact List.map_fst_zip (by simp [hkl])
   have e : foldKV ps = pairsV v := by
    rw [foldKV_eq (by rw [hkeys]; exact hnd), hps]; rfl
   rw [e]
  ·have hkeys : v.fKeys = [] := by
    have := hp.2.2.2.2.2.2.2 hkind
    simpa using this
   by_cases h4k : v.fKind = 4
   ·have := loop_all (step := ref03_sorted_s1 n (ref03_sorted_k n k) v) (n := n) (fun q => ((q : Int), (v.fList.take q).map sortV, ([] : List (List UInt8)))) v.fList.length (v.fList.map sortV, []) (fun q hq => by
     have hx : v.fList[q]? = some v.fList[q] := List.getElem?_eq_getElem hq
     have hg : getI v.fList (q : Int) = some v.fList[q] := by simp [getI]
     unfold ref03_sorted_s1
     dsimp only
     rw [decide_eq_true (by omega), cT, hg, bnd, ih _ (List.getElem_mem hq), bnd, decide_eq_true h4k, cT, need_t (by simp; omega), need_i (by omega) (by omega), ev, map_take_succ sortV hx]
     rfl) (by
     unfold ref03_sorted_s1
     dsimp only
     rw [decide_eq_false (by omega), cF, List.take_length]) (by omega)
    have e0 : ((0 : Nat) : Int) = 0 := rfl
    simp only [List.take_zero, List.map_nil, e0] at this
    rw [this, bnd, sortV_n hkind]
   ·have hl0 : v.fList = [] := by
     by_cases h0 : v.fList.length = 0
     ·simpa using h0
     ·have := hp.2.2.2.2.2.1 h0
      omega
    obtain ⟨m, rfl⟩ : ∃ m, n = m + 1 := ⟨n - 1, by omega⟩
    have : loopF (ref03_sorted_s1 (m + 1) (ref03_sorted_k (m + 1) k) v) (m + 1) ((0 : Int), ([] : List TA0), ([] : List (List UInt8))) = some ([], []) := by
     unfold loopF ref03_sorted_s1
     dsimp only
     rw [hl0, decide_eq_false (by simp), cF, bnd]
    rw [this, bnd, sortV_n hkind, hl0]
    rfl
theorem compare_ref {n : Nat} (hn : 6000 < n) : ∀ (k d : Nat) (v w : TA0), d ≤ k → Small d v → OkV v → OkV w → ref03_compare_k n k v w = some (cmpV v w)
 | _, 0, v, _, _, h, _, _ => h.elim
 | 0, d + 1, v, _, h, _, _, _ => absurd h (by omega)
 | k + 1, d + 1, v, w, hk, hs, hok, how => by
  have ih : ∀ x ∈ v.fList, ∀ y ∈ w.fList, ref03_compare_k n k x y = some (cmpV x y) := fun x hx y hy => compare_ref hn k d x y (by omega) (hs.2.2.2.2 x hx) (hok.part hx) (how.part hy)
  have hv := hs.1
  show ref03_compare_b n (ref03_compare_k n k) v w = _
  unfold ref03_compare_b
  rw [cmpV_eq]
  by_cases hA : v.fKind = w.fKind
  ·rw [decide_eq_true hA, Bool.not_true, cF, ← hA, cmpI_self, thenC0]
   by_cases hB : v.fBool = w.fBool
   ·rw [hB, beq_self_eq_true, Bool.not_true, cF, cmpI_self, thenC0]
    by_cases hC : v.fNum = w.fNum
    ·rw [decide_eq_true hC, Bool.not_true, cF, ← hC, cmpI_self, thenC0]
     by_cases hD : v.fText = w.fText
     ·rw [decide_eq_true hD, Bool.not_true, cF, ← hD, cb_self, thenC0]
      have hkl : v.fKind = 5 → v.fKeys.length = v.fList.length ∧ w.fKeys.length = w.fList.length := fun h => ⟨plain_len hok.plain h, plain_len how.plain (by rw [← hA]; exact h)⟩
      obtain ⟨b, hb, hp⟩ := loop_inv (step := ref03_compare_s1 n (ref03_compare_k n k) v w) (n := n) (s0 := (0 : Int)) (fun q s => s = (q : Int) ∧ cmpVs (decide (v.fKind = 5)) v.fList v.fKeys w.fList w.fKeys = cmpVs (decide (v.fKind = 5)) (v.fList.drop q) (v.fKeys.drop q) (w.fList.drop q) (w.fKeys.drop q))
       (fun b => match b with | .inl c => cmpVs (decide (v.fKind = 5)) v.fList v.fKeys w.fList w.fKeys = c | .inr _ => cmpVs (decide (v.fKind = 5)) v.fList v.fKeys w.fList w.fKeys = cmpI (v.fList.length : Int) (w.fList.length : Int)) (min v.fList.length w.fList.length) ⟨rfl, by simp only [List.drop_zero]⟩ (fun q s hq hI => by
        obtain ⟨rfl, hI⟩ := hI
        have h1 : q < v.fList.length := by omega
        have h2 : q < w.fList.length := by omega
        rw [cmpVs_drop _ h1 h2] at hI
        have hg1 : getI v.fList (q : Int) = some v.fList[q] := by simp [getI]
        have hg2 : getI w.fList (q : Int) = some w.fList[q] := by simp [getI]
        unfold ref03_compare_s1
        rw [decide_eq_true (by omega), cT, decide_eq_true (by omega), bnd, cT]
        by_cases hkind : v.fKind = 5
        ·obtain ⟨k1, k2⟩ := hkl hkind
         rw [decide_eq_true hkind, cT] at hI
         rw [decide_eq_true hkind, cT, getI_at [] (by omega), bnd, getI_at [] (by omega), bnd, bnd]
         by_cases hc : v.fKeys.getD q [] = w.fKeys.getD q []
         ·rw [decide_eq_true hc, Bool.not_true, cF, hg1, bnd, hg2, bnd, ih _ (List.getElem_mem h1) _ (List.getElem_mem h2), bnd]
          rw [hc, cb_self, thenC0] at hI
          by_cases he : cmpV v.fList[q] w.fList[q] = 0
          ·rw [decide_eq_true he, Bool.not_true, cF, need_i (by omega) (by omega)]
           rw [he, thenC0] at hI
           exact .inl ⟨_, rfl, by omega, hI⟩
          ·rw [decide_eq_false he, Bool.not_false, cT]
           rw [thenCn _ he] at hI
           exact .inr ⟨_, rfl, hI⟩
         ·rw [decide_eq_false hc, Bool.not_false, cT, bnd, bnd, less_cb]
          have hne : Lib.compareBytes (v.fKeys.getD q []) (w.fKeys.getD q []) ≠ 0 := fun e => hc (cb_eq _ _ e)
          have hrange := cb_range (v.fKeys.getD q []) (w.fKeys.getD q [])
          rw [thenCn _ hne] at hI
          by_cases hl : Lib.compareBytes (v.fKeys.getD q []) (w.fKeys.getD q []) < 0
          ·rw [decide_eq_true hl, cT]
           refine .inr ⟨_, rfl, ?_⟩
           dsimp only
           omega
          ·rw [decide_eq_false hl, cF]
           refine .inr ⟨_, rfl, ?_⟩
           dsimp only
           omega
        ·rw [decide_eq_false hkind, cF] at hI
         rw [decide_eq_false hkind, cF, bnd, cF, hg1, bnd, hg2, bnd, ih _ (List.getElem_mem h1) _ (List.getElem_mem h2), bnd]
         rw [thenC0] at hI
         by_cases he : cmpV v.fList[q] w.fList[q] = 0
         ·rw [decide_eq_true he, Bool.not_true, cF, need_i (by omega) (by omega)]
          rw [he, thenC0] at hI
          exact .inl ⟨_, rfl, by omega, hI⟩
         ·rw [decide_eq_false he, Bool.not_false, cT]
          rw [thenCn _ he] at hI
          exact .inr ⟨_, rfl, hI⟩) (fun s hI => by
        obtain ⟨rfl, hI⟩ := hI
        refine ⟨.inr (), ?_, ?_⟩
        ·unfold ref03_compare_s1
         by_cases hvl : v.fList.length ≤ w.fList.length
         ·rw [decide_eq_false (by omega), cF, bnd, cF]
         ·rw [decide_eq_true (by omega), cT, decide_eq_false (by omega), bnd, cF]
        ·dsimp only
         rw [hI, cmpVs_end _ rfl]) (by omega)
      rw [hb, bnd]
      cases b with
      | inl c => dsimp only at hp ⊢; rw [hp]
      | inr u =>
       dsimp only at hp ⊢
       rw [hp]
       have hcc := cmpI_cases (v.fList.length : Int) (w.fList.length : Int)
       by_cases h1 : (v.fList.length : Int) = (w.fList.length : Int)
       ·rw [decide_eq_true h1, Bool.not_true, cF]
        congr 1
        omega
       ·rw [decide_eq_false h1, Bool.not_false, cT]
        by_cases h2 : (v.fList.length : Int) < (w.fList.length : Int)
        ·rw [decide_eq_true h2, cT]
         congr 1
         omega
        ·rw [decide_eq_false h2, cF]
         congr 1
         omega
     ·rw [decide_eq_false hD, Bool.not_false, cT, less_cb]
      have hne : Lib.compareBytes v.fText w.fText ≠ 0 := fun e => hD (cb_eq _ _ e)
      have hrange := cb_range v.fText w.fText
      rw [thenCn _ hne]
      by_cases hl : Lib.compareBytes v.fText w.fText < 0
      ·rw [decide_eq_true hl, cT]
       congr 1
       omega
      ·rw [decide_eq_false hl, cF]
       congr 1
       omega
    ·have hcc := cmpI_cases v.fNum w.fNum
     rw [decide_eq_false hC, Bool.not_false, cT, thenCn _ (by omega)]
     by_cases hl : v.fNum < w.fNum
     ·rw [decide_eq_true hl, cT]
      congr 1
      omega
     ·rw [decide_eq_false hl, cF]
      congr 1
      omega
   ·have hbe : (v.fBool == w.fBool) = false := by simpa using hB
    rw [hbe, Bool.not_false, cT]
    cases hv1 : v.fBool <;> cases hw1 : w.fBool
    ·rw [hv1, hw1] at hB; exact absurd rfl hB
    ·rfl
    ·rfl
    ·rw [hv1, hw1] at hB; exact absurd rfl hB
  ·have hcc := cmpI_cases v.fKind w.fKind
   rw [decide_eq_false hA, Bool.not_false, cT, thenCn _ (by omega)]
   by_cases hl : v.fKind < w.fKind
   ·rw [decide_eq_true hl, cT]
    congr 1
    omega
   ·rw [decide_eq_false hl, cF]
    congr 1
    omega
theorem sortedT_ref {n : Nat} (hn : 6000 < n) {v : TA0} (h : Fine v) (hok : OkV v) : ref03_sorted n v = some (sortV v) := sorted_ref hn n 60 v (by omega) h.small hok
theorem compareT_ref {n : Nat} (hn : 6000 < n) {v w : TA0} (h : Fine v) (hok : OkV v) (how : OkV w) : ref03_compare n v w = some (cmpV v w) := compare_ref hn n 60 v w (by omega) h.small hok how
theorem Equal_ref {n : Nat} (hn : 6000 < n) {v w : TA0} (h : Fine v) (h' : Fine w) : ref03_Equal n v w = some (eqV v w) := by
 unfold ref03_Equal eqV
 rw [check_ref hn h, bnd]
 by_cases a : checkV v = 0
 ·rw [decide_eq_true a, cT, check_ref hn h', bnd]
  by_cases b : checkV w = 0
  ·have oa := (checkV_ok a).1
   have ob := (checkV_ok b).1
   rw [decide_eq_true b, cT, sortedT_ref hn h oa, bnd, sortedT_ref hn h' ob, bnd, compareT_ref hn (h.sort oa) oa.sort ob.sort, bnd]; rfl
  ·rw [decide_eq_false b, cF]; rfl
 ·rw [decide_eq_false a, cF]; rfl
end Go.Proofs.YtfaedhhjamaniaaDoor
end

section
namespace Go.Proofs.YtfaedhhjamaniaaDoor
open Go Go.Vc
theorem alike5 {br : Bool} {v w : TA0} (h : (printV br v).2 = 0) (h' : (printV br w).2 = 0) : (decide ((printV br v).1 = (printV br w).1) == eqV v w) = true := by
 obtain ⟨c1, e1, -⟩ := printV_ok h
 obtain ⟨c2, e2, -⟩ := printV_ok h'
 have k1 := (checkV_ok c1).1
 have k2 := (checkV_ok c2).1
 have h1 := text_one (br := br) (d := 0) k1.sort k2.sort
 have h2 : cmpV (sortV v) (sortV w) = 0 ↔ sortV v = sortV w := ⟨fun e => cmp_same _ (Nat.lt_succ_self _) k1.sort k2.sort e, fun e => by rw [e]; exact cmpV_self _⟩
 rw [e1, e2]
 unfold eqV
 rw [decide_eq_true c1, decide_eq_true c2, Bool.true_and, Bool.true_and, beq_iff_eq, decide_eq_decide, h1, h2]
theorem same_law5 (v w : TA0) : law05_PrintSame 10000 v w = some true := by
 have hn : 6000 < 10000 := by decide
 obtain ⟨g, h1, h2⟩ := great_fine hn v
 obtain ⟨g', h1', h2'⟩ := great_fine hn w
 unfold law05_PrintSame
 rw [h1, bnd]
 cases g with
 | true => simp only [cT, bnd, wakes5]
 | false =>
  simp only [cF, bnd, h1']
  cases g' with
  | true => simp only [cT, bnd, wakes5]
  | false =>
   obtain ⟨hf, -, -⟩ := h2 rfl
   obtain ⟨hf', -, -⟩ := h2' rfl
   simp only [cF, Print_run hn hf, Print_run hn hf', Broad_run hn hf, Broad_run hn hf', Equal_ref hn hf hf', bnd, wakes5]
   have hA : (bif decide ((printV false v).2 = 0) then (bif decide ((printV false w).2 = 0) then some (!(decide ((printV false v).1 = (printV false w).1) == eqV v w)) else some false) else some false) = some false := by
    by_cases a1 : (printV false v).2 = 0
    ·rw [decide_eq_true a1, cT]
     by_cases a2 : (printV false w).2 = 0
     ·rw [decide_eq_true a2, cT, alike5 a1 a2]; rfl
     ·rw [decide_eq_false a2, cF]
    ·rw [decide_eq_false a1, cF]
   rw [hA, bnd, cF]
   by_cases b1 : (printV true v).2 = 0
   ·rw [decide_eq_true b1, Bool.not_true, cF]
    by_cases b2 : (printV true w).2 = 0
    ·rw [decide_eq_true b2, Bool.not_true, cF, alike5 b1 b2, cT]
    ·rw [decide_eq_false b2, Bool.not_false, cT]
   ·rw [decide_eq_false b1, Bool.not_false, cT]
end Go.Proofs.YtfaedhhjamaniaaDoor
end

section
namespace Go.Vc
open Go
mutual
def dsz : Dat → Nat
  | .int _ _ => 1
  | .bool _ => 1
  | .str l => l.length + 1
  | .list _ ds => dszs ds + 1
  | .struct ds => dszs ds + 1
def dszs : List Dat → Nat
  | [] => 0
  | d :: ds => dsz d + dszs ds
end
theorem dszs_app : ∀ (a b : List Dat), dszs (a ++ b) = dszs a + dszs b
 | [], b => by simp [dszs]
 | d :: a, b => by simp only [List.cons_append, dszs, dszs_app a b]; omega
theorem le_sum : ∀ {l : List Nat} {x : Nat}, x ∈ l → x ≤ l.sum
 | y :: l, x, h => by
  rcases List.mem_cons.1 h with rfl | h
  ·simp
  ·have := le_sum h; simp only [List.sum_cons]; omega
section
variable {H : Type}
structure BulkOk (B : DataW H → Nat) : Prop where
  one : ∀ d, 1 ≤ B d
  str : ∀ l, B (.lit (.string l)) = l.length + 1
  slice : ∀ e s, (e.map B).sum + 1 ≤ B (.slice e s)
  agg : ∀ e, (e.map B).sum + 1 ≤ B (.agg e)
variable {enc : TypeId × Value → H} {P : Program} {w : World} {t : TypeId} {α : Type} {f : α → Dat} {m : Nat} {B : DataW H → Nat}
def OpnAt (enc : TypeId × Value → H) (P : Program) (w : World) (t : TypeId) {α : Type} (f : α → Dat) (B : DataW H → Nat) (m : Nat) : Prop :=
  ∀ cs x, DataW.trod enc P w 0 (fun _ => true) true m t cs = some x → ∃ a, Rep (Mem.of w) (f a) cs ∧ Vld (f a) ∧ dsz (f a) ≤ B x.1
theorem OpnAt.zero : OpnAt enc P w t f B 0 := fun cs x h => by simp [DataW.trod] at h
theorem opa_int {k : IntKind} (hB : BulkOk B) (ht : P.underlying t = some (.int k)) : OpnAt enc P w t (Dat.int k) B m := fun cs x h => by
 obtain ⟨a, rfl, _, hw⟩ := DataW.trod_int ht h
 exact ⟨a, rfl, hw, hB.one _⟩
theorem opa_bool (hB : BulkOk B) (ht : P.underlying t = some .bool) : OpnAt enc P w t Dat.bool B m := fun cs x h => by
 obtain ⟨a, rfl, _⟩ := DataW.trod_bool ht h
 exact ⟨a, rfl, trivial, hB.one _⟩
theorem opa_str (hB : BulkOk B) (ht : P.underlying t = some .string) : OpnAt enc P w t Dat.str B m := fun cs x h => by
 obtain ⟨s, rfl, hx, hw⟩ := DataW.trod_string ht h
 refine ⟨s.data.toList, (by show [Value.string s] = _; rw [S_eta]), by show s.data.toList.length ≤ maxLen; simpa using hw, ?_⟩
 rw [hx]
 show s.data.toList.length + 1 ≤ B (.lit (.string s.data.toList))
 rw [hB.str]
 exact Nat.le_refl _
theorem opa_slice {e : TypeId} {sz : Nat} (hB : BulkOk B) (ht : P.underlying t = some (.slice e)) (hsz : P.cellsOf e = sz) (h : OpnAt enc P w e f B m) : OpnAt enc P w t (eL sz f) B (m + 1) := fun cs x hx => by
 rcases DataW.trod_slice ht hx with ⟨rfl, hx⟩ | ⟨ad, len, cap, elems, rest, n', hn', rfl, hxe, _, hlc, hcm, hel, hat, _⟩
 ·refine ⟨[], Sli.rep (Sli.nil (sz := sz) (f := f)), by simp [Vld, eL, VldAll], ?_⟩
  have := hB.one x.1
  simpa [eL, dsz, dszs] using this
 ·obtain rfl : n' = m := by omega
  have key : ∀ k, k ≤ len → ∃ xs : List α, xs.length = k ∧ RepArr (Mem.of w) sz (xs.map f) ad ∧ (∀ x ∈ xs, Vld (f x)) ∧ dszs (xs.map f) ≤ ((elems.take k).map fun x => B x.1).sum := by
   intro k
   induction k with
   | zero => intro _; exact ⟨[], rfl, trivial, fun x hx => (by cases hx), by simp [dszs]⟩
   | succ k ih =>
    intro hk
    obtain ⟨xs, h1, h2, h3, h3b⟩ := ih (by omega)
    have hk' : k < elems.length := by omega
    have := hat k (by omega)
    rw [List.getElem?_eq_getElem hk'] at this
    obtain ⟨cs', g1, g2⟩ := Option.bind_eq_some_iff.1 this
    obtain ⟨a, g3, g4, g4b⟩ := h cs' _ g2
    obtain ⟨g5, g6⟩ := cells_of g1
    rw [hsz] at g5 g6
    refine ⟨xs ++ [a], by simp [h1], ?_, fun x hx => ?_, ?_⟩
    ·rw [List.map_append]
     have app : ∀ (ds : List Dat) (ad : Addr), RepArr (Mem.of w) sz ds ad → RepArr (Mem.of w) sz [f a] (ad.add (ds.length * sz)) → RepArr (Mem.of w) sz (ds ++ [f a]) ad := by
      intro ds
      induction ds with
      | nil => intro ad _ hh; simpa [Addr.add] using hh
      | cons d ds ih =>
       intro ad h1 h2
       refine ⟨h1.1, ih _ h1.2 ?_⟩
       rw [add_of_add]
       rw [List.length_cons, show (ds.length + 1) * sz = sz + ds.length * sz by rw [Nat.add_mul]; omega] at h2
       exact h2
     refine app _ _ h2 ⟨⟨cs', g5, g3, ?_⟩, trivial⟩
     rw [List.length_map, h1]
     exact g6
    ·rcases List.mem_append.1 hx with hx | hx
     ·exact h3 x hx
     ·simp at hx; subst hx; exact g4
    ·rw [List.map_append, dszs_app, List.take_add_one, List.getElem?_eq_getElem hk', List.map_append, List.sum_append]
     simp only [List.map_cons, List.map_nil, dszs, Option.toList_some, List.sum_cons, List.sum_nil]
     omega
  obtain ⟨xs, h1, h2, h3, h3b⟩ := key len (Nat.le_refl _)
  subst h1
  refine ⟨xs, Sli.rep ⟨hlc, fun e => (by cases e), .inr ⟨ad, rfl, h2⟩⟩, ?_, ?_⟩
  ·refine ⟨by rw [List.length_map]; omega, VldAll.mk fun d hd => ?_⟩
   obtain ⟨x, hx, rfl⟩ := List.mem_map.1 hd
   exact h3 x hx
  ·rw [hxe]
   show dszs (xs.map f) + 1 ≤ _
   have := hB.slice (elems.map (·.1)) (rest.map (·.1))
   rw [← hel, List.take_length] at h3b
   rw [List.map_map] at this
   have e : (elems.map (B ∘ fun x => x.1)) = elems.map fun x => B x.1 := rfl
   rw [e] at this
   show _ ≤ B (.slice (elems.map (·.1)) (rest.map (·.1)))
   omega
theorem opa_slice0 {e : TypeId} {sz : Nat} (hB : BulkOk B) (ht : P.underlying t = some (.slice e)) (hsz : P.cellsOf e = sz) (h : ∀ k, k < m → OpnAt enc P w e f B k) : OpnAt enc P w t (eL sz f) B m := by
 cases m with
 | zero => exact OpnAt.zero
 | succ m => exact opa_slice hB ht hsz (h m (Nat.lt_succ_self m))
theorem OpnAt.arg (h : ∀ n, OpnAt enc P w t f B n) {v : Value} {d : DataW H} {ps : List MemPlace} (ht : DataW.Trod enc P w 0 (fun _ => true) true t v d ps) : ∃ a, Rep (Mem.of w) (f a) v.cells.toList ∧ Vld (f a) ∧ dsz (f a) ≤ B d := by
 obtain ⟨fuel, hf⟩ := ht
 exact h fuel _ _ hf
theorem OpnAt.struct_arg (h : ∀ n, OpnAt enc P w t f B n) {v : Value} {d : DataW H} {ps : List MemPlace} (hv : ∃ cs : Array Value, v = .agg cs) (ht : DataW.Trod enc P w 0 (fun _ => true) true t v d ps) :
  ∃ (c : List Value) (a : α), v = .agg c.toArray ∧ Rep (Mem.of w) (f a) c ∧ Vld (f a) ∧ dsz (f a) ≤ B d := by
 obtain ⟨cs, rfl⟩ := hv
 obtain ⟨a, h1, h2⟩ := OpnAt.arg h ht
 exact ⟨cs.toList, a, by simp, h1, h2⟩
end
end Go.Vc
end

section
namespace Go.Proofs.YtfaedhhjamaniaaDoor
open Go Go.Vc Go.RowKit
theorem opa_TA0 {H : Type} {enc : TypeId × Value → H} {w : World} {B : DataW H → Nat} (hB : BulkOk B) : ∀ m, OpnAt enc Tryd.prog w 26 emb_TA0 B m := by
 intro m
 induction m using Nat.strongRecOn with
 | ind m ih =>
 intro cs x h
 obtain ⟨xs, n, rfl, rfl, hlen, hxl, hf⟩ := DataW.trod_struct Tryd.underlying26 h
 have hct : Tryd.prog.cellsOf 26 = 6 := by kernel_rfl
 rw [hct] at hlen
 obtain ⟨x0, x1, x2, x3, x4, x5, rfl⟩ : ∃ x0 x1 x2 x3 x4 x5, xs = [x0, x1, x2, x3, x4, x5] := by
  match xs, hxl with
  | [x0, x1, x2, x3, x4, x5], _ => exact ⟨x0, x1, x2, x3, x4, x5, rfl⟩
 have f0 : DataW.trod enc Tryd.prog w 0 (fun _ => true) true n 23 ((cs.drop 0).take (Tryd.prog.cellsOf 23)) = some x0 := hf 0 _ rfl
 rw [show Tryd.prog.cellsOf 23 = 1 by kernel_rfl] at f0
 obtain ⟨a0, r0, v0, b0⟩ := (fun _ => opa_int hB Tryd.underlying23) n _ _ f0
 have f1 : DataW.trod enc Tryd.prog w 0 (fun _ => true) true n 4 ((cs.drop 1).take (Tryd.prog.cellsOf 4)) = some x1 := hf 1 _ rfl
 rw [show Tryd.prog.cellsOf 4 = 1 by kernel_rfl] at f1
 obtain ⟨a1, r1, v1, b1⟩ := (fun _ => opa_bool hB Tryd.underlying4) n _ _ f1
 have f2 : DataW.trod enc Tryd.prog w 0 (fun _ => true) true n 3 ((cs.drop 2).take (Tryd.prog.cellsOf 3)) = some x2 := hf 2 _ rfl
 rw [show Tryd.prog.cellsOf 3 = 1 by kernel_rfl] at f2
 obtain ⟨a2, r2, v2, b2⟩ := (fun _ => opa_int hB Tryd.underlying3) n _ _ f2
 have f3 : DataW.trod enc Tryd.prog w 0 (fun _ => true) true n 9 ((cs.drop 3).take (Tryd.prog.cellsOf 9)) = some x3 := hf 3 _ rfl
 rw [show Tryd.prog.cellsOf 9 = 1 by kernel_rfl] at f3
 obtain ⟨a3, r3, v3, b3⟩ := (fun _ => opa_str hB Tryd.underlying9) n _ _ f3
 have f4 : DataW.trod enc Tryd.prog w 0 (fun _ => true) true n 22 ((cs.drop 4).take (Tryd.prog.cellsOf 22)) = some x4 := hf 4 _ rfl
 rw [show Tryd.prog.cellsOf 22 = 1 by kernel_rfl] at f4
 obtain ⟨a4, r4, v4, b4⟩ := (opa_slice0 (m := n) (e := 26) (sz := 6) hB Tryd.underlying22 (by kernel_rfl) (fun k hk => ih k (by omega))) _ _ f4
 have f5 : DataW.trod enc Tryd.prog w 0 (fun _ => true) true n 24 ((cs.drop 5).take (Tryd.prog.cellsOf 24)) = some x5 := hf 5 _ rfl
 rw [show Tryd.prog.cellsOf 24 = 1 by kernel_rfl] at f5
 obtain ⟨a5, r5, v5, b5⟩ := (opa_slice0 (m := n) (e := 9) (sz := 1) hB Tryd.underlying24 (by kernel_rfl) (fun k _ => (fun _ => opa_str hB Tryd.underlying9) k)) _ _ f5
 refine ⟨⟨a0, a1, a2, a3, a4, a5⟩, ?_, ?_, ?_⟩
 ·rw [emb_TA0_eq]
  have hcs : RepSeq (Mem.of w) _ (cs.drop 0) := (RepSeq.cut (k := 1) r0 (by rw [List.drop_drop]; exact (RepSeq.cut (k := 1) r1 (by rw [List.drop_drop]; exact (RepSeq.cut (k := 1) r2 (by rw [List.drop_drop]; exact (RepSeq.cut (k := 1) r3 (by rw [List.drop_drop]; exact (RepSeq.cut (k := 1) r4 (by rw [List.drop_drop]; exact (RepSeq.cut (k := 1) r5 (by rw [List.drop_drop]; exact (show RepSeq (Mem.of w) [] (cs.drop 6) from List.drop_eq_nil_of_le (by omega))))))))))))))
  exact hcs
 ·rw [emb_TA0_eq]; exact ⟨v0, ⟨v1, ⟨v2, ⟨v3, ⟨v4, ⟨v5, trivial⟩⟩⟩⟩⟩⟩
 ·rw [emb_TA0_eq]
  have := hB.agg ([x0, x1, x2, x3, x4, x5].map (·.1))
  simp only [List.map_cons, List.map_nil, List.sum_cons, List.sum_nil] at this ⊢
  simp only [dsz, dszs] at *
  omega
theorem bulk_all {H : Type} (l : List (DataW H)) : Rows.uptoBulkAll l = (l.map Rows.uptoBulk).sum := by
 induction l with
 | nil => simp [Rows.uptoBulkAll]
 | cons x l ih => simp only [Rows.uptoBulkAll, List.map_cons, List.sum_cons, ih]
theorem bulk_ok {H : Type} : BulkOk (H := H) Rows.uptoBulk where
 one d := by
  cases d with
  | lit l => cases l <;> simp [Rows.uptoBulk]
  | nil => simp [Rows.uptoBulk]
  | ptr d => simp [Rows.uptoBulk]
  | slice elems spare => simp [Rows.uptoBulk]
  | agg parts => simp [Rows.uptoBulk]
  | iface t d => simp [Rows.uptoBulk]
  | map entries => simp [Rows.uptoBulk]
  | held h => simp [Rows.uptoBulk]
 str l := by simp [Rows.uptoBulk]
 slice e s := by
  simp only [Rows.uptoBulk]
  rw [bulk_all e]
  omega
 agg e := by
  simp only [Rows.uptoBulk]
  rw [bulk_all e]
  exact Nat.le_refl _
theorem bulk_one {H : Type} {d : DataW H} {l : List (DataW H)} (h : Rows.uptoSmall H l = true) (hd : d ∈ l) : Rows.uptoBulk d ≤ 1048576 := by
 unfold Rows.uptoSmall at h
 have h := of_decide_eq_true h
 rw [bulk_all] at h
 have := le_sum (List.mem_map_of_mem (f := Rows.uptoBulk) hd)
 omega
end Go.Proofs.YtfaedhhjamaniaaDoor
end
