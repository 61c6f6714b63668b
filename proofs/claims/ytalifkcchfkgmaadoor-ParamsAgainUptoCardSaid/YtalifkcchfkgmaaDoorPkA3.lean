/-
  Texts of this claim, packed (what nothing names is left out): Q4d, TreeM, TyP, P1, P2, P3. Own work, partly printed by own programs. No condition.
-/
import Derived.Test.YtalifkcchfkgmaaDoorPkA2
import Derived.Test.YtalifkcchfkgmaaDoorPkA1
import Derived.LoopN
set_option linter.unusedVariables false
set_option linter.unusedSimpArgs false
set_option maxHeartbeats 2000000
section
namespace Go.Proofs.YtalifkcchfkgmaaDoor
open Go Go.Vc Go.RowKit
def tree_compare_2_s1 (n : Nat) (d0_0 : Int) (d0_4 : List TB0) (d0_5 : List (List UInt8)) (d1_4 : List TB0) (d1_5 : List (List UInt8)) (s_1 : Int) : Option (Lp Int (Sum Int Unit)) :=
    bif (decide (s_1 < (min ((d0_4.length : Nat) : Int) ((d1_4.length : Nat) : Int)))) then
      (((bif (decide (d0_0 = 5)) then
          ((getI d0_5 s_1).bind fun x_7 =>
          (getI d1_5 s_1).bind fun x_8 =>
          (h_Compare n x_7 x_8).bind fun x_9 =>
          bif (!(decide (x_9 = 0))) then
            (((some (.br (.inl x_9)) : Option (Lp Int (Sum Int Unit)))).map Lp.br)
          else
            some (.nx ()))
        else
          some (.nx ()) : Option (Lp Unit (Lp Int (Sum Int Unit))))).bind fun j => joinF j fun y_1 =>
      (getI d0_4 s_1).bind fun x_10 =>
      (getI d1_4 s_1).bind fun x_11 =>
      (tree_compare n x_10 x_11).bind fun x_12 =>
      bif (!(decide (x_12 = 0))) then
        (some (.br (.inl x_12)))
      else
        need (inR .i64 (s_1 + 1)) <|
        some (.nx (s_1 + 1)))
    else
      some (.br (.inr ()))
def tree_compare_2 (n : Nat) (d0_0 : Int) (d0_1 : Bool) (d0_2 : Int) (d0_3 : List UInt8) (d0_4 : List TB0) (d0_5 : List (List UInt8)) (d1_0 : Int) (d1_1 : Bool) (d1_2 : Int) (d1_3 : List UInt8) (d1_4 : List TB0) (d1_5 : List (List UInt8)) : Option (Int × Int × Bool × Int × List UInt8 × List TB0 × List (List UInt8) × Int × Bool × Int × List UInt8 × List TB0 × List (List UInt8)) :=
  (cmp_Compare n d0_0 d1_0).bind fun x_1 =>
  (tree_bit n (d0_1)).bind fun x_2 =>
  (tree_bit n (d1_1)).bind fun x_3 =>
  need (inR .i64 (x_2 - x_3)) <|
  (cmp_Compare_2 n d0_2 d1_2).bind fun x_4 =>
  (h_Compare n d0_3 d1_3).bind fun x_5 =>
  (cmp_Or n [x_1, x_2 - x_3, x_4, x_5]).bind fun x_6 =>
  bif (!(decide (x_6 = 0))) then
    (some ((x_6, d0_0, (d0_1), d0_2, d0_3, d0_4, d0_5, d1_0, (d1_1), d1_2, d1_3, d1_4, d1_5)))
  else
    (loopF (tree_compare_2_s1 n d0_0 d0_4 d0_5 d1_4 d1_5) n (0 : Int)).bind fun b_2 =>
    (match b_2 with 
    | .inl y_2 => some ((y_2, d0_0, (d0_1), d0_2, d0_3, d0_4, d0_5, d1_0, (d1_1), d1_2, d1_3, d1_4, d1_5)) 
    | .inr y_3 => (cmp_Compare_2 n ((d0_4.length : Nat) : Int) ((d1_4.length : Nat) : Int)).bind fun x_13 =>
      some ((x_13, d0_0, (d0_1), d0_2, d0_3, d0_4, d0_5, d1_0, (d1_1), d1_2, d1_3, d1_4, d1_5)))
theorem tree_compare_2_ok (n : Nat) (M : Mem) (hG : GL M) (b0 : Nat) (d0_0 : Int) (d0_1 : Bool) (d0_2 : Int) (d0_3 : List UInt8) (d0_4 : List TB0) (A_1 : Option Addr) (cap_1 : Nat) (h_1 : Sli M 6 emb_TB0 A_1 cap_1 d0_4) (d0_5 : List (List UInt8)) (A_2 : Option Addr) (cap_2 : Nat) (h_2 : Sli M 1 Dat.str A_2 cap_2 d0_5) (b1 : Nat) (d1_0 : Int) (d1_1 : Bool) (d1_2 : Int) (d1_3 : List UInt8) (d1_4 : List TB0) (A_3 : Option Addr) (cap_3 : Nat) (h_3 : Sli M 6 emb_TB0 A_3 cap_3 d1_4) (d1_5 : List (List UInt8)) (A_4 : Option Addr) (cap_4 : Nat) (h_4 : Sli M 1 Dat.str A_4 cap_4 d1_5) (r : Int × Int × Bool × Int × List UInt8 × List TB0 × List (List UInt8) × Int × Bool × Int × List UInt8 × List TB0 × List (List UInt8)) (hF : tree_compare_2 n d0_0 d0_1 d0_2 d0_3 d0_4 d0_5 d1_0 d1_1 d1_2 d1_3 d1_4 d1_5 = some r) : OkH Tryd.prog M [Ent.obj b0 (.cells #[.int .i8 d0_0, .bool d0_1, .int .i64 d0_2, S d0_3, .slice A_1 d0_4.length cap_1, .slice A_2 d0_5.length cap_2] 33 (0, 0)), Ent.obj b1 (.cells #[.int .i8 d1_0, .bool d1_1, .int .i64 d1_2, S d1_3, .slice A_3 d1_4.length cap_3, .slice A_4 d1_5.length cap_4] 33 (0, 0))] 89 [.pointer (some (⟨b0, 0, none⟩)), .pointer (some (⟨b1, 0, none⟩))] (fun M' E' v => ∃ (A_10 : Option Addr) (cap_10 : Nat) (A_11 : Option Addr) (cap_11 : Nat) (A_12 : Option Addr) (cap_12 : Nat) (A_13 : Option Addr) (cap_13 : Nat), v = .int .i64 r.1 ∧ E' = [Ent.obj b0 (.cells #[.int .i8 r.2.1, .bool r.2.2.1, .int .i64 r.2.2.2.1, S r.2.2.2.2.1, .slice A_10 r.2.2.2.2.2.1.length cap_10, .slice A_11 r.2.2.2.2.2.2.1.length cap_11] 33 (0, 0)), Ent.obj b1 (.cells #[.int .i8 r.2.2.2.2.2.2.2.1, .bool r.2.2.2.2.2.2.2.2.1, .int .i64 r.2.2.2.2.2.2.2.2.2.1, S r.2.2.2.2.2.2.2.2.2.2.1, .slice A_12 r.2.2.2.2.2.2.2.2.2.2.2.1.length cap_12, .slice A_13 r.2.2.2.2.2.2.2.2.2.2.2.2.length cap_13] 33 (0, 0))] ∧ Sli M' 6 emb_TB0 A_10 cap_10 r.2.2.2.2.2.1 ∧ Sli M' 1 Dat.str A_11 cap_11 r.2.2.2.2.2.2.1 ∧ Sli M' 6 emb_TB0 A_12 cap_12 r.2.2.2.2.2.2.2.2.2.2.2.1 ∧ Sli M' 1 Dat.str A_13 cap_13 r.2.2.2.2.2.2.2.2.2.2.2.2) := by
 unfold tree_compare_2 at hF
 intro M1 hM0 w0 H w p0
 replace hG := GL.mono hM0 hG
 replace h_1 := h_1.mono hM0
 replace h_2 := h_2.mono hM0
 replace h_3 := h_3.mono hM0
 replace h_4 := h_4.mono hM0
 refine R_enter 117 Tryd.func89 rfl rfl (by simp) fun a0 f0 => RR (Y f0 1 fun _ f => eT (R_seq (R_seq (R_drawQ 38 p0 (by kernel_rfl) (by kernel_rfl) (Y5 default f 3 fun _ f => Y2 (v := .int .i8 d0_0) f (fun _ pq => Y31 (v := .int .i8 d0_0) rfl (ad := ⟨b0, 0, none⟩) (pq.ownCell 0 rfl 0)) fun _ f => Y5 default f 3 fun _ f => Y2 (v := .int .i8 d1_0) f (fun _ pq => Y31 (v := .int .i8 d1_0) rfl (ad := ⟨b1, 0, none⟩) (pq.ownCell 1 rfl 0)) fun _ f => ?_)))))
 obtain ⟨x_1, hx_1, hF_1⟩ := bS hF
 refine Y3 f (cmp_Compare_ok n _ d0_0 d1_0 x_1 hx_1) fun _ f => Y5 default f 3 fun _ f => Y2 (v := .bool d0_1) f (fun _ pq => Y31 (v := .bool d0_1) rfl (ad := ⟨b0, 1, none⟩) (pq.ownCell 0 rfl 1)) fun _ f => ?_
 obtain ⟨x_2, hx_2, hF_2⟩ := bS hF_1
 refine Y3 f (tree_bit_ok n _ hG (d0_1) x_2 hx_2) fun _ f => Y5 default f 3 fun _ f => Y2 (v := .bool d1_1) f (fun _ pq => Y31 (v := .bool d1_1) rfl (ad := ⟨b1, 1, none⟩) (pq.ownCell 1 rfl 1)) fun _ f => ?_
 obtain ⟨x_3, hx_3, hF_3⟩ := bS hF_2
 refine Y3 f (tree_bit_ok n _ hG (d1_1) x_3 hx_3) fun _ f => ?_
 obtain ⟨g_1, hF_4⟩ := nS hF_3
 refine Y2 (v := .int .i64 (IntKind.wrap .i64 (x_2 - x_3))) f (fun _ pq => by kernel_rfl) fun _ f => ?_
 have f := f.st 28 (congrArg (Value.int .i64) (inR_wrap g_1))
 refine Y5 default f 3 fun _ f => Y2 (v := .int .i64 d0_2) f (fun _ pq => Y31 (v := .int .i64 d0_2) rfl (ad := ⟨b0, 2, none⟩) (pq.ownCell 0 rfl 2)) fun _ f => Y5 default f 3 fun _ f => Y2 (v := .int .i64 d1_2) f (fun _ pq => Y31 (v := .int .i64 d1_2) rfl (ad := ⟨b1, 2, none⟩) (pq.ownCell 1 rfl 2)) fun _ f => ?_
 obtain ⟨x_4, hx_4, hF_5⟩ := bS hF_4
 refine Y3 f (cmp_Compare_2_ok n _ hG d0_2 d1_2 x_4 hx_4) fun _ f => Y5 default f 3 fun _ f => Y2 (v := S d0_3) f (fun _ pq => Y31 (v := S d0_3) rfl (ad := ⟨b0, 3, none⟩) (pq.ownCell 0 rfl 3)) fun _ f => Y5 default f 3 fun _ f => Y2 (v := S d1_3) f (fun _ pq => Y31 (v := S d1_3) rfl (ad := ⟨b1, 3, none⟩) (pq.ownCell 1 rfl 3)) fun _ f => ?_
 obtain ⟨x_5, hx_5, hF_6⟩ := bS hF_5
 refine Y3 f (h_Compare_ok n _ d0_3 d1_3 x_5 hx_5) fun _ f => Q_end rfl ?_
 intro w_1 p_1
 refine V_allocS (k := 4) (c := 4) f p_1 (.cells #[.int .i64 x_1, .int .i64 (x_2 - x_3), .int .i64 x_4, .int .i64 x_5] 3 (0, 0)) (by kernel_rfl) (fun _ => by kernel_rfl) fun b_1 w_7 p_7 _ f => ?_
 have hr_1 : RepSeq M1 ([x_1, x_2 - x_3, x_4, x_5].map (Dat.int .i64)) [.int .i64 x_1, .int .i64 (x_2 - x_3), .int .i64 x_4, .int .i64 x_5] := ⟨_, _, rfl, rfl, ⟨_, _, rfl, rfl, ⟨_, _, rfl, rfl, ⟨_, _, rfl, rfl, rfl⟩⟩⟩⟩
 have p_8 : Hp w0 M1 ((Ent.row 3 1 (.slice (some ⟨b_1, 0, none⟩) 4 4) [x_1, x_2 - x_3, x_4, x_5].length [.int .i64 x_1, .int .i64 (x_2 - x_3), .int .i64 x_4, .int .i64 x_5]) :: (Ent.obj b0 (.cells #[.int .i8 d0_0, .bool d0_1, .int .i64 d0_2, S d0_3, .slice A_1 d0_4.length cap_1, .slice A_2 d0_5.length cap_2] 33 (0, 0))) :: (Ent.obj b1 (.cells #[.int .i8 d1_0, .bool d1_1, .int .i64 d1_2, S d1_3, .slice A_3 d1_4.length cap_3, .slice A_4 d1_5.length cap_4] 33 (0, 0))) :: H) w_7 := p_7.objRow (n := 4) (cap := 4) (size := 1) (by decide) (by decide) rfl rfl rfl
 obtain ⟨M_1, A_5, cap_5, hM_1, hv_1, p_9, h_5, hb_1⟩ := p_8.lend (f := (Dat.int .i64)) (xs := [x_1, x_2 - x_3, x_4, x_5]) (szd_int .i64) hr_1
 have f := f.st 47 (hv_1)
 obtain ⟨x_6, hx_6, hF_7⟩ := bS hF_6
 refine Y18 f p_9 (cmp_Or_ok n _ (GL.mono hM_1 hG) A_5 cap_5 [x_1, x_2 - x_3, x_4, x_5] h_5 x_6 hx_6) fun w_8 p_10 _ f => ?_
 obtain ⟨M_2, hM_2, p_11⟩ := hb_1 _ _ _ (mR _) p_10
 have f := f.st 47 (hv_1.symm)
 refine Y f 1 fun _ f => eT (RR (Y f 2 fun _ f => eT (RcF f hF_7 (fun h_6 hF_8 => ?_) fun h_6 hF_9 => ?_)))
 ·have k_1 : ¬ (x_6 = 0) := (not_iff dI).1 h_6
  refine RR (Y f 2 fun _ f => eT (wp_ret (T_r (E_ret1 f rfl (by kernel_rfl : Vc.look _ 4 = some (.int .i64 x_6)) ?_))))
  obtain rfl := sI hF_8
  exact ⟨_, rfl, M_2, _, hM_2, (p_11.dropN 1), ⟨A_1, cap_1, A_2, cap_2, A_3, cap_3, A_4, cap_4, rfl, rfl, (h_1.mono hM_2), (h_2.mono hM_2), (h_3.mono hM_2), (h_4.mono hM_2)⟩⟩
 ·have k_2 : ¬ (¬ (x_6 = 0)) := iff_f (not_iff dI) h_6
  refine wp_skip (T_n (R_seq (R_seq (R_draw p_11 (by kernel_rfl) (by kernel_rfl) (Y5 default f 3 fun _ f => Y2 (v := .slice A_1 d0_4.length cap_1) f (fun _ pq => Y31 (v := .slice A_1 d0_4.length cap_1) rfl (ad := ⟨b0, 4, none⟩) (pq.ownCell 1 rfl 4)) fun _ f => Y5 default f 4 fun _ f => Y2 (v := .slice A_3 d1_4.length cap_3) f (fun _ pq => Y31 (v := .slice A_3 d1_4.length cap_3) rfl (ad := ⟨b1, 4, none⟩) (pq.ownCell 2 rfl 4)) fun _ f => Y5 default f 1 fun _ f => Y2 (v := .int .i64 (min ((d0_4.length : Nat) : Int) ((d1_4.length : Nat) : Int))) f (fun _ pq => X_min (k := .i64) (a := ((d0_4.length : Nat) : Int)) (b := ((d1_4.length : Nat) : Int)) rfl (by kernel_rfl) (by kernel_rfl)) fun _ f => Y5 default f 1 fun _ f => Q_end rfl ?_)))))
  intro w_9 p_12
  refine T_n (wp_block ?_)
  obtain ⟨b_2, hL_1, hF_10⟩ := bS hF_9
  refine wp_mono (Q := fun e a w => (e = .ret ∧ (∃ y_2 : Int, b_2 = .inl y_2 ∧ ∃ M_5 : Mem, M_2.le M_5 ∧ Frm 117 [(4, .int .i64 y_2)] a ∧ Hp w0 M_5 ((Ent.row 3 1 (.slice (some ⟨b_1, 0, none⟩) 4 4) [x_1, x_2 - x_3, x_4, x_5].length [.int .i64 x_1, .int .i64 (x_2 - x_3), .int .i64 x_4, .int .i64 x_5]) :: (Ent.obj b0 (.cells #[.int .i8 d0_0, .bool d0_1, .int .i64 d0_2, S d0_3, .slice A_1 d0_4.length cap_1, .slice A_2 d0_5.length cap_2] 33 (0, 0))) :: (Ent.obj b1 (.cells #[.int .i8 d1_0, .bool d1_1, .int .i64 d1_2, S d1_3, .slice A_3 d1_4.length cap_3, .slice A_4 d1_5.length cap_4] 33 (0, 0))) :: H) w)) ∨ (e = .exit 0 ∧ (∃ y_3 : Unit, b_2 = .inr y_3 ∧ ∃ M_6 : Mem, M_2.le M_6 ∧ Frm 117 [(0, .pointer (some (⟨b0, 0, none⟩))), (1, .pointer (some (⟨b1, 0, none⟩)))] a ∧ Hp w0 M_6 ((Ent.row 3 1 (.slice (some ⟨b_1, 0, none⟩) 4 4) [x_1, x_2 - x_3, x_4, x_5].length [.int .i64 x_1, .int .i64 (x_2 - x_3), .int .i64 x_4, .int .i64 x_5]) :: (Ent.obj b0 (.cells #[.int .i8 d0_0, .bool d0_1, .int .i64 d0_2, S d0_3, .slice A_1 d0_4.length cap_1, .slice A_2 d0_5.length cap_2] 33 (0, 0))) :: (Ent.obj b1 (.cells #[.int .i8 d1_0, .bool d1_1, .int .i64 d1_2, S d1_3, .slice A_3 d1_4.length cap_3, .slice A_4 d1_5.length cap_4] 33 (0, 0))) :: H) w))) (R_loop (n := 117) (w0 := w0) (M := M_2) (fun (x : Nat × Int) => match x with | (m_1, s_1) => [(0, .pointer (some (⟨b0, 0, none⟩))), (1, .pointer (some (⟨b1, 0, none⟩))), (62, .int .i64 (min ((d0_4.length : Nat) : Int) ((d1_4.length : Nat) : Int))), (63, .int .i64 s_1)]) (fun (x : Nat × Int) => match x with | (m_1, s_1) => ((Ent.row 3 1 (.slice (some ⟨b_1, 0, none⟩) 4 4) [x_1, x_2 - x_3, x_4, x_5].length [.int .i64 x_1, .int .i64 (x_2 - x_3), .int .i64 x_4, .int .i64 x_5]) :: (Ent.obj b0 (.cells #[.int .i8 d0_0, .bool d0_1, .int .i64 d0_2, S d0_3, .slice A_1 d0_4.length cap_1, .slice A_2 d0_5.length cap_2] 33 (0, 0))) :: (Ent.obj b1 (.cells #[.int .i8 d1_0, .bool d1_1, .int .i64 d1_2, S d1_3, .slice A_3 d1_4.length cap_3, .slice A_4 d1_5.length cap_4] 33 (0, 0))) :: H)) (fun (x : Nat × Int) (MM : Mem) => match x with | (m_1, s_1) => loopF (tree_compare_2_s1 n d0_0 d0_4 d0_5 d1_4 d1_5) m_1 s_1 = some b_2) (fun (x : Nat × Int) => match x with | (m_1, s_1) => m_1) (n, (0 : Int)) (f.kp) p_12 hL_1 ?_) ?_
  ·rintro ⟨m_1, s_1⟩ M_3 _ w_10 hM_3 I_1 f p_13
   have I_1L := I_1
   obtain ⟨m_2, r_1, rfl, hs_1, hn_1⟩ := loop_step I_1L
   unfold tree_compare_2_s1 at hs_1
   refine RR (Y f 1 fun _ f => eT (R_seq (RcF f hs_1 (fun h_7 hF_11 => ?_) fun h_7 hF_27 => ?_)))
   ·have k_3 := dI.1 h_7
    refine wp_skip (T_n (R_seq (wp_block (RR (Y f 2 fun _ f => eT (R_seq (RR (Y f 3 fun _ f => Z f (Y31 (v := .int .i8 d0_0) rfl (ad := ⟨b0, 0, none⟩) (p_13.ownCell 1 rfl 0)) fun _ f => Y f 1 fun _ f => eT ?_))))))))
    obtain ⟨j_1, hj_1, hF_12⟩ := bS hF_11
    refine R_mid (fun a_56 w_13 => ∃ y_1 : Unit, j_1 = .nx y_1 ∧ ∃ M_4 : Mem, M_3.le M_4 ∧ Frm 117 [(0, .pointer (some (⟨b0, 0, none⟩))), (1, .pointer (some (⟨b1, 0, none⟩))), (6, .int .i64 s_1), (62, .int .i64 (min ((d0_4.length : Nat) : Int) ((d1_4.length : Nat) : Int))), (63, .int .i64 s_1)] a_56 ∧ Hp w0 M_4 ((Ent.row 3 1 (.slice (some ⟨b_1, 0, none⟩) 4 4) [x_1, x_2 - x_3, x_4, x_5].length [.int .i64 x_1, .int .i64 (x_2 - x_3), .int .i64 x_4, .int .i64 x_5]) :: (Ent.obj b0 (.cells #[.int .i8 d0_0, .bool d0_1, .int .i64 d0_2, S d0_3, .slice A_1 d0_4.length cap_1, .slice A_2 d0_5.length cap_2] 33 (0, 0))) :: (Ent.obj b1 (.cells #[.int .i8 d1_0, .bool d1_1, .int .i64 d1_2, S d1_3, .slice A_3 d1_4.length cap_3, .slice A_4 d1_5.length cap_4] 33 (0, 0))) :: H) w_13) ?_ ?_
    ·refine RcF f hj_1 (fun h_8 hF_13 => ?_) fun h_8 hF_20 => ?_
     ·have k_4 := dI.1 h_8
      refine R_seq (R_draw p_13 (by kernel_rfl) (by kernel_rfl) (Y5 default f 3 fun _ f => Y2 (v := .slice A_2 d0_5.length cap_2) f (fun _ pq => Y31 (v := .slice A_2 d0_5.length cap_2) rfl (ad := ⟨b0, 5, none⟩) (pq.ownCell 1 rfl 5)) fun _ f => Y5 default f 1 fun _ f => ?_))
      obtain ⟨x_7, hx_7, hF_14⟩ := bS hF_13
      obtain ⟨ad_1, c_1, e_1, -, hr_2, hc_1⟩ := Sli.at_ (h_2.mono (hM_2.trans hM_3)) hx_7
      obtain rfl : c_1 = [S x_7] := hr_2
      refine Y2 (v := .pointer (some (ad_1.add (s_1.toNat * 1)))) f (fun _ pq => Y30 e_1 rfl (len := d0_5.length) (cap := cap_2) (k := .i64) (i := s_1) (e := 9) (sz := 1) (getI_nn hx_7) (getI_lt hx_7)) fun _ f => Y4 f hc_1 0 rfl fun _ f => Y5 default f 3 fun _ f => Y2 (v := .slice A_4 d1_5.length cap_4) f (fun _ pq => Y31 (v := .slice A_4 d1_5.length cap_4) rfl (ad := ⟨b1, 5, none⟩) (pq.ownCell 2 rfl 5)) fun _ f => Y5 default f 1 fun _ f => ?_
      obtain ⟨x_8, hx_8, hF_15⟩ := bS hF_14
      obtain ⟨ad_2, c_2, e_2, -, hr_3, hc_2⟩ := Sli.at_ (h_4.mono (hM_2.trans hM_3)) hx_8
      obtain rfl : c_2 = [S x_8] := hr_3
      refine Y2 (v := .pointer (some (ad_2.add (s_1.toNat * 1)))) f (fun _ pq => Y30 e_2 rfl (len := d1_5.length) (cap := cap_4) (k := .i64) (i := s_1) (e := 9) (sz := 1) (getI_nn hx_8) (getI_lt hx_8)) fun _ f => Y4 f hc_2 0 rfl fun _ f => ?_
      obtain ⟨x_9, hx_9, hF_16⟩ := bS hF_15
      refine Y3 f (h_Compare_ok n _ x_7 x_8 x_9 hx_9) fun _ f => Y5 default f 1 fun _ f => Q_end rfl ?_
      intro w_12 p_15
      refine T_n (RR (Y f 2 fun _ f => eT (RcF f hF_16 (fun h_9 hF_17 => ?_) fun h_9 hF_19 => ?_)))
      ·have k_5 : ¬ (x_9 = 0) := (not_iff dI).1 h_9
       refine RR (Y f 2 fun _ f => eT (wp_ret ?_))
       have hF_18 := br_elim hF_17 hF_12
       refine T_r (T_r (B_r (T_r (T_r ?_))))
       obtain rfl := sI hF_18
       exact .inl ⟨rfl, x_9, (sI hn_1).symm, M_3, hM_3, f.kp, p_15⟩
      ·have k_6 : ¬ (¬ (x_9 = 0)) := iff_f (not_iff dI) h_9
       refine wp_skip (T_n ?_)
       exact ⟨(), (sI hF_19).symm, M_3, (mR _), f.kp, p_15⟩
     ·have k_7 := iff_f dI h_8
      refine wp_skip (T_n ?_)
      exact ⟨(), (sI hF_20).symm, M_3, (mR _), f.kp, p_13⟩
    ·rintro a_56 w_13 ⟨y_1, rfl, M_4, hM_4, f, p_16⟩
     refine T_n (R_seq (R_draw p_16 (by kernel_rfl) (by kernel_rfl) (Y5 default f 3 fun _ f => Y2 (v := .slice A_1 d0_4.length cap_1) f (fun _ pq => Y31 (v := .slice A_1 d0_4.length cap_1) rfl (ad := ⟨b0, 4, none⟩) (pq.ownCell 1 rfl 4)) fun _ f => Y5 default f 1 fun _ f => ?_)))
     obtain ⟨x_10, hx_10, hF_21⟩ := bS hF_12
     obtain ⟨ad_3, c_3, e_3, -, hr_4, hc_3⟩ := Sli.at_ (h_1.mono ((hM_2.trans hM_3).trans hM_4)) hx_10
     obtain ⟨A_6, cap_6, A_7, cap_7, rfl, h_10, h_11⟩ := TB0.opn hr_4
     refine Y2 (v := .pointer (some (ad_3.add (s_1.toNat * 6)))) f (fun _ pq => Y30 e_3 rfl (len := d0_4.length) (cap := cap_1) (k := .i64) (i := s_1) (e := 33) (sz := 6) (getI_nn hx_10) (getI_lt hx_10)) fun _ f => Y5 default f 3 fun _ f => Y2 (v := .slice A_3 d1_4.length cap_3) f (fun _ pq => Y31 (v := .slice A_3 d1_4.length cap_3) rfl (ad := ⟨b1, 4, none⟩) (pq.ownCell 2 rfl 4)) fun _ f => Y5 default f 1 fun _ f => ?_
     obtain ⟨x_11, hx_11, hF_22⟩ := bS hF_21
     obtain ⟨ad_4, c_4, e_4, -, hr_5, hc_4⟩ := Sli.at_ (h_3.mono ((hM_2.trans hM_3).trans hM_4)) hx_11
     obtain ⟨A_8, cap_8, A_9, cap_9, rfl, h_12, h_13⟩ := TB0.opn hr_5
     refine Y2 (v := .pointer (some (ad_4.add (s_1.toNat * 6)))) f (fun _ pq => Y30 e_4 rfl (len := d1_4.length) (cap := cap_3) (k := .i64) (i := s_1) (e := 33) (sz := 6) (getI_nn hx_11) (getI_lt hx_11)) fun _ f => ?_
     obtain ⟨x_12, hx_12, hF_23⟩ := bS hF_22
     refine Y3 f (tree_compare_ok n _ (GL.mono ((hM_2.trans hM_3).trans hM_4) hG) (ad_3.add (s_1.toNat * 6)) [.int .i8 x_10.fKind, .bool x_10.fBool, .int .i64 x_10.fNum, S x_10.fText, .slice A_6 x_10.fList.length cap_6, .slice A_7 x_10.fKeys.length cap_7] x_10 (TB0.shutx (x := x_10) h_10 h_11) (fz_at (hc_3) 0 rfl) (ad_4.add (s_1.toNat * 6)) [.int .i8 x_11.fKind, .bool x_11.fBool, .int .i64 x_11.fNum, S x_11.fText, .slice A_8 x_11.fList.length cap_8, .slice A_9 x_11.fKeys.length cap_9] x_11 (TB0.shutx (x := x_11) h_12 h_13) (fz_at (hc_4) 0 rfl) x_12 hx_12) fun _ f => Y5 default f 1 fun _ f => Q_end rfl ?_
     intro w_15 p_18
     refine T_n (RR (Y f 2 fun _ f => eT (RcF f hF_23 (fun h_14 hF_24 => ?_) fun h_14 hF_25 => ?_)))
     ·have k_8 : ¬ (x_12 = 0) := (not_iff dI).1 h_14
      refine RR (Y f 2 fun _ f => eT (wp_ret (B_r (T_r (T_r ?_)))))
      obtain rfl := sI hF_24
      exact .inl ⟨rfl, x_12, (sI hn_1).symm, M_4, (hM_3.trans hM_4), f.kp, p_18⟩
     ·have k_9 : ¬ (¬ (x_12 = 0)) := iff_f (not_iff dI) h_14
      refine wp_skip (B_n (T_n (R_reg ?_)))
      obtain ⟨g_2, hF_26⟩ := nS hF_25
      refine Y f 1 fun _ f => ?_
      have f := f.st 105 (congrArg (Value.int .i64) (inR_wrap g_2))
      refine Y f 1 fun _ f => eT ?_
      obtain rfl := sI hF_26
      exact ⟨⟨m_2, s_1 + 1⟩, Nat.lt_succ_self _, M_4, (hM_3.trans hM_4), hn_1, f.kp, p_18⟩
   ·have k_10 := iff_f dI h_7
    refine wp_exit (T_x (T_x ?_))
    obtain rfl := sI hF_27
    exact .inr ⟨rfl, (), (sI hn_1).symm, M_3, hM_3, f.kp, p_13⟩
  ·rintro _ _ w_18 (⟨rfl, y_2, rfl, M_5, hM_5, f, p_19⟩ | ⟨rfl, y_3, rfl, M_6, hM_6, f, p_20⟩)
   ·refine B_r (T_r (E_ret1 f rfl (by kernel_rfl : Vc.look _ 4 = some (.int .i64 y_2)) ?_))
    obtain rfl := sI hF_10
    exact ⟨_, rfl, M_5, _, (hM_2.trans hM_5), (p_19.dropN 1), ⟨A_1, cap_1, A_2, cap_2, A_3, cap_3, A_4, cap_4, rfl, rfl, (h_1.mono (hM_2.trans hM_5)), (h_2.mono (hM_2.trans hM_5)), (h_3.mono (hM_2.trans hM_5)), (h_4.mono (hM_2.trans hM_5))⟩⟩
   ·refine B_x (T_n (R_seq (R_draw p_20 (by kernel_rfl) (by kernel_rfl) (Y5 default f 3 fun _ f => Y2 (v := .slice A_1 d0_4.length cap_1) f (fun _ pq => Y31 (v := .slice A_1 d0_4.length cap_1) rfl (ad := ⟨b0, 4, none⟩) (pq.ownCell 1 rfl 4)) fun _ f => Y5 default f 4 fun _ f => Y2 (v := .slice A_3 d1_4.length cap_3) f (fun _ pq => Y31 (v := .slice A_3 d1_4.length cap_3) rfl (ad := ⟨b1, 4, none⟩) (pq.ownCell 2 rfl 4)) fun _ f => Y5 default f 1 fun _ f => ?_))))
    obtain ⟨x_13, hx_13, hF_28⟩ := bS hF_10
    refine Y3 f (cmp_Compare_2_ok n _ (GL.mono (hM_2.trans hM_6) hG) ((d0_4.length : Nat) : Int) ((d1_4.length : Nat) : Int) x_13 hx_13) fun _ f => Y5 default f 1 fun _ f => Q_end rfl ?_
    intro w_20 p_22
    refine T_n (wp_ret (E_ret1 f rfl (by kernel_rfl : Vc.look _ 4 = some (.int .i64 x_13)) ?_))
    obtain rfl := sI hF_28
    exact ⟨_, rfl, M_6, _, (hM_2.trans hM_6), (p_22.dropN 1), ⟨A_1, cap_1, A_2, cap_2, A_3, cap_3, A_4, cap_4, rfl, rfl, (h_1.mono (hM_2.trans hM_6)), (h_2.mono (hM_2.trans hM_6)), (h_3.mono (hM_2.trans hM_6)), (h_4.mono (hM_2.trans hM_6))⟩⟩
def tree_both (n : Nat) (d0 : TB0) (d1 : TB0) : Option (Int × Bool) :=
  (((tree_Check n d0).bind fun x_1 =>
    bif (!(decide (x_1 = 0))) then
      (some ((true)))
    else
      (tree_Check n d1).bind fun x_2 =>
      some ((!(decide (x_2 = 0)))) : Option Bool)).bind fun y_1 =>
  bif y_1 then
    (some (((0 : Int), (false))))
  else
    (tree_sorted n d0).bind fun x_3 =>
    (tree_sorted n d1).bind fun x_4 =>
    (tree_compare_2 n x_3.fKind (x_3.fBool) x_3.fNum x_3.fText x_3.fList x_3.fKeys x_4.fKind (x_4.fBool) x_4.fNum x_4.fText x_4.fList x_4.fKeys).bind fun x_5 =>
    some ((x_5.1, (true)))
theorem tree_both_ok (n : Nat) (M : Mem) (hG : GL M) (c0 : List Value) (d0 : TB0) (h0 : Rep M (emb_TB0 d0) c0) (c1 : List Value) (d1 : TB0) (h1 : Rep M (emb_TB0 d1) c1) (r : Int × Bool) (hF : tree_both n d0 d1 = some r) : Ok Tryd.prog M 71 [.agg c0.toArray, .agg c1.toArray] (fun _ v => v = .tuple #[.int .i64 r.1, .bool r.2]) := by
 unfold tree_both at hF
 intro M1 hM0 w0 H w p0
 replace hG := GL.mono hM0 hG
 replace h0 := Rep.mono hM0 _ _ h0
 replace h1 := Rep.mono hM0 _ _ h1
 obtain ⟨A_1, cap_1, A_2, cap_2, rfl, h_1, h_2⟩ := TB0.opn h0
 obtain ⟨A_3, cap_3, A_4, cap_4, rfl, h_3, h_4⟩ := TB0.opn h1
 refine R_enter 19 Tryd.func71 rfl rfl (by simp) fun a0 f0 => RR (Y13 (cs := #[.int .i8 d0.fKind, .bool d0.fBool, .int .i64 d0.fNum, S d0.fText, .slice A_1 d0.fList.length cap_1, .slice A_2 d0.fKeys.length cap_2]) (T := 33) f0 p0 fun b_1 M_1 w_1 hM_1 hc_1 p_1 _ f => ?_)
 have hc_2 := fz_box hc_1
 refine Y13 (cs := #[.int .i8 d1.fKind, .bool d1.fBool, .int .i64 d1.fNum, S d1.fText, .slice A_3 d1.fList.length cap_3, .slice A_4 d1.fKeys.length cap_4]) (T := 33) f p_1 fun b_2 M_2 w_2 hM_2 hc_3 p_2 _ f => ?_
 have hc_4 := fz_box hc_3
 refine Y f 2 fun _ f => eT (R_seq (R_seq ?_))
 obtain ⟨j_1, hj_1, hF_1⟩ := bS hF
 refine R_mid (fun a_11 w_5 => ∃ y_1 : Bool, j_1 = y_1 ∧ ∃ M_3 : Mem, M_2.le M_3 ∧ Frm 19 [(2, .pointer (some (⟨b_1, 0, none⟩))), (3, .pointer (some (⟨b_2, 0, none⟩))), (15, .bool y_1)] a_11 ∧ Hp w0 M_3 (H) w_5) ?_ ?_
 ·refine R_reg (Z (v := .agg #[.int .i8 d0.fKind, .bool d0.fBool, .int .i64 d0.fNum, S d0.fText, .slice A_1 d0.fList.length cap_1, .slice A_2 d0.fKeys.length cap_2]) f (Y32 (cs := [.int .i8 d0.fKind, .bool d0.fBool, .int .i64 d0.fNum, S d0.fText, .slice A_1 d0.fList.length cap_1, .slice A_2 d0.fKeys.length cap_2]) rfl (ad := ⟨b_1, 0, none⟩) (fun j v h => p_2.cell ((fzu hM_2 hc_2) j v h))) fun _ f => ?_)
  obtain ⟨x_1, hx_1, hF_2⟩ := bS hj_1
  refine Y18 f p_2 (tree_Check_ok n _ (GL.mono (hM_1.trans hM_2) hG) _ d0 (TB0.shutx (x := d0) (h_1.mono (hM_1.trans hM_2)) (h_2.mono (hM_1.trans hM_2))) x_1 hx_1) fun w_3 p_3 _ f => Y f 2 fun _ f => ?_
  rcases cE hF_2 with ⟨h_5, hF_3⟩ | ⟨h_5, hF_4⟩
  ·have k_1 : ¬ (x_1 = 0) := (not_iff dI).1 h_5
   have f := f.st 11 (cB h_5)
   refine Y f 4 fun _ f => eT ?_
   exact ⟨(true), (sI hF_3).symm, M_2, (mR _), f.kp, p_3⟩
  ·have k_2 : ¬ (¬ (x_1 = 0)) := iff_f (not_iff dI) h_5
   have f := f.st 11 (cB h_5)
   refine Z (v := .agg #[.int .i8 d1.fKind, .bool d1.fBool, .int .i64 d1.fNum, S d1.fText, .slice A_3 d1.fList.length cap_3, .slice A_4 d1.fKeys.length cap_4]) f (Y32 (cs := [.int .i8 d1.fKind, .bool d1.fBool, .int .i64 d1.fNum, S d1.fText, .slice A_3 d1.fList.length cap_3, .slice A_4 d1.fKeys.length cap_4]) rfl (ad := ⟨b_2, 0, none⟩) (fun j v h => p_3.cell (hc_4 j v h))) fun _ f => ?_
   obtain ⟨x_2, hx_2, hF_5⟩ := bS hF_4
   refine Y18 f p_3 (tree_Check_ok n _ (GL.mono (hM_1.trans hM_2) hG) _ d1 (TB0.shutx (x := d1) (h_3.mono (hM_1.trans hM_2)) (h_4.mono (hM_1.trans hM_2))) x_2 hx_2) fun w_4 p_4 _ f => Y f 2 fun _ f => eT ?_
   exact ⟨(!(decide (x_2 = 0))), (sI hF_5).symm, M_2, (mR _), f.kp, p_4⟩
 ·rintro a_11 w_5 ⟨y_1, hq_1, M_3, hM_3, f, p_5⟩
  subst j_1
  refine T_n (RcF f hF_1 (fun h_6 hF_6 => ?_) fun h_6 hF_7 => ?_)
  ·refine RR (Y f 2 fun _ f => eT (wp_ret (T_r (E_ret2 f rfl (by kernel_rfl : Vc.look _ 4 = some (.int .i64 0)) (by kernel_rfl : Vc.look _ 5 = some (.bool false)) ?_))))
   obtain rfl := sI hF_6
   exact ⟨_, rfl, M_3, ((hM_1.trans hM_2).trans hM_3), p_5, rfl⟩
  ·refine wp_skip (T_n (RR ?_))
   obtain ⟨x_3, hx_3, hF_8⟩ := bS hF_7
   refine Y16 f p_5 (tree_sorted_ok n _ (GL.mono ((hM_1.trans hM_2).trans hM_3) hG) (⟨b_1, 0, none⟩) [.int .i8 d0.fKind, .bool d0.fBool, .int .i64 d0.fNum, S d0.fText, .slice A_1 d0.fList.length cap_1, .slice A_2 d0.fKeys.length cap_2] d0 (TB0.shutx (x := d0) (h_1.mono ((hM_1.trans hM_2).trans hM_3)) (h_2.mono ((hM_1.trans hM_2).trans hM_3))) (fz_at ((fzu (hM_2.trans hM_3) hc_2)) 0 rfl) x_3 hx_3) fun _ M_4 w_6 hM_4 p_6 q_1 _ f => ?_
   obtain ⟨c_1, rfl, hr_1⟩ := q_1
   obtain ⟨A_5, cap_5, A_6, cap_6, rfl, h_7, h_8⟩ := TB0.opn hr_1
   obtain ⟨x_4, hx_4, hF_9⟩ := bS hF_8
   refine Y16 f p_6 (tree_sorted_ok n _ (GL.mono (((hM_1.trans hM_2).trans hM_3).trans hM_4) hG) (⟨b_2, 0, none⟩) [.int .i8 d1.fKind, .bool d1.fBool, .int .i64 d1.fNum, S d1.fText, .slice A_3 d1.fList.length cap_3, .slice A_4 d1.fKeys.length cap_4] d1 (TB0.shutx (x := d1) (h_3.mono (((hM_1.trans hM_2).trans hM_3).trans hM_4)) (h_4.mono (((hM_1.trans hM_2).trans hM_3).trans hM_4))) (fz_at ((fzu (hM_3.trans hM_4) hc_4)) 0 rfl) x_4 hx_4) fun _ M_5 w_7 hM_5 p_7 q_2 _ f => ?_
   obtain ⟨c_2, rfl, hr_2⟩ := q_2
   obtain ⟨A_7, cap_7, A_8, cap_8, rfl, h_9, h_10⟩ := TB0.opn hr_2
   refine Y12 f p_7 (.cells #[.int .i8 0, .bool false, .int .i64 0, S [], .slice none 0 0, .slice none 0 0] 33 (0, 0)) fun b_3 w_8 p_8 _ f => Y12 f p_8 (.cells #[.int .i8 0, .bool false, .int .i64 0, S [], .slice none 0 0, .slice none 0 0] 33 (0, 0)) fun b_4 w_9 p_9 _ f => ?_
   have p_10 := p_9.pl [1]
   refine Y28 (vs := [.int .i8 x_3.fKind, .bool x_3.fBool, .int .i64 x_3.fNum, S x_3.fText, .slice A_5 x_3.fList.length cap_5, .slice A_6 x_3.fKeys.length cap_6]) (j := 0) f p_10 rfl rfl (by simp [Value.oneCell', S]) (by simp) (by decide) (cs' := #[.int .i8 x_3.fKind, .bool x_3.fBool, .int .i64 x_3.fNum, S x_3.fText, .slice A_5 x_3.fList.length cap_5, .slice A_6 x_3.fKeys.length cap_6]) fun w_10 p_11 _ f => ?_
   have p_12 := p_11.pl [1]
   refine Y28 (vs := [.int .i8 x_4.fKind, .bool x_4.fBool, .int .i64 x_4.fNum, S x_4.fText, .slice A_7 x_4.fList.length cap_7, .slice A_8 x_4.fKeys.length cap_8]) (j := 0) f p_12 rfl rfl (by simp [Value.oneCell', S]) (by simp) (by decide) (cs' := #[.int .i8 x_4.fKind, .bool x_4.fBool, .int .i64 x_4.fNum, S x_4.fText, .slice A_7 x_4.fList.length cap_7, .slice A_8 x_4.fKeys.length cap_8]) fun w_11 p_13 _ f => eT (RR ?_)
   obtain ⟨x_5, hx_5, hF_10⟩ := bS hF_9
   have p_15 := p_13.pl [1]
   refine Y17 (E := [Ent.obj b_3 (.cells #[.int .i8 x_3.fKind, .bool x_3.fBool, .int .i64 x_3.fNum, S x_3.fText, .slice A_5 x_3.fList.length cap_5, .slice A_6 x_3.fKeys.length cap_6] 33 (0, 0)), Ent.obj b_4 (.cells #[.int .i8 x_4.fKind, .bool x_4.fBool, .int .i64 x_4.fNum, S x_4.fText, .slice A_7 x_4.fList.length cap_7, .slice A_8 x_4.fKeys.length cap_8] 33 (0, 0))]) (H := (H)) f p_15 (tree_compare_2_ok n _ (GL.mono ((((hM_1.trans hM_2).trans hM_3).trans hM_4).trans hM_5) hG) b_3 x_3.fKind (x_3.fBool) x_3.fNum x_3.fText x_3.fList A_5 cap_5 (h_7.mono hM_5) x_3.fKeys A_6 cap_6 (h_8.mono hM_5) b_4 x_4.fKind (x_4.fBool) x_4.fNum x_4.fText x_4.fList A_7 cap_7 h_9 x_4.fKeys A_8 cap_8 h_10 x_5 hx_5) fun _ M_6 E_1 w_12 hM_6 p_14 q_3 _ f => ?_
   obtain ⟨A_9, cap_9, A_10, cap_10, A_11, cap_11, A_12, cap_12, rfl, rfl, h_11, h_12, h_13, h_14⟩ := q_3
   refine Y f 2 fun _ f => eT (wp_ret (E_ret2 f rfl (by kernel_rfl : Vc.look _ 4 = some (.int .i64 x_5.1)) (by kernel_rfl : Vc.look _ 5 = some (.bool true)) ?_))
   obtain rfl := sI hF_10
   exact ⟨_, rfl, M_6, (((((hM_1.trans hM_2).trans hM_3).trans hM_4).trans hM_5).trans hM_6), (p_14.dropN 2), rfl⟩
def tree_Equal (n : Nat) (d0 : TB0) (d1 : TB0) : Option Bool :=
  (tree_both n d0 d1).bind fun x_1 =>
  bif x_1.2 then
    (some ((decide (x_1.1 = 0))))
  else
    some ((false))
theorem tree_Equal_ok (n : Nat) (M : Mem) (hG : GL M) (c0 : List Value) (d0 : TB0) (h0 : Rep M (emb_TB0 d0) c0) (c1 : List Value) (d1 : TB0) (h1 : Rep M (emb_TB0 d1) c1) (r : Bool) (hF : tree_Equal n d0 d1 = some r) : Ok Tryd.prog M 36 [.agg c0.toArray, .agg c1.toArray] (fun _ v => v = .bool r) := by
 unfold tree_Equal at hF
 intro M1 hM0 w0 H w p0
 replace hG := GL.mono hM0 hG
 replace h0 := Rep.mono hM0 _ _ h0
 replace h1 := Rep.mono hM0 _ _ h1
 obtain ⟨A_1, cap_1, A_2, cap_2, rfl, h_1, h_2⟩ := TB0.opn h0
 obtain ⟨A_3, cap_3, A_4, cap_4, rfl, h_3, h_4⟩ := TB0.opn h1
 refine R_enter 18 Tryd.func36 rfl rfl (by simp) fun a0 f0 => RR (Y13 (cs := #[.int .i8 d0.fKind, .bool d0.fBool, .int .i64 d0.fNum, S d0.fText, .slice A_1 d0.fList.length cap_1, .slice A_2 d0.fKeys.length cap_2]) (T := 33) f0 p0 fun b_1 M_1 w_1 hM_1 hc_1 p_1 _ f => ?_)
 have hc_2 := fz_box hc_1
 refine Y13 (cs := #[.int .i8 d1.fKind, .bool d1.fBool, .int .i64 d1.fNum, S d1.fText, .slice A_3 d1.fList.length cap_3, .slice A_4 d1.fKeys.length cap_4]) (T := 33) f p_1 fun b_2 M_2 w_2 hM_2 hc_3 p_2 _ f => ?_
 have hc_4 := fz_box hc_3
 refine Y f 1 fun _ f => eT (RR (Z (v := .agg #[.int .i8 d0.fKind, .bool d0.fBool, .int .i64 d0.fNum, S d0.fText, .slice A_1 d0.fList.length cap_1, .slice A_2 d0.fKeys.length cap_2]) f (Y32 (cs := [.int .i8 d0.fKind, .bool d0.fBool, .int .i64 d0.fNum, S d0.fText, .slice A_1 d0.fList.length cap_1, .slice A_2 d0.fKeys.length cap_2]) rfl (ad := ⟨b_1, 0, none⟩) (fun j v h => p_2.cell ((fzu hM_2 hc_2) j v h))) fun _ f => Z (v := .agg #[.int .i8 d1.fKind, .bool d1.fBool, .int .i64 d1.fNum, S d1.fText, .slice A_3 d1.fList.length cap_3, .slice A_4 d1.fKeys.length cap_4]) f (Y32 (cs := [.int .i8 d1.fKind, .bool d1.fBool, .int .i64 d1.fNum, S d1.fText, .slice A_3 d1.fList.length cap_3, .slice A_4 d1.fKeys.length cap_4]) rfl (ad := ⟨b_2, 0, none⟩) (fun j v h => p_2.cell (hc_4 j v h))) fun _ f => ?_))
 obtain ⟨x_1, hx_1, hF_1⟩ := bS hF
 refine Y18 f p_2 (tree_both_ok n _ (GL.mono (hM_1.trans hM_2) hG) _ d0 (TB0.shutx (x := d0) (h_1.mono (hM_1.trans hM_2)) (h_2.mono (hM_1.trans hM_2))) _ d1 (TB0.shutx (x := d1) (h_3.mono (hM_1.trans hM_2)) (h_4.mono (hM_1.trans hM_2))) x_1 hx_1) fun w_3 p_3 _ f => Y f 5 fun _ f => eT (RR (Y f 2 fun _ f => ?_))
 rcases cE hF_1 with ⟨h_5, hF_2⟩ | ⟨h_5, hF_3⟩
 ·have f := f.st 14 (cB h_5)
  refine Y f 4 fun _ f => eT (wp_ret (E_ret1 f rfl (by kernel_rfl : Vc.look _ 4 = some (.bool (decide (x_1.1 = 0)))) ?_))
  obtain rfl := sI hF_2
  exact ⟨_, rfl, M_2, (hM_1.trans hM_2), p_3, rfl⟩
 ·have f := f.st 14 (cB h_5)
  refine Y f 4 fun _ f => eT (wp_ret (E_ret1 f rfl (by kernel_rfl : Vc.look _ 4 = some (.bool false)) ?_))
  obtain rfl := sI hF_3
  exact ⟨_, rfl, M_2, (hM_1.trans hM_2), p_3, rfl⟩
end Go.Proofs.YtalifkcchfkgmaaDoor
end

section
section
namespace Go.Proofs.YtalifkcchfkgmaaDoor
open Go Go.Vc Go.RowKit
def Small : Nat → TB0 → Prop
  | 0, _ => False
  | d + 1, v => v.fList.length ≤ 3000 ∧ v.fKeys.length ≤ 3000 ∧ v.fText.length ≤ 5000 ∧ (∀ k ∈ v.fKeys, k.length ≤ 5000) ∧ ∀ x ∈ v.fList, Small d x
theorem walkVs_app : ∀ (l m : List TB0), walkVs (l ++ m) = walkVs l ++ walkVs m
 | [], m => by simp [walkVs]
 | x :: r, m => by simp [walkVs, walkVs_app r m]
theorem walkVs_take {l : List TB0} {i : Nat} {x : TB0} (h : l[i]? = some x) : walkVs (l.take (i + 1)) = walkVs (l.take i) ++ walkV x := by
 rw [List.take_add_one, h, walkVs_app]
 simp [walkVs]
theorem weight_ok {n : Nat} (hn : 3000 < n) : ∀ (k d : Nat) (v : TB0), d < k → d ≤ 1000 → ∃ W : Int, ref03_weight_k n k v (d : Int) = some W ∧ 0 ≤ W ∧ W ≤ 30010001 + 10000 * d ∧ (W ≤ 5000 → Small d v ∧ ((walkV v).length : Int) ≤ W)
 | 0, d, v, h, _ => absurd h (by omega)
 | k + 1, d, v, h, hd => by
  show ∃ W : Int, ref03_weight_b n (ref03_weight_k n k) v (d : Int) = some W ∧ _
  unfold ref03_weight_b
  by_cases h0 : d = 0 ∨ 3000 < v.fList.length ∨ 3000 < v.fKeys.length
  ·have e : (bif decide ((d : Int) = 0) then some true else bif decide ((3000 : Int) < ((v.fList.length : Nat) : Int)) then some true else some (decide ((3000 : Int) < ((v.fKeys.length : Nat) : Int))) : Option Bool) = some true := by
    by_cases a : (d : Int) = 0
    ·rw [decide_eq_true a, cT]
    ·rw [decide_eq_false a, cF]
     by_cases b : (3000 : Int) < ((v.fList.length : Nat) : Int)
     ·rw [decide_eq_true b, cT]
     ·rw [decide_eq_false b, cF, decide_eq_true (by omega)]
   rw [e, bnd, cT]
   exact ⟨10000, rfl, by omega, by omega, fun h => absurd h (by omega)⟩
  ·have e : (bif decide ((d : Int) = 0) then some true else bif decide ((3000 : Int) < ((v.fList.length : Nat) : Int)) then some true else some (decide ((3000 : Int) < ((v.fKeys.length : Nat) : Int))) : Option Bool) = some false := by
    rw [decide_eq_false (by omega), cF, decide_eq_false (by omega), cF, decide_eq_false (by omega)]
   rw [e, bnd, cF]
   obtain ⟨base, hbase⟩ : ∃ base : Int, base = (1 : Int) + (min (v.fText.length : Int) (10000 : Int)) := ⟨_, rfl⟩
   rw [← hbase, need_i (by omega) (by omega)]
   obtain ⟨y, hy, hy1, hy2, hy3⟩ := loop_inv (step := ref03_weight_s1 n v) (n := n) (s0 := (base, (0 : Int)))
    (fun k s => s.2 = (k : Int) ∧ base ≤ s.1 ∧ s.1 ≤ base + 10000 * k ∧ (s.1 ≤ 5000 → ∀ j, j < k → (v.fKeys.getD j []).length ≤ 5000))
    (fun b => base ≤ b ∧ b ≤ base + 10000 * v.fKeys.length ∧ (b ≤ 5000 → ∀ j, j < v.fKeys.length → (v.fKeys.getD j []).length ≤ 5000)) v.fKeys.length
    ⟨rfl, Int.le_refl _, by simp, fun _ j hj => absurd hj (by omega)⟩
    (fun q s hq hI => by
     obtain ⟨t, i⟩ := s
     obtain ⟨h1, h2, h3, h4⟩ := hI
     have h1' : i = (q : Int) := h1
     subst h1'
     left
     refine ⟨(t + min ((v.fKeys.getD q []).length : Int) 10000, (q : Int) + 1), ?_, by simp, ?_, ?_, ?_⟩
     ·show ref03_weight_s1 n v (t, (q : Int)) = _
      unfold ref03_weight_s1
      dsimp only at h2 h3 ⊢
      rw [decide_eq_true (by omega), cT, getI_at [] hq, bnd, need_i (by omega) (by omega), need_i (by omega) (by omega)]
     ·dsimp only at h2 ⊢; omega
     ·dsimp only at h3 ⊢; push_cast; omega
     ·dsimp only at h4 ⊢
      intro hle j hj
      by_cases hjq : j = q
      ·subst hjq; omega
      ·exact h4 (by omega) j (by omega))
    (fun s hI => by
     obtain ⟨t, i⟩ := s
     obtain ⟨h1, h2, h3, h4⟩ := hI
     have h1' : i = (v.fKeys.length : Int) := h1
     subst h1'
     refine ⟨t, ?_, h2, h3, h4⟩
     unfold ref03_weight_s1
     dsimp only
     rw [decide_eq_false (by omega), cF])
    (by omega)
   rw [hy, bnd]
   obtain ⟨z, hz, hz1, hz2, hz3⟩ := loop_inv (step := ref03_weight_s2 n (ref03_weight_k n k) v (d : Int)) (n := n) (s0 := (y, (0 : Int)))
    (fun k s => s.2 = (k : Int) ∧ y ≤ s.1 ∧ s.1 ≤ 30010001 + 10000 * d ∧ (s.1 ≤ 5000 → (∀ j x, j < k → v.fList[j]? = some x → Small (d - 1) x) ∧ ((walkVs (v.fList.take k)).length : Int) + 1 ≤ s.1))
    (fun b => y ≤ b ∧ b ≤ 30010001 + 10000 * d ∧ (b ≤ 5000 → (∀ j x, j < v.fList.length → v.fList[j]? = some x → Small (d - 1) x) ∧ ((walkVs v.fList).length : Int) + 1 ≤ b)) v.fList.length
    ⟨rfl, Int.le_refl _, by omega, fun _ => ⟨fun j x hj => absurd hj (by omega), by simp [walkVs]; omega⟩⟩
    (fun q s hq hI => by
     obtain ⟨t, i⟩ := s
     obtain ⟨h1, h2, h3, h4⟩ := hI
     have h1' : i = (q : Int) := h1
     subst h1'
     dsimp only at h2 h3 h4
     by_cases ht : t ≤ 10000
     ·left
      have hx : v.fList[q]? = some v.fList[q] := List.getElem?_eq_getElem hq
      obtain ⟨W, w1, w2, w3, w4⟩ := weight_ok hn k (d - 1) v.fList[q] (by omega) (by omega)
      have hd1 : ((d - 1 : Nat) : Int) = (d : Int) - 1 := by omega
      rw [hd1] at w1
      refine ⟨(t + W, (q : Int) + 1), ?_, by simp, ?_, ?_, ?_⟩
      ·show ref03_weight_s2 n (ref03_weight_k n k) v (d : Int) (t, (q : Int)) = _
       unfold ref03_weight_s2
       dsimp only
       have hg : getI v.fList (q : Int) = some v.fList[q] := by simp [getI]
       rw [decide_eq_true (by omega), cT, bnd, decide_eq_true ht, cT, hg, bnd, need_i (by omega) (by omega), w1, bnd, need_i (by omega) (by omega), need_i (by omega) (by omega)]
      ·dsimp only; omega
      ·dsimp only; omega
      ·dsimp only
       intro hle
       obtain ⟨s1, s2⟩ := h4 (by omega)
       obtain ⟨c1, c2⟩ := w4 (by omega)
       refine ⟨fun j x hj hjx => ?_, ?_⟩
       ·by_cases hjq : j = q
        ·subst hjq
         rw [hx] at hjx
         exact Option.some.inj hjx ▸ c1
        ·exact s1 j x (by omega) hjx
       ·rw [walkVs_take hx, List.length_append]
        omega
     ·right
      refine ⟨t, ?_, h2, h3, fun hle => absurd hle (by omega)⟩
      unfold ref03_weight_s2
      dsimp only
      rw [decide_eq_true (by omega), cT, bnd, decide_eq_false ht, cF])
    (fun s hI => by
     obtain ⟨t, i⟩ := s
     obtain ⟨h1, h2, h3, h4⟩ := hI
     have h1' : i = (v.fList.length : Int) := h1
     subst h1'
     dsimp only at h2 h3 h4
     rw [List.take_length] at h4
     refine ⟨t, ?_, h2, h3, h4⟩
     unfold ref03_weight_s2
     dsimp only
     rw [decide_eq_false (by omega), cF, bnd, cF])
    (by omega)
   rw [hz, bnd]
   refine ⟨z, rfl, by omega, hz2, fun hle => ?_⟩
   obtain ⟨s1, s2⟩ := hz3 hle
   have s3 := hy3 (by omega)
   obtain ⟨d, rfl⟩ : ∃ e, d = e + 1 := ⟨d - 1, by omega⟩
   refine ⟨⟨by omega, by omega, by omega, fun q hq => ?_, fun x hx => ?_⟩, ?_⟩
   ·obtain ⟨j, hj, rfl⟩ := List.getElem_of_mem hq
    have := s3 j hj
    simpa [hj] using this
   ·obtain ⟨j, hj, rfl⟩ := List.getElem_of_mem hx
    exact s1 j _ hj (List.getElem?_eq_getElem hj)
   ·rw [walkV_eq, List.length_cons]
    push_cast
    omega
end Go.Proofs.YtalifkcchfkgmaaDoor
end
section
namespace Go.Proofs.YtalifkcchfkgmaaDoor
open Go Go.Vc
theorem and_tab : ((List.range 256).all fun c => bAnd .i64 (c : Int) 31 == ((c % 32 : Nat) : Int) && (bAnd .i64 (c : Int) 15 == ((c % 16 : Nat) : Int) && bAnd .i64 (c : Int) 7 == ((c % 8 : Nat) : Int))) = true := by kernel_rfl
theorem and_low (c : UInt8) : bAnd .i64 (c.toNat : Int) 31 = ((c.toNat % 32 : Nat) : Int) ∧ bAnd .i64 (c.toNat : Int) 15 = ((c.toNat % 16 : Nat) : Int) ∧ bAnd .i64 (c.toNat : Int) 7 = ((c.toNat % 8 : Nat) : Int) := by
 have h := List.all_eq_true.1 and_tab c.toNat (List.mem_range.2 c.toNat_lt)
 simp only [Bool.and_eq_true, beq_iff_eq] at h
 exact h
theorem one_s1 {n : Nat} {s : List UInt8} {i k : Nat} {y : Int × Int × Int} {r w : Nat} (hy : y.1 = (w : Int)) (hk : k < w) (hi : i + w ≤ s.length) (hs : s.length < 1000000) (hr : r < 1000000000) :
  ref01_One_s1 n s i y ((r : Int), (k : Int)) = some (if (s.getD (i + k) 0).toNat / 64 = 2 then .nx (((64 * r + (s.getD (i + k) 0).toNat % 64 : Nat) : Int), ((k + 1 : Nat) : Int)) else .br (.inl ())) := by
 unfold ref01_One_s1
 dsimp only
 have e : (i : Int) + (k : Int) = ((i + k : Nat) : Int) := by omega
 rw [hy, decide_eq_true (by omega : (k : Int) < (w : Int)), cT, need_i (by omega) (by omega), e, getI_at 0 (by omega), bnd]
 have hb := (s.getD (i + k) 0).toNat_lt
 generalize (s.getD (i + k) 0) = b at hb ⊢
 by_cases h1 : b.toNat < 128
 ·rw [decide_eq_true (by omega : (b.toNat : Int) < 128), cT, bnd, cT, if_neg (by omega)]
 ·rw [decide_eq_false (by omega : ¬ (b.toNat : Int) < 128), cF, bnd]
  by_cases h2 : 191 < b.toNat
  ·rw [decide_eq_true (by omega : (191 : Int) < (b.toNat : Int)), cT, if_neg (by omega)]
  ·rw [decide_eq_false (by omega : ¬ (191 : Int) < (b.toNat : Int)), cF, if_pos (by omega), need_i (by omega) (by omega), need_i (by omega) (by omega), need_i (by omega) (by omega), need_i (by omega) (by omega)]
   congr 3
   ·omega
theorem one_s1e {n : Nat} {s : List UInt8} {i : Nat} {y : Int × Int × Int} {r : Int} {w : Nat} (hy : y.1 = (w : Int)) :
  ref01_One_s1 n s i y (r, (w : Int)) = some (.br (.inr r)) := by
 unfold ref01_One_s1
 dsimp only
 rw [hy, decide_eq_false (by omega : ¬ (w : Int) < (w : Int)), cF]
def contB (s : List UInt8) (i : Nat) : Bool := decide ((s.getD i 0).toNat / 64 = 2)
theorem one_l2 {n : Nat} {s : List UInt8} {i : Nat} {y : Int × Int × Int} {r : Nat} (hy : y.1 = 2) (hi : i + 2 ≤ s.length) (hs : s.length < 1000000) (hr : r < 100) (hn : 5 ≤ n) :
  loopF (ref01_One_s1 n s i y) n ((r : Int), (1 : Int)) = some (if contB s (i + 1) then .inr (((64 * r + (s.getD (i + 1) 0).toNat % 64 : Nat) : Int)) else .inl ()) := by
 obtain ⟨n, rfl⟩ : ∃ q, n = q + 5 := ⟨n - 5, by omega⟩
 have h1 := one_s1 (n := n + 5) (k := 1) (w := 2) hy (by omega) hi hs (by omega : r < 1000000000)
 rw [show ((1 : Nat) : Int) = 1 from rfl] at h1
 rw [loopF, h1, bnd]
 unfold contB
 by_cases h2 : (s.getD (i + 1) 0).toNat / 64 = 2
 ·rw [if_pos h2, if_pos (by simpa using h2)]
  show loopF _ (n + 4) _ = _
  rw [loopF, one_s1e (w := 2) hy, bnd]
 ·rw [if_neg h2, if_neg (by simpa using h2)]
theorem one_l3 {n : Nat} {s : List UInt8} {i : Nat} {y : Int × Int × Int} {r : Nat} (hy : y.1 = 3) (hi : i + 3 ≤ s.length) (hs : s.length < 1000000) (hr : r < 100) (hn : 5 ≤ n) :
  loopF (ref01_One_s1 n s i y) n ((r : Int), (1 : Int)) = some (if contB s (i + 1) && contB s (i + 2) then .inr (((64 * (64 * r + (s.getD (i + 1) 0).toNat % 64) + (s.getD (i + 2) 0).toNat % 64 : Nat) : Int)) else .inl ()) := by
 obtain ⟨n, rfl⟩ : ∃ q, n = q + 5 := ⟨n - 5, by omega⟩
 have h1 := one_s1 (n := n + 5) (k := 1) (w := 3) hy (by omega) hi hs (by omega : r < 1000000000)
 rw [show ((1 : Nat) : Int) = 1 from rfl] at h1
 rw [loopF, h1, bnd]
 unfold contB
 by_cases h2 : (s.getD (i + 1) 0).toNat / 64 = 2
 ·rw [if_pos h2]
  show loopF _ (n + 4) _ = _
  rw [loopF, one_s1 (n := n + 5) (k := 2) (w := 3) hy (by omega) hi hs (by omega), bnd]
  by_cases h3 : (s.getD (i + 2) 0).toNat / 64 = 2
  ·rw [if_pos h3, if_pos (by simp only [h2, h3]; rfl)]
   show loopF _ (n + 3) _ = _
   rw [loopF, one_s1e (w := 3) hy, bnd]
  ·rw [if_neg h3, if_neg (by simp only [h2, h3]; decide)]
 ·rw [if_neg h2, if_neg (by simp only [h2]; simp)]
theorem one_l4 {n : Nat} {s : List UInt8} {i : Nat} {y : Int × Int × Int} {r : Nat} (hy : y.1 = 4) (hi : i + 4 ≤ s.length) (hs : s.length < 1000000) (hr : r < 100) (hn : 5 ≤ n) :
  loopF (ref01_One_s1 n s i y) n ((r : Int), (1 : Int)) = some (if contB s (i + 1) && (contB s (i + 2) && contB s (i + 3)) then .inr (((64 * (64 * (64 * r + (s.getD (i + 1) 0).toNat % 64) + (s.getD (i + 2) 0).toNat % 64) + (s.getD (i + 3) 0).toNat % 64 : Nat) : Int)) else .inl ()) := by
 obtain ⟨n, rfl⟩ : ∃ q, n = q + 5 := ⟨n - 5, by omega⟩
 have h1 := one_s1 (n := n + 5) (k := 1) (w := 4) hy (by omega) hi hs (by omega : r < 1000000000)
 rw [show ((1 : Nat) : Int) = 1 from rfl] at h1
 rw [loopF, h1, bnd]
 unfold contB
 by_cases h2 : (s.getD (i + 1) 0).toNat / 64 = 2
 ·rw [if_pos h2]
  show loopF _ (n + 4) _ = _
  rw [loopF, one_s1 (n := n + 5) (k := 2) (w := 4) hy (by omega) hi hs (by omega), bnd]
  by_cases h3 : (s.getD (i + 2) 0).toNat / 64 = 2
  ·rw [if_pos h3]
   show loopF _ (n + 3) _ = _
   rw [loopF, one_s1 (n := n + 5) (k := 3) (w := 4) hy (by omega) hi hs (by omega), bnd]
   by_cases h4 : (s.getD (i + 3) 0).toNat / 64 = 2
   ·rw [if_pos h4, if_pos (by simp only [h2, h3, h4]; rfl)]
    show loopF _ (n + 2) _ = _
    rw [loopF, one_s1e (w := 4) hy, bnd]
   ·rw [if_neg h4, if_neg (by simp only [h2, h3, h4]; decide)]
  ·rw [if_neg h3, if_neg (by simp only [h2, h3]; simp)]
 ·rw [if_neg h2, if_neg (by simp only [h2]; simp)]
theorem one_ref {n : Nat} {s : List UInt8} {i : Nat} (hi : i < s.length) (hs : s.length < 1000000) (hn : 5 ≤ n) :
  ref01_One n s i = some (if (Lib.decodeL (s.drop i)).1 = 65533 ∧ (Lib.decodeL (s.drop i)).2 = 1 then (0, 0) else (((Lib.decodeL (s.drop i)).1 : Int), ((Lib.decodeL (s.drop i)).2 : Int))) := by
 rw [Lib.decodeL_N, List.length_drop, Lib.getD_dropU, Lib.getD_dropU, Lib.getD_dropU, Lib.getD_dropU, Nat.add_zero]
 unfold ref01_One
 rw [decide_eq_false (by omega : ¬ (i : Int) < 0), cF, decide_eq_false (by omega : ¬ (s.length : Int) ≤ (i : Int)), bnd, cF, getI_at 0 hi, bnd]
 have hb0 := (s.getD i 0).toNat_lt
 have hb1 := (s.getD (i + 1) 0).toNat_lt
 have hb2 := (s.getD (i + 2) 0).toNat_lt
 have hb3 := (s.getD (i + 3) 0).toNat_lt
 obtain ⟨a1, a2, a3⟩ := and_low (s.getD i 0)
 by_cases h0 : (s.getD i 0).toNat < 128
 ·rw [decide_eq_true (by omega : ((s.getD i 0).toNat : Int) < 128), cT, Lib.decodeN_ascii _ _ _ _ _ h0]
  rw [mpS, bnd, jB, if_neg (by dsimp only; omega)]
  rfl
 rw [decide_eq_false (by omega : ¬ ((s.getD i 0).toNat : Int) < 128), cF]
 generalize hD : Lib.decodeN (s.length - i) (s.getD i 0).toNat (s.getD (i + 1) 0).toNat (s.getD (i + 2) 0).toNat (s.getD (i + 3) 0).toNat = D
 have hB : D = (65533, 1) → some ((0 : Int), (0 : Int)) = some (if D.1 = 65533 ∧ D.2 = 1 then (0, 0) else ((D.1 : Int), (D.2 : Int))) := fun e => by rw [e]; rfl
 have hG : ∀ (R w : Nat), D = (R, w) → 1 < w → some ((R : Int), (w : Int)) = some (if D.1 = 65533 ∧ D.2 = 1 then (0, 0) else ((D.1 : Int), (D.2 : Int))) := fun R w e hw => by rw [e, if_neg (by dsimp only; omega)]
 have bad : (s.getD i 0).toNat < 192 ∨ 248 ≤ (s.getD i 0).toNat → D = (65533, 1) := fun hb => by
  rw [← hD]
  unfold Lib.decodeN
  rw [if_neg h0, if_neg (by omega), if_neg (by omega), if_neg (by omega)]
 by_cases h1 : 192 ≤ (s.getD i 0).toNat
 case neg =>
  rw [decide_eq_false (by omega : ¬ (192 : Int) ≤ ((s.getD i 0).toNat : Int)), cF, bnd, cF, decide_eq_false (by omega : ¬ (224 : Int) ≤ ((s.getD i 0).toNat : Int)), cF, bnd, cF, decide_eq_false (by omega : ¬ (240 : Int) ≤ ((s.getD i 0).toNat : Int)), cF, bnd, cF, mpS, bnd, jB]
  exact hB (bad (by omega))
 rw [decide_eq_true (by omega : (192 : Int) ≤ ((s.getD i 0).toNat : Int)), cT]
 by_cases h2 : (s.getD i 0).toNat < 224
 ·rw [decide_eq_true (by omega : ((s.getD i 0).toNat : Int) < 224), bnd, cT, a1, bnd]
  rw [jN]
  dsimp only
  rw [need_i (by omega) (by omega)]
  unfold Lib.decodeN at hD
  rw [if_neg h0] at hD
  by_cases hl : s.length < i + 2
  ·rw [decide_eq_true (by omega : (s.length : Int) < (i : Int) + 2), cT]
   exact hB (by rw [← hD, if_neg (by omega), if_neg (by omega), if_neg (by omega)])
  rw [decide_eq_false (by omega : ¬ (s.length : Int) < (i : Int) + 2), cF, one_l2 rfl (by omega) hs (by omega) hn, bnd]
  unfold contB
  by_cases hc : (s.getD (i + 1) 0).toNat / 64 = 2
  ·rw [if_pos (by simp only [hc]; rfl)]
   rw [if_pos ⟨by omega, by omega, hc⟩] at hD
   dsimp only
   generalize hR : (64 * ((s.getD i 0).toNat % 32) + (s.getD (i + 1) 0).toNat % 64) = R
   rw [show (s.getD i 0).toNat % 32 * 64 + (s.getD (i + 1) 0).toNat % 64 = R by omega] at hD
   have hR2 : R < 2048 := by omega
   by_cases hv : R ≥ 128
   ·rw [if_pos hv] at hD
    rw [decide_eq_false (by omega : ¬ (R : Int) < 128), cF, decide_eq_false (by omega : ¬ (1114111 : Int) < (R : Int)), cF, decide_eq_false (by omega : ¬ (55296 : Int) ≤ (R : Int)), cF, bnd, cF]
    exact hG R 2 hD.symm (by omega)
   ·rw [if_neg hv] at hD
    rw [decide_eq_true (by omega : (R : Int) < 128), cT, bnd, cT]
    exact hB hD.symm
  ·rw [if_neg (by simp only [hc]; decide)]
   exact hB (by rw [← hD, if_neg (by omega), if_neg (by omega), if_neg (by omega)])
 rw [decide_eq_false (by omega : ¬ ((s.getD i 0).toNat : Int) < 224), bnd, cF, decide_eq_true (by omega : (224 : Int) ≤ ((s.getD i 0).toNat : Int)), cT]
 by_cases h3 : (s.getD i 0).toNat < 240
 ·rw [decide_eq_true (by omega : ((s.getD i 0).toNat : Int) < 240), bnd, cT, a2, bnd]
  rw [jN]
  dsimp only
  rw [need_i (by omega) (by omega)]
  unfold Lib.decodeN at hD
  rw [if_neg h0, if_neg (by omega)] at hD
  by_cases hl : s.length < i + 3
  ·rw [decide_eq_true (by omega : (s.length : Int) < (i : Int) + 3), cT]
   exact hB (by rw [← hD, if_neg (by omega), if_neg (by omega)])
  rw [decide_eq_false (by omega : ¬ (s.length : Int) < (i : Int) + 3), cF, one_l3 rfl (by omega) hs (by omega) hn, bnd]
  unfold contB
  by_cases hc : (s.getD (i + 1) 0).toNat / 64 = 2 ∧ (s.getD (i + 2) 0).toNat / 64 = 2
  ·rw [if_pos (by simp only [hc]; rfl)]
   rw [if_pos ⟨by omega, ⟨by omega, hc.1⟩, by omega, hc.2⟩] at hD
   dsimp only
   generalize hR : (64 * (64 * ((s.getD i 0).toNat % 16) + (s.getD (i + 1) 0).toNat % 64) + (s.getD (i + 2) 0).toNat % 64) = R
   rw [show (s.getD i 0).toNat % 16 * 4096 + (s.getD (i + 1) 0).toNat % 64 * 64 + (s.getD (i + 2) 0).toNat % 64 = R by omega] at hD
   have hR2 : R < 65536 := by omega
   by_cases hv : R < 2048
   ·rw [decide_eq_true (by omega : (R : Int) < 2048), cT, bnd, cT]
    exact hB (by rw [← hD, if_neg (by omega)])
   rw [decide_eq_false (by omega : ¬ (R : Int) < 2048), cF, decide_eq_false (by omega : ¬ (1114111 : Int) < (R : Int)), cF]
   by_cases hv2 : 55296 ≤ R
   ·rw [decide_eq_true (by omega : (55296 : Int) ≤ (R : Int)), cT, bnd]
    by_cases hv3 : R ≤ 57343
    ·rw [decide_eq_true (by omega : (R : Int) ≤ 57343), cT]
     exact hB (by rw [← hD, if_neg (by omega)])
    ·rw [decide_eq_false (by omega : ¬ (R : Int) ≤ 57343), cF]
     exact hG R 3 (by rw [← hD, if_pos (by omega)]) (by omega)
   ·rw [decide_eq_false (by omega : ¬ (55296 : Int) ≤ (R : Int)), cF, bnd, cF]
    exact hG R 3 (by rw [← hD, if_pos (by omega)]) (by omega)
  ·rw [if_neg (by simp only [Bool.and_eq_true, decide_eq_true_eq]; exact hc)]
   exact hB (by rw [← hD, if_neg (by omega), if_neg (by omega)])
 rw [decide_eq_false (by omega : ¬ ((s.getD i 0).toNat : Int) < 240), bnd, cF, decide_eq_true (by omega : (240 : Int) ≤ ((s.getD i 0).toNat : Int)), cT]
 by_cases h4 : (s.getD i 0).toNat < 248
 ·rw [decide_eq_true (by omega : ((s.getD i 0).toNat : Int) < 248), bnd, cT, a3, bnd]
  rw [jN]
  dsimp only
  rw [need_i (by omega) (by omega)]
  unfold Lib.decodeN at hD
  rw [if_neg h0, if_neg (by omega), if_neg (by omega)] at hD
  by_cases hl : s.length < i + 4
  ·rw [decide_eq_true (by omega : (s.length : Int) < (i : Int) + 4), cT]
   exact hB (by rw [← hD, if_neg (by omega)])
  rw [decide_eq_false (by omega : ¬ (s.length : Int) < (i : Int) + 4), cF, one_l4 rfl (by omega) hs (by omega) hn, bnd]
  unfold contB
  by_cases hc : (s.getD (i + 1) 0).toNat / 64 = 2 ∧ (s.getD (i + 2) 0).toNat / 64 = 2 ∧ (s.getD (i + 3) 0).toNat / 64 = 2
  ·rw [if_pos (by simp only [hc]; rfl)]
   rw [if_pos ⟨by omega, ⟨by omega, hc.1⟩, ⟨by omega, hc.2.1⟩, by omega, hc.2.2⟩] at hD
   dsimp only
   generalize hR : (64 * (64 * (64 * ((s.getD i 0).toNat % 8) + (s.getD (i + 1) 0).toNat % 64) + (s.getD (i + 2) 0).toNat % 64) + (s.getD (i + 3) 0).toNat % 64) = R
   rw [show (s.getD i 0).toNat % 8 * 262144 + (s.getD (i + 1) 0).toNat % 64 * 4096 + (s.getD (i + 2) 0).toNat % 64 * 64 + (s.getD (i + 3) 0).toNat % 64 = R by omega] at hD
   have hR2 : R < 16777216 := by omega
   by_cases hv : R < 65536
   ·rw [decide_eq_true (by omega : (R : Int) < 65536), cT, bnd, cT]
    exact hB (by rw [← hD, if_neg (by omega)])
   rw [decide_eq_false (by omega : ¬ (R : Int) < 65536), cF]
   by_cases hv2 : 1114111 < R
   ·rw [decide_eq_true (by omega : (1114111 : Int) < (R : Int)), cT, bnd, cT]
    exact hB (by rw [← hD, if_neg (by omega)])
   ·rw [decide_eq_false (by omega : ¬ (1114111 : Int) < (R : Int)), cF, decide_eq_true (by omega : (55296 : Int) ≤ (R : Int)), cT, bnd, decide_eq_false (by omega : ¬ (R : Int) ≤ 57343), cF]
    exact hG R 4 (by rw [← hD, if_pos (by omega)]) (by omega)
  ·rw [if_neg (by simp only [Bool.and_eq_true, decide_eq_true_eq]; exact hc)]
   exact hB (by rw [← hD, if_neg (by omega)])
 rw [decide_eq_false (by omega : ¬ ((s.getD i 0).toNat : Int) < 248), bnd, cF, mpS, bnd, jB]
 exact hB (bad (by omega))
theorem valid_loop {n : Nat} {s : List UInt8} (hs : s.length < 1000000) (hn : 5 ≤ n) : ∀ (m i : Nat), s.length ≤ i + m → i ≤ s.length → ∀ q, m < q → loopF (ref01_Valid_s1 n s) q (i : Int) = some (if Lib.validD (s.drop i) then .inr () else .inl ())
 | 0, i, hm, hi, q, hq => by
  obtain ⟨q, rfl⟩ : ∃ r, q = r + 1 := ⟨q - 1, by omega⟩
  have e : s.drop i = [] := List.drop_eq_nil_of_le (by omega)
  rw [loopF, e]
  unfold ref01_Valid_s1
  rw [decide_eq_false (by omega), cF, bnd]
  rfl
 | m + 1, i, hm, hi, q, hq => by
  obtain ⟨q, rfl⟩ : ∃ r, q = r + 1 := ⟨q - 1, by omega⟩
  by_cases hlt : i < s.length
  ·have hne : s.drop i ≠ [] := fun e => by
    have := congrArg List.length e
    rw [List.length_drop] at this
    simp at this
    omega
   have hst : ref01_Valid_s1 n s (i : Int) = some (if (Lib.decodeL (s.drop i)).1 = 65533 ∧ (Lib.decodeL (s.drop i)).2 = 1 then .br (.inl ()) else .nx (((i + (Lib.decodeL (s.drop i)).2 : Nat) : Int))) := by
    unfold ref01_Valid_s1
    rw [decide_eq_true (by omega : (i : Int) < (s.length : Int)), cT, one_ref hlt hs hn, bnd]
    by_cases hb : (Lib.decodeL (s.drop i)).1 = 65533 ∧ (Lib.decodeL (s.drop i)).2 = 1
    ·rw [if_pos hb, if_pos hb]
     rfl
    ·rw [if_neg hb, if_neg hb]
     have hw := Lib.decodeL_width (s.drop i)
     have hw4 : (Lib.decodeL (s.drop i)).2 ≤ 4 := by
      rcases dec_cases (s.drop i) hne with ⟨e, _⟩ | ⟨r, w, e, h1, h2, h3, _⟩
      ·rw [e]; decide
      ·rw [e]; exact h3
     dsimp only
     rw [decide_eq_false (by omega), cF, need_i (by omega) (by omega)]
     rfl
   rw [loopF, hst, bnd, Lib.validD_step _ hne]
   by_cases hb : (Lib.decodeL (s.drop i)).1 = 65533 ∧ (Lib.decodeL (s.drop i)).2 = 1
   ·rw [if_pos hb, if_pos hb]
    rfl
   ·rw [if_neg hb, if_neg hb]
    have hw := Lib.decodeL_width (s.drop i)
    have hle : (Lib.decodeL (s.drop i)).2 ≤ s.length - i := by
     rcases dec_cases (s.drop i) hne with ⟨e, _⟩ | ⟨r, w, e, h1, _⟩
     ·rw [e] at hb; exact absurd ⟨rfl, rfl⟩ hb
     ·rw [e]; rw [List.length_drop] at h1; exact h1
    dsimp only
    rw [valid_loop hs hn m _ (by omega) (by omega) q (by omega), List.drop_drop]
  ·have e : s.drop i = [] := List.drop_eq_nil_of_le (by omega)
   rw [loopF, e]
   unfold ref01_Valid_s1
   rw [decide_eq_false (by omega), cF, bnd]
   rfl
theorem valid_ref {n : Nat} {s : List UInt8} (hs : s.length < 1000000) (hn : 5 ≤ n) (hl : s.length < n) : ref01_Valid n s = some (Lib.validD s) := by
 unfold ref01_Valid
 have h := valid_loop hs hn s.length 0 (by omega) (by omega) n hl
 rw [show ((0 : Nat) : Int) = 0 from rfl, List.drop_zero] at h
 rw [h, bnd]
 cases Lib.validD s <;> rfl
end Go.Proofs.YtalifkcchfkgmaaDoor
end
section
namespace Go.Proofs.YtalifkcchfkgmaaDoor
open Go Go.Vc Go.RowKit
theorem great_ok {n : Nat} (hn : 3000 < n) (v : TB0) : ∃ g, ref03_Great n v = some g ∧ (g = false → Small 30 v ∧ (walkV v).length ≤ 5000) := by
 obtain ⟨W, w1, w2, w3, w4⟩ := weight_ok hn n 30 v (by omega) (by omega)
 refine ⟨decide ((5000 : Int) < W), ?_, fun h => ?_⟩
 ·unfold ref03_Great ref03_weight
  have e : ((30 : Nat) : Int) = 30 := rfl
  rw [e] at w1
  rw [w1, bnd]
 ·have h' := of_decide_eq_false h
  obtain ⟨a, b⟩ := w4 (by omega)
  exact ⟨a, by omega⟩
theorem wvs_mem : ∀ {l : List TB0} {x : TB0}, x ∈ l → (walkV x).length ≤ (walkVs l).length
 | y :: r, x, h => by
  rw [walkVs, List.length_append]
  rcases List.mem_cons.1 h with rfl | h
  ·omega
  ·have := wvs_mem h
   omega
end Go.Proofs.YtalifkcchfkgmaaDoor
end
section
namespace Go.Proofs.YtalifkcchfkgmaaDoor
open Go Go.Vc Go.RowKit
def thenC (a b : Int) : Int := bif decide (a = 0) then b else a
def cmpI (a b : Int) : Int := bif decide (a < b) then -1 else bif decide (b < a) then 1 else 0
def bitI (b : Bool) : Int := bif b then 1 else 0
theorem thenC0 (b : Int) : thenC 0 b = b := rfl
theorem thenCn {a : Int} (b : Int) (h : a ≠ 0) : thenC a b = a := by unfold thenC; rw [decide_eq_false h, cF]
mutual
def cmpV : TB0 → TB0 → Int
  | ⟨k, b, n, t, l, ks⟩, w => thenC (cmpI k w.fKind) (thenC (cmpI (bitI b) (bitI w.fBool)) (thenC (cmpI n w.fNum) (thenC (Lib.compareBytes t w.fText) (cmpVs (decide (k = 5)) l ks w.fList w.fKeys))))
def cmpVs (o : Bool) : List TB0 → List (List UInt8) → List TB0 → List (List UInt8) → Int
  | [], _, [], _ => 0
  | [], _, _ :: _, _ => -1
  | _ :: _, _, [], _ => 1
  | x :: l, ks, y :: m, js => thenC (bif o then Lib.compareBytes (ks.headD []) (js.headD []) else 0) (thenC (cmpV x y) (cmpVs o l ks.tail m js.tail))
end
theorem cmpV_eq (v w : TB0) : cmpV v w = thenC (cmpI v.fKind w.fKind) (thenC (cmpI (bitI v.fBool) (bitI w.fBool)) (thenC (cmpI v.fNum w.fNum) (thenC (Lib.compareBytes v.fText w.fText) (cmpVs (decide (v.fKind = 5)) v.fList v.fKeys w.fList w.fKeys)))) := by
 cases v; rw [cmpV]
theorem cmpI_cases (a b : Int) : (a < b ∧ cmpI a b = -1) ∨ (a = b ∧ cmpI a b = 0) ∨ (b < a ∧ cmpI a b = 1) := by
 unfold cmpI
 rcases Int.lt_trichotomy a b with h | h | h
 ·exact .inl ⟨h, by rw [decide_eq_true h, cT]⟩
 ·subst h; exact .inr (.inl ⟨rfl, by rw [decide_eq_false (by omega), cF, cF]⟩)
 ·exact .inr (.inr ⟨h, by rw [decide_eq_false (by omega), cF, decide_eq_true h, cT]⟩)
theorem cmpI_zero {a b : Int} (h : cmpI a b = 0) : a = b := by
 unfold cmpI at h
 by_cases h1 : a < b
 ·rw [decide_eq_true h1, cT] at h; omega
 ·rw [decide_eq_false h1, cF] at h
  by_cases h2 : b < a
  ·rw [decide_eq_true h2, cT] at h; omega
  ·omega
theorem cmpI_self (a : Int) : cmpI a a = 0 := by unfold cmpI; rw [decide_eq_false (by omega), cF, cF]
theorem cmpI_anti (a b : Int) : cmpI b a = - cmpI a b := by
 unfold cmpI
 rcases Int.lt_trichotomy a b with h | h | h
 ·rw [decide_eq_true h, decide_eq_false (by omega), cT, cF, cT]; rfl
 ·subst h; rw [decide_eq_false (by omega), cF, cF]; rfl
 ·rw [decide_eq_true h, decide_eq_false (by omega), cT, cF, cT]
theorem thenC_anti {a b a' b' : Int} (h : a' = - a) (h' : a = 0 → b' = - b) : thenC a' b' = - thenC a b := by
 by_cases e : a = 0
 ·subst e
  have : a' = 0 := by omega
  subst this
  rw [thenC0, thenC0]
  exact h' rfl
 ·rw [thenCn b e, thenCn b' (by omega)]; exact h
theorem thenC_zero {a b : Int} (h : thenC a b = 0) : a = 0 ∧ b = 0 := by
 by_cases e : a = 0
 ·subst e; exact ⟨rfl, h⟩
 ·rw [thenCn b e] at h; exact absurd h e
mutual
theorem cmpV_anti : ∀ v w : TB0, cmpV w v = - cmpV v w
 | ⟨k, b, n, t, l, ks⟩, w => by
  rw [cmpV_eq, cmpV_eq]
  refine thenC_anti (cmpI_anti _ _) fun h1 => thenC_anti (cmpI_anti _ _) fun _ => thenC_anti (cmpI_anti _ _) fun _ => thenC_anti (cb_anti _ _) fun _ => ?_
  have := cmpI_zero h1
  rw [← this]
  exact cmpVs_anti _ l ks w.fList w.fKeys
theorem cmpVs_anti (o : Bool) : ∀ (l : List TB0) (ks : List (List UInt8)) (m : List TB0) (js : List (List UInt8)), cmpVs o m js l ks = - cmpVs o l ks m js
 | [], _, [], _ => by simp [cmpVs]
 | [], _, _ :: _, _ => by simp [cmpVs]
 | _ :: _, _, [], _ => by simp [cmpVs]
 | x :: l, ks, y :: m, js => by
  rw [cmpVs, cmpVs]
  refine thenC_anti ?_ fun _ => thenC_anti (cmpV_anti x y) fun _ => cmpVs_anti o l ks.tail m js.tail
  cases o with
  | true => rw [cT, cT]; exact cb_anti _ _
  | false => rw [cF, cF]; rfl
end
theorem cmpV_self (v : TB0) : cmpV v v = 0 := by
 have := cmpV_anti v v
 omega
theorem cmpI_range (a b : Int) : -1 ≤ cmpI a b ∧ cmpI a b ≤ 1 := by
 have := cmpI_cases a b
 omega
theorem cb_range : ∀ a b : List UInt8, -1 ≤ Lib.compareBytes a b ∧ Lib.compareBytes a b ≤ 1
 | [], [] => by simp [Lib.compareBytes]
 | [], _ :: _ => by simp [Lib.compareBytes]
 | _ :: _, [] => by simp [Lib.compareBytes]
 | x :: r, y :: s => by
  have := cb_range r s
  unfold Lib.compareBytes
  split
  ·omega
  ·split <;> omega
end Go.Proofs.YtalifkcchfkgmaaDoor
end
section
namespace Go.Proofs.YtalifkcchfkgmaaDoor
open Go Go.Vc Go.RowKit
def PlainV (v : TB0) : Prop := 0 ≤ v.fKind ∧ v.fKind ≤ 5 ∧ (v.fBool = true → v.fKind = 1) ∧ (v.fNum ≠ 0 → v.fKind = 2) ∧ (v.fText ≠ [] → v.fKind = 3) ∧ (v.fList.length ≠ 0 → v.fKind = 4 ∨ v.fKind = 5) ∧ (v.fKind = 5 → v.fKeys.length = v.fList.length) ∧ (v.fKind ≠ 5 → v.fKeys.length = 0)
instance (v : TB0) : Decidable (PlainV v) := by unfold PlainV; exact inferInstance
def aloneV (v : TB0) : Int :=
  if PlainV v then (if v.fNum < -9007199254740992 ∨ 9007199254740992 < v.fNum then 20 else if Lib.validD v.fText = true ∧ ∀ k ∈ v.fKeys, Lib.validD k = true then (if v.fKeys.Nodup then 0 else 41) else 10) else 2
def NumOut (v : TB0) : Prop := v.fNum < -9007199254740992 ∨ 9007199254740992 < v.fNum
def TextsOk (v : TB0) : Prop := Lib.validD v.fText = true ∧ ∀ k ∈ v.fKeys, Lib.validD k = true
theorem alone_2 {v : TB0} (h : ¬ PlainV v) : aloneV v = 2 := if_neg h
theorem alone_20 {v : TB0} (h : PlainV v) (hn : NumOut v) : aloneV v = 20 := (if_pos h).trans (if_pos hn)
theorem alone_10 {v : TB0} (h : PlainV v) (hn : ¬ NumOut v) (ht : ¬ TextsOk v) : aloneV v = 10 := ((if_pos h).trans (if_neg hn)).trans (if_neg ht)
theorem alone_41 {v : TB0} (h : PlainV v) (hn : ¬ NumOut v) (ht : TextsOk v) (hd : ¬ v.fKeys.Nodup) : aloneV v = 41 := (((if_pos h).trans (if_neg hn)).trans (if_pos ht)).trans (if_neg hd)
theorem alone_0 {v : TB0} (h : PlainV v) (hn : ¬ NumOut v) (ht : TextsOk v) (hd : v.fKeys.Nodup) : aloneV v = 0 := (((if_pos h).trans (if_neg hn)).trans (if_pos ht)).trans (if_pos hd)
theorem alone_ok {v : TB0} (h : aloneV v = 0) : PlainV v ∧ ¬ NumOut v ∧ TextsOk v ∧ v.fKeys.Nodup := by
 by_cases h1 : PlainV v
 ·by_cases h2 : NumOut v
  ·rw [alone_20 h1 h2] at h; omega
  ·by_cases h3 : TextsOk v
   ·by_cases h4 : v.fKeys.Nodup
    ·exact ⟨h1, h2, h3, h4⟩
    ·rw [alone_41 h1 h2 h3 h4] at h; omega
   ·rw [alone_10 h1 h2 h3] at h; omega
 ·rw [alone_2 h1] at h; omega
def Wide (v : TB0) : Prop := v.fList.length ≤ 3000 ∧ v.fKeys.length ≤ 3000 ∧ v.fText.length ≤ 5000 ∧ ∀ k ∈ v.fKeys, k.length ≤ 5000
theorem Small.wide : ∀ {d : Nat} {v : TB0}, Small d v → Wide v
 | _ + 1, _, h => ⟨h.1, h.2.1, h.2.2.1, h.2.2.2.1⟩
theorem plain_ref {n : Nat} (v : TB0) : ref03_plain n v = some (decide (PlainV v)) := by
  unfold ref03_plain
  by_cases h0 : v.fKind < 0
  · rw [decide_eq_true h0, cT, bnd, cT, decide_eq_false (fun h => by have := h.1; omega)]
  rw [decide_eq_false h0, cF, bnd]
  by_cases h5 : 5 < v.fKind
  · rw [decide_eq_true h5, cT, decide_eq_false (fun h => by have := h.2.1; omega)]
  rw [decide_eq_false h5, cF]
  have key : ((bif v.fBool then
        (bif (!(decide (v.fKind = 1))) then
          (some ((true)))
        else
          bif (!(decide (v.fNum = 0))) then
            (bif (!(decide (v.fKind = 2))) then
              (some ((true)))
            else
              bif (!(decide (v.fText = []))) then
                (some ((!(decide (v.fKind = 3)))))
              else
                some ((false)))
          else
            bif (!(decide (v.fText = []))) then
              (some ((!(decide (v.fKind = 3)))))
            else
              some ((false)))
      else
        bif (!(decide (v.fNum = 0))) then
          (bif (!(decide (v.fKind = 2))) then
            (some ((true)))
          else
            bif (!(decide (v.fText = []))) then
              (some ((!(decide (v.fKind = 3)))))
            else
              some ((false)))
        else
          bif (!(decide (v.fText = []))) then
            (some ((!(decide (v.fKind = 3)))))
          else
            some ((false)) : Option Bool)) = some (!decide ((v.fBool = true → v.fKind = 1) ∧ (v.fNum ≠ 0 → v.fKind = 2) ∧ (v.fText ≠ [] → v.fKind = 3))) := by
    cases v.fBool <;> by_cases h1 : v.fKind = 1 <;> by_cases h2 : v.fKind = 2 <;> by_cases h3 : v.fKind = 3 <;> by_cases hn : v.fNum = 0 <;> by_cases ht : v.fText = [] <;> simp [h1, h2, h3, hn, ht]
  rw [key, bnd]
  by_cases hk : (v.fBool = true → v.fKind = 1) ∧ (v.fNum ≠ 0 → v.fKind = 2) ∧ (v.fText ≠ [] → v.fKind = 3)
  · rw [decide_eq_true hk, Bool.not_true, cF]
    by_cases hl : v.fList.length = 0
    · rw [decide_eq_false (by omega), cF, bnd, cF]
      by_cases e5 : v.fKind = 5
      · rw [decide_eq_true e5, cT]
        refine congrArg some (decide_eq_decide.2 ?_)
        unfold PlainV
        constructor
        · intro h; exact ⟨by omega, by omega, hk.1, hk.2.1, hk.2.2, fun h => absurd hl h, fun _ => by omega, fun h => absurd e5 h⟩
        · intro h; have := h.2.2.2.2.2.2.1 e5; omega
      · rw [decide_eq_false e5, cF]
        refine congrArg some (decide_eq_decide.2 ?_)
        unfold PlainV
        constructor
        · intro h; exact ⟨by omega, by omega, hk.1, hk.2.1, hk.2.2, fun h => absurd hl h, fun h => absurd h e5, fun _ => by omega⟩
        · intro h; have := h.2.2.2.2.2.2.2 e5; omega
    · rw [decide_eq_true (by omega), cT]
      by_cases e4 : v.fKind = 4
      · rw [decide_eq_true e4, Bool.not_true, cF, bnd, cF, decide_eq_false (by omega), cF]
        refine congrArg some (decide_eq_decide.2 ?_)
        unfold PlainV
        constructor
        · intro h; exact ⟨by omega, by omega, hk.1, hk.2.1, hk.2.2, fun h => .inl e4, fun h => by omega, fun _ => by omega⟩
        · intro h; have := h.2.2.2.2.2.2.2 (by omega); omega
      · rw [decide_eq_false e4, Bool.not_false, cT]
        by_cases e5 : v.fKind = 5
        · rw [decide_eq_true e5, Bool.not_true, bnd, cF, cT]
          refine congrArg some (decide_eq_decide.2 ?_)
          unfold PlainV
          constructor
          · intro h; exact ⟨by omega, by omega, hk.1, hk.2.1, hk.2.2, fun h => .inr e5, fun _ => by omega, fun h => absurd e5 h⟩
          · intro h; have := h.2.2.2.2.2.2.1 e5; omega
        · rw [decide_eq_false e5, Bool.not_false, bnd, cT, decide_eq_false]
          intro h
          have := h.2.2.2.2.2.1 hl
          omega
  · rw [decide_eq_false hk, Bool.not_false, cT, decide_eq_false]
    intro h
    exact hk ⟨h.2.2.1, h.2.2.2.1, h.2.2.2.2.1⟩
theorem mem_take_succ {α : Type} {l : List α} {i : Nat} {x : α} (h : l[i]? = some x) (y : α) : y ∈ l.take (i + 1) ↔ y ∈ l.take i ∨ y = x := by
 rw [List.take_add_one, h, List.mem_append]
 simp
theorem nodup_take_succ {α : Type} {l : List α} {i : Nat} {x : α} (h : l[i]? = some x) : (l.take (i + 1)).Nodup ↔ (l.take i).Nodup ∧ x ∉ l.take i := by
 rw [List.take_add_one, h]
 simp only [Option.toList_some, List.nodup_append]
 constructor
 ·rintro ⟨h1, _, h3⟩
  exact ⟨h1, fun hx => h3 x hx x (by simp) rfl⟩
 ·rintro ⟨h1, h2⟩
  refine ⟨h1, by simp, fun a ha b hb => ?_⟩
  simp only [List.mem_singleton] at hb
  subst hb
  intro e
  exact h2 (e ▸ ha)
theorem nodup_of_take {α : Type} {l : List α} (i : Nat) (h : l.Nodup) : (l.take i).Nodup := (List.take_sublist i l).nodup h
theorem keys_ref {n : Nat} (hn : 6000 < n) {v : TB0} (hw : Wide v) : loopF (ref03_wrong_s1 n v) n (0 : Int) = some (bif v.fKeys.any (fun k => !Lib.validD k) then .inl () else .inr ()) := by
 rw [← any_range [] (fun k => !Lib.validD k) v.fKeys]
 refine loop_any (fun k => !Lib.validD (v.fKeys.getD k [])) v.fKeys.length _ _ (fun k hk => ?_) ?_ (by have := hw.2.1; omega)
 ·unfold ref03_wrong_s1
  have hm : v.fKeys.getD k [] ∈ v.fKeys := by simp [List.getD, hk]
  have hl := hw.2.2.2 _ hm
  rw [decide_eq_true (by omega), cT, getI_at [] hk, bnd, valid_ref (by omega) (by omega) (by omega), bnd]
  cases Lib.validD (v.fKeys.getD k []) with
  | true => rw [Bool.not_true, cF, need_i (by omega) (by have := hw.2.1; omega)]; simp
  | false => rw [Bool.not_false, cT]; simp
 ·unfold ref03_wrong_s1
  rw [decide_eq_false (by omega), cF]
theorem twice_in {n : Nat} (hn : 6000 < n) {v : TB0} (hw : Wide v) {i : Nat} (hi : i < v.fKeys.length) : loopF (ref03_wrong_s3 n v (i : Int)) n (0 : Int) = some (bif (List.range i).any (fun k => decide (v.fKeys.getD k [] = v.fKeys.getD i [])) then .inl () else .inr ()) := by
 refine loop_any (fun k => decide (v.fKeys.getD k [] = v.fKeys.getD i [])) i _ _ (fun k hk => ?_) ?_ (by have := hw.2.1; omega)
 ·unfold ref03_wrong_s3
  rw [decide_eq_true (by omega), cT, getI_at [] (by omega), bnd, getI_at [] hi, bnd]
  by_cases h : v.fKeys.getD k [] = v.fKeys.getD i []
  ·rw [decide_eq_true h, cT]; simp
  ·rw [decide_eq_false h, cF, need_i (by omega) (by have := hw.2.1; omega)]; simp
 ·unfold ref03_wrong_s3
  rw [decide_eq_false (by omega), cF]
theorem any_take {l : List (List UInt8)} {i : Nat} (hi : i < l.length) : (List.range i).any (fun k => decide (l.getD k [] = l.getD i [])) = decide (l[i] ∈ l.take i) := by
 rw [Bool.eq_iff_iff, List.any_eq_true, decide_eq_true_eq, List.mem_take_iff_getElem]
 constructor
 ·rintro ⟨k, hk, h⟩
  have hk' : k < i := by simpa using hk
  refine ⟨k, by omega, ?_⟩
  have := of_decide_eq_true h
  simpa [List.getD, hi, (by omega : k < l.length)] using this
 ·rintro ⟨k, hk, h⟩
  refine ⟨k, List.mem_range.2 (by omega), ?_⟩
  simpa [List.getD, hi, (by omega : k < l.length)] using h
theorem twice_ref {n : Nat} (hn : 6000 < n) {v : TB0} (hw : Wide v) : loopF (ref03_wrong_s2 n v) n (0 : Int) = some (bif decide v.fKeys.Nodup then .inr () else .inl ()) := by
 obtain ⟨b, hb, hp⟩ := loop_inv (step := ref03_wrong_s2 n v) (n := n) (s0 := (0 : Int)) (fun k s => s = (k : Int) ∧ (v.fKeys.take k).Nodup)
  (fun b => b = bif decide v.fKeys.Nodup then .inr () else .inl ()) v.fKeys.length ⟨rfl, by simp⟩
  (fun q s hq hI => by
   obtain ⟨rfl, hnd⟩ := hI
   unfold ref03_wrong_s2
   rw [decide_eq_true (by omega), cT, twice_in hn hw hq, bnd, any_take hq]
   have hx : v.fKeys[q]? = some v.fKeys[q] := List.getElem?_eq_getElem hq
   by_cases hm : v.fKeys[q] ∈ v.fKeys.take q
   ·rw [decide_eq_true hm, cT]
    refine .inr ⟨_, rfl, ?_⟩
    rw [decide_eq_false, cF]
    intro h
    exact ((nodup_take_succ hx).1 (nodup_of_take (q + 1) h)).2 hm
   ·rw [decide_eq_false hm, cF]
    dsimp only
    rw [need_i (by omega) (by have := hw.2.1; omega)]
    exact .inl ⟨_, rfl, by omega, (nodup_take_succ hx).2 ⟨hnd, hm⟩⟩)
  (fun s hI => by
   obtain ⟨rfl, hnd⟩ := hI
   rw [List.take_length] at hnd
   unfold ref03_wrong_s2
   rw [decide_eq_false (by omega), cF]
   exact ⟨_, rfl, by rw [decide_eq_true hnd, cT]⟩) (by have := hw.2.1; omega)
 rw [hb, hp]
def faultL : List TB0 → Int
  | [] => 0
  | x :: r => if aloneV x = 0 then faultL r else aloneV x
theorem faultL_app : ∀ l m : List TB0, faultL (l ++ m) = if faultL l = 0 then faultL m else faultL l
 | [], m => by simp [faultL]
 | x :: l, m => by
  rw [List.cons_append, faultL, faultL, faultL_app l m]
  by_cases h : aloneV x = 0
  ·rw [if_pos h, if_pos h]
  ·rw [if_neg h, if_neg h, if_neg h]
theorem faultL_cons_walk (v : TB0) : faultL (walkV v) = if aloneV v = 0 then faultL (walkVs v.fList) else aloneV v := by rw [walkV_eq, faultL]
theorem faultL_take {l : List TB0} {i : Nat} {x : TB0} (h : l[i]? = some x) : faultL (walkVs (l.take (i + 1))) = if faultL (walkVs (l.take i)) = 0 then faultL (walkV x) else faultL (walkVs (l.take i)) := by rw [walkVs_take h, faultL_app]
theorem wrong_ref {n : Nat} (hn : 6000 < n) : ∀ (k d : Nat) (v : TB0), d ≤ k → Small d v → ref03_wrong_k n k v = some (faultL (walkV v))
 | _, 0, v, _, h => h.elim
 | 0, d + 1, v, h, _ => absurd h (by omega)
 | k + 1, d + 1, v, hk, hs => by
  have hw := hs.wide
  obtain ⟨h1, h2, h3, h4, h5⟩ := hs
  show ref03_wrong_b n (ref03_wrong_k n k) v = _
  unfold ref03_wrong_b
  rw [faultL_cons_walk, plain_ref, bnd]
  by_cases hp : PlainV v
  ·rw [decide_eq_true hp, Bool.not_true, cF]
   by_cases hnum : NumOut v
   ·rw [alone_20 hp hnum, if_neg (by decide)]
    rcases hnum with hm | hm
    ·rw [decide_eq_true hm, cT, bnd, cT]
    ·by_cases hm' : v.fNum < -9007199254740992
     ·omega
     ·rw [decide_eq_false hm', cF, bnd, decide_eq_true hm, cT]
   ·have hnum' : ¬ (v.fNum < -9007199254740992 ∨ 9007199254740992 < v.fNum) := hnum
    rw [decide_eq_false (by omega), cF, bnd, decide_eq_false (by omega), cF, valid_ref (by omega) (by omega) (by omega), bnd, keys_ref hn hw, twice_ref hn hw]
    cases hv : Lib.validD v.fText with
    | false =>
     rw [Bool.not_false, cT, alone_10 hp hnum (fun h => by rw [h.1] at hv; cases hv), if_neg (by decide)]
    | true =>
     rw [Bool.not_true, cF, bnd]
     by_cases ha : ∀ k ∈ v.fKeys, Lib.validD k = true
     ·have : v.fKeys.any (fun k => !Lib.validD k) = false := by
       rw [List.any_eq_false]
       intro x hx
       simp [ha x hx]
      rw [this, cF]
      dsimp only
      rw [bnd]
      by_cases hd : v.fKeys.Nodup
      ·rw [decide_eq_true hd, cT, alone_0 hp hnum ⟨hv, ha⟩ hd, if_pos rfl]
       dsimp only
       obtain ⟨b, hb, hpost⟩ := loop_inv (step := ref03_wrong_s4 n (ref03_wrong_k n k) v) (n := n) (s0 := (0 : Int)) (fun q s => s = (q : Int) ∧ faultL (walkVs (v.fList.take q)) = 0)
        (fun b => match b with | .inl e => e = faultL (walkVs v.fList) | .inr () => faultL (walkVs v.fList) = 0) v.fList.length ⟨rfl, by simp [walkVs, faultL]⟩
        (fun q s hq hI => by
         obtain ⟨rfl, hf⟩ := hI
         have hx : v.fList[q]? = some v.fList[q] := List.getElem?_eq_getElem hq
         have hg : getI v.fList (q : Int) = some v.fList[q] := by simp [getI]
         have hft := faultL_take hx
         rw [if_pos hf] at hft
         unfold ref03_wrong_s4
         rw [decide_eq_true (by omega), cT, hg, bnd, wrong_ref hn k d _ (by omega) (h5 _ (List.getElem_mem hq)), bnd]
         by_cases he : faultL (walkV v.fList[q]) = 0
         ·rw [decide_eq_true he, Bool.not_true, cF, need_i (by omega) (by omega)]
          exact .inl ⟨_, rfl, by omega, by rw [hft]; exact he⟩
         ·rw [decide_eq_false he, Bool.not_false, cT]
          refine .inr ⟨_, rfl, ?_⟩
          have hsplit : walkVs v.fList = walkVs (v.fList.take (q + 1)) ++ walkVs (v.fList.drop (q + 1)) := by rw [← walkVs_app, List.take_append_drop]
          dsimp only
          rw [hsplit, faultL_app, hft, if_neg he])
        (fun s hI => by
         obtain ⟨rfl, hf⟩ := hI
         rw [List.take_length] at hf
         unfold ref03_wrong_s4
         rw [decide_eq_false (by omega), cF]
         exact ⟨_, rfl, hf⟩) (by omega)
       rw [hb, bnd]
       cases b with
       | inl e => dsimp only at hpost ⊢; rw [hpost]
       | inr u => dsimp only at hpost ⊢; rw [hpost]
      ·rw [decide_eq_false hd, cF, alone_41 hp hnum ⟨hv, ha⟩ hd, if_neg (by decide)]
     ·rw [alone_10 hp hnum (fun h => ha h.2), if_neg (by decide)]
      have : v.fKeys.any (fun k => !Lib.validD k) = true := by
       rw [List.any_eq_true]
       apply Classical.byContradiction
       intro h
       apply ha
       intro k hk
       cases hvk : Lib.validD k with
       | true => rfl
       | false => exact absurd ⟨k, hk, by simp [hvk]⟩ h
      rw [this, cT]
  ·rw [decide_eq_false hp, Bool.not_false, cT, alone_2 hp, if_neg (by decide)]
end Go.Proofs.YtalifkcchfkgmaaDoor
end
section
namespace Go.Proofs.YtalifkcchfkgmaaDoor
open Go Go.Vc Go.RowKit
theorem valid_run {n : Nat} {s : List UInt8} (h : s.length < 1000000) : runes_Valid n s = some (Lib.validD s) := by
 unfold runes_Valid h_ValidString
 rw [need_t (by omega), bnd]
theorem contains_run {n : Nat} (hn : 6000 < n) {v : TB0} (hw : Wide v) : slices_ContainsFuncstring_string n v.fKeys = some (v.fKeys.any (fun k => !Lib.validD k)) := by
 unfold slices_ContainsFuncstring_string slices_IndexFuncstring_string
 have hl := hw.2.1
 have hd : ∀ k : Nat, k < v.fKeys.length → slices_IndexFuncstring_string_s1 n v.fKeys (k : Int) = some (if !Lib.validD (v.fKeys.getD k []) then .br (.inl (k : Int)) else .nx ((k : Int) + 1)) := fun k hk => by
  unfold slices_IndexFuncstring_string_s1 tree_alone_1
  have hm : v.fKeys.getD k [] ∈ v.fKeys := by simp [List.getD, hk]
  have := hw.2.2.2 _ hm
  rw [decide_eq_true (by omega), cT, getI_at [] hk, bnd, valid_run (by omega), bnd, bnd]
  cases Lib.validD (v.fKeys.getD k []) with
  | true => rw [Bool.not_true, cF, need_i (by omega) (by omega)]; rfl
  | false => rw [Bool.not_false, cT]; rfl
 obtain ⟨b, hb, hp⟩ := loop_inv (step := slices_IndexFuncstring_string_s1 n v.fKeys) (n := n) (s0 := (0 : Int)) (fun q s => s = (q : Int) ∧ ∀ k ∈ v.fKeys.take q, Lib.validD k = true)
  (fun b => match b with | .inl i => 0 ≤ i ∧ v.fKeys.any (fun k => !Lib.validD k) = true | .inr () => v.fKeys.any (fun k => !Lib.validD k) = false) v.fKeys.length ⟨rfl, by simp⟩
  (fun q s hq hI => by
   obtain ⟨rfl, hf⟩ := hI
   have hx : v.fKeys[q]? = some v.fKeys[q] := List.getElem?_eq_getElem hq
   rw [hd q hq]
   have hg : v.fKeys.getD q [] = v.fKeys[q] := by simp [List.getD, hq]
   rw [hg]
   cases hv : Lib.validD v.fKeys[q] with
   | true =>
    refine .inl ⟨_, rfl, by omega, fun k hk => ?_⟩
    rcases (mem_take_succ hx k).1 hk with h | h
    ·exact hf k h
    ·rw [h]; exact hv
   | false =>
    refine .inr ⟨_, rfl, by omega, ?_⟩
    rw [List.any_eq_true]
    exact ⟨_, List.getElem_mem hq, by simp [hv]⟩)
  (fun s hI => by
   obtain ⟨rfl, hf⟩ := hI
   rw [List.take_length] at hf
   unfold slices_IndexFuncstring_string_s1
   rw [decide_eq_false (by omega), cF]
   refine ⟨_, rfl, ?_⟩
   dsimp only
   rw [List.any_eq_false]
   intro x hx
   simp [hf x hx]) (by omega)
 rw [hb, bnd]
 cases b with
 | inl i => dsimp only at hp ⊢; rw [bnd, hp.2, decide_eq_true hp.1]
 | inr u => dsimp only at hp ⊢; rw [bnd, hp]; rfl
theorem twice_run {n : Nat} (hn : 6000 < n) {v : TB0} (hw : Wide v) : ∃ b, loopF (tree_alone_s1 n v) n ((0 : Int), ([] : List ((List UInt8) × Bool))) = some b ∧ (match b with | .inl _ => ¬ v.fKeys.Nodup | .inr _ => v.fKeys.Nodup) := by
 have hl := hw.2.1
 refine loop_inv (step := tree_alone_s1 n v) (n := n) (fun q s => s.1 = (q : Int) ∧ (∀ x, (mget s.2 x).getD false = decide (x ∈ v.fKeys.take q)) ∧ (v.fKeys.take q).Nodup)
  (fun b => match b with | .inl _ => ¬ v.fKeys.Nodup | .inr _ => v.fKeys.Nodup) v.fKeys.length ⟨rfl, fun x => by simp [mget], by simp⟩
  (fun q s hq hI => ?_) (fun s hI => ?_) (by omega)
 ·obtain ⟨i, m⟩ := s
  obtain ⟨h1, h2, h3⟩ := hI
  have h1' : i = (q : Int) := h1
  subst h1'
  dsimp only at h2
  have hx : v.fKeys[q]? = some v.fKeys[q] := List.getElem?_eq_getElem hq
  have hg : getI v.fKeys (q : Int) = some v.fKeys[q] := by simp [getI]
  unfold tree_alone_s1
  dsimp only
  rw [decide_eq_true (by omega), cT, hg, bnd, h2]
  by_cases hm : v.fKeys[q] ∈ v.fKeys.take q
  ·rw [decide_eq_true hm, cT]
   exact .inr ⟨_, rfl, fun h => ((nodup_take_succ hx).1 (nodup_of_take (q + 1) h)).2 hm⟩
  ·rw [decide_eq_false hm, cF, need_i (by omega) (by omega)]
   refine .inl ⟨_, rfl, by dsimp only; omega, fun x => ?_, (nodup_take_succ hx).2 ⟨h3, hm⟩⟩
   dsimp only
   rw [mget_mput]
   by_cases hxe : v.fKeys[q] = x
   ·rw [if_pos hxe, decide_eq_true ((mem_take_succ hx x).2 (.inr hxe.symm))]; rfl
   ·rw [if_neg hxe, h2]
    refine decide_eq_decide.2 ?_
    rw [mem_take_succ hx]
    exact ⟨.inl, fun h => h.elim id fun h => absurd h.symm hxe⟩
 ·obtain ⟨i, m⟩ := s
  obtain ⟨h1, h2, h3⟩ := hI
  have h1' : i = (v.fKeys.length : Int) := h1
  subst h1'
  rw [List.take_length] at h3
  unfold tree_alone_s1
  dsimp only
  rw [decide_eq_false (by omega), cF]
  exact ⟨_, rfl, h3⟩
theorem alone_run {n : Nat} (hn : 6000 < n) {v : TB0} (hw : Wide v) : tree_alone n v = some (aloneV v) := by
 obtain ⟨hl, hk, ht, hkk⟩ := id hw
 unfold tree_alone
 -- the rest: either 2 at once, or what is left
 have tail : ∀ y : Bool × Int × List UInt8 × List TB0 × List (List UInt8), y.2.2.2.1.length ≤ 3000 → y.2.2.2.2.length ≤ 3000 → (PlainV v ↔ (y.1 = false ∧ y.2.1 = 0 ∧ y.2.2.1 = [] ∧ y.2.2.2.1.length = 0 ∧ y.2.2.2.2.length = 0)) →
   (((((bif y.1 then
    (some ((true)))
   else
    bif (!(decide (y.2.1 = 0))) then
     (some ((true)))
    else
     bif (!(decide (y.2.2.1 = []))) then
      (some ((true)))
     else
      need (inR .i64 (((y.2.2.2.1.length : Nat) : Int) + ((y.2.2.2.2.length : Nat) : Int))) <|
      some ((decide ((0 : Int) < (((y.2.2.2.1.length : Nat) : Int) + ((y.2.2.2.2.length : Nat) : Int))))) : Option Bool)).bind fun y_2 =>
  bif y_2 then
   (((some ((2 : Int)) : Option Int)).map Lp.br)
  else
   ((bif (decide (v.fNum < (-9007199254740992))) then
     (some ((true)))
    else
     some ((decide ((9007199254740992 : Int) < v.fNum))) : Option Bool)).bind fun y_3 =>
   bif y_3 then
    (((some ((20 : Int)) : Option Int)).map Lp.br)
   else
    (runes_Valid n v.fText).bind fun x_1 =>
    bif !x_1 then
     (((some ((10 : Int)) : Option Int)).map Lp.br)
    else
     (slices_ContainsFuncstring_string n v.fKeys).bind fun x_2 =>
     bif x_2 then
      (((some ((10 : Int)) : Option Int)).map Lp.br)
     else
      some (.nx ()) : Option (Lp Unit Int))).bind fun j => joinF j fun _ =>
 (loopF (tree_alone_s1 n v) n ((0 : Int), ([] : List ((List UInt8) × Bool)))).bind fun b_2 =>
 (match b_2 with 
 | .inl y_5 => some ((41 : Int)) 
 | .inr y_6 => some ((0 : Int)))) = some (aloneV v) := by
  intro y hy1 hy2 hy
  have e : (bif y.1 then
    (some ((true)))
   else
    bif (!(decide (y.2.1 = 0))) then
     (some ((true)))
    else
     bif (!(decide (y.2.2.1 = []))) then
      (some ((true)))
     else
      need (inR .i64 (((y.2.2.2.1.length : Nat) : Int) + ((y.2.2.2.2.length : Nat) : Int))) <|
      some ((decide ((0 : Int) < (((y.2.2.2.1.length : Nat) : Int) + ((y.2.2.2.2.length : Nat) : Int))))) : Option Bool) = some (!decide (PlainV v)) := by
   rw [need_i (by omega) (by omega)]
   by_cases hp : PlainV v
   ·obtain ⟨a1, a2, a3, a4, a5⟩ := hy.1 hp
    rw [a1, cF, decide_eq_true a2, Bool.not_true, cF, decide_eq_true a3, Bool.not_true, cF, decide_eq_false (by omega), decide_eq_true hp]; rfl
   ·rw [decide_eq_false hp, Bool.not_false]
    cases hb : y.1 with
    | true => rw [cT]
    | false =>
     rw [cF]
     by_cases h2 : y.2.1 = 0
     ·rw [decide_eq_true h2, Bool.not_true, cF]
      by_cases h3 : y.2.2.1 = []
      ·rw [decide_eq_true h3, Bool.not_true, cF, decide_eq_true]
       by_cases h4 : y.2.2.2.1.length = 0
       ·by_cases h5 : y.2.2.2.2.length = 0
        ·exact absurd (hy.2 ⟨hb, h2, h3, h4, h5⟩) hp
        ·omega
       ·omega
      ·rw [decide_eq_false h3, Bool.not_false, cT]
     ·rw [decide_eq_false h2, Bool.not_false, cT]
  rw [e, bnd]
  by_cases hp : PlainV v
  ·rw [decide_eq_true hp, Bool.not_true, cF]
   by_cases hnum : NumOut v
   ·rw [alone_20 hp hnum]
    rcases hnum with hm | hm
    ·rw [decide_eq_true hm, cT, bnd, cT, mpS, bnd, jB]
    ·by_cases hm' : v.fNum < -9007199254740992
     ·omega
     ·rw [decide_eq_false hm', cF, bnd, decide_eq_true hm, cT, mpS, bnd, jB]
   ·have hnum' : ¬ (v.fNum < -9007199254740992 ∨ 9007199254740992 < v.fNum) := hnum
    rw [decide_eq_false (by omega), cF, bnd, decide_eq_false (by omega), cF, valid_run (by omega), bnd, contains_run hn hw]
    cases hv : Lib.validD v.fText with
    | false => rw [Bool.not_false, cT, mpS, bnd, jB, alone_10 hp hnum (fun h => by rw [h.1] at hv; cases hv)]
    | true =>
     rw [Bool.not_true, cF, bnd]
     by_cases ha : ∀ k ∈ v.fKeys, Lib.validD k = true
     ·have : v.fKeys.any (fun k => !Lib.validD k) = false := by
       rw [List.any_eq_false]
       intro x hx
       simp [ha x hx]
      rw [this, cF, bnd, jN]
      obtain ⟨b, hb, hpost⟩ := twice_run hn hw
      rw [hb, bnd]
      cases b with
      | inl m => dsimp only at hpost ⊢; rw [alone_41 hp hnum ⟨hv, ha⟩ hpost]
      | inr m => dsimp only at hpost ⊢; rw [alone_0 hp hnum ⟨hv, ha⟩ hpost]
     ·have : v.fKeys.any (fun k => !Lib.validD k) = true := by
       rw [List.any_eq_true]
       apply Classical.byContradiction
       intro h
       apply ha
       intro k hk
       cases hvk : Lib.validD k with
       | true => rfl
       | false => exact absurd ⟨k, hk, by simp [hvk]⟩ h
      rw [this, cT, mpS, bnd, jB, alone_10 hp hnum (fun h => ha h.2)]
  ·rw [decide_eq_false hp, Bool.not_false, cT, mpS, bnd, jB, alone_2 hp]
 have len0 : ∀ {α : Type} {l : List α}, l = [] ↔ l.length = 0 := fun {α l} => by simp
 by_cases h0 : v.fKind = 0
 ·rw [decide_eq_true h0, cT, bnd, jN]
  refine tail _ hl hk ?_
  unfold PlainV
  dsimp only
  rw [h0]
  constructor
  ·rintro ⟨_, _, a, b, c, d, _, e⟩
   refine ⟨?_, ?_, ?_, ?_, e (by omega)⟩
   ·cases hb : v.fBool with
    | false => rfl
    | true => have := a hb; omega
   ·apply Classical.byContradiction; intro h; have := b h; omega
   ·apply Classical.byContradiction; intro h; have := c h; omega
   ·apply Classical.byContradiction; intro h; have := d h; omega
  ·rintro ⟨a, b, c, d, e⟩
   exact ⟨by omega, by omega, fun h => (by rw [a] at h; cases h), fun h => absurd b h, fun h => absurd c h, fun h => absurd d h, fun h => by omega, fun _ => e⟩
 rw [decide_eq_false h0, cF]
 by_cases h1 : v.fKind = 1
 ·rw [decide_eq_true h1, cT, bnd, jN]
  refine tail _ hl hk ?_
  unfold PlainV
  dsimp only
  rw [h1]
  constructor
  ·rintro ⟨_, _, a, b, c, d, _, e⟩
   refine ⟨rfl, ?_, ?_, ?_, e (by omega)⟩
   ·apply Classical.byContradiction; intro h; have := b h; omega
   ·apply Classical.byContradiction; intro h; have := c h; omega
   ·apply Classical.byContradiction; intro h; have := d h; omega
  ·rintro ⟨_, b, c, d, e⟩
   exact ⟨by omega, by omega, fun _ => rfl, fun h => absurd b h, fun h => absurd c h, fun h => absurd d h, fun h => by omega, fun _ => e⟩
 rw [decide_eq_false h1, cF]
 by_cases h2 : v.fKind = 2
 ·rw [decide_eq_true h2, cT, bnd, jN]
  refine tail _ hl hk ?_
  unfold PlainV
  dsimp only
  rw [h2]
  constructor
  ·rintro ⟨_, _, a, b, c, d, _, e⟩
   refine ⟨?_, rfl, ?_, ?_, e (by omega)⟩
   ·cases hb : v.fBool with
    | false => rfl
    | true => have := a hb; omega
   ·apply Classical.byContradiction; intro h; have := c h; omega
   ·apply Classical.byContradiction; intro h; have := d h; omega
  ·rintro ⟨a, _, c, d, e⟩
   exact ⟨by omega, by omega, fun h => (by rw [a] at h; cases h), fun _ => rfl, fun h => absurd c h, fun h => absurd d h, fun h => by omega, fun _ => e⟩
 rw [decide_eq_false h2, cF]
 by_cases h3 : v.fKind = 3
 ·rw [decide_eq_true h3, cT, bnd, jN]
  refine tail _ hl hk ?_
  unfold PlainV
  dsimp only
  rw [h3]
  constructor
  ·rintro ⟨_, _, a, b, c, d, _, e⟩
   refine ⟨?_, ?_, rfl, ?_, e (by omega)⟩
   ·cases hb : v.fBool with
    | false => rfl
    | true => have := a hb; omega
   ·apply Classical.byContradiction; intro h; have := b h; omega
   ·apply Classical.byContradiction; intro h; have := d h; omega
  ·rintro ⟨a, b, _, d, e⟩
   exact ⟨by omega, by omega, fun h => (by rw [a] at h; cases h), fun h => absurd b h, fun _ => rfl, fun h => absurd d h, fun h => by omega, fun _ => e⟩
 rw [decide_eq_false h3, cF]
 by_cases h4 : v.fKind = 4
 ·rw [decide_eq_true h4, cT, bnd, jN]
  refine tail _ (by simp) hk ?_
  unfold PlainV
  dsimp only
  rw [h4]
  constructor
  ·rintro ⟨_, _, a, b, c, d, _, e⟩
   refine ⟨?_, ?_, ?_, rfl, e (by omega)⟩
   ·cases hb : v.fBool with
    | false => rfl
    | true => have := a hb; omega
   ·apply Classical.byContradiction; intro h; have := b h; omega
   ·apply Classical.byContradiction; intro h; have := c h; omega
  ·rintro ⟨a, b, c, _, e⟩
   exact ⟨by omega, by omega, fun h => (by rw [a] at h; cases h), fun h => absurd b h, fun h => absurd c h, fun _ => .inl rfl, fun h => by omega, fun _ => e⟩
 rw [decide_eq_false h4, cF]
 by_cases h5 : v.fKind = 5
 ·rw [decide_eq_true h5, cT]
  by_cases hkl : v.fKeys.length = v.fList.length
  ·rw [decide_eq_true (by omega), Bool.not_true, cF, bnd, jN]
   refine tail _ (by simp) (by simp) ?_
   unfold PlainV
   dsimp only
   rw [h5]
   constructor
   ·rintro ⟨_, _, a, b, c, d, _, e⟩
    refine ⟨?_, ?_, ?_, rfl, rfl⟩
    ·cases hb : v.fBool with
     | false => rfl
     | true => have := a hb; omega
    ·apply Classical.byContradiction; intro h; have := b h; omega
    ·apply Classical.byContradiction; intro h; have := c h; omega
   ·rintro ⟨a, b, c, _, _⟩
    exact ⟨by omega, by omega, fun h => (by rw [a] at h; cases h), fun h => absurd b h, fun h => absurd c h, fun _ => .inr rfl, fun _ => hkl, fun h => absurd rfl h⟩
  ·rw [decide_eq_false (by omega), Bool.not_false, cT, mpS, bnd, jB, alone_2 (fun h => hkl (h.2.2.2.2.2.2.1 h5))]
 ·rw [decide_eq_false h5, cF, mpS, bnd, jB, alone_2]
  intro h
  have a := h.1
  have b := h.2.1
  omega
end Go.Proofs.YtalifkcchfkgmaaDoor
end
section
namespace Go.Proofs.YtalifkcchfkgmaaDoor
open Go Go.Vc Go.RowKit
mutual
def depthV : TB0 → Nat
  | ⟨_, _, _, _, l, _⟩ => depthVs l + 1
def depthVs : List TB0 → Nat
  | [] => 0
  | x :: r => max (depthV x) (depthVs r)
end
theorem depthV_eq (v : TB0) : depthV v = depthVs v.fList + 1 := by cases v; rw [depthV]
theorem depthVs_app : ∀ l m : List TB0, depthVs (l ++ m) = max (depthVs l) (depthVs m)
 | [], m => by simp [depthVs]
 | x :: l, m => by rw [List.cons_append, depthVs, depthVs, depthVs_app l m]; omega
theorem depthVs_take {l : List TB0} {i : Nat} {x : TB0} (h : l[i]? = some x) : depthVs (l.take (i + 1)) = max (depthVs (l.take i)) (depthV x) := by
 rw [List.take_add_one, h, depthVs_app]
 simp [depthVs]
theorem depthVs_mem : ∀ {l : List TB0} {x : TB0}, x ∈ l → depthV x ≤ depthVs l
 | y :: r, x, h => by
  rw [depthVs]
  rcases List.mem_cons.1 h with rfl | h
  ·omega
  ·have := depthVs_mem h
   omega
theorem depthV_pos (v : TB0) : 1 ≤ depthV v := by rw [depthV_eq]; omega
theorem depth_run {n : Nat} (hn : 6000 < n) : ∀ (k d : Nat) (v : TB0) (left : Nat), d ≤ k → Small d v → left ≤ 1000 → tree_depth_k n k v (left : Int) = some ((min (depthV v) (left + 1) : Nat) : Int)
 | _, 0, v, _, _, h, _ => h.elim
 | 0, d + 1, v, _, h, _, _ => absurd h (by omega)
 | k + 1, d + 1, v, left, hk, hs, hle => by
  obtain ⟨h1, h2, h3, h4, h5⟩ := hs
  show tree_depth_b n (tree_depth_k n k) v left = _
  unfold tree_depth_b
  have := loop_all (step := tree_depth_s1 n (tree_depth_k n k) v (left : Int)) (n := n) (fun q => (((min (depthVs (v.fList.take q)) left : Nat) : Int), (q : Int))) v.fList.length ((min (depthVs v.fList) left : Nat) : Int) (fun q hq => by
   have hx : v.fList[q]? = some v.fList[q] := List.getElem?_eq_getElem hq
   have hg : getI v.fList (q : Int) = some v.fList[q] := by simp [getI]
   unfold tree_depth_s1
   dsimp only
   rw [decide_eq_true (by omega), cT]
   by_cases hl : left = 0
   ·subst hl
    rw [decide_eq_false (by omega), cF, need_i (by omega) (by omega)]
    simp
   ·have hl1 : ((left : Nat) : Int) - 1 = ((left - 1 : Nat) : Int) := by omega
    rw [decide_eq_true (by omega), cT, hg, bnd, need_i (by omega) (by omega), hl1, depth_run hn k d _ (left - 1) (by omega) (h5 _ (List.getElem_mem hq)) (by omega), bnd, need_i (by omega) (by omega), depthVs_take hx]
    congr 3
    omega) (by
   unfold tree_depth_s1
   dsimp only
   rw [decide_eq_false (by omega), cF, List.take_length]) (by omega)
  have e0 : ((0 : Nat) : Int) = 0 := rfl
  simp only [List.take_zero, depthVs, Nat.zero_min, e0] at this
  rw [this, bnd, need_i (by omega) (by omega), depthV_eq]
  congr 1
  omega
theorem deeper_ref {n : Nat} (hn : 6000 < n) : ∀ (k d : Nat) (v : TB0) (left : Nat), d ≤ k → Small d v → left ≤ 1000 → ref03_deeper_k n k v (left : Int) = some (decide (left < depthV v))
 | _, 0, v, _, _, h, _ => h.elim
 | 0, d + 1, v, _, h, _, _ => absurd h (by omega)
 | k + 1, d + 1, v, left, hk, hs, hle => by
  obtain ⟨h1, h2, h3, h4, h5⟩ := hs
  show ref03_deeper_b n (ref03_deeper_k n k) v left = _
  unfold ref03_deeper_b
  by_cases hl : left = 0
  ·subst hl
   have := depthV_pos v
   rw [decide_eq_true (by omega), cT, decide_eq_true (by omega)]
  rw [decide_eq_false (by omega), cF]
  obtain ⟨b, hb, hp⟩ := loop_inv (step := ref03_deeper_s1 n (ref03_deeper_k n k) v (left : Int)) (n := n) (s0 := (0 : Int)) (fun q s => s = (q : Int) ∧ depthVs (v.fList.take q) < left) (fun b => match b with | .inl _ => left ≤ depthVs v.fList | .inr _ => depthVs v.fList < left) v.fList.length ⟨rfl, by simp [depthVs]; omega⟩ (fun q s hq hI => by
   obtain ⟨rfl, hI⟩ := hI
   have hx : v.fList[q]? = some v.fList[q] := List.getElem?_eq_getElem hq
   have hg : getI v.fList (q : Int) = some v.fList[q] := by simp [getI]
   have hm : v.fList[q] ∈ v.fList := List.getElem_mem hq
   have hdm := depthVs_mem hm
   unfold ref03_deeper_s1
   have hl1 : ((left : Nat) : Int) - 1 = ((left - 1 : Nat) : Int) := by omega
   rw [decide_eq_true (by omega), cT, hg, bnd, need_i (by omega) (by omega), hl1, deeper_ref hn k d _ (left - 1) (by omega) (h5 _ hm) (by omega), bnd]
   by_cases hd : left - 1 < depthV v.fList[q]
   ·rw [decide_eq_true hd, cT]
    refine .inr ⟨_, rfl, ?_⟩
    dsimp only
    omega
   ·rw [decide_eq_false hd, cF, need_i (by omega) (by omega)]
    refine .inl ⟨_, rfl, by omega, ?_⟩
    rw [depthVs_take hx]
    omega) (fun s hI => by
   obtain ⟨rfl, hI⟩ := hI
   rw [List.take_length] at hI
   unfold ref03_deeper_s1
   rw [decide_eq_false (by omega), cF]
   exact ⟨_, rfl, hI⟩) (by omega)
  rw [hb, bnd]
  have := depthV_eq v
  cases b with
  | inl u => dsimp only at hp ⊢; rw [decide_eq_true (by omega)]
  | inr u => dsimp only at hp ⊢; rw [decide_eq_false (by omega)]
theorem count_ref {n : Nat} (hn : 6000 < n) : ∀ (k d : Nat) (v : TB0), d ≤ k → Small d v → (walkV v).length ≤ 5900 → ref03_Count_k n k v = some ((walkV v).length : Int)
 | _, 0, v, _, h, _ => h.elim
 | 0, d + 1, v, h, _, _ => absurd h (by omega)
 | k + 1, d + 1, v, hk, hs, hlen => by
  obtain ⟨h1, h2, h3, h4, h5⟩ := hs
  show ref03_Count_b n (ref03_Count_k n k) v = _
  unfold ref03_Count_b
  have hwl : (walkV v).length = (walkVs v.fList).length + 1 := by rw [walkV_eq, List.length_cons]
  have := loop_all (step := ref03_Count_s1 n (ref03_Count_k n k) v) (n := n) (fun q => (((walkVs (v.fList.take q)).length : Int) + 1, (q : Int))) v.fList.length ((walkVs v.fList).length + 1 : Int) (fun q hq => by
   have hx : v.fList[q]? = some v.fList[q] := List.getElem?_eq_getElem hq
   have hg : getI v.fList (q : Int) = some v.fList[q] := by simp [getI]
   have hm : v.fList[q] ∈ v.fList := List.getElem_mem hq
   have hw1 := walkVs_mem hm
   have hw2 : (walkVs (v.fList.take q)).length ≤ (walkVs v.fList).length := by
    have := congrArg List.length (walkVs_app (v.fList.take q) (v.fList.drop q))
    rw [List.take_append_drop, List.length_append] at this
    omega
   unfold ref03_Count_s1
   dsimp only
   rw [decide_eq_true (by omega), cT, hg, bnd, count_ref hn k d _ (by omega) (h5 _ hm) (by omega), bnd, need_i (by omega) (by omega), need_i (by omega) (by omega), walkVs_take hx, List.length_append]
   congr 3
   push_cast
   omega) (by
   unfold ref03_Count_s1
   dsimp only
   rw [decide_eq_false (by omega), cF, List.take_length]) (by omega)
  have e0 : ((0 : Nat) : Int) = 0 := rfl
  have e1 : (0 : Int) + 1 = 1 := rfl
  simp only [List.take_zero, walkVs, List.length_nil, e0, e1] at this
  rw [this, bnd, hwl]
  rfl
structure Fine (v : TB0) : Prop where
  small : Small 60 v
  few : (walkV v).length ≤ 5900
theorem Small.le : ∀ {d e : Nat} {v : TB0}, d ≤ e → Small d v → Small e v
 | 0, _, _, _, h => h.elim
 | d + 1, 0, _, hde, _ => absurd hde (by omega)
 | d + 1, e + 1, _, hde, h => ⟨h.1, h.2.1, h.2.2.1, h.2.2.2.1, fun x hx => Small.le (by omega) (h.2.2.2.2 x hx)⟩
theorem Fine.wide {v : TB0} (h : Fine v) : Wide v := h.small.wide
theorem Fine.part {v x : TB0} (h : Fine v) (hx : x ∈ v.fList) : Fine x := by
 refine ⟨Small.le (d := 59) (by omega) (h.small.2.2.2.2 x hx), ?_⟩
 have := walkVs_mem hx
 have := h.few
 rw [walkV_eq, List.length_cons] at this
 omega
theorem small_walk : ∀ {d : Nat} {v x : TB0}, Small d v → x ∈ walkV v → Small d x
 | d + 1, v, x, h, hx => by
  rw [walkV_eq] at hx
  rcases List.mem_cons.1 hx with rfl | hx
  ·exact h
  ·have key : ∀ l : List TB0, (∀ y ∈ l, Small d y) → x ∈ walkVs l → Small d x := by
    intro l
    induction l with
    | nil => intro _ hx; simp [walkVs] at hx
    | cons y r ih =>
     intro hl hx
     rw [walkVs, List.mem_append] at hx
     rcases hx with hx | hx
     ·exact small_walk (hl y List.mem_cons_self) hx
     ·exact ih (fun z hz => hl z (List.mem_cons_of_mem _ hz)) hx
   exact Small.le (by omega) (key _ h.2.2.2.2 hx)
def checkV (v : TB0) : Int := if 24 < depthV v then 30 else if faultL (walkV v) = 0 then (if 4096 < (walkV v).length then 3 else 0) else faultL (walkV v)
theorem check_ref {n : Nat} (hn : 6000 < n) {v : TB0} (h : Fine v) : ref03_Check n v = some (checkV v) := by
 unfold ref03_Check ref03_deeper ref03_wrong ref03_Count checkV
 have e : ((24 : Nat) : Int) = 24 := rfl
 have := deeper_ref hn n 60 v 24 (by omega) h.small (by omega)
 rw [e] at this
 rw [this, bnd]
 by_cases hd : 24 < depthV v
 ·rw [decide_eq_true hd, cT, if_pos hd]
 ·rw [decide_eq_false hd, cF, if_neg hd, wrong_ref hn n 60 v (by omega) h.small, bnd]
  by_cases hf : faultL (walkV v) = 0
  ·rw [if_pos hf, decide_eq_true hf, Bool.not_true, cF, count_ref hn n 60 v (by omega) h.small h.few, bnd]
   by_cases hc : 4096 < (walkV v).length
   ·rw [if_pos hc, decide_eq_true (by omega), cT]
   ·rw [if_neg hc, decide_eq_false (by omega), cF]
  ·rw [if_neg hf, decide_eq_false hf, Bool.not_false, cT]
theorem check_fold {n : Nat} (hn : 6000 < n) : ∀ (l : List TB0) (s : Nat), (∀ x ∈ l, Wide x) → s + l.length ≤ 6000 → ∃ j, foldY (tree_Check_s1 n) l (s : Int) = some j ∧ (match j with | .nx t => faultL l = 0 ∧ t = ((s + l.length : Nat) : Int) | .br b => faultL l ≠ 0 ∧ b.2 = faultL l)
 | [], s, _, _ => ⟨_, rfl, rfl, by simp⟩
 | x :: r, s, hw, hl => by
  rw [List.length_cons] at hl
  unfold foldY faultL
  have e : tree_Check_s1 n (s : Int) x = if aloneV x = 0 then some (.nx ((s + 1 : Nat) : Int)) else some (.br ((s : Int), aloneV x)) := by
   unfold tree_Check_s1
   have ex : (⟨x.fKind, (x.fBool), x.fNum, x.fText, x.fList, x.fKeys⟩ : TB0) = x := by cases x; rfl
   try rw [ex]
   rw [alone_run hn (hw x List.mem_cons_self), bnd]
   by_cases h : aloneV x = 0
   ·rw [if_pos h, decide_eq_true h, Bool.not_true, cF, need_i (by omega) (by omega)]
    congr 2
   ·rw [if_neg h, decide_eq_false h, Bool.not_false, cT]
  rw [e]
  by_cases h : aloneV x = 0
  ·rw [if_pos h, if_pos h, bnd]
   obtain ⟨j, hj, hp⟩ := check_fold hn r (s + 1) (fun y hy => hw y (List.mem_cons_of_mem _ hy)) (by omega)
   refine ⟨j, hj, ?_⟩
   cases j with
   | nx t => dsimp only at hp ⊢; exact ⟨hp.1, by rw [hp.2, List.length_cons]; omega⟩
   | br b => exact hp
  ·rw [if_neg h, if_neg h, bnd]
   exact ⟨_, rfl, h, rfl⟩
theorem check_run {n : Nat} (hn : 6000 < n) {v : TB0} (h : Fine v) : tree_Check n v = some (checkV v) := by
 unfold tree_Check tree_depth checkV
 have e : ((24 : Nat) : Int) = 24 := rfl
 have hd0 := depth_run hn n 60 v 24 (by omega) h.small (by omega)
 rw [e] at hd0
 rw [hd0, bnd]
 by_cases hd : 24 < depthV v
 ·rw [decide_eq_true (by omega), cT, if_pos hd]
 ·rw [decide_eq_false (by omega), cF, if_neg hd, need_t (by have := h.few; omega)]
  obtain ⟨j, hj, hp⟩ := check_fold hn (walkV v) 0 (fun x hx => (small_walk h.small hx).wide) (by have := h.few; omega)
  have e0 : ((0 : Nat) : Int) = 0 := rfl
  rw [e0] at hj
  rw [hj, bnd]
  cases j with
  | nx t =>
   dsimp only at hp ⊢
   rw [if_pos hp.1]
   by_cases hc : 4096 < (walkV v).length
   ·rw [if_pos hc, decide_eq_true (by omega), cT]
   ·rw [if_neg hc, decide_eq_false (by omega), cF]
  | br b =>
   dsimp only at hp ⊢
   rw [if_neg hp.1, hp.2]
end Go.Proofs.YtalifkcchfkgmaaDoor
end
section
namespace Go.Proofs.YtalifkcchfkgmaaDoor
open Go Go.Vc Go.RowKit
theorem less_cb : ∀ a b : List UInt8, Op.bytesLess a b = decide (Lib.compareBytes a b < 0)
 | [], [] => by simp [Op.bytesLess, Lib.compareBytes]
 | [], _ :: _ => by simp [Op.bytesLess, Lib.compareBytes]
 | _ :: _, [] => by simp [Op.bytesLess, Lib.compareBytes]
 | x :: r, y :: s => by
  unfold Op.bytesLess Lib.compareBytes
  rw [less_cb r s]
  by_cases h1 : x < y
  ·simp [h1]
  ·by_cases h2 : y < x
   ·have hne : (x == y) = false := by
     rw [beq_eq_false_iff_ne]
     intro e
     rw [e, UInt8.lt_iff_toNat_lt] at h2
     omega
    simp [h1, h2, hne]
   ·have hxy : x = y := UInt8.toNat_inj.1 (by rw [UInt8.lt_iff_toNat_lt] at h1 h2; omega)
    simp [h1, h2, hxy]
abbrev KV := List UInt8 × TB0
def leK (p q : KV) : Bool := !(decide (Lib.compareBytes q.1 p.1 < 0))
def insP (p : KV) : List KV → List KV
  | [] => [p]
  | q :: r => bif leK p q then p :: q :: r else q :: insP p r
def isortP : List KV → List KV
  | [] => []
  | p :: r => insP p (isortP r)
theorem insP_perm (p : KV) : ∀ l, (insP p l).Perm (p :: l)
 | [] => List.Perm.refl _
 | q :: r => by
  unfold insP
  cases leK p q with
  | true => exact List.Perm.refl _
  | false => exact ((insP_perm p r).cons q).trans (List.Perm.swap p q r)
theorem isortP_perm : ∀ l, (isortP l).Perm l
 | [] => List.Perm.refl _
 | p :: r => (insP_perm p _).trans ((isortP_perm r).cons p)
theorem leK_iff {p q : KV} : leK p q = true ↔ Lib.compareBytes p.1 q.1 ≤ 0 := by
 have := cb_anti p.1 q.1
 simp only [leK, Bool.not_eq_true', decide_eq_false_iff_not]
 omega
theorem leK_trans {a b c : KV} (h1 : leK a b = true) (h2 : leK b c = true) : leK a c = true := leK_iff.2 (cb_trans _ _ _ (leK_iff.1 h1) (leK_iff.1 h2)).1
theorem leK_total (a b : KV) : leK a b = true ∨ leK b a = true := by
 rw [leK_iff, leK_iff]
 have := cb_anti a.1 b.1
 omega
theorem insP_sorted (x : KV) : ∀ l, l.Pairwise (fun a b => leK a b = true) → (insP x l).Pairwise (fun a b => leK a b = true)
 | [], _ => by simp [insP]
 | y :: r, h => by
  obtain ⟨h1, h2⟩ := List.pairwise_cons.1 h
  unfold insP
  cases hxy : leK x y with
  | true => exact List.pairwise_cons.2 ⟨fun z hz => by
    rcases List.mem_cons.1 hz with rfl | hz
    ·exact hxy
    ·exact leK_trans hxy (h1 z hz), h⟩
  | false =>
   refine List.pairwise_cons.2 ⟨fun z hz => ?_, insP_sorted x r h2⟩
   rcases List.mem_cons.1 ((insP_perm x r).mem_iff.1 hz) with rfl | hz
   ·exact (leK_total z y).resolve_left (by simp [hxy])
   ·exact h1 z hz
theorem isortP_sorted : ∀ l, (isortP l).Pairwise (fun a b => leK a b = true)
 | [] => List.Pairwise.nil
 | x :: r => insP_sorted x _ (isortP_sorted r)
theorem nodup_key : ∀ {l : List KV} {p q : KV}, (l.map (·.1)).Nodup → p ∈ l → q ∈ l → p.1 = q.1 → p = q
 | x :: r, p, q, h, hp, hq, e => by
  rw [List.map_cons, List.nodup_cons] at h
  rcases List.mem_cons.1 hp with hp | hp <;> rcases List.mem_cons.1 hq with hq | hq
  ·rw [hp, hq]
  ·have : x.1 ∈ r.map (·.1) := by rw [← hp, e]; exact List.mem_map_of_mem hq
   exact absurd this h.1
  ·have : x.1 ∈ r.map (·.1) := by rw [← hq, ← e]; exact List.mem_map_of_mem hp
   exact absurd this h.1
  ·exact nodup_key h.2 hp hq e
theorem sorted_one {l m : List KV} (hn : (m.map (·.1)).Nodup) (hp : l.Perm m) (hl : l.Pairwise (fun a b => leK a b = true)) : l = isortP m := by
 refine List.Perm.eq_of_pairwise (le := fun a b => leK a b = true) (fun a b ha hb h1 h2 => ?_) hl (isortP_sorted m) (hp.trans (isortP_perm m).symm)
 have ia := hp.mem_iff.1 ha
 have ib := (isortP_perm m).mem_iff.1 hb
 have e1 := leK_iff.1 h1
 have e2 := leK_iff.1 h2
 have e3 := cb_anti a.1 b.1
 exact nodup_key hn ia ib (cb_eq _ _ (by omega))
theorem ins_map (keys : List (List UInt8)) (f : Int → KV) (hf : ∀ i, (f i).1 = keys.getD i.toNat []) (x : Int) : ∀ l, (ins (keyLe keys) x l).map f = insP (f x) (l.map f)
 | [] => rfl
 | y :: r => by
  have e : leK (f x) (f y) = keyLe keys x y := by unfold leK keyLe; rw [hf, hf]
  unfold ins
  rw [List.map_cons, insP, e]
  cases keyLe keys x y with
  | true => rfl
  | false => rw [cF, cF, List.map_cons, ins_map keys f hf x r]
theorem isort_map (keys : List (List UInt8)) (f : Int → KV) (hf : ∀ i, (f i).1 = keys.getD i.toNat []) : ∀ l, (isort (keyLe keys) l).map f = isortP (l.map f)
 | [] => rfl
 | x :: r => by
  unfold isort
  rw [ins_map keys f hf, isort_map keys f hf r, List.map_cons, isortP]
mutual
def sortV : TB0 → TB0
  | ⟨k, b, n, t, l, ks⟩ => bif decide (k = 5) then ⟨k, b, n, t, (isortP (ks.zip (sortVs l))).map (·.2), (isortP (ks.zip (sortVs l))).map (·.1)⟩ else ⟨k, b, n, t, sortVs l, []⟩
def sortVs : List TB0 → List TB0
  | [] => []
  | x :: r => sortV x :: sortVs r
end
theorem sortVs_map : ∀ l, sortVs l = l.map sortV
 | [] => rfl
 | x :: r => by rw [sortVs, sortVs_map r, List.map_cons]
def pairsV (v : TB0) : List KV := isortP (v.fKeys.zip (v.fList.map sortV))
theorem sortV_5 {v : TB0} (h : v.fKind = 5) : sortV v = ⟨v.fKind, v.fBool, v.fNum, v.fText, (pairsV v).map (·.2), (pairsV v).map (·.1)⟩ := by
 cases v with
 | mk k b n t l ks =>
  dsimp only at h
  rw [sortV, sortVs_map, decide_eq_true h, cT]
  rfl
theorem sortV_n {v : TB0} (h : v.fKind ≠ 5) : sortV v = ⟨v.fKind, v.fBool, v.fNum, v.fText, v.fList.map sortV, []⟩ := by
 cases v with
 | mk k b n t l ks =>
  dsimp only at h
  rw [sortV, sortVs_map, decide_eq_false h, cF]
def OkV (v : TB0) : Prop := faultL (walkV v) = 0
theorem faultL_zero : ∀ {l : List TB0}, faultL l = 0 ↔ ∀ x ∈ l, aloneV x = 0
 | [] => by simp [faultL]
 | x :: r => by
  rw [faultL]
  by_cases h : aloneV x = 0
  ·rw [if_pos h, faultL_zero (l := r)]
   simp [h]
  ·rw [if_neg h]
   constructor
   ·intro e; exact absurd e h
   ·intro e; exact absurd (e x List.mem_cons_self) h
theorem mem_walkVs {x : TB0} : ∀ {l : List TB0}, x ∈ walkVs l ↔ ∃ y ∈ l, x ∈ walkV y
 | [] => by simp [walkVs]
 | y :: r => by
  rw [walkVs, List.mem_append, mem_walkVs (l := r)]
  simp
theorem OkV_iff {v : TB0} : OkV v ↔ aloneV v = 0 ∧ ∀ x ∈ v.fList, OkV x := by
 unfold OkV
 rw [faultL_zero, walkV_eq]
 constructor
 ·intro h
  refine ⟨h v List.mem_cons_self, fun x hx => ?_⟩
  rw [faultL_zero]
  intro y hy
  exact h y (List.mem_cons_of_mem _ (mem_walkVs.2 ⟨x, hx, hy⟩))
 ·rintro ⟨h1, h2⟩ x hx
  rcases List.mem_cons.1 hx with rfl | hx
  ·exact h1
  ·obtain ⟨y, hy, hxy⟩ := mem_walkVs.1 hx
   exact faultL_zero.1 (h2 y hy) x hxy
theorem checkV_ok {v : TB0} (h : checkV v = 0) : OkV v ∧ depthV v ≤ 24 ∧ (walkV v).length ≤ 4096 := by
 unfold checkV at h
 by_cases h1 : 24 < depthV v
 ·rw [if_pos h1] at h; omega
 ·rw [if_neg h1] at h
  by_cases h2 : faultL (walkV v) = 0
  ·rw [if_pos h2] at h
   by_cases h3 : 4096 < (walkV v).length
   ·rw [if_pos h3] at h; omega
   ·exact ⟨h2, by omega, by omega⟩
  ·rw [if_neg h2] at h; exact absurd h h2
def upto (n : Nat) : List Int := (List.range n).map Int.ofNat
theorem upto_succ (q : Nat) : upto (q + 1) = upto q ++ [(q : Int)] := by unfold upto; rw [List.range_succ, List.map_append]; rfl
theorem upto_len (q : Nat) : (upto q).length = q := by simp [upto]
theorem order_run {n : Nat} (hn : 6000 < n) {v : TB0} (hw : v.fKeys.length ≤ 3000) (hd : v.fKeys.Nodup) : tree_order n v = some (isort (keyLe v.fKeys) (upto v.fKeys.length)) := by
 unfold tree_order
 rw [need_t ⟨by omega, by omega, by omega⟩]
 have := loop_all (step := tree_order_s1 n v) (n := n) (fun q => (upto q ++ List.replicate (v.fKeys.length - q) (0 : Int), (q : Int))) v.fKeys.length (upto v.fKeys.length) (fun q hq => by
  unfold tree_order_s1
  dsimp only
  have hll : (List.replicate ((v.fKeys.length : Nat) : Int).toNat (0 : Int)).length = v.fKeys.length := by simp
  have hg : getI (upto q ++ List.replicate (v.fKeys.length - q) (0 : Int)) (q : Int) = some 0 := by
   rw [getI_at (k := q) 0 (by simp [upto_len]; omega)]
   rw [List.getD_eq_getElem?_getD, List.getElem?_append_right (by rw [upto_len]; omega), upto_len]
   simp [(by omega : 0 < v.fKeys.length - q)]
  rw [hll, decide_eq_true (by omega), cT, hg, bnd, need_i (by omega) (by omega)]
  congr 3
  have e : v.fKeys.length - q = (v.fKeys.length - (q + 1)) + 1 := by omega
  rw [Int.toNat_natCast, e, List.replicate_succ, List.set_append_right _ _ (by rw [upto_len]; omega), upto_len, Nat.sub_self, List.set_cons_zero, upto_succ, List.append_assoc]
  rfl) (by
  unfold tree_order_s1
  dsimp only
  have hll : (List.replicate ((v.fKeys.length : Nat) : Int).toNat (0 : Int)).length = v.fKeys.length := by simp
  rw [hll, decide_eq_false (by omega), cF, Nat.sub_self, List.replicate_zero, List.append_nil]) (by omega)
 have e0 : ((0 : Nat) : Int) = 0 := rfl
 have e1 : upto 0 = [] := rfl
 simp only [e1, e0, Nat.sub_zero, List.nil_append] at this
 rw [Int.toNat_natCast, this, bnd]
 unfold h_sortKeys
 rw [need_t, need_t (by rw [upto_len]; omega), bnd]
 refine ⟨hd, fun i hi => ?_⟩
 simp only [upto, List.mem_map, List.mem_range] at hi
 obtain ⟨j, hj, rfl⟩ := hi
 have : Int.ofNat j = (j : Int) := rfl
 omega
theorem map_take_succ {α β : Type} (f : α → β) {l : List α} {i : Nat} {x : α} (h : l[i]? = some x) : (l.take (i + 1)).map f = (l.take i).map f ++ [f x] := by
 rw [List.take_add_one, h]
 simp
theorem zip_upto (ks : List (List UInt8)) (l : List TB0) (hl : ks.length = l.length) (g : TB0 → TB0) (z : TB0) : (upto ks.length).map (fun i => (ks.getD i.toNat [], g (l.getD i.toNat z))) = ks.zip (l.map g) := by
 apply List.ext_getElem
 ·simp [upto, hl]
 ·intro i h1 h2
  simp [upto_len] at h1
  have h3 : i < l.length := by omega
  simp [upto, List.getD, h1, h3]
theorem sorted_run {n : Nat} (hn : 6000 < n) : ∀ (k d : Nat) (v : TB0), d ≤ k → Small d v → OkV v → tree_sorted_k n k v = some (sortV v)
 | _, 0, v, _, h, _ => h.elim
 | 0, d + 1, v, h, _, _ => absurd h (by omega)
 | k + 1, d + 1, v, hk, hs, hok => by
  obtain ⟨h1, h2, h3, h4, h5⟩ := hs
  obtain ⟨ha, hl⟩ := OkV_iff.1 hok
  obtain ⟨hp, _, _, hnd⟩ := alone_ok ha
  show tree_sorted_b n (tree_sorted_k n k) v = _
  unfold tree_sorted_b
  have ih : ∀ x ∈ v.fList, tree_sorted_k n k x = some (sortV x) := fun x hx => sorted_run hn k d x (by omega) (h5 x hx) (hl x hx)
  by_cases hkind : v.fKind = 5
  ·have hkl : v.fKeys.length = v.fList.length := hp.2.2.2.2.2.2.1 hkind
   rw [decide_eq_true hkind, cT, order_run hn h2 hnd, bnd]
   obtain ⟨idx, hidx⟩ : ∃ idx, idx = isort (keyLe v.fKeys) (upto v.fKeys.length) := ⟨_, rfl⟩
   rw [← hidx]
   have hperm : idx.Perm (upto v.fKeys.length) := hidx ▸ isort_perm _ _
   have hlen : idx.length = v.fKeys.length := by rw [hperm.length_eq, upto_len]
   have hin : ∀ i ∈ idx, ∃ j : Nat, i = (j : Int) ∧ j < v.fKeys.length := fun i hi => by
    have := hperm.mem_iff.1 hi
    simp only [upto, List.mem_map, List.mem_range] at this
    obtain ⟨j, hj, rfl⟩ := this
    exact ⟨j, rfl, hj⟩
   obtain ⟨f, hf⟩ : ∃ f : Int → KV, f = fun i => (v.fKeys.getD i.toNat [], sortV (v.fList.getD i.toNat v)) := ⟨_, rfl⟩
   have := loop_all (step := tree_sorted_s1 n (tree_sorted_k n k) v idx) (n := n) (fun q => ((q : Int), ((idx.take q).map f).map (·.2), ((idx.take q).map f).map (·.1))) idx.length ((idx.map f).map (·.2), (idx.map f).map (·.1)) (fun q hq => by
    have hx : idx[q]? = some idx[q] := List.getElem?_eq_getElem hq
    obtain ⟨j, hj, hjl⟩ := hin _ (List.getElem_mem hq)
    rw [hj] at hx
    have hg : getI idx (q : Int) = some (j : Int) := by simp [getI, hx]
    have hgk : getI v.fKeys (j : Int) = some (f j).1 := by rw [getI_at [] hjl, hf]; rfl
    have hgl : getI v.fList (j : Int) = some (v.fList.getD j v) := getI_at v (by omega)
    have hm : v.fList.getD j v ∈ v.fList := by simp [List.getD, (by omega : j < v.fList.length)]
    have ef : sortV (v.fList.getD j v) = (f j).2 := by rw [hf]; rfl
    unfold tree_sorted_s1
    dsimp only
    have ev : ∀ x : TB0, (⟨x.fKind, (x.fBool), x.fNum, x.fText, x.fList, x.fKeys⟩ : TB0) = x := fun x => by cases x; rfl
    have hlq : ((idx.take q).map f).length ≤ 3000 := by simp; omega
    rw [decide_eq_true (by omega), cT, hg, bnd, hgk, bnd, need_t (by rw [List.length_map]; omega), bnd, hgl, bnd, ih _ hm, bnd, need_t (by rw [List.length_map]; omega), bnd, need_i (by omega) (by omega), ev, ef, map_take_succ f hx, List.map_append, List.map_append]
    rfl) (by
    unfold tree_sorted_s1
    dsimp only
    rw [decide_eq_false (by omega), cF, List.take_length]) (by omega)
   have e0 : ((0 : Nat) : Int) = 0 := rfl
   simp only [List.take_zero, List.map_nil, e0] at this
   rw [this, bnd, sortV_5 hkind]
   have e : idx.map f = pairsV v := by
    rw [hidx, isort_map v.fKeys f (fun i => by rw [hf]), hf]
    unfold pairsV
    rw [zip_upto v.fKeys v.fList hkl sortV v]
   rw [e]
  ·rw [decide_eq_false hkind, cF]
   have := loop_all (step := tree_sorted_s2 n (tree_sorted_k n k) v) (n := n) (fun q => ((q : Int), (v.fList.take q).map sortV)) v.fList.length (v.fList.map sortV) (fun q hq => by
    have hx : v.fList[q]? = some v.fList[q] := List.getElem?_eq_getElem hq
    have hg : getI v.fList (q : Int) = some v.fList[q] := by simp [getI]
    unfold tree_sorted_s2
    dsimp only
    have ev : ∀ x : TB0, (⟨x.fKind, (x.fBool), x.fNum, x.fText, x.fList, x.fKeys⟩ : TB0) = x := fun x => by cases x; rfl
    rw [decide_eq_true (by omega), cT, hg, bnd, ih _ (List.getElem_mem hq), bnd, need_t (by simp; omega), bnd, need_i (by omega) (by omega), ev, map_take_succ sortV hx]
    rfl) (by
    unfold tree_sorted_s2
    dsimp only
    rw [decide_eq_false (by omega), cF, List.take_length]) (by omega)
   have e0 : ((0 : Nat) : Int) = 0 := rfl
   simp only [List.take_zero, List.map_nil, e0] at this
   rw [this, bnd, sortV_n hkind]
end Go.Proofs.YtalifkcchfkgmaaDoor
end
section
namespace Go.Proofs.YtalifkcchfkgmaaDoor
open Go Go.Vc Go.RowKit
theorem pairs_perm (v : TB0) : (pairsV v).Perm (v.fKeys.zip (v.fList.map sortV)) := isortP_perm _
theorem pairs_snd {v : TB0} (h : v.fKeys.length = v.fList.length) : ((pairsV v).map (·.2)).Perm (v.fList.map sortV) := by
 have := (pairs_perm v).map (·.2)
 rwa [List.map_snd_zip (by simp [h])] at this
theorem pairs_fst {v : TB0} (h : v.fKeys.length = v.fList.length) : ((pairsV v).map (·.1)).Perm v.fKeys := by
 have := (pairs_perm v).map (·.1)
 rwa [List.map_fst_zip (by simp [h])] at this
theorem plain_len {v : TB0} (h : PlainV v) (hk : v.fKind = 5) : v.fKeys.length = v.fList.length := h.2.2.2.2.2.2.1 hk
theorem sort_perm {v : TB0} (h : PlainV v) : (sortV v).fList.Perm (v.fList.map sortV) := by
 by_cases hk : v.fKind = 5
 ·rw [sortV_5 hk]; exact pairs_snd (plain_len h hk)
 ·rw [sortV_n hk]
theorem sort_keys {v : TB0} (h : PlainV v) : (sortV v).fKeys.Perm v.fKeys := by
 by_cases hk : v.fKind = 5
 ·rw [sortV_5 hk]; exact pairs_fst (plain_len h hk)
 ·rw [sortV_n hk]
  have := h.2.2.2.2.2.2.2 hk
  have e : v.fKeys = [] := by simpa using this
  rw [e]
theorem sort_kind (v : TB0) : (sortV v).fKind = v.fKind := by
 by_cases hk : v.fKind = 5
 ·rw [sortV_5 hk]
 ·rw [sortV_n hk]
theorem sort_bool (v : TB0) : (sortV v).fBool = v.fBool := by
 by_cases hk : v.fKind = 5
 ·rw [sortV_5 hk]
 ·rw [sortV_n hk]
theorem sort_num (v : TB0) : (sortV v).fNum = v.fNum := by
 by_cases hk : v.fKind = 5
 ·rw [sortV_5 hk]
 ·rw [sortV_n hk]
theorem sort_text (v : TB0) : (sortV v).fText = v.fText := by
 by_cases hk : v.fKind = 5
 ·rw [sortV_5 hk]
 ·rw [sortV_n hk]
theorem OkV.plain {v : TB0} (h : OkV v) : PlainV v := (alone_ok (OkV_iff.1 h).1).1
theorem OkV.part {v x : TB0} (h : OkV v) (hx : x ∈ v.fList) : OkV x := (OkV_iff.1 h).2 x hx
theorem sort_small : ∀ {d : Nat} {v : TB0}, Small d v → OkV v → Small d (sortV v)
 | d + 1, v, h, hok => by
  have hp := hok.plain
  have h1 := sort_perm hp
  have h2 := sort_keys hp
  refine ⟨by rw [h1.length_eq, List.length_map]; exact h.1, by rw [h2.length_eq]; exact h.2.1, by rw [sort_text]; exact h.2.2.1, fun k hk => h.2.2.2.1 k (h2.mem_iff.1 hk), fun x hx => ?_⟩
  obtain ⟨y, hy, rfl⟩ := List.mem_map.1 (h1.mem_iff.1 hx)
  exact sort_small (h.2.2.2.2 y hy) (hok.part hy)
theorem sort_ok : ∀ (m : Nat) {v : TB0}, SizeOf.sizeOf v < m → OkV v → OkV (sortV v)
 | 0, v, hm, _ => absurd hm (by omega)
 | m + 1, v, hm, hok => by
  have hp := hok.plain
  obtain ⟨_, hn, ht, hd⟩ := alone_ok (OkV_iff.1 hok).1
  have h1 := sort_perm hp
  have h2 := sort_keys hp
  rw [OkV_iff]
  constructor
  ·refine alone_0 ?_ ?_ ?_ ?_
   ·obtain ⟨a, b, c, d, e, f, g, i⟩ := hp
    refine ⟨by rw [sort_kind]; exact a, by rw [sort_kind]; exact b, by rw [sort_kind, sort_bool]; exact c, by rw [sort_kind, sort_num]; exact d, by rw [sort_kind, sort_text]; exact e, ?_, ?_, ?_⟩
    ·rw [sort_kind, h1.length_eq, List.length_map]; exact f
    ·rw [sort_kind, h1.length_eq, List.length_map, h2.length_eq]; exact g
    ·rw [sort_kind, h2.length_eq]; exact i
   ·unfold NumOut; rw [sort_num]; exact hn
   ·unfold TextsOk; rw [sort_text]; exact ⟨ht.1, fun k hk => ht.2 k (h2.mem_iff.1 hk)⟩
   ·exact h2.nodup_iff.2 hd
  ·intro x hx
   obtain ⟨y, hy, rfl⟩ := List.mem_map.1 (h1.mem_iff.1 hx)
   exact sort_ok m (by have := part_small hy; omega) (hok.part hy)
theorem OkV.sort {v : TB0} (h : OkV v) : OkV (sortV v) := sort_ok _ (Nat.lt_succ_self _) h
def lenW (l : List TB0) : List Nat := l.map fun x => (walkV x).length
theorem walkVs_sum : ∀ l : List TB0, (walkVs l).length = (lenW l).sum
 | [] => rfl
 | x :: r => by rw [walkVs, List.length_append, walkVs_sum r]; rfl
theorem sort_count : ∀ (m : Nat) {v : TB0}, SizeOf.sizeOf v < m → OkV v → (walkV (sortV v)).length = (walkV v).length
 | 0, v, hm, _ => absurd hm (by omega)
 | m + 1, v, hm, hok => by
  rw [walkV_eq, walkV_eq v, List.length_cons, List.length_cons, walkVs_sum, walkVs_sum]
  have h1 := (sort_perm hok.plain).map fun x => (walkV x).length
  have e : (lenW (sortV v).fList).sum = (lenW (v.fList.map sortV)).sum := h1.sum_nat
  rw [e]
  unfold lenW
  rw [List.map_map]
  congr 2
  refine List.map_congr_left fun x hx => ?_
  exact sort_count m (by have := part_small hx; omega) (hok.part hx)
theorem Fine.sort {v : TB0} (h : Fine v) (hok : OkV v) : Fine (sortV v) := ⟨sort_small h.small hok, by rw [sort_count _ (Nat.lt_succ_self _) hok]; exact h.few⟩
theorem cmpC_run {n : Nat} (a b : Int) : cmp_Compare n a b = some (cmpI a b) := by
 unfold cmp_Compare cmp_isNaN cmpI
 rw [bnd, bnd, cF, cF]
 by_cases h : a < b
 ·rw [decide_eq_true h, cT, cT]
 ·rw [decide_eq_false h, cF, cF]
  by_cases h2 : b < a
  ·rw [decide_eq_true h2, cT, cT]
  ·rw [decide_eq_false h2, cF, cF]
theorem cmpC2_run {n : Nat} (a b : Int) : cmp_Compare_2 n a b = some (cmpI a b) := by
 unfold cmp_Compare_2 cmp_isNaN_2 cmpI
 rw [bnd, bnd, cF, cF]
 by_cases h : a < b
 ·rw [decide_eq_true h, cT, cT]
 ·rw [decide_eq_false h, cF, cF]
  by_cases h2 : b < a
  ·rw [decide_eq_true h2, cT, cT]
  ·rw [decide_eq_false h2, cF, cF]
theorem bit_run {n : Nat} (a : Bool) : tree_bit n a = some (bitI a) := by unfold tree_bit bitI; cases a <;> rfl
theorem or_run {n : Nat} (hn : 6000 < n) (a b c d : Int) : cmp_Or n [a, b, c, d] = some (thenC a (thenC b (thenC c d))) := by
 obtain ⟨m, rfl⟩ : ∃ m, n = m + 5 := ⟨n - 5, by omega⟩
 have st : ∀ (x : Int) (i : Nat), [a, b, c, d][i]? = some x → cmp_Or_s1 (m + 5) [a, b, c, d] (i : Int) = bif decide (x = 0) then some (.nx ((i : Int) + 1)) else some (.br (.inl x)) := fun x i hx => by
  have hi : i < 4 := by
   have := (List.getElem?_eq_some_iff.1 hx).1
   simpa using this
  unfold cmp_Or_s1
  have hg : getI [a, b, c, d] (i : Int) = some x := by simp [getI, hx]
  rw [decide_eq_true (by simp; omega), cT, hg, bnd]
  by_cases h : x = 0
  ·rw [decide_eq_true h, Bool.not_true, cF, cT, need_i (by omega) (by omega)]
  ·rw [decide_eq_false h, Bool.not_false, cT, cF]
 have s0 := st a 0 rfl
 have s1 := st b 1 rfl
 have s2 := st c 2 rfl
 have s3 := st d 3 rfl
 have e0 : ((0 : Nat) : Int) = 0 := rfl
 have e1 : ((0 : Nat) : Int) + 1 = ((1 : Nat) : Int) := rfl
 have e2 : ((1 : Nat) : Int) + 1 = ((2 : Nat) : Int) := rfl
 have e3 : ((2 : Nat) : Int) + 1 = ((3 : Nat) : Int) := rfl
 have e4 : ((3 : Nat) : Int) + 1 = 4 := rfl
 rw [e1] at s0
 rw [e2] at s1
 rw [e3] at s2
 rw [e4] at s3
 have s4 : cmp_Or_s1 (m + 5) [a, b, c, d] 4 = some (.br (.inr ())) := by
  unfold cmp_Or_s1
  rw [decide_eq_false (by simp), cF]
 unfold cmp_Or
 rw [← e0]
 unfold loopF
 rw [s0]
 by_cases ha : a = 0
 ·rw [decide_eq_true ha, cT, bnd, ha, thenC0]
  dsimp only
  unfold loopF
  rw [← ha, s1]
  by_cases hb : b = 0
  ·rw [decide_eq_true hb, cT, bnd]
   have : thenC b (thenC c d) = thenC c d := by rw [hb, thenC0]
   rw [this]
   dsimp only
   unfold loopF
   rw [s2]
   by_cases hc : c = 0
   ·rw [decide_eq_true hc, cT, bnd]
    have : thenC c d = d := by rw [hc, thenC0]
    rw [this]
    dsimp only
    unfold loopF
    rw [s3]
    by_cases hd : d = 0
    ·rw [decide_eq_true hd, cT, bnd]
     dsimp only
     unfold loopF
     rw [s4, bnd]
     dsimp only
     rw [bnd, hd]
     rfl
    ·rw [decide_eq_false hd, cF, bnd]
     dsimp only
     rw [bnd]
   ·rw [decide_eq_false hc, cF, bnd, thenCn d hc]
    dsimp only
    rw [bnd]
  ·rw [decide_eq_false hb, cF, bnd, thenCn _ hb]
   dsimp only
   rw [bnd]
 ·rw [decide_eq_false ha, cF, bnd, thenCn _ ha]
  dsimp only
  rw [bnd]
theorem cmpVs_drop (o : Bool) {l : List TB0} {ks : List (List UInt8)} {m : List TB0} {js : List (List UInt8)} {q : Nat} (h1 : q < l.length) (h2 : q < m.length) :
  cmpVs o (l.drop q) (ks.drop q) (m.drop q) (js.drop q) = thenC (bif o then Lib.compareBytes (ks.getD q []) (js.getD q []) else 0) (thenC (cmpV l[q] m[q]) (cmpVs o (l.drop (q + 1)) (ks.drop (q + 1)) (m.drop (q + 1)) (js.drop (q + 1)))) := by
 have hh : ∀ ks : List (List UInt8), (ks.drop q).headD [] = ks.getD q [] := fun ks => by
  rw [List.headD_eq_head?_getD, List.head?_drop, List.getD_eq_getElem?_getD]
 rw [List.drop_eq_getElem_cons h1, List.drop_eq_getElem_cons h2, cmpVs, hh, hh, List.tail_drop, List.tail_drop]
theorem cmpVs_end (o : Bool) {l : List TB0} {ks : List (List UInt8)} {m : List TB0} {js : List (List UInt8)} {q : Nat} (h : q = min l.length m.length) :
  cmpVs o (l.drop q) (ks.drop q) (m.drop q) (js.drop q) = cmpI (l.length : Int) (m.length : Int) := by
 rcases Nat.lt_trichotomy l.length m.length with hl | hl | hl
 ·rw [List.drop_of_length_le (l := l) (by omega), List.drop_eq_getElem_cons (l := m) (by omega : q < m.length), cmpVs]
  have := cmpI_cases (l.length : Int) (m.length : Int)
  omega
 ·rw [List.drop_of_length_le (l := l) (by omega), List.drop_of_length_le (l := m) (by omega), cmpVs]
  have := cmpI_cases (l.length : Int) (m.length : Int)
  omega
 ·rw [List.drop_of_length_le (l := m) (by omega), List.drop_eq_getElem_cons (l := l) (by omega : q < l.length), cmpVs]
  have := cmpI_cases (l.length : Int) (m.length : Int)
  omega
theorem compare_loop {n : Nat} (hn : 6000 < n) (rec : TB0 → TB0 → Option Int) (v w : TB0) (hv : v.fList.length ≤ 3000) (hk : v.fKind = 5 → v.fKeys.length = v.fList.length ∧ w.fKeys.length = w.fList.length) (hr : ∀ x ∈ v.fList, ∀ y ∈ w.fList, rec x y = some (cmpV x y)) :
  ∃ b, loopF (tree_compare_s1 n rec v w) n (0 : Int) = some b ∧ (match b with | .inl c => c ≠ 0 ∧ cmpVs (decide (v.fKind = 5)) v.fList v.fKeys w.fList w.fKeys = c | .inr _ => cmpVs (decide (v.fKind = 5)) v.fList v.fKeys w.fList w.fKeys = cmpI (v.fList.length : Int) (w.fList.length : Int)) := by
 refine loop_inv (step := tree_compare_s1 n rec v w) (n := n) (fun q s => s = (q : Int) ∧ cmpVs (decide (v.fKind = 5)) v.fList v.fKeys w.fList w.fKeys = cmpVs (decide (v.fKind = 5)) (v.fList.drop q) (v.fKeys.drop q) (w.fList.drop q) (w.fKeys.drop q)) _ (min v.fList.length w.fList.length) ⟨rfl, by simp only [List.drop_zero]⟩ (fun q s hq hI => ?_) (fun s hI => ?_) (by omega)
 ·obtain ⟨rfl, hI⟩ := hI
  have h1 : q < v.fList.length := by omega
  have h2 : q < w.fList.length := by omega
  rw [cmpVs_drop _ h1 h2] at hI
  have hg1 : getI v.fList (q : Int) = some v.fList[q] := by simp [getI]
  have hg2 : getI w.fList (q : Int) = some w.fList[q] := by simp [getI]
  have tail : ∀ (h0 : cmpVs (decide (v.fKind = 5)) v.fList v.fKeys w.fList w.fKeys = thenC (cmpV v.fList[q] w.fList[q]) (cmpVs (decide (v.fKind = 5)) (v.fList.drop (q + 1)) (v.fKeys.drop (q + 1)) (w.fList.drop (q + 1)) (w.fKeys.drop (q + 1)))) (t : Option (Lp Int (Sum Int Unit))), t = ((getI v.fList (q : Int)).bind fun x_10 =>
   (getI w.fList (q : Int)).bind fun x_11 =>
   (rec x_10 x_11).bind fun x_12 =>
   bif (!(decide (x_12 = 0))) then
    (some (.br (.inl x_12)))
   else
    need (inR .i64 ((q : Int) + 1)) <|
    some (.nx ((q : Int) + 1))) → (∃ s', t = some (.nx s') ∧ (s' = ((q + 1 : Nat) : Int) ∧ cmpVs (decide (v.fKind = 5)) v.fList v.fKeys w.fList w.fKeys = cmpVs (decide (v.fKind = 5)) (v.fList.drop (q + 1)) (v.fKeys.drop (q + 1)) (w.fList.drop (q + 1)) (w.fKeys.drop (q + 1)))) ∨ ∃ b, t = some (.br b) ∧ (match b with | .inl c => c ≠ 0 ∧ cmpVs (decide (v.fKind = 5)) v.fList v.fKeys w.fList w.fKeys = c | .inr _ => cmpVs (decide (v.fKind = 5)) v.fList v.fKeys w.fList w.fKeys = cmpI (v.fList.length : Int) (w.fList.length : Int)) := by
   intro h0 t ht
   rw [hg1, bnd, hg2, bnd, hr _ (List.getElem_mem h1) _ (List.getElem_mem h2), bnd] at ht
   by_cases hc : cmpV v.fList[q] w.fList[q] = 0
   ·rw [decide_eq_true hc, Bool.not_true, cF, need_i (by omega) (by omega)] at ht
    rw [hc, thenC0] at h0
    exact .inl ⟨_, ht, by omega, h0⟩
   ·rw [decide_eq_false hc, Bool.not_false, cT] at ht
    rw [thenCn _ hc] at h0
    exact .inr ⟨_, ht, hc, h0⟩
  unfold tree_compare_s1
  rw [decide_eq_true (by omega), cT]
  by_cases hkind : v.fKind = 5
  ·obtain ⟨k1, k2⟩ := hk hkind
   rw [decide_eq_true hkind, cT] at hI
   rw [decide_eq_true hkind, cT, getI_at [] (by omega), bnd, getI_at [] (by omega), bnd]
   unfold h_Compare
   rw [bnd]
   by_cases hc : Lib.compareBytes (v.fKeys.getD q []) (w.fKeys.getD q []) = 0
   ·rw [decide_eq_true hc, Bool.not_true, cF, bnd, jN]
    rw [hc, thenC0] at hI
    have := tail (by rw [decide_eq_true hkind]; exact hI) _ rfl
    rw [decide_eq_true hkind] at this
    exact this
   ·rw [decide_eq_false hc, Bool.not_false, cT, mpS, bnd, jB]
    rw [thenCn _ hc] at hI
    exact .inr ⟨_, rfl, hc, hI⟩
  ·rw [decide_eq_false hkind, cF] at hI
   rw [decide_eq_false hkind, cF, bnd, jN]
   rw [thenC0] at hI
   have := tail (by rw [decide_eq_false hkind]; exact hI) _ rfl
   rw [decide_eq_false hkind] at this
   exact this
 ·obtain ⟨rfl, hI⟩ := hI
  unfold tree_compare_s1
  rw [decide_eq_false (by omega), cF]
  refine ⟨_, rfl, ?_⟩
  dsimp only
  rw [hI, cmpVs_end _ rfl]
theorem bit_cmp (a b : Bool) : bitI a - bitI b = cmpI (bitI a) (bitI b) := by cases a <;> cases b <;> rfl
theorem compare_b {n : Nat} (hn : 6000 < n) (rec : TB0 → TB0 → Option Int) (v w : TB0) (hv : v.fList.length ≤ 3000) (hok : OkV v) (how : OkV w) (hr : ∀ x ∈ v.fList, ∀ y ∈ w.fList, rec x y = some (cmpV x y)) : tree_compare_b n rec v w = some (cmpV v w) := by
 unfold tree_compare_b h_Compare
 rw [cmpC_run, bnd, bit_run, bnd, bit_run, bnd, bit_cmp, need_i (by have := cmpI_range (bitI v.fBool) (bitI w.fBool); omega) (by have := cmpI_range (bitI v.fBool) (bitI w.fBool); omega), cmpC2_run, bnd, bnd, or_run hn, bnd, cmpV_eq]
 generalize hA : cmpI v.fKind w.fKind = A
 generalize hB : cmpI (bitI v.fBool) (bitI w.fBool) = B
 generalize hC : cmpI v.fNum w.fNum = C
 generalize hD : Lib.compareBytes v.fText w.fText = D
 have assoc : ∀ E, thenC A (thenC B (thenC C (thenC D E))) = thenC (thenC A (thenC B (thenC C D))) E := fun E => by
  by_cases a : A = 0
  ·subst a
   rw [thenC0, thenC0]
   by_cases b : B = 0
   ·rw [b, thenC0, thenC0]
    by_cases c : C = 0
    ·rw [c, thenC0, thenC0]
    ·rw [thenCn _ c, thenCn D c, thenCn _ c]
   ·rw [thenCn _ b, thenCn _ b, thenCn _ b]
  ·rw [thenCn _ a, thenCn _ a, thenCn _ a]
 rw [assoc]
 by_cases hx : thenC A (thenC B (thenC C D)) = 0
 ·have ha := (thenC_zero hx).1
  rw [decide_eq_true hx, Bool.not_true, cF, hx, thenC0]
  have hkk : v.fKind = w.fKind := cmpI_zero (hA.trans ha)
  obtain ⟨b, hb, hp⟩ := compare_loop hn rec v w hv (fun hk => ⟨plain_len hok.plain hk, plain_len how.plain (by rw [← hkk]; exact hk)⟩) hr
  rw [hb, bnd]
  cases b with
  | inl c => dsimp only at hp ⊢; rw [hp.2]
  | inr u => dsimp only at hp ⊢; rw [cmpC2_run, bnd, hp]
 ·rw [decide_eq_false hx, Bool.not_false, cT, thenCn _ hx]
theorem compare_run {n : Nat} (hn : 6000 < n) : ∀ (k d : Nat) (v w : TB0), d ≤ k → Small d v → OkV v → OkV w → tree_compare_k n k v w = some (cmpV v w)
 | _, 0, v, _, _, h, _, _ => h.elim
 | 0, d + 1, v, _, h, _, _, _ => absurd h (by omega)
 | k + 1, d + 1, v, w, hk, hs, hok, how => compare_b hn _ v w hs.1 hok how fun x hx y hy => compare_run hn k d x y (by omega) (hs.2.2.2.2 x hx) (hok.part hx) (how.part hy)
end Go.Proofs.YtalifkcchfkgmaaDoor
end
section
namespace Go.Proofs.YtalifkcchfkgmaaDoor
open Go Go.Vc Go.RowKit
theorem evV (x : TB0) : (⟨x.fKind, (x.fBool), x.fNum, x.fText, x.fList, x.fKeys⟩ : TB0) = x := by cases x; rfl
theorem great_fine {n : Nat} (hn : 6000 < n) (v : TB0) : ∃ g, ref03_Great n v = some g ∧ (g = false → Fine v ∧ Small 30 v ∧ (walkV v).length ≤ 5000) := by
 obtain ⟨g, h1, h2⟩ := great_ok (n := n) (by omega) v
 exact ⟨g, h1, fun h => ⟨⟨Small.le (by omega) (h2 h).1, by have := (h2 h).2; omega⟩, h2 h⟩⟩
def eqV (a b : TB0) : Bool := decide (checkV a = 0) && (decide (checkV b = 0) && decide (cmpV (sortV a) (sortV b) = 0))
theorem sortedT_run {n : Nat} (hn : 6000 < n) {v : TB0} (h : Fine v) (hok : OkV v) : tree_sorted n v = some (sortV v) := sorted_run hn n 60 v (by omega) h.small hok
theorem compareT_run {n : Nat} (hn : 6000 < n) {v w : TB0} (h : Fine v) (hok : OkV v) (how : OkV w) : tree_compare n v w = some (cmpV v w) := compare_run hn n 60 v w (by omega) h.small hok how
theorem compare2_run {n : Nat} (hn : 6000 < n) {v w : TB0} (h : Fine v) (hok : OkV v) (how : OkV w) : ∃ z, tree_compare_2 n v.fKind (v.fBool) v.fNum v.fText v.fList v.fKeys w.fKind (w.fBool) w.fNum w.fText w.fList w.fKeys = some z ∧ z.1 = cmpV v w := by
 have key : (tree_compare_2 n v.fKind (v.fBool) v.fNum v.fText v.fList v.fKeys w.fKind (w.fBool) w.fNum w.fText w.fList w.fKeys).map (·.1) = tree_compare_b n (tree_compare n) v w := by
  have hs : tree_compare_2_s1 n v.fKind v.fList v.fKeys w.fList w.fKeys = tree_compare_s1 n (tree_compare n) v w := rfl
  unfold tree_compare_2 tree_compare_b
  rw [hs, cmpC_run, bnd, bnd, bit_run, bnd, bnd, bit_run, bnd, bnd]
  unfold need
  split
  ·rw [cmpC2_run, bnd, bnd]
   unfold h_Compare
   rw [bnd, bnd, or_run hn, bnd, bnd]
   generalize thenC _ _ = x
   by_cases hx : x = 0
   ·rw [decide_eq_true hx, Bool.not_true, cF, cF]
    cases loopF (tree_compare_s1 n (tree_compare n) v w) n (0 : Int) with
    | none => rfl
    | some b =>
     rw [bnd, bnd]
     cases b with
     | inl c => rfl
     | inr u => dsimp only; rw [cmpC2_run, bnd, bnd]; rfl
   ·rw [decide_eq_false hx, Bool.not_false, cT, cT]; rfl
  ·rfl
 rw [compare_b hn (tree_compare n) v w h.wide.1 hok how (fun x hx y hy => compareT_run hn (h.part hx) (hok.part hx) (how.part hy))] at key
 obtain ⟨z, hz, e⟩ := Option.map_eq_some_iff.1 key
 exact ⟨z, hz, e⟩
theorem both_run {n : Nat} (hn : 6000 < n) {v w : TB0} (h : Fine v) (h' : Fine w) : tree_both n v w = some (if checkV v = 0 ∧ checkV w = 0 then (cmpV (sortV v) (sortV w), true) else (0, false)) := by
 unfold tree_both
 rw [check_run hn h, bnd]
 by_cases a : checkV v = 0
 ·rw [decide_eq_true a, Bool.not_true, cF, check_run hn h', bnd]
  by_cases b : checkV w = 0
  ·rw [decide_eq_true b, Bool.not_true, bnd, cF, if_pos ⟨a, b⟩]
   have oa := (checkV_ok a).1
   have ob := (checkV_ok b).1
   rw [sortedT_run hn h oa, bnd, sortedT_run hn h' ob, bnd]
   obtain ⟨z, hz, e⟩ := compare2_run hn (h.sort oa) oa.sort ob.sort
   rw [hz, bnd, e]
  ·rw [decide_eq_false b, Bool.not_false, bnd, cT, if_neg (fun x => b x.2)]
 ·rw [decide_eq_false a, Bool.not_false, cT, bnd, cT, if_neg (fun x => a x.1)]
theorem Equal_run {n : Nat} (hn : 6000 < n) {v w : TB0} (h : Fine v) (h' : Fine w) : tree_Equal n v w = some (eqV v w) := by
 unfold tree_Equal eqV
 rw [both_run hn h h', bnd]
 by_cases a : checkV v = 0
 ·by_cases b : checkV w = 0
  ·rw [if_pos ⟨a, b⟩, decide_eq_true a, decide_eq_true b]; rfl
  ·rw [if_neg (fun x => b x.2), decide_eq_true a, decide_eq_false b]; rfl
 ·rw [if_neg (fun x => a x.1), decide_eq_false a]; rfl
end Go.Proofs.YtalifkcchfkgmaaDoor
end
end

section
namespace Go.Proofs.YtalifkcchfkgmaaDoor
open Go Go.Vc Go.RowKit
structure TC0 where
  fName : List UInt8
  fNumber : Bool
  fHas : Bool
  fDefault : TB0
  fAllowed : List TB0
def emb_TC0 : TC0 → Dat
  | ⟨x0, x1, x2, x3, x4⟩ => .struct [Dat.str x0, Dat.bool x1, Dat.bool x2, emb_TB0 x3, (eL 6 emb_TB0) x4]
theorem emb_TC0_eq (x : TC0) : emb_TC0 x = .struct [Dat.str x.fName, Dat.bool x.fNumber, Dat.bool x.fHas, emb_TB0 x.fDefault, (eL 6 emb_TB0) x.fAllowed] := by
 cases x
 simp [emb_TC0, eL]
theorem szd_TC0 (x : TC0) : Szd 10 (emb_TC0 x) := by rw [emb_TC0_eq]; exact (szd_cons (szd_str _) (szd_cons (szd_bool _) (szd_cons (szd_bool _) (szd_cons (szd_TB0 _) (szd_cons ((fun _ => szd_list _ _) _) szd_nil)))))
theorem TC0.opn {M : Mem} {x : TC0} {cs : List Value} (h : Rep M (emb_TC0 x) cs) : ∃ (A7 : Option Addr) (c7 : Nat) (A8 : Option Addr) (c8 : Nat) (A9 : Option Addr) (c9 : Nat), cs = [S x.fName, .bool x.fNumber, .bool x.fHas, .int .i8 x.fDefault.fKind, .bool x.fDefault.fBool, .int .i64 x.fDefault.fNum, S x.fDefault.fText, .slice A7 x.fDefault.fList.length c7, .slice A8 x.fDefault.fKeys.length c8, .slice A9 x.fAllowed.length c9] ∧ Sli M 6 emb_TB0 A7 c7 x.fDefault.fList ∧ Sli M 1 Dat.str A8 c8 x.fDefault.fKeys ∧ Sli M 6 emb_TB0 A9 c9 x.fAllowed := by
 rw [emb_TC0_eq] at h
 obtain ⟨cq_0, dq_0, eq_0, hq_0, gq_0⟩ := h
 have yq_0 : cq_0 = _ := hq_0
 obtain ⟨cq_1, dq_1, eq_1, hq_1, gq_1⟩ := gq_0
 have yq_1 : cq_1 = _ := hq_1
 obtain ⟨cq_2, dq_2, eq_2, hq_2, gq_2⟩ := gq_1
 have yq_2 : cq_2 = _ := hq_2
 obtain ⟨cq_3, dq_3, eq_3, hq_3, gq_3⟩ := gq_2
 rw [emb_TB0_eq] at hq_3
 obtain ⟨cq_3_0, dq_3_0, eq_3_0, hq_3_0, gq_3_0⟩ := hq_3
 have yq_3_0 : cq_3_0 = _ := hq_3_0
 obtain ⟨cq_3_1, dq_3_1, eq_3_1, hq_3_1, gq_3_1⟩ := gq_3_0
 have yq_3_1 : cq_3_1 = _ := hq_3_1
 obtain ⟨cq_3_2, dq_3_2, eq_3_2, hq_3_2, gq_3_2⟩ := gq_3_1
 have yq_3_2 : cq_3_2 = _ := hq_3_2
 obtain ⟨cq_3_3, dq_3_3, eq_3_3, hq_3_3, gq_3_3⟩ := gq_3_2
 have yq_3_3 : cq_3_3 = _ := hq_3_3
 obtain ⟨cq_3_4, dq_3_4, eq_3_4, hq_3_4, gq_3_4⟩ := gq_3_3
 obtain ⟨Aq_3_4, kq_3_4, yq_3_4, zq_3_4⟩ := Rep.sli hq_3_4
 obtain ⟨cq_3_5, dq_3_5, eq_3_5, hq_3_5, gq_3_5⟩ := gq_3_4
 obtain ⟨Aq_3_5, kq_3_5, yq_3_5, zq_3_5⟩ := Rep.sli hq_3_5
 have lq_3 : dq_3_5 = [] := gq_3_5
 obtain ⟨cq_4, dq_4, eq_4, hq_4, gq_4⟩ := gq_3
 obtain ⟨Aq_4, kq_4, yq_4, zq_4⟩ := Rep.sli hq_4
 have lq : dq_4 = [] := gq_4
 exact ⟨Aq_3_4, kq_3_4, Aq_3_5, kq_3_5, Aq_4, kq_4, by simp [eq_0, yq_0, eq_1, yq_1, eq_2, yq_2, eq_3, eq_3_0, yq_3_0, eq_3_1, yq_3_1, eq_3_2, yq_3_2, eq_3_3, yq_3_3, eq_3_4, yq_3_4, eq_3_5, yq_3_5, lq_3, eq_4, yq_4, lq], zq_3_4, zq_3_5, zq_4⟩
theorem TC0.shut {M : Mem} {a0 : List UInt8} {a1 : Bool} {a2 : Bool} {a3 : Int} {a4 : Bool} {a5 : Int} {a6 : List UInt8} {a7 : List TB0} {a8 : List (List UInt8)} {a9 : List TB0} {A7 : Option Addr} {c7 : Nat} {A8 : Option Addr} {c8 : Nat} {A9 : Option Addr} {c9 : Nat} (h7 : Sli M 6 emb_TB0 A7 c7 a7) (h8 : Sli M 1 Dat.str A8 c8 a8) (h9 : Sli M 6 emb_TB0 A9 c9 a9) : Rep M (emb_TC0 ⟨a0, a1, a2, ⟨a3, a4, a5, a6, a7, a8⟩, a9⟩) [S a0, .bool a1, .bool a2, .int .i8 a3, .bool a4, .int .i64 a5, S a6, .slice A7 a7.length c7, .slice A8 a8.length c8, .slice A9 a9.length c9] := by
 rw [emb_TC0_eq]; exact ⟨_, _, rfl, rfl, ⟨_, _, rfl, rfl, ⟨_, _, rfl, rfl, ⟨_, _, rfl, (by rw [emb_TB0_eq]; exact ⟨_, _, rfl, rfl, ⟨_, _, rfl, rfl, ⟨_, _, rfl, rfl, ⟨_, _, rfl, rfl, ⟨_, _, rfl, (Sli.rep h7), ⟨_, _, rfl, (Sli.rep h8), rfl⟩⟩⟩⟩⟩⟩), ⟨_, _, rfl, (Sli.rep h9), rfl⟩⟩⟩⟩⟩
theorem TC0.shutx {M : Mem} {x : TC0} {A7 : Option Addr} {c7 : Nat} {A8 : Option Addr} {c8 : Nat} {A9 : Option Addr} {c9 : Nat} (h7 : Sli M 6 emb_TB0 A7 c7 x.fDefault.fList) (h8 : Sli M 1 Dat.str A8 c8 x.fDefault.fKeys) (h9 : Sli M 6 emb_TB0 A9 c9 x.fAllowed) : Rep M (emb_TC0 x) [S x.fName, .bool x.fNumber, .bool x.fHas, .int .i8 x.fDefault.fKind, .bool x.fDefault.fBool, .int .i64 x.fDefault.fNum, S x.fDefault.fText, .slice A7 x.fDefault.fList.length c7, .slice A8 x.fDefault.fKeys.length c8, .slice A9 x.fAllowed.length c9] := by
 obtain ⟨u0, u1, u2, ⟨u3, u4, u5, u6, u7, u8⟩, u9⟩ := x
 exact TC0.shut h7 h8 h9
abbrev z_TC0 : TC0 := (⟨([] : List UInt8), (false), (false), (⟨(0 : Int), (false), (0 : Int), ([] : List UInt8), ([] : List TB0), ([] : List (List UInt8))⟩ : TB0), ([] : List TB0)⟩ : TC0)
theorem rounds_go {P : Program} {Q : Exit → Act → World → Prop} {c : Code} {n : Nat} {a : Act} {w : World} (h : c.wp P (Exit.then (Code.rounds P c Q n) Q) a w) : Code.rounds P c Q (n + 1) a w := h
def print_Word (n : Nat) (d0 : List UInt8) : Option Bool :=
  bif (decide ((d0.length : Int) ≤ 64)) then
    ((runes_Valid n d0).bind fun x_1 =>
    some ((x_1)))
  else
    some ((false))
theorem print_Word_ok (n : Nat) (M : Mem) (hG : GL M) (d0 : List UInt8) (r : Bool) (hF : print_Word n d0 = some r) : Ok Tryd.prog M 69 [S d0] (fun _ v => v = .bool r) := by
 unfold print_Word at hF
 intro M1 hM0 w0 H w p0
 replace hG := GL.mono hM0 hG
 refine R_enter 10 Tryd.func69 rfl rfl (by simp) fun a0 f0 => RR (Y f0 1 fun _ f => eT (RR (Y f 4 fun _ f => ?_)))
 rcases cE hF with ⟨h_1, hF_1⟩ | ⟨h_1, hF_3⟩
 ·have k_1 := dI.1 h_1
  have f := f.st 6 (cB h_1)
  refine Y f 1 fun _ f => ?_
  obtain ⟨x_1, hx_1, hF_2⟩ := bS hF_1
  refine Y18 f p0 (runes_Valid_ok n _ hG d0 x_1 hx_1) fun w_1 p_1 _ f => Y f 2 fun _ f => eT (wp_ret (E_ret1 f rfl (by kernel_rfl : Vc.look _ 2 = some (.bool x_1)) ?_))
  obtain rfl := sI hF_2
  exact ⟨_, rfl, M1, (mR _), p_1, rfl⟩
 ·have k_2 := iff_f dI h_1
  have f := f.st 6 (cB h_1)
  refine Y f 4 fun _ f => eT (wp_ret (E_ret1 f rfl (by kernel_rfl : Vc.look _ 2 = some (.bool false)) ?_))
  obtain rfl := sI hF_3
  exact ⟨_, rfl, M1, (mR _), p0, rfl⟩
def runes_Name_s1 (n : Nat) (d0 : List UInt8) (s_1 : Int) : Option (Lp Int (Sum Unit Unit)) :=
    bif (decide (s_1 < (d0.length : Int))) then
      ((getI d0 s_1).bind fun c_1 =>
      ((bif (decide ((97 : Int) ≤ (bOr .u8 ((c_1).toNat : Int) (32 : Int)))) then
          (some ((decide ((bOr .u8 ((c_1).toNat : Int) (32 : Int)) ≤ 122))))
        else
          some ((false)) : Option Bool)).bind fun y_1 =>
      bif !y_1 then
        (bif (decide (s_1 = 0)) then
          (some (.br (.inl ())))
        else
          (getI d0 s_1).bind fun c_2 =>
          bif (decide (((c_2).toNat : Int) < 48)) then
            (some (.br (.inl ())))
          else
            (getI d0 s_1).bind fun c_3 =>
            bif (decide ((57 : Int) < ((c_3).toNat : Int))) then
              (some (.br (.inl ())))
            else
              need (inR .i64 (s_1 + 1)) <|
              some (.nx (s_1 + 1)))
      else
        need (inR .i64 (s_1 + 1)) <|
        some (.nx (s_1 + 1)))
    else
      some (.br (.inr ()))
def runes_Name (n : Nat) (d0 : List UInt8) : Option Bool :=
  (loopF (runes_Name_s1 n d0) n (0 : Int)).bind fun b_1 =>
  (match b_1 with 
  | .inl y_2 => some ((false)) 
  | .inr y_3 => bif (decide ((0 : Int) < (d0.length : Int))) then
      (some ((decide ((d0.length : Int) ≤ 32))))
    else
      some ((false)))
theorem runes_Name_ok (n : Nat) (M : Mem) (hG : GL M) (d0 : List UInt8) (r : Bool) (hF : runes_Name n d0 = some r) : Ok Tryd.prog M 58 [S d0] (fun _ v => v = .bool r) := by
 unfold runes_Name at hF
 intro M1 hM0 w0 H w p0
 replace hG := GL.mono hM0 hG
 refine R_enter 48 Tryd.func58 rfl rfl (by simp) fun a0 f0 => RR (Y f0 1 fun _ f => eT (R_seq (RR (Y f 3 fun _ f => eT (wp_block ?_)))))
 obtain ⟨b_1, hL_1, hF_1⟩ := bS hF
 refine wp_mono (Q := fun e a w => (e = .ret ∧ (∃ y_2 : Unit, b_1 = .inl y_2 ∧ ∃ M_3 : Mem, M1.le M_3 ∧ Frm 48 [(2, .bool false)] a ∧ Hp w0 M_3 (H) w)) ∨ (e = .exit 0 ∧ (∃ y_3 : Unit, b_1 = .inr y_3 ∧ ∃ M_4 : Mem, M1.le M_4 ∧ Frm 48 [(0, S d0)] a ∧ Hp w0 M_4 (H) w))) (R_loop (n := 48) (w0 := w0) (M := M1) (fun (x : Nat × Int) => match x with | (m_1, s_1) => [(0, S d0), (7, .int .i64 (d0.length : Int)), (8, .int .i64 s_1)]) (fun (x : Nat × Int) => match x with | (m_1, s_1) => (H)) (fun (x : Nat × Int) (MM : Mem) => match x with | (m_1, s_1) => loopF (runes_Name_s1 n d0) m_1 s_1 = some b_1) (fun (x : Nat × Int) => match x with | (m_1, s_1) => m_1) (n, (0 : Int)) (f.kp) p0 hL_1 ?_) ?_
 ·rintro ⟨m_1, s_1⟩ M_1 _ w_1 hM_1 I_1 f p_1
  have I_1L := I_1
  obtain ⟨m_2, r_1, rfl, hs_1, hn_1⟩ := loop_step I_1L
  unfold runes_Name_s1 at hs_1
  refine RR (Y f 1 fun _ f => eT (R_seq (RcF f hs_1 (fun h_1 hF_2 => ?_) fun h_1 hF_19 => ?_)))
  ·have k_1 := dI.1 h_1
   refine wp_skip (T_n (R_seq (wp_block (RR (Y f 2 fun _ f => eT (RR (Y f 2 fun _ f => ?_)))))))
   obtain ⟨c_1, hx_1, hF_3⟩ := bS hF_2
   refine Z f (Y36 rfl (l := d0) (k := .i64) (i := s_1) (getI_nn hx_1) (getI_lt hx_1)) fun _ f => ?_
   have f := Frm.set f 13 (v := .int .u8 ((d0.getD s_1.toNat 0).toNat : Int)) (v' := .int .u8 ((c_1).toNat : Int)) (by kernel_rfl) (congrArg (fun c : UInt8 => Value.int .u8 ((c.toNat : Nat) : Int)) (getI_getD hx_1))
   refine Y f 2 fun _ f => eT (R_seq ?_)
   obtain ⟨j_1, hj_1, hF_4⟩ := bS hF_3
   refine R_mid (fun a_12 w_2 => ∃ y_1 : Bool, j_1 = y_1 ∧ ∃ M_2 : Mem, M_1.le M_2 ∧ Frm 48 [(0, S d0), (3, .int .i64 s_1), (5, .bool y_1), (7, .int .i64 (d0.length : Int)), (8, .int .i64 s_1)] a_12 ∧ Hp w0 M_2 (H) w_2) ?_ ?_
   ·refine R_reg (Y f 3 fun _ f => ?_)
    rcases cE hj_1 with ⟨h_2, hF_5⟩ | ⟨h_2, hF_6⟩
    ·have k_2 := dI.1 h_2
     have f := f.st 17 (cB h_2)
     refine Y f 4 fun _ f => eT ?_
     exact ⟨(decide ((bOr .u8 ((c_1).toNat : Int) (32 : Int)) ≤ 122)), (sI hF_5).symm, M_1, (mR _), f.kp, p_1⟩
    ·have k_3 := iff_f dI h_2
     have f := f.st 17 (cB h_2)
     refine Y f 4 fun _ f => eT ?_
     exact ⟨(false), (sI hF_6).symm, M_1, (mR _), f.kp, p_1⟩
   ·rintro a_12 w_2 ⟨y_1, hq_1, M_2, hM_2, f, p_2⟩
    subst j_1
    refine T_n (RR (Y f 3 fun _ f => ?_))
    rcases cE hF_4 with ⟨h_3, hF_7⟩ | ⟨h_3, hF_17⟩
    ·have k_4 : (y_1) = false := by simpa using h_3
     have f := f.st 23 (cB h_3)
     refine Y f 3 fun _ f => ?_
     rcases cE hF_7 with ⟨h_4, hF_8⟩ | ⟨h_4, hF_9⟩
     ·have k_5 := dI.1 h_4
      have f := f.st 26 (cB h_4)
      refine Y f 12 fun _ f => eT (Y8 f (RR (Y f 1 fun _ f => eT (wp_ret (B_r (T_r (T_r ?_)))))))
      obtain rfl := sI hF_8
      exact .inl ⟨rfl, (), (sI hn_1).symm, M_2, (hM_1.trans hM_2), f.kp, p_2⟩
     ·have k_6 := iff_f dI h_4
      have f := f.st 26 (cB h_4)
      refine Y f 2 fun _ f => ?_
      obtain ⟨c_2, hx_2, hF_10⟩ := bS hF_9
      refine Z f (Y36 rfl (l := d0) (k := .i64) (i := s_1) (getI_nn hx_2) (getI_lt hx_2)) fun _ f => ?_
      have f := Frm.set f 29 (v := .int .u8 ((d0.getD s_1.toNat 0).toNat : Int)) (v' := .int .u8 ((c_2).toNat : Int)) (by kernel_rfl) (congrArg (fun c : UInt8 => Value.int .u8 ((c.toNat : Nat) : Int)) (getI_getD hx_2))
      refine Y f 3 fun _ f => ?_
      rcases cE hF_10 with ⟨h_5, hF_11⟩ | ⟨h_5, hF_12⟩
      ·have k_7 := dI.1 h_5
       have f := f.st 32 (cB h_5)
       refine Y f 6 fun _ f => eT (Y8 f (RR (Y f 1 fun _ f => eT (wp_ret (B_r (T_r (T_r ?_)))))))
       obtain rfl := sI hF_11
       exact .inl ⟨rfl, (), (sI hn_1).symm, M_2, (hM_1.trans hM_2), f.kp, p_2⟩
      ·have k_8 := iff_f dI h_5
       have f := f.st 32 (cB h_5)
       refine Y f 2 fun _ f => ?_
       obtain ⟨c_3, hx_3, hF_13⟩ := bS hF_12
       refine Z f (Y36 rfl (l := d0) (k := .i64) (i := s_1) (getI_nn hx_3) (getI_lt hx_3)) fun _ f => ?_
       have f := Frm.set f 35 (v := .int .u8 ((d0.getD s_1.toNat 0).toNat : Int)) (v' := .int .u8 ((c_3).toNat : Int)) (by kernel_rfl) (congrArg (fun c : UInt8 => Value.int .u8 ((c.toNat : Nat) : Int)) (getI_getD hx_3))
       refine Y f 3 fun _ f => eT (RcF f hF_13 (fun h_6 hF_14 => ?_) fun h_6 hF_15 => ?_)
       ·have k_9 := dI.1 h_6
        refine RR (Y f 1 fun _ f => eT (wp_ret (B_r (T_r (T_r ?_)))))
        obtain rfl := sI hF_14
        exact .inl ⟨rfl, (), (sI hn_1).symm, M_2, (hM_1.trans hM_2), f.kp, p_2⟩
       ·have k_10 := iff_f dI h_6
        refine wp_skip (B_n (T_n (R_reg ?_)))
        obtain ⟨g_1, hF_16⟩ := nS hF_15
        refine Y f 1 fun _ f => ?_
        have f := f.st 39 (congrArg (Value.int .i64) (inR_wrap g_1))
        refine Y f 1 fun _ f => eT ?_
        obtain rfl := sI hF_16
        exact ⟨⟨m_2, s_1 + 1⟩, Nat.lt_succ_self _, M_2, (hM_1.trans hM_2), hn_1, f.kp, p_2⟩
    ·have k_11 : (y_1) = true := by simpa using h_3
     have f := f.st 23 (cB h_3)
     refine Y f 15 fun _ f => eT (Y7 f (wp_skip (B_n (T_n (R_reg ?_)))))
     obtain ⟨g_2, hF_18⟩ := nS hF_17
     refine Y f 1 fun _ f => ?_
     have f := f.st 39 (congrArg (Value.int .i64) (inR_wrap g_2))
     refine Y f 1 fun _ f => eT ?_
     obtain rfl := sI hF_18
     exact ⟨⟨m_2, s_1 + 1⟩, Nat.lt_succ_self _, M_2, (hM_1.trans hM_2), hn_1, f.kp, p_2⟩
  ·have k_12 := iff_f dI h_1
   refine wp_exit (T_x (T_x ?_))
   obtain rfl := sI hF_19
   exact .inr ⟨rfl, (), (sI hn_1).symm, M_1, hM_1, f.kp, p_1⟩
 ·rintro _ _ w_5 (⟨rfl, y_2, rfl, M_3, hM_3, f, p_3⟩ | ⟨rfl, y_3, rfl, M_4, hM_4, f, p_4⟩)
  ·refine B_r (T_r (E_ret1 f rfl (by kernel_rfl : Vc.look _ 2 = some (.bool false)) ?_))
   obtain rfl := sI hF_1
   exact ⟨_, rfl, M_3, hM_3, p_3, rfl⟩
  ·refine B_x (T_n (RR (Y f 4 fun _ f => ?_)))
   rcases cE hF_1 with ⟨h_7, hF_20⟩ | ⟨h_7, hF_21⟩
   ·have k_13 := dI.1 h_7
    have f := f.st 43 (cB h_7)
    refine Y f 5 fun _ f => eT (wp_ret (E_ret1 f rfl (by kernel_rfl : Vc.look _ 2 = some (.bool (decide ((d0.length : Int) ≤ 32)))) ?_))
    obtain rfl := sI hF_20
    exact ⟨_, rfl, M_4, hM_4, p_4, rfl⟩
   ·have k_14 := iff_f dI h_7
    have f := f.st 43 (cB h_7)
    refine Y f 5 fun _ f => eT (wp_ret (E_ret1 f rfl (by kernel_rfl : Vc.look _ 2 = some (.bool false)) ?_))
    obtain rfl := sI hF_21
    exact ⟨_, rfl, M_4, hM_4, p_4, rfl⟩
def params_kind (n : Nat) (d0 : TC0) (d1 : TB0) : Option Bool :=
  (tree_Check n d1).bind fun x_1 =>
  bif (!(decide (x_1 = 0))) then
    (some ((false)))
  else
    bif d0.fNumber then
      (some ((decide (d1.fKind = 2))))
    else
      bif (decide (d1.fKind = 3)) then
        ((print_Word n d1.fText).bind fun x_2 =>
        some ((x_2)))
      else
        some ((false))
theorem params_kind_ok (n : Nat) (M : Mem) (hG : GL M) (c0 : List Value) (d0 : TC0) (h0 : Rep M (emb_TC0 d0) c0) (c1 : List Value) (d1 : TB0) (h1 : Rep M (emb_TB0 d1) c1) (r : Bool) (hF : params_kind n d0 d1 = some r) : Ok Tryd.prog M 33 [.agg c0.toArray, .agg c1.toArray] (fun _ v => v = .bool r) := by
 unfold params_kind at hF
 intro M1 hM0 w0 H w p0
 replace hG := GL.mono hM0 hG
 replace h0 := Rep.mono hM0 _ _ h0
 replace h1 := Rep.mono hM0 _ _ h1
 obtain ⟨A_1, cap_1, A_2, cap_2, A_3, cap_3, rfl, h_1, h_2, h_3⟩ := TC0.opn h0
 obtain ⟨A_4, cap_4, A_5, cap_5, rfl, h_4, h_5⟩ := TB0.opn h1
 refine R_enter 21 Tryd.func33 rfl rfl (by simp) fun a0 f0 => RR (Y13 (cs := #[S d0.fName, .bool d0.fNumber, .bool d0.fHas, .int .i8 d0.fDefault.fKind, .bool d0.fDefault.fBool, .int .i64 d0.fDefault.fNum, S d0.fDefault.fText, .slice A_1 d0.fDefault.fList.length cap_1, .slice A_2 d0.fDefault.fKeys.length cap_2, .slice A_3 d0.fAllowed.length cap_3]) (T := 37) f0 p0 fun b_1 M_1 w_1 hM_1 hc_1 p_1 _ f => ?_)
 have hc_2 := fz_box hc_1
 refine Y13 (cs := #[.int .i8 d1.fKind, .bool d1.fBool, .int .i64 d1.fNum, S d1.fText, .slice A_4 d1.fList.length cap_4, .slice A_5 d1.fKeys.length cap_5]) (T := 33) f p_1 fun b_2 M_2 w_2 hM_2 hc_3 p_2 _ f => ?_
 have hc_4 := fz_box hc_3
 refine Y f 1 fun _ f => eT (R_seq (RR (Z (v := .agg #[.int .i8 d1.fKind, .bool d1.fBool, .int .i64 d1.fNum, S d1.fText, .slice A_4 d1.fList.length cap_4, .slice A_5 d1.fKeys.length cap_5]) f (Y32 (cs := [.int .i8 d1.fKind, .bool d1.fBool, .int .i64 d1.fNum, S d1.fText, .slice A_4 d1.fList.length cap_4, .slice A_5 d1.fKeys.length cap_5]) rfl (ad := ⟨b_2, 0, none⟩) (fun j v h => p_2.cell (hc_4 j v h))) fun _ f => ?_)))
 obtain ⟨x_1, hx_1, hF_1⟩ := bS hF
 refine Y18 f p_2 (tree_Check_ok n _ (GL.mono (hM_1.trans hM_2) hG) _ d1 (TB0.shutx (x := d1) (h_4.mono (hM_1.trans hM_2)) (h_5.mono (hM_1.trans hM_2))) x_1 hx_1) fun w_3 p_3 _ f => Y f 1 fun _ f => eT (RcF f hF_1 (fun h_6 hF_2 => ?_) fun h_6 hF_3 => ?_)
 ·have k_1 : ¬ (x_1 = 0) := (not_iff dI).1 h_6
  refine RR (Y f 1 fun _ f => eT (wp_ret (T_r (E_ret1 f rfl (by kernel_rfl : Vc.look _ 4 = some (.bool false)) ?_))))
  obtain rfl := sI hF_2
  exact ⟨_, rfl, M_2, (hM_1.trans hM_2), p_3, rfl⟩
 ·have k_2 : ¬ (¬ (x_1 = 0)) := iff_f (not_iff dI) h_6
  refine wp_skip (T_n (R_seq (wp_block (RR (Y f 1 fun _ f => Y15 f p_3 (fzu hM_2 hc_2) 1 rfl fun _ f => Y f 1 fun _ f => eT (RcF f hF_3 (fun h_7 hF_4 => ?_) fun h_7 hF_5 => ?_))))))
  ·refine RR (Y f 1 fun _ f => Y15 f p_3 hc_4 0 rfl fun _ f => Y f 2 fun _ f => eT (wp_ret (B_r (T_r (E_ret1 f rfl (by kernel_rfl : Vc.look _ 4 = some (.bool (decide (d1.fKind = 2)))) ?_)))))
   obtain rfl := sI hF_4
   exact ⟨_, rfl, M_2, (hM_1.trans hM_2), p_3, rfl⟩
  ·refine RR (Y f 1 fun _ f => Y15 f p_3 hc_4 0 rfl fun _ f => Y f 2 fun _ f => eT (RcF f hF_5 (fun h_8 hF_6 => ?_) fun h_8 hF_8 => ?_))
   ·have k_5 := dI.1 h_8
    refine RR (Y f 1 fun _ f => Y15 f p_3 hc_4 3 rfl fun _ f => ?_)
    obtain ⟨x_2, hx_2, hF_7⟩ := bS hF_6
    refine Y18 f p_3 (print_Word_ok n _ (GL.mono (hM_1.trans hM_2) hG) d1.fText x_2 hx_2) fun w_4 p_4 _ f => Y f 1 fun _ f => eT (wp_ret (B_r (T_r (E_ret1 f rfl (by kernel_rfl : Vc.look _ 4 = some (.bool x_2)) ?_))))
    obtain rfl := sI hF_7
    exact ⟨_, rfl, M_2, (hM_1.trans hM_2), p_4, rfl⟩
   ·have k_6 := iff_f dI h_8
    refine wp_skip (B_n (T_n (RR (Y f 1 fun _ f => eT (wp_ret (E_ret1 f rfl (by kernel_rfl : Vc.look _ 4 = some (.bool false)) ?_))))))
    obtain rfl := sI hF_8
    exact ⟨_, rfl, M_2, (hM_1.trans hM_2), p_3, rfl⟩
def params_allowed_1 (n : Nat) (d0 : TB0) (d1 : TB0) : Option Bool :=
  (tree_Equal n d0 d1).bind fun x_1 =>
  some ((x_1))
theorem params_allowed_1_ok (n : Nat) (M : Mem) (hG : GL M) (c0 : List Value) (d0 : TB0) (h0 : Rep M (emb_TB0 d0) c0) (ad1 : Addr) (c1 : List Value) (d1 : TB0) (h1 : Rep M (emb_TB0 d1) c1) (q1 : ∀ j v, c1[j]? = some v → M.cell? (ad1.add j) = some v) (r : Bool) (hF : params_allowed_1 n d0 d1 = some r) : Ok Tryd.prog M 70 [.agg c0.toArray, .pointer (some ad1)] (fun _ v => v = .bool r) := by
 unfold params_allowed_1 at hF
 intro M1 hM0 w0 H w p0
 replace hG := GL.mono hM0 hG
 replace h0 := Rep.mono hM0 _ _ h0
 replace h1 := Rep.mono hM0 _ _ h1
 replace q1 := fun j v h => hM0.cell (q1 j v h)
 obtain ⟨A_1, cap_1, A_2, cap_2, rfl, h_1, h_2⟩ := TB0.opn h0
 obtain ⟨A_3, cap_3, A_4, cap_4, rfl, h_3, h_4⟩ := TB0.opn h1
 refine R_enter 7 Tryd.func70 rfl rfl (by simp) fun a0 f0 => RR (Y13 (cs := #[.int .i8 d0.fKind, .bool d0.fBool, .int .i64 d0.fNum, S d0.fText, .slice A_1 d0.fList.length cap_1, .slice A_2 d0.fKeys.length cap_2]) (T := 33) f0 p0 fun b_1 M_1 w_1 hM_1 hc_1 p_1 _ f => ?_)
 have hc_2 := fz_box hc_1
 refine Y f 1 fun _ f => eT (RR (Z (v := .agg #[.int .i8 d0.fKind, .bool d0.fBool, .int .i64 d0.fNum, S d0.fText, .slice A_1 d0.fList.length cap_1, .slice A_2 d0.fKeys.length cap_2]) f (Y32 (cs := [.int .i8 d0.fKind, .bool d0.fBool, .int .i64 d0.fNum, S d0.fText, .slice A_1 d0.fList.length cap_1, .slice A_2 d0.fKeys.length cap_2]) rfl (ad := ⟨b_1, 0, none⟩) (fun j v h => p_1.cell (hc_2 j v h))) fun _ f => Z (v := .agg #[.int .i8 d1.fKind, .bool d1.fBool, .int .i64 d1.fNum, S d1.fText, .slice A_3 d1.fList.length cap_3, .slice A_4 d1.fKeys.length cap_4]) f (Y32 (cs := [.int .i8 d1.fKind, .bool d1.fBool, .int .i64 d1.fNum, S d1.fText, .slice A_3 d1.fList.length cap_3, .slice A_4 d1.fKeys.length cap_4]) rfl (ad := ad1) (fun j v h => p_1.cell ((fzu hM_1 q1) j v h))) fun _ f => ?_))
 obtain ⟨x_1, hx_1, hF_1⟩ := bS hF
 refine Y18 f p_1 (tree_Equal_ok n _ (GL.mono hM_1 hG) _ d0 (TB0.shutx (x := d0) (h_1.mono hM_1) (h_2.mono hM_1)) _ d1 (TB0.shutx (x := d1) (h_3.mono hM_1) (h_4.mono hM_1)) x_1 hx_1) fun w_2 p_2 _ f => Y f 1 fun _ f => eT (wp_ret (E_ret1 f rfl (by kernel_rfl : Vc.look _ 3 = some (.bool x_1)) ?_))
 obtain rfl := sI hF_1
 exact ⟨_, rfl, M_1, hM_1, p_2, rfl⟩
def params_find_s1 (n : Nat) (d0 : List TB0) (d1_0 : TB0) (s_1 : Int) : Option (Lp Int (Sum Int Unit)) :=
    bif (decide (s_1 < ((d0.length : Nat) : Int))) then
      ((getI d0 s_1).bind fun x_1 =>
      (params_allowed_1 n x_1 d1_0).bind fun x_2 =>
      bif x_2 then
        (some (.br (.inl s_1)))
      else
        need (inR .i64 (s_1 + 1)) <|
        some (.nx (s_1 + 1)))
    else
      some (.br (.inr ()))
def params_find (n : Nat) (d0 : List TB0) (d1_0 : TB0) : Option Int :=
  (loopF (params_find_s1 n d0 d1_0) n (0 : Int)).bind fun b_1 =>
  (match b_1 with 
  | .inl y_1 => some (y_1) 
  | .inr y_2 => some ((-1 : Int)))
theorem params_find_ok (n : Nat) (M : Mem) (hG : GL M) (A0 : Option Addr) (cap0 : Nat) (d0 : List TB0) (h0 : Sli M 6 emb_TB0 A0 cap0 d0) (ad1_0 : Addr) (c1_0 : List Value) (d1_0 : TB0) (h1_0 : Rep M (emb_TB0 d1_0) c1_0) (q1_0 : ∀ j v, c1_0[j]? = some v → M.cell? (ad1_0.add j) = some v) (r : Int) (hF : params_find n d0 d1_0 = some r) : Ok Tryd.prog M 60 [.slice A0 d0.length cap0, .func (.func 70) #[] #[.pointer (some ad1_0)]] (fun _ v => v = .int .i64 r) := by
 unfold params_find at hF
 intro M1 hM0 w0 H w p0
 replace hG := GL.mono hM0 hG
 replace h0 := h0.mono hM0
 replace h1_0 := Rep.mono hM0 _ _ h1_0
 replace q1_0 := fun j v h => hM0.cell (q1_0 j v h)
 obtain ⟨A_1, cap_1, A_2, cap_2, rfl, h_1, h_2⟩ := TB0.opn h1_0
 refine R_enter 19 Tryd.func60 rfl rfl (by simp) fun a0 f0 => RR (Y f0 1 fun _ f => eT (R_seq (RR (Y f 3 fun _ f => eT (wp_block ?_)))))
 obtain ⟨b_1, hL_1, hF_1⟩ := bS hF
 refine wp_mono (Q := fun e a w => (e = .ret ∧ (∃ y_1 : Int, b_1 = .inl y_1 ∧ ∃ M_2 : Mem, M1.le M_2 ∧ Frm 19 [(4, .int .i64 y_1)] a ∧ Hp w0 M_2 (H) w)) ∨ (e = .exit 0 ∧ (∃ y_2 : Unit, b_1 = .inr y_2 ∧ ∃ M_3 : Mem, M1.le M_3 ∧ Frm 19 [] a ∧ Hp w0 M_3 (H) w))) (R_loop (n := 19) (w0 := w0) (M := M1) (fun (x : Nat × Int) => match x with | (m_1, s_1) => [(1, .func (.func 70) #[] #[.pointer (some ad1_0)]), (7, .slice A0 d0.length cap0), (8, .int .i64 ((d0.length : Nat) : Int)), (9, .int .i64 s_1)]) (fun (x : Nat × Int) => match x with | (m_1, s_1) => (H)) (fun (x : Nat × Int) (MM : Mem) => match x with | (m_1, s_1) => loopF (params_find_s1 n d0 d1_0) m_1 s_1 = some b_1) (fun (x : Nat × Int) => match x with | (m_1, s_1) => m_1) (n, (0 : Int)) (f.kp) p0 hL_1 ?_) ?_
 ·rintro ⟨m_1, s_1⟩ M_1 _ w_1 hM_1 I_1 f p_1
  have I_1L := I_1
  obtain ⟨m_2, r_1, rfl, hs_1, hn_1⟩ := loop_step I_1L
  unfold params_find_s1 at hs_1
  refine RR (Y f 1 fun _ f => eT (R_seq (RcF f hs_1 (fun h_3 hF_2 => ?_) fun h_3 hF_8 => ?_)))
  ·have k_1 := dI.1 h_3
   refine wp_skip (T_n (R_seq (wp_block (RR (Y f 1 fun _ f => ?_)))))
   obtain ⟨x_1, hx_1, hF_3⟩ := bS hF_2
   obtain ⟨ad_1, c_1, e_1, -, hr_1, hc_1⟩ := Sli.at_ (h0.mono hM_1) hx_1
   obtain ⟨A_3, cap_3, A_4, cap_4, rfl, h_4, h_5⟩ := TB0.opn hr_1
   refine Z f (Y30 e_1 rfl (len := d0.length) (cap := cap0) (k := .i64) (i := s_1) (e := 33) (sz := 6) (getI_nn hx_1) (getI_lt hx_1)) fun _ f => Z (v := .agg #[.int .i8 x_1.fKind, .bool x_1.fBool, .int .i64 x_1.fNum, S x_1.fText, .slice A_3 x_1.fList.length cap_3, .slice A_4 x_1.fKeys.length cap_4]) f (Y32 (cs := [.int .i8 x_1.fKind, .bool x_1.fBool, .int .i64 x_1.fNum, S x_1.fText, .slice A_3 x_1.fList.length cap_3, .slice A_4 x_1.fKeys.length cap_4]) rfl (ad := ad_1.add (s_1.toNat * 6)) (fun j v h => p_1.cell (hc_1 j v h))) fun _ f => Y12 f p_1 (.cells #[.int .i8 0, .bool false, .int .i64 0, S [], .slice none 0 0, .slice none 0 0] 33 (0, 0)) fun b_2 w_2 p_2 _ f => Y f 1 fun _ f => Y28 (vs := [.int .i8 x_1.fKind, .bool x_1.fBool, .int .i64 x_1.fNum, S x_1.fText, .slice A_3 x_1.fList.length cap_3, .slice A_4 x_1.fKeys.length cap_4]) (j := 0) f p_2 rfl rfl (by simp [Value.oneCell', S]) (by simp) (by decide) (cs' := #[.int .i8 x_1.fKind, .bool x_1.fBool, .int .i64 x_1.fNum, S x_1.fText, .slice A_3 x_1.fList.length cap_3, .slice A_4 x_1.fKeys.length cap_4]) fun w_3 p_3 _ f => eT (RR (Y f 1 fun _ f => Z (v := .agg #[.int .i8 x_1.fKind, .bool x_1.fBool, .int .i64 x_1.fNum, S x_1.fText, .slice A_3 x_1.fList.length cap_3, .slice A_4 x_1.fKeys.length cap_4]) f (Y32 (cs := [.int .i8 x_1.fKind, .bool x_1.fBool, .int .i64 x_1.fNum, S x_1.fText, .slice A_3 x_1.fList.length cap_3, .slice A_4 x_1.fKeys.length cap_4]) rfl (ad := ⟨b_2, 0, none⟩) (own_cells (p_3.ownCell 0 rfl) 0 rfl)) fun _ f => ?_))
   obtain ⟨x_2, hx_2, hF_4⟩ := bS hF_3
   refine Y18 f p_3 (params_allowed_1_ok n _ (GL.mono hM_1 hG) _ x_1 (TB0.shutx (x := x_1) h_4 h_5) ad1_0 [.int .i8 d1_0.fKind, .bool d1_0.fBool, .int .i64 d1_0.fNum, S d1_0.fText, .slice A_1 d1_0.fList.length cap_1, .slice A_2 d1_0.fKeys.length cap_2] d1_0 (TB0.shutx (x := d1_0) (h_1.mono hM_1) (h_2.mono hM_1)) (fz_at ((fzu hM_1 q1_0)) 0 rfl) x_2 hx_2) fun w_4 p_4 _ f => eT (RcF f hF_4 (fun h_6 hF_5 => ?_) fun h_6 hF_6 => ?_)
   ·refine RR (Y f 2 fun _ f => eT (wp_ret (B_r (T_r (T_r ?_)))))
    obtain rfl := sI hF_5
    exact .inl ⟨rfl, s_1, (sI hn_1).symm, M_1, hM_1, f.kp, (p_4.dropN 1)⟩
   ·refine wp_skip (B_n (T_n (R_reg ?_)))
    obtain ⟨g_1, hF_7⟩ := nS hF_6
    refine Y f 1 fun _ f => ?_
    have f := f.st 18 (congrArg (Value.int .i64) (inR_wrap g_1))
    refine Y f 1 fun _ f => eT ?_
    obtain rfl := sI hF_7
    exact ⟨⟨m_2, s_1 + 1⟩, Nat.lt_succ_self _, M_1, hM_1, hn_1, f.kp, (p_4.dropN 1)⟩
  ·have k_4 := iff_f dI h_3
   refine wp_exit (T_x (T_x ?_))
   obtain rfl := sI hF_8
   exact .inr ⟨rfl, (), (sI hn_1).symm, M_1, hM_1, f.kp, p_1⟩
 ·rintro _ _ w_7 (⟨rfl, y_1, rfl, M_2, hM_2, f, p_5⟩ | ⟨rfl, y_2, rfl, M_3, hM_3, f, p_6⟩)
  ·refine B_r (T_r (E_ret1 f rfl (by kernel_rfl : Vc.look _ 4 = some (.int .i64 y_1)) ?_))
   obtain rfl := sI hF_1
   exact ⟨_, rfl, M_2, hM_2, p_5, rfl⟩
  ·refine B_x (T_n (RR (Y f 1 fun _ f => eT (wp_ret (E_ret1 f rfl (by kernel_rfl : Vc.look _ 4 = some (.int .i64 (-1))) ?_)))))
   obtain rfl := sI hF_1
   exact ⟨_, rfl, M_3, hM_3, p_6, rfl⟩
def params_allowed (n : Nat) (d0 : TC0) (d1 : TB0) : Option Bool :=
  bif (decide (((d0.fAllowed.length : Nat) : Int) = 0)) then
    (some ((true)))
  else
    (params_find n d0.fAllowed d1).bind fun x_1 =>
    some ((decide ((0 : Int) ≤ x_1)))
theorem params_allowed_ok (n : Nat) (M : Mem) (hG : GL M) (c0 : List Value) (d0 : TC0) (h0 : Rep M (emb_TC0 d0) c0) (c1 : List Value) (d1 : TB0) (h1 : Rep M (emb_TB0 d1) c1) (r : Bool) (hF : params_allowed n d0 d1 = some r) : Ok Tryd.prog M 34 [.agg c0.toArray, .agg c1.toArray] (fun _ v => v = .bool r) := by
 unfold params_allowed at hF
 intro M1 hM0 w0 H w p0
 replace hG := GL.mono hM0 hG
 replace h0 := Rep.mono hM0 _ _ h0
 replace h1 := Rep.mono hM0 _ _ h1
 obtain ⟨A_1, cap_1, A_2, cap_2, A_3, cap_3, rfl, h_1, h_2, h_3⟩ := TC0.opn h0
 obtain ⟨A_4, cap_4, A_5, cap_5, rfl, h_4, h_5⟩ := TB0.opn h1
 refine R_enter 16 Tryd.func34 rfl rfl (by simp) fun a0 f0 => RR (Y13 (cs := #[S d0.fName, .bool d0.fNumber, .bool d0.fHas, .int .i8 d0.fDefault.fKind, .bool d0.fDefault.fBool, .int .i64 d0.fDefault.fNum, S d0.fDefault.fText, .slice A_1 d0.fDefault.fList.length cap_1, .slice A_2 d0.fDefault.fKeys.length cap_2, .slice A_3 d0.fAllowed.length cap_3]) (T := 37) f0 p0 fun b_1 M_1 w_1 hM_1 hc_1 p_1 _ f => ?_)
 have hc_2 := fz_box hc_1
 refine Y13 (cs := #[.int .i8 d1.fKind, .bool d1.fBool, .int .i64 d1.fNum, S d1.fText, .slice A_4 d1.fList.length cap_4, .slice A_5 d1.fKeys.length cap_5]) (T := 33) f p_1 fun b_2 M_2 w_2 hM_2 hc_3 p_2 _ f => ?_
 have hc_4 := fz_box hc_3
 refine Y f 1 fun _ f => eT (RR (Y f 1 fun _ f => Y15 f p_2 (fzu hM_2 hc_2) 9 rfl fun _ f => Y f 3 fun _ f => ?_))
 rcases cE hF with ⟨h_6, hF_1⟩ | ⟨h_6, hF_2⟩
 ·have k_1 := dI.1 h_6
  have f := f.st 9 (cB h_6)
  refine Y f 7 fun _ f => eT (wp_ret (E_ret1 f rfl (by kernel_rfl : Vc.look _ 4 = some (.bool true)) ?_))
  obtain rfl := sI hF_1
  exact ⟨_, rfl, M_2, (hM_1.trans hM_2), p_2, rfl⟩
 ·have k_2 := iff_f dI h_6
  have f := f.st 9 (cB h_6)
  refine Y f 1 fun _ f => Y15 f p_2 (fzu hM_2 hc_2) 9 rfl fun _ f => Y f 1 fun _ f => ?_
  obtain ⟨x_1, hx_1, hF_3⟩ := bS hF_2
  refine Y18 f p_2 (params_find_ok n _ (GL.mono (hM_1.trans hM_2) hG) A_3 cap_3 d0.fAllowed (h_3.mono (hM_1.trans hM_2)) (⟨b_2, 0, none⟩) [.int .i8 d1.fKind, .bool d1.fBool, .int .i64 d1.fNum, S d1.fText, .slice A_4 d1.fList.length cap_4, .slice A_5 d1.fKeys.length cap_5] d1 (TB0.shutx (x := d1) (h_4.mono (hM_1.trans hM_2)) (h_5.mono (hM_1.trans hM_2))) (fz_at (hc_4) 0 rfl) x_1 hx_1) fun w_3 p_3 _ f => Y f 3 fun _ f => eT (wp_ret (E_ret1 f rfl (by kernel_rfl : Vc.look _ 4 = some (.bool (decide ((0 : Int) ≤ x_1)))) ?_))
  obtain rfl := sI hF_3
  exact ⟨_, rfl, M_2, (hM_1.trans hM_2), p_3, rfl⟩
def params_empty (n : Nat) (d0 : TB0) : Option Bool :=
  bif (decide (d0.fKind = 0)) then
    (bif !d0.fBool then
      (bif (decide (d0.fNum = 0)) then
        (bif (decide (d0.fText = [])) then
          (bif (decide (((d0.fList.length : Nat) : Int) = 0)) then
            (some ((decide (((d0.fKeys.length : Nat) : Int) = 0))))
          else
            some ((false)))
        else
          some ((false)))
      else
        some ((false)))
    else
      some ((false)))
  else
    some ((false))
theorem params_empty_ok (n : Nat) (M : Mem) (hG : GL M) (c0 : List Value) (d0 : TB0) (h0 : Rep M (emb_TB0 d0) c0) (r : Bool) (hF : params_empty n d0 = some r) : Ok Tryd.prog M 35 [.agg c0.toArray] (fun _ v => v = .bool r) := by
 unfold params_empty at hF
 intro M1 hM0 w0 H w p0
 replace hG := GL.mono hM0 hG
 replace h0 := Rep.mono hM0 _ _ h0
 obtain ⟨A_1, cap_1, A_2, cap_2, rfl, h_1, h_2⟩ := TB0.opn h0
 refine R_enter 33 Tryd.func35 rfl rfl (by simp) fun a0 f0 => RR (Y13 (cs := #[.int .i8 d0.fKind, .bool d0.fBool, .int .i64 d0.fNum, S d0.fText, .slice A_1 d0.fList.length cap_1, .slice A_2 d0.fKeys.length cap_2]) (T := 33) f0 p0 fun b_1 M_1 w_1 hM_1 hc_1 p_1 _ f => ?_)
 have hc_2 := fz_box hc_1
 refine Y f 1 fun _ f => eT (RR (Y f 1 fun _ f => Y15 f p_1 hc_2 0 rfl fun _ f => Y f 2 fun _ f => ?_))
 rcases cE hF with ⟨h_3, hF_1⟩ | ⟨h_3, hF_10⟩
 ·have k_1 := dI.1 h_3
  have f := f.st 6 (cB h_3)
  refine Y f 1 fun _ f => Y15 f p_1 hc_2 1 rfl fun _ f => Y f 3 fun _ f => ?_
  rcases cE hF_1 with ⟨h_4, hF_2⟩ | ⟨h_4, hF_9⟩
  ·have k_2 : (d0.fBool) = false := by simpa using h_4
   have f := f.st 11 (cB h_4)
   refine Y f 1 fun _ f => Y15 f p_1 hc_2 2 rfl fun _ f => Y f 3 fun _ f => ?_
   rcases cE hF_2 with ⟨h_5, hF_3⟩ | ⟨h_5, hF_8⟩
   ·have k_3 := dI.1 h_5
    have f := f.st 16 (cB h_5)
    refine Y f 1 fun _ f => Y15 f p_1 hc_2 3 rfl fun _ f => Z f (Y37 rfl (l := d0.fText) (m := [])) fun _ f => Y f 2 fun _ f => ?_
    rcases cE hF_3 with ⟨h_6, hF_4⟩ | ⟨h_6, hF_7⟩
    ·have k_4 := dI.1 h_6
     have f := f.st 21 (cB h_6)
     refine Y f 1 fun _ f => Y15 f p_1 hc_2 4 rfl fun _ f => Y f 4 fun _ f => ?_
     rcases cE hF_4 with ⟨h_7, hF_5⟩ | ⟨h_7, hF_6⟩
     ·have k_5 := dI.1 h_7
      have f := f.st 27 (cB h_7)
      refine Y f 1 fun _ f => Y15 f p_1 hc_2 5 rfl fun _ f => Y f 4 fun _ f => eT (wp_ret (E_ret1 f rfl (by kernel_rfl : Vc.look _ 2 = some (.bool (decide (((d0.fKeys.length : Nat) : Int) = 0)))) ?_))
      obtain rfl := sI hF_5
      exact ⟨_, rfl, M_1, hM_1, p_1, rfl⟩
     ·have k_6 := iff_f dI h_7
      have f := f.st 27 (cB h_7)
      refine Y f 6 fun _ f => eT (wp_ret (E_ret1 f rfl (by kernel_rfl : Vc.look _ 2 = some (.bool false)) ?_))
      obtain rfl := sI hF_6
      exact ⟨_, rfl, M_1, hM_1, p_1, rfl⟩
    ·have k_7 := iff_f dI h_6
     have f := f.st 21 (cB h_6)
     refine Y f 12 fun _ f => eT (wp_ret (E_ret1 f rfl (by kernel_rfl : Vc.look _ 2 = some (.bool false)) ?_))
     obtain rfl := sI hF_7
     exact ⟨_, rfl, M_1, hM_1, p_1, rfl⟩
   ·have k_8 := iff_f dI h_5
    have f := f.st 16 (cB h_5)
    refine Y f 17 fun _ f => eT (wp_ret (E_ret1 f rfl (by kernel_rfl : Vc.look _ 2 = some (.bool false)) ?_))
    obtain rfl := sI hF_8
    exact ⟨_, rfl, M_1, hM_1, p_1, rfl⟩
  ·have k_9 : (d0.fBool) = true := by simpa using h_4
   have f := f.st 11 (cB h_4)
   refine Y f 22 fun _ f => eT (wp_ret (E_ret1 f rfl (by kernel_rfl : Vc.look _ 2 = some (.bool false)) ?_))
   obtain rfl := sI hF_9
   exact ⟨_, rfl, M_1, hM_1, p_1, rfl⟩
 ·have k_10 := iff_f dI h_3
  have f := f.st 6 (cB h_3)
  refine Y f 27 fun _ f => eT (wp_ret (E_ret1 f rfl (by kernel_rfl : Vc.look _ 2 = some (.bool false)) ?_))
  obtain rfl := sI hF_10
  exact ⟨_, rfl, M_1, hM_1, p_1, rfl⟩
def params_twice_1 (n : Nat) (d0 : TB0) (d1 : List TB0) (d2_0 : Int) : Option (Bool × Int) :=
  (getI d1 d2_0).bind fun x_1 =>
  (tree_Equal n d0 x_1).bind fun x_2 =>
  some (((x_2), d2_0))
theorem params_twice_1_ok (n : Nat) (M : Mem) (hG : GL M) (c0 : List Value) (d0 : TB0) (h0 : Rep M (emb_TB0 d0) c0) (ad1 : Addr) (c1 : List Value) (d1 : List TB0) (h1 : Rep M ((eL 6 emb_TB0) d1) c1) (q1 : ∀ j v, c1[j]? = some v → M.cell? (ad1.add j) = some v) (b2 : Nat) (d2_0 : Int) (r : Bool × Int) (hF : params_twice_1 n d0 d1 d2_0 = some r) : OkH Tryd.prog M [Ent.obj b2 (.cells #[.int .i64 d2_0] 3 (0, 0))] 83 [.agg c0.toArray, .pointer (some ad1), .pointer (some (⟨b2, 0, none⟩))] (fun M' E' v => v = .bool r.1 ∧ E' = [Ent.obj b2 (.cells #[.int .i64 r.2] 3 (0, 0))]) := by
 unfold params_twice_1 at hF
 intro M1 hM0 w0 H w p0
 replace hG := GL.mono hM0 hG
 replace h0 := Rep.mono hM0 _ _ h0
 replace h1 := Rep.mono hM0 _ _ h1
 replace q1 := fun j v h => hM0.cell (q1 j v h)
 obtain ⟨A_1, cap_1, A_2, cap_2, rfl, h_1, h_2⟩ := TB0.opn h0
 obtain ⟨A_3, cap_3, rfl, h_3⟩ := Rep.sli h1
 refine R_enter 11 Tryd.func83 rfl rfl (by simp) fun a0 f0 => RR (Y13 (cs := #[.int .i8 d0.fKind, .bool d0.fBool, .int .i64 d0.fNum, S d0.fText, .slice A_1 d0.fList.length cap_1, .slice A_2 d0.fKeys.length cap_2]) (T := 33) f0 p0 fun b_1 M_1 w_1 hM_1 hc_1 p_1 _ f => ?_)
 have hc_2 := fz_box hc_1
 refine Y f 1 fun _ f => eT (R_seq (R_draw p_1 (by kernel_rfl) (by kernel_rfl) (Y2 (v := .agg #[.int .i8 d0.fKind, .bool d0.fBool, .int .i64 d0.fNum, S d0.fText, .slice A_1 d0.fList.length cap_1, .slice A_2 d0.fKeys.length cap_2]) f (fun _ pq => Y32 (cs := [.int .i8 d0.fKind, .bool d0.fBool, .int .i64 d0.fNum, S d0.fText, .slice A_1 d0.fList.length cap_1, .slice A_2 d0.fKeys.length cap_2]) rfl (ad := ⟨b_1, 0, none⟩) (fun j v h => pq.cell (hc_2 j v h))) fun _ f => Y4 f (fzu hM_1 q1) 0 rfl fun _ f => Y2 (v := .int .i64 d2_0) f (fun _ pq => Y31 (v := .int .i64 d2_0) rfl (ad := ⟨b2, 0, none⟩) (pq.ownCell 0 rfl 0)) fun _ f => ?_)))
 obtain ⟨x_1, hx_1, hF_1⟩ := bS hF
 obtain ⟨ad_1, c_1, e_1, -, hr_1, hc_3⟩ := Sli.at_ (h_3.mono hM_1) hx_1
 obtain ⟨A_4, cap_4, A_5, cap_5, rfl, h_4, h_5⟩ := TB0.opn hr_1
 refine Y2 (v := .pointer (some (ad_1.add (d2_0.toNat * 6)))) f (fun _ pq => Y30 e_1 rfl (len := d1.length) (cap := cap_3) (k := .i64) (i := d2_0) (e := 33) (sz := 6) (getI_nn hx_1) (getI_lt hx_1)) fun _ f => Y2 (v := .agg #[.int .i8 x_1.fKind, .bool x_1.fBool, .int .i64 x_1.fNum, S x_1.fText, .slice A_4 x_1.fList.length cap_4, .slice A_5 x_1.fKeys.length cap_5]) f (fun _ pq => Y32 (cs := [.int .i8 x_1.fKind, .bool x_1.fBool, .int .i64 x_1.fNum, S x_1.fText, .slice A_4 x_1.fList.length cap_4, .slice A_5 x_1.fKeys.length cap_5]) rfl (ad := ad_1.add (d2_0.toNat * 6)) (fun j v h => pq.cell (hc_3 j v h))) fun _ f => ?_
 obtain ⟨x_2, hx_2, hF_2⟩ := bS hF_1
 refine Y3 f (tree_Equal_ok n _ (GL.mono hM_1 hG) _ d0 (TB0.shutx (x := d0) (h_1.mono hM_1) (h_2.mono hM_1)) _ x_1 (TB0.shutx (x := x_1) h_4 h_5) x_2 hx_2) fun _ f => Y5 default f 1 fun _ f => Q_end rfl ?_
 intro w_3 p_3
 refine T_n (wp_ret (E_ret1 f rfl (by kernel_rfl : Vc.look _ 4 = some (.bool x_2)) ?_))
 obtain rfl := sI hF_2
 exact ⟨_, rfl, M_1, _, hM_1, p_3, ⟨rfl, rfl⟩⟩
def params_find_2_s1 (n : Nat) (d0 : List TB0) (d1_0 : List TB0) (s_1 : Int × Int) : Option (Lp (Int × Int) (Sum (Int × Int) Int)) :=
    bif (decide (s_1.1 < ((d0.length : Nat) : Int))) then
      ((getI d0 s_1.1).bind fun x_1 =>
      (params_twice_1 n x_1 d1_0 s_1.2).bind fun x_2 =>
      bif x_2.1 then
        (some (.br (.inl (s_1.1, x_2.2))))
      else
        need (inR .i64 (s_1.1 + 1)) <|
        some (.nx (s_1.1 + 1, x_2.2)))
    else
      some (.br (.inr s_1.2))
def params_find_2 (n : Nat) (d0 : List TB0) (d1_0 : List TB0) (d1_1_0 : Int) : Option (Int × Int) :=
  (loopF (params_find_2_s1 n d0 d1_0) n ((0 : Int), d1_1_0)).bind fun b_1 =>
  (match b_1 with 
  | .inl y_1 => some ((y_1.1, y_1.2)) 
  | .inr y_2 => some (((-1 : Int), y_2)))
theorem params_find_2_ok (n : Nat) (M : Mem) (hG : GL M) (A0 : Option Addr) (cap0 : Nat) (d0 : List TB0) (h0 : Sli M 6 emb_TB0 A0 cap0 d0) (ad1_0 : Addr) (c1_0 : List Value) (d1_0 : List TB0) (h1_0 : Rep M ((eL 6 emb_TB0) d1_0) c1_0) (q1_0 : ∀ j v, c1_0[j]? = some v → M.cell? (ad1_0.add j) = some v) (b1_1 : Nat) (d1_1_0 : Int) (r : Int × Int) (hF : params_find_2 n d0 d1_0 d1_1_0 = some r) : OkH Tryd.prog M [Ent.obj b1_1 (.cells #[.int .i64 d1_1_0] 3 (0, 0))] 60 [.slice A0 d0.length cap0, .func (.func 83) #[] #[.pointer (some ad1_0), .pointer (some (⟨b1_1, 0, none⟩))]] (fun M' E' v => v = .int .i64 r.1 ∧ E' = [Ent.obj b1_1 (.cells #[.int .i64 r.2] 3 (0, 0))]) := by
 unfold params_find_2 at hF
 intro M1 hM0 w0 H w p0
 replace hG := GL.mono hM0 hG
 replace h0 := h0.mono hM0
 replace h1_0 := Rep.mono hM0 _ _ h1_0
 replace q1_0 := fun j v h => hM0.cell (q1_0 j v h)
 obtain ⟨A_1, cap_1, rfl, h_1⟩ := Rep.sli h1_0
 refine R_enter 19 Tryd.func60 rfl rfl (by simp) fun a0 f0 => RR (Y f0 1 fun _ f => eT (R_seq (RR (Y f 3 fun _ f => eT (wp_block ?_)))))
 obtain ⟨b_1, hL_1, hF_1⟩ := bS hF
 refine wp_mono (Q := fun e a w => (e = .ret ∧ (∃ y_1 : Int × Int, b_1 = .inl y_1 ∧ ∃ M_3 : Mem, M1.le M_3 ∧ Frm 19 [(4, .int .i64 y_1.1)] a ∧ Hp w0 M_3 ((Ent.obj b1_1 (.cells #[.int .i64 y_1.2] 3 (0, 0))) :: H) w)) ∨ (e = .exit 0 ∧ (∃ y_2 : Int, b_1 = .inr y_2 ∧ ∃ M_4 : Mem, M1.le M_4 ∧ Frm 19 [] a ∧ Hp w0 M_4 ((Ent.obj b1_1 (.cells #[.int .i64 y_2] 3 (0, 0))) :: H) w))) (R_loop (n := 19) (w0 := w0) (M := M1) (fun (x : Nat × (Int × Int)) => match x with | (m_1, s_1) => [(1, .func (.func 83) #[] #[.pointer (some ad1_0), .pointer (some (⟨b1_1, 0, none⟩))]), (7, .slice A0 d0.length cap0), (8, .int .i64 ((d0.length : Nat) : Int)), (9, .int .i64 s_1.1)]) (fun (x : Nat × (Int × Int)) => match x with | (m_1, s_1) => ((Ent.obj b1_1 (.cells #[.int .i64 s_1.2] 3 (0, 0))) :: H)) (fun (x : Nat × (Int × Int)) (MM : Mem) => match x with | (m_1, s_1) => loopF (params_find_2_s1 n d0 d1_0) m_1 s_1 = some b_1) (fun (x : Nat × (Int × Int)) => match x with | (m_1, s_1) => m_1) (n, ((0 : Int), d1_1_0)) (f.kp) p0 hL_1 ?_) ?_
 ·rintro ⟨m_1, s_1⟩ M_1 _ w_1 hM_1 I_1 f p_1
  have I_1L := I_1
  obtain ⟨m_2, r_1, rfl, hs_1, hn_1⟩ := loop_step I_1L
  unfold params_find_2_s1 at hs_1
  refine RR (Y f 1 fun _ f => eT (R_seq (RcF f hs_1 (fun h_2 hF_2 => ?_) fun h_2 hF_8 => ?_)))
  ·have k_1 := dI.1 h_2
   refine wp_skip (T_n (R_seq (wp_block (RR (Y f 1 fun _ f => ?_)))))
   obtain ⟨x_1, hx_1, hF_3⟩ := bS hF_2
   obtain ⟨ad_1, c_1, e_1, -, hr_1, hc_1⟩ := Sli.at_ (h0.mono hM_1) hx_1
   obtain ⟨A_2, cap_2, A_3, cap_3, rfl, h_3, h_4⟩ := TB0.opn hr_1
   refine Z f (Y30 e_1 rfl (len := d0.length) (cap := cap0) (k := .i64) (i := s_1.1) (e := 33) (sz := 6) (getI_nn hx_1) (getI_lt hx_1)) fun _ f => Z (v := .agg #[.int .i8 x_1.fKind, .bool x_1.fBool, .int .i64 x_1.fNum, S x_1.fText, .slice A_2 x_1.fList.length cap_2, .slice A_3 x_1.fKeys.length cap_3]) f (Y32 (cs := [.int .i8 x_1.fKind, .bool x_1.fBool, .int .i64 x_1.fNum, S x_1.fText, .slice A_2 x_1.fList.length cap_2, .slice A_3 x_1.fKeys.length cap_3]) rfl (ad := ad_1.add (s_1.1.toNat * 6)) (fun j v h => p_1.cell (hc_1 j v h))) fun _ f => Y12 f p_1 (.cells #[.int .i8 0, .bool false, .int .i64 0, S [], .slice none 0 0, .slice none 0 0] 33 (0, 0)) fun b_2 w_2 p_2 _ f => Y f 1 fun _ f => Y28 (vs := [.int .i8 x_1.fKind, .bool x_1.fBool, .int .i64 x_1.fNum, S x_1.fText, .slice A_2 x_1.fList.length cap_2, .slice A_3 x_1.fKeys.length cap_3]) (j := 0) f p_2 rfl rfl (by simp [Value.oneCell', S]) (by simp) (by decide) (cs' := #[.int .i8 x_1.fKind, .bool x_1.fBool, .int .i64 x_1.fNum, S x_1.fText, .slice A_2 x_1.fList.length cap_2, .slice A_3 x_1.fKeys.length cap_3]) fun w_3 p_3 _ f => eT (RR (Y f 1 fun _ f => Z (v := .agg #[.int .i8 x_1.fKind, .bool x_1.fBool, .int .i64 x_1.fNum, S x_1.fText, .slice A_2 x_1.fList.length cap_2, .slice A_3 x_1.fKeys.length cap_3]) f (Y32 (cs := [.int .i8 x_1.fKind, .bool x_1.fBool, .int .i64 x_1.fNum, S x_1.fText, .slice A_2 x_1.fList.length cap_2, .slice A_3 x_1.fKeys.length cap_3]) rfl (ad := ⟨b_2, 0, none⟩) (own_cells (p_3.ownCell 0 rfl) 0 rfl)) fun _ f => ?_))
   obtain ⟨x_2, hx_2, hF_4⟩ := bS hF_3
   have p_5 := p_3.pl [1]
   refine Y17 (E := [Ent.obj b1_1 (.cells #[.int .i64 s_1.2] 3 (0, 0))]) (H := ((Ent.obj b_2 (.cells #[.int .i8 x_1.fKind, .bool x_1.fBool, .int .i64 x_1.fNum, S x_1.fText, .slice A_2 x_1.fList.length cap_2, .slice A_3 x_1.fKeys.length cap_3] 33 (0, 0))) :: H)) f p_5 (params_twice_1_ok n _ (GL.mono hM_1 hG) _ x_1 (TB0.shutx (x := x_1) h_3 h_4) ad1_0 [.slice A_1 d1_0.length cap_1] d1_0 (Sli.rep (h_1.mono hM_1)) (fz_at ((fzu hM_1 q1_0)) 0 rfl) b1_1 s_1.2 x_2 hx_2) fun _ M_2 E_1 w_4 hM_2 p_4 q_1 _ f => ?_
   obtain ⟨rfl, rfl⟩ := q_1
   refine eT (RcF f hF_4 (fun h_5 hF_5 => ?_) fun h_5 hF_6 => ?_)
   ·refine RR (Y f 2 fun _ f => eT (wp_ret (B_r (T_r ?_))))
    have p_8 := p_4.pl [1]
    refine T_r ?_
    obtain rfl := sI hF_5
    exact .inl ⟨rfl, (s_1.1, x_2.2), (sI hn_1).symm, M_2, (hM_1.trans hM_2), f.kp, (p_8.dropN 1)⟩
   ·refine wp_skip (B_n (T_n (R_reg ?_)))
    obtain ⟨g_1, hF_7⟩ := nS hF_6
    refine Y f 1 fun _ f => ?_
    have f := f.st 18 (congrArg (Value.int .i64) (inR_wrap g_1))
    refine Y f 1 fun _ f => W_end rfl ?_
    have p_9 := p_4.pl [1]
    refine T_n ?_
    obtain rfl := sI hF_7
    exact ⟨⟨m_2, (s_1.1 + 1, x_2.2)⟩, Nat.lt_succ_self _, M_2, (hM_1.trans hM_2), hn_1, f.kp, (p_9.dropN 1)⟩
  ·have k_4 := iff_f dI h_2
   refine wp_exit (T_x (T_x ?_))
   obtain rfl := sI hF_8
   exact .inr ⟨rfl, s_1.2, (sI hn_1).symm, M_1, hM_1, f.kp, p_1⟩
 ·rintro _ _ w_7 (⟨rfl, y_1, rfl, M_3, hM_3, f, p_6⟩ | ⟨rfl, y_2, rfl, M_4, hM_4, f, p_7⟩)
  ·refine B_r (T_r (E_ret1 f rfl (by kernel_rfl : Vc.look _ 4 = some (.int .i64 y_1.1)) ?_))
   obtain rfl := sI hF_1
   exact ⟨_, rfl, M_3, _, hM_3, p_6, ⟨rfl, rfl⟩⟩
  ·refine B_x (T_n (RR (Y f 1 fun _ f => eT (wp_ret (E_ret1 f rfl (by kernel_rfl : Vc.look _ 4 = some (.int .i64 (-1))) ?_)))))
   obtain rfl := sI hF_1
   exact ⟨_, rfl, M_4, _, hM_4, p_7, ⟨rfl, rfl⟩⟩
def params_twice_s1 (n : Nat) (d0 : List TB0) (s_1 : Int) : Option (Lp Int (Sum Unit Unit)) :=
    bif (decide (s_1 < ((d0.length : Nat) : Int))) then
      (need (0 ≤ 0 ∧ 0 ≤ s_1 ∧ s_1 ≤ (d0.length : Int)) <|
      (params_find_2 n ((d0.take s_1.toNat).drop 0) d0 s_1).bind fun x_1 =>
      bif (decide ((0 : Int) ≤ x_1.1)) then
        (some (.br (.inl ())))
      else
        need (inR .i64 (s_1 + 1)) <|
        some (.nx (s_1 + 1)))
    else
      some (.br (.inr ()))
def params_twice (n : Nat) (d0 : List TB0) : Option Bool :=
  (loopF (params_twice_s1 n d0) n (0 : Int)).bind fun b_2 =>
  (match b_2 with 
  | .inl y_1 => some ((true)) 
  | .inr y_2 => some ((false)))
theorem params_twice_ok (n : Nat) (M : Mem) (hG : GL M) (A0 : Option Addr) (cap0 : Nat) (d0 : List TB0) (h0 : Sli M 6 emb_TB0 A0 cap0 d0) (r : Bool) (hF : params_twice n d0 = some r) : Ok Tryd.prog M 63 [.slice A0 d0.length cap0] (fun _ v => v = .bool r) := by
 unfold params_twice at hF
 intro M1 hM0 w0 H w p0
 replace hG := GL.mono hM0 hG
 replace h0 := h0.mono hM0
 refine R_enter 16 Tryd.func63 rfl rfl (by simp) fun a0 f0 => RR (Y13 (cs := #[.slice A0 d0.length cap0]) (T := 30) f0 p0 fun b_1 M_1 w_1 hM_1 hc_1 p_1 _ f => ?_)
 have hc_2 := fz_box hc_1
 refine Y f 1 fun _ f => eT (R_seq (RR (Y15 f p_1 hc_2 0 rfl fun _ f => Y f 2 fun _ f => eT (wp_block ?_))))
 obtain ⟨b_2, hL_1, hF_1⟩ := bS hF
 refine wp_mono (Q := fun e a w => (e = .ret ∧ (∃ y_1 : Unit, b_2 = .inl y_1 ∧ ∃ M_4 : Mem, M_1.le M_4 ∧ Frm 16 [(2, .bool true)] a ∧ Hp w0 M_4 (H) w)) ∨ (e = .exit 0 ∧ (∃ y_2 : Unit, b_2 = .inr y_2 ∧ ∃ M_5 : Mem, M_1.le M_5 ∧ Frm 16 [] a ∧ Hp w0 M_5 (H) w))) (R_loop (n := 16) (w0 := w0) (M := M_1) (fun (x : Nat × Int) => match x with | (m_1, s_1) => [(1, .pointer (some (⟨b_1, 0, none⟩))), (5, .int .i64 ((d0.length : Nat) : Int)), (6, .int .i64 s_1)]) (fun (x : Nat × Int) => match x with | (m_1, s_1) => (H)) (fun (x : Nat × Int) (MM : Mem) => match x with | (m_1, s_1) => loopF (params_twice_s1 n d0) m_1 s_1 = some b_2) (fun (x : Nat × Int) => match x with | (m_1, s_1) => m_1) (n, (0 : Int)) (f.kp) p_1 hL_1 ?_) ?_
 ·rintro ⟨m_1, s_1⟩ M_2 _ w_2 hM_2 I_1 f p_2
  have I_1L := I_1
  obtain ⟨m_2, r_1, rfl, hs_1, hn_1⟩ := loop_step I_1L
  unfold params_twice_s1 at hs_1
  refine RR (Y f 1 fun _ f => eT (R_seq (RcF f hs_1 (fun h_1 hF_2 => ?_) fun h_1 hF_8 => ?_)))
  ·have k_1 := dI.1 h_1
   refine wp_skip (T_n (R_seq (wp_block (RR (Y f 1 fun _ f => Y12 f p_2 (.cells #[.int .i64 0] 3 (0, 0)) fun b_3 w_3 p_3 _ f => Y27 f p_3 0 rfl rfl (b := b_3) (j := 0) (v := .int .i64 s_1) rfl (by exact rfl) (by simp) (by simp) ((Ent.obj b_3 (.cells #[.int .i64 s_1] 3 (0, 0))) :: H) rfl fun w_4 p_4 _ f => eT (RR (Y15 f p_4 (fzu hM_2 hc_2) 0 rfl fun _ f => Z f (Y31 (v := .int .i64 s_1) rfl (ad := ⟨b_3, 0, none⟩) (p_4.ownCell 0 rfl 0)) fun _ f => ?_)))))))
   obtain ⟨g_1, hF_3⟩ := nS hF_2
   have h_2 : Sli M_2 6 emb_TB0 (cutA A0 6 0 cap0) (cap0 - 0) ((d0.take s_1.toNat).drop 0) := Sli.cut (h0.mono (hM_1.trans hM_2)) (by omega) (by omega)
   have hl_1 := Sli.len (h0.mono (hM_1.trans hM_2))
   refine Z f (Y35 rfl (A := A0) (len := d0.length) (cap := cap0) (k' := .i64) (b := s_1) (e := 33) (sz := 6) (by omega) (by omega)) fun _ f => ?_
   have f := Frm.set f 11 (v := .slice (cutA A0 6 0 cap0) s_1.toNat cap0) (v' := .slice (cutA A0 6 0 cap0) ((d0.take s_1.toNat).drop 0).length (cap0 - 0)) (by kernel_rfl) (by congr 1; simp; omega)
   refine Y f 1 fun _ f => ?_
   obtain ⟨x_1, hx_1, hF_4⟩ := bS hF_3
   refine Y17 (E := [Ent.obj b_3 (.cells #[.int .i64 s_1] 3 (0, 0))]) (H := (H)) f p_4 (params_find_2_ok n _ (GL.mono (hM_1.trans hM_2) hG) (cutA A0 6 0 cap0) (cap0 - 0) ((d0.take s_1.toNat).drop 0) h_2 (⟨b_1, 0, none⟩) [.slice A0 d0.length cap0] d0 (Sli.rep (h0.mono (hM_1.trans hM_2))) (fz_at ((fzu hM_2 hc_2)) 0 rfl) b_3 s_1 x_1 hx_1) fun _ M_3 E_1 w_5 hM_3 p_5 q_1 _ f => ?_
   obtain ⟨rfl, rfl⟩ := q_1
   refine Y f 1 fun _ f => eT (RcF f hF_4 (fun h_3 hF_5 => ?_) fun h_3 hF_6 => ?_)
   ·have k_2 := dI.1 h_3
    refine RR (Y f 1 fun _ f => eT (wp_ret (B_r (T_r (T_r ?_)))))
    obtain rfl := sI hF_5
    exact .inl ⟨rfl, (), (sI hn_1).symm, M_3, (hM_2.trans hM_3), f.kp, (p_5.dropN 1)⟩
   ·have k_3 := iff_f dI h_3
    refine wp_skip (B_n (T_n (R_reg ?_)))
    obtain ⟨g_2, hF_7⟩ := nS hF_6
    refine Y f 1 fun _ f => ?_
    have f := f.st 15 (congrArg (Value.int .i64) (inR_wrap g_2))
    refine Y f 1 fun _ f => eT ?_
    obtain rfl := sI hF_7
    exact ⟨⟨m_2, s_1 + 1⟩, Nat.lt_succ_self _, M_3, (hM_2.trans hM_3), hn_1, f.kp, (p_5.dropN 1)⟩
  ·have k_4 := iff_f dI h_1
   refine wp_exit (T_x (T_x ?_))
   obtain rfl := sI hF_8
   exact .inr ⟨rfl, (), (sI hn_1).symm, M_2, hM_2, f.kp, p_2⟩
 ·rintro _ _ w_8 (⟨rfl, y_1, rfl, M_4, hM_4, f, p_6⟩ | ⟨rfl, y_2, rfl, M_5, hM_5, f, p_7⟩)
  ·refine B_r (T_r (E_ret1 f rfl (by kernel_rfl : Vc.look _ 2 = some (.bool true)) ?_))
   obtain rfl := sI hF_1
   exact ⟨_, rfl, M_4, (hM_1.trans hM_4), p_6, rfl⟩
  ·refine B_x (T_n (RR (Y f 1 fun _ f => eT (wp_ret (E_ret1 f rfl (by kernel_rfl : Vc.look _ 2 = some (.bool false)) ?_)))))
   obtain rfl := sI hF_1
   exact ⟨_, rfl, M_5, (hM_1.trans hM_5), p_7, rfl⟩
def params_Find_1 (n : Nat) (d0 : TA0) (d1 : List UInt8) : Option Bool :=
  some ((decide (d0.fName = d1)))
theorem params_Find_1_ok (n : Nat) (M : Mem) (hG : GL M) (c0 : List Value) (d0 : TA0) (h0 : Rep M (emb_TA0 d0) c0) (ad1 : Addr) (c1 : List Value) (d1 : List UInt8) (h1 : Rep M (Dat.str d1) c1) (q1 : ∀ j v, c1[j]? = some v → M.cell? (ad1.add j) = some v) (r : Bool) (hF : params_Find_1 n d0 d1 = some r) : Ok Tryd.prog M 56 [.agg c0.toArray, .pointer (some ad1)] (fun _ v => v = .bool r) := by
 unfold params_Find_1 at hF
 intro M1 hM0 w0 H w p0
 replace hG := GL.mono hM0 hG
 replace h0 := Rep.mono hM0 _ _ h0
 replace h1 := Rep.mono hM0 _ _ h1
 replace q1 := fun j v h => hM0.cell (q1 j v h)
 obtain ⟨A_1, cap_1, A_2, cap_2, rfl, h_1, h_2⟩ := TA0.opn h0
 obtain rfl : c1 = [S d1] := h1
 refine R_enter 8 Tryd.func56 rfl rfl (by simp) fun a0 f0 => RR (Y13 (cs := #[S d0.fName, .bool d0.fUnknown, .int .i8 d0.fV.fKind, .bool d0.fV.fBool, .int .i64 d0.fV.fNum, S d0.fV.fText, .slice A_1 d0.fV.fList.length cap_1, .slice A_2 d0.fV.fKeys.length cap_2]) (T := 35) f0 p0 fun b_1 M_1 w_1 hM_1 hc_1 p_1 _ f => ?_)
 have hc_2 := fz_box hc_1
 refine Y f 1 fun _ f => eT (RR (Y f 1 fun _ f => Y15 f p_1 hc_2 0 rfl fun _ f => Y15 f p_1 (fzu hM_1 q1) 0 rfl fun _ f => Z f (Y37 rfl (l := d0.fName) (m := d1)) fun _ f => Y f 1 fun _ f => eT (wp_ret (E_ret1 f rfl (by kernel_rfl : Vc.look _ 3 = some (.bool (decide (d0.fName = d1)))) ?_))))
 obtain rfl := sI hF
 exact ⟨_, rfl, M_1, hM_1, p_1, rfl⟩
def params_find_3_s1 (n : Nat) (d0 : List TA0) (d1_0 : List UInt8) (s_1 : Int) : Option (Lp Int (Sum Int Unit)) :=
    bif (decide (s_1 < ((d0.length : Nat) : Int))) then
      ((getI d0 s_1).bind fun x_1 =>
      (params_Find_1 n x_1 d1_0).bind fun x_2 =>
      bif x_2 then
        (some (.br (.inl s_1)))
      else
        need (inR .i64 (s_1 + 1)) <|
        some (.nx (s_1 + 1)))
    else
      some (.br (.inr ()))
def params_find_3 (n : Nat) (d0 : List TA0) (d1_0 : List UInt8) : Option Int :=
  (loopF (params_find_3_s1 n d0 d1_0) n (0 : Int)).bind fun b_1 =>
  (match b_1 with 
  | .inl y_1 => some (y_1) 
  | .inr y_2 => some ((-1 : Int)))
theorem params_find_3_ok (n : Nat) (M : Mem) (hG : GL M) (A0 : Option Addr) (cap0 : Nat) (d0 : List TA0) (h0 : Sli M 8 emb_TA0 A0 cap0 d0) (ad1_0 : Addr) (c1_0 : List Value) (d1_0 : List UInt8) (h1_0 : Rep M (Dat.str d1_0) c1_0) (q1_0 : ∀ j v, c1_0[j]? = some v → M.cell? (ad1_0.add j) = some v) (r : Int) (hF : params_find_3 n d0 d1_0 = some r) : Ok Tryd.prog M 27 [.slice A0 d0.length cap0, .func (.func 56) #[] #[.pointer (some ad1_0)]] (fun _ v => v = .int .i64 r) := by
 unfold params_find_3 at hF
 intro M1 hM0 w0 H w p0
 replace hG := GL.mono hM0 hG
 replace h0 := h0.mono hM0
 replace h1_0 := Rep.mono hM0 _ _ h1_0
 replace q1_0 := fun j v h => hM0.cell (q1_0 j v h)
 obtain rfl : c1_0 = [S d1_0] := h1_0
 refine R_enter 19 Tryd.func27 rfl rfl (by simp) fun a0 f0 => RR (Y f0 1 fun _ f => eT (R_seq (RR (Y f 3 fun _ f => eT (wp_block ?_)))))
 obtain ⟨b_1, hL_1, hF_1⟩ := bS hF
 refine wp_mono (Q := fun e a w => (e = .ret ∧ (∃ y_1 : Int, b_1 = .inl y_1 ∧ ∃ M_2 : Mem, M1.le M_2 ∧ Frm 19 [(4, .int .i64 y_1)] a ∧ Hp w0 M_2 (H) w)) ∨ (e = .exit 0 ∧ (∃ y_2 : Unit, b_1 = .inr y_2 ∧ ∃ M_3 : Mem, M1.le M_3 ∧ Frm 19 [] a ∧ Hp w0 M_3 (H) w))) (R_loop (n := 19) (w0 := w0) (M := M1) (fun (x : Nat × Int) => match x with | (m_1, s_1) => [(1, .func (.func 56) #[] #[.pointer (some ad1_0)]), (7, .slice A0 d0.length cap0), (8, .int .i64 ((d0.length : Nat) : Int)), (9, .int .i64 s_1)]) (fun (x : Nat × Int) => match x with | (m_1, s_1) => (H)) (fun (x : Nat × Int) (MM : Mem) => match x with | (m_1, s_1) => loopF (params_find_3_s1 n d0 d1_0) m_1 s_1 = some b_1) (fun (x : Nat × Int) => match x with | (m_1, s_1) => m_1) (n, (0 : Int)) (f.kp) p0 hL_1 ?_) ?_
 ·rintro ⟨m_1, s_1⟩ M_1 _ w_1 hM_1 I_1 f p_1
  have I_1L := I_1
  obtain ⟨m_2, r_1, rfl, hs_1, hn_1⟩ := loop_step I_1L
  unfold params_find_3_s1 at hs_1
  refine RR (Y f 1 fun _ f => eT (R_seq (RcF f hs_1 (fun h_1 hF_2 => ?_) fun h_1 hF_8 => ?_)))
  ·have k_1 := dI.1 h_1
   refine wp_skip (T_n (R_seq (wp_block (RR (Y f 1 fun _ f => ?_)))))
   obtain ⟨x_1, hx_1, hF_3⟩ := bS hF_2
   obtain ⟨ad_1, c_1, e_1, -, hr_1, hc_1⟩ := Sli.at_ (h0.mono hM_1) hx_1
   obtain ⟨A_1, cap_1, A_2, cap_2, rfl, h_2, h_3⟩ := TA0.opn hr_1
   refine Z f (Y30 e_1 rfl (len := d0.length) (cap := cap0) (k := .i64) (i := s_1) (e := 35) (sz := 8) (getI_nn hx_1) (getI_lt hx_1)) fun _ f => Z (v := .agg #[S x_1.fName, .bool x_1.fUnknown, .int .i8 x_1.fV.fKind, .bool x_1.fV.fBool, .int .i64 x_1.fV.fNum, S x_1.fV.fText, .slice A_1 x_1.fV.fList.length cap_1, .slice A_2 x_1.fV.fKeys.length cap_2]) f (Y32 (cs := [S x_1.fName, .bool x_1.fUnknown, .int .i8 x_1.fV.fKind, .bool x_1.fV.fBool, .int .i64 x_1.fV.fNum, S x_1.fV.fText, .slice A_1 x_1.fV.fList.length cap_1, .slice A_2 x_1.fV.fKeys.length cap_2]) rfl (ad := ad_1.add (s_1.toNat * 8)) (fun j v h => p_1.cell (hc_1 j v h))) fun _ f => Y12 f p_1 (.cells #[S [], .bool false, .int .i8 0, .bool false, .int .i64 0, S [], .slice none 0 0, .slice none 0 0] 35 (0, 0)) fun b_2 w_2 p_2 _ f => Y f 1 fun _ f => Y28 (vs := [S x_1.fName, .bool x_1.fUnknown, .int .i8 x_1.fV.fKind, .bool x_1.fV.fBool, .int .i64 x_1.fV.fNum, S x_1.fV.fText, .slice A_1 x_1.fV.fList.length cap_1, .slice A_2 x_1.fV.fKeys.length cap_2]) (j := 0) f p_2 rfl rfl (by simp [Value.oneCell', S]) (by simp) (by decide) (cs' := #[S x_1.fName, .bool x_1.fUnknown, .int .i8 x_1.fV.fKind, .bool x_1.fV.fBool, .int .i64 x_1.fV.fNum, S x_1.fV.fText, .slice A_1 x_1.fV.fList.length cap_1, .slice A_2 x_1.fV.fKeys.length cap_2]) fun w_3 p_3 _ f => eT (RR (Y f 1 fun _ f => Z (v := .agg #[S x_1.fName, .bool x_1.fUnknown, .int .i8 x_1.fV.fKind, .bool x_1.fV.fBool, .int .i64 x_1.fV.fNum, S x_1.fV.fText, .slice A_1 x_1.fV.fList.length cap_1, .slice A_2 x_1.fV.fKeys.length cap_2]) f (Y32 (cs := [S x_1.fName, .bool x_1.fUnknown, .int .i8 x_1.fV.fKind, .bool x_1.fV.fBool, .int .i64 x_1.fV.fNum, S x_1.fV.fText, .slice A_1 x_1.fV.fList.length cap_1, .slice A_2 x_1.fV.fKeys.length cap_2]) rfl (ad := ⟨b_2, 0, none⟩) (own_cells (p_3.ownCell 0 rfl) 0 rfl)) fun _ f => ?_))
   obtain ⟨x_2, hx_2, hF_4⟩ := bS hF_3
   refine Y18 f p_3 (params_Find_1_ok n _ (GL.mono hM_1 hG) _ x_1 (TA0.shutx (x := x_1) h_2 h_3) ad1_0 [S d1_0] d1_0 (rfl) (fz_at ((fzu hM_1 q1_0)) 0 rfl) x_2 hx_2) fun w_4 p_4 _ f => eT (RcF f hF_4 (fun h_4 hF_5 => ?_) fun h_4 hF_6 => ?_)
   ·refine RR (Y f 2 fun _ f => eT (wp_ret (B_r (T_r (T_r ?_)))))
    obtain rfl := sI hF_5
    exact .inl ⟨rfl, s_1, (sI hn_1).symm, M_1, hM_1, f.kp, (p_4.dropN 1)⟩
   ·refine wp_skip (B_n (T_n (R_reg ?_)))
    obtain ⟨g_1, hF_7⟩ := nS hF_6
    refine Y f 1 fun _ f => ?_
    have f := f.st 18 (congrArg (Value.int .i64) (inR_wrap g_1))
    refine Y f 1 fun _ f => eT ?_
    obtain rfl := sI hF_7
    exact ⟨⟨m_2, s_1 + 1⟩, Nat.lt_succ_self _, M_1, hM_1, hn_1, f.kp, (p_4.dropN 1)⟩
  ·have k_4 := iff_f dI h_1
   refine wp_exit (T_x (T_x ?_))
   obtain rfl := sI hF_8
   exact .inr ⟨rfl, (), (sI hn_1).symm, M_1, hM_1, f.kp, p_1⟩
 ·rintro _ _ w_7 (⟨rfl, y_1, rfl, M_2, hM_2, f, p_5⟩ | ⟨rfl, y_2, rfl, M_3, hM_3, f, p_6⟩)
  ·refine B_r (T_r (E_ret1 f rfl (by kernel_rfl : Vc.look _ 4 = some (.int .i64 y_1)) ?_))
   obtain rfl := sI hF_1
   exact ⟨_, rfl, M_2, hM_2, p_5, rfl⟩
  ·refine B_x (T_n (RR (Y f 1 fun _ f => eT (wp_ret (E_ret1 f rfl (by kernel_rfl : Vc.look _ 4 = some (.int .i64 (-1))) ?_)))))
   obtain rfl := sI hF_1
   exact ⟨_, rfl, M_3, hM_3, p_6, rfl⟩
def params_Find (n : Nat) (d0 : List TA0) (d1 : List UInt8) : Option (TA0 × Bool) :=
  (params_find_3 n d0 d1).bind fun x_1 =>
  bif (decide ((0 : Int) ≤ x_1)) then
    ((getI d0 x_1).bind fun x_2 =>
    some ((x_2, (true))))
  else
    some (((⟨([] : List UInt8), (false), z_TB0⟩ : TA0), (false)))
theorem params_Find_ok (n : Nat) (M : Mem) (hG : GL M) (A0 : Option Addr) (cap0 : Nat) (d0 : List TA0) (h0 : Sli M 8 emb_TA0 A0 cap0 d0) (d1 : List UInt8) (r : TA0 × Bool) (hF : params_Find n d0 d1 = some r) : Ok Tryd.prog M 31 [.slice A0 d0.length cap0, S d1] (fun M' v => ∃ (c0 : List Value), v = .tuple #[.agg c0.toArray, .bool r.2] ∧ Rep M' (emb_TA0 r.1) c0) := by
 unfold params_Find at hF
 intro M1 hM0 w0 H w p0
 replace hG := GL.mono hM0 hG
 replace h0 := h0.mono hM0
 refine R_enter 17 Tryd.func31 rfl rfl (by simp) fun a0 f0 => RR (Y13 (cs := #[S d1]) (T := 9) f0 p0 fun b_1 M_1 w_1 hM_1 hc_1 p_1 _ f => ?_)
 have hc_2 := fz_box hc_1
 refine Y12 f p_1 (.cells #[S [], .bool false, .int .i8 0, .bool false, .int .i64 0, S [], .slice none 0 0, .slice none 0 0] 35 (0, 0)) fun b_2 w_2 p_2 _ f => Y f 1 fun _ f => eT (R_seq (RR (Y f 2 fun _ f => ?_)))
 obtain ⟨x_1, hx_1, hF_1⟩ := bS hF
 refine Y18 f p_2 (params_find_3_ok n _ (GL.mono hM_1 hG) A0 cap0 d0 (h0.mono hM_1) (⟨b_1, 0, none⟩) [S d1] d1 (rfl) (fz_at (hc_2) 0 rfl) x_1 hx_1) fun w_3 p_3 _ f => Y f 1 fun _ f => eT (RR (Y f 2 fun _ f => eT (RcF f hF_1 (fun h_1 hF_2 => ?_) fun h_1 hF_4 => ?_)))
 ·have k_1 := dI.1 h_1
  refine RR (Y f 2 fun _ f => ?_)
  obtain ⟨x_2, hx_2, hF_3⟩ := bS hF_2
  obtain ⟨ad_1, c_1, e_1, -, hr_1, hc_3⟩ := Sli.at_ (h0.mono hM_1) hx_2
  obtain ⟨A_1, cap_1, A_2, cap_2, rfl, h_2, h_3⟩ := TA0.opn hr_1
  refine Z f (Y30 e_1 rfl (len := d0.length) (cap := cap0) (k := .i64) (i := x_1) (e := 35) (sz := 8) (getI_nn hx_2) (getI_lt hx_2)) fun _ f => Z (v := .agg #[S x_2.fName, .bool x_2.fUnknown, .int .i8 x_2.fV.fKind, .bool x_2.fV.fBool, .int .i64 x_2.fV.fNum, S x_2.fV.fText, .slice A_1 x_2.fV.fList.length cap_1, .slice A_2 x_2.fV.fKeys.length cap_2]) f (Y32 (cs := [S x_2.fName, .bool x_2.fUnknown, .int .i8 x_2.fV.fKind, .bool x_2.fV.fBool, .int .i64 x_2.fV.fNum, S x_2.fV.fText, .slice A_1 x_2.fV.fList.length cap_1, .slice A_2 x_2.fV.fKeys.length cap_2]) rfl (ad := ad_1.add (x_1.toNat * 8)) (fun j v h => p_3.cell (hc_3 j v h))) fun _ f => Y28 (vs := [S x_2.fName, .bool x_2.fUnknown, .int .i8 x_2.fV.fKind, .bool x_2.fV.fBool, .int .i64 x_2.fV.fNum, S x_2.fV.fText, .slice A_1 x_2.fV.fList.length cap_1, .slice A_2 x_2.fV.fKeys.length cap_2]) (j := 0) f p_3 rfl rfl (by simp [Value.oneCell', S]) (by simp) (by decide) (cs' := #[S x_2.fName, .bool x_2.fUnknown, .int .i8 x_2.fV.fKind, .bool x_2.fV.fBool, .int .i64 x_2.fV.fNum, S x_2.fV.fText, .slice A_1 x_2.fV.fList.length cap_1, .slice A_2 x_2.fV.fKeys.length cap_2]) fun w_4 p_4 _ f => Y f 1 fun _ f => eT (wp_ret (T_r (E_rv2 f rfl (Y10 (cs := [S x_2.fName, .bool x_2.fUnknown, .int .i8 x_2.fV.fKind, .bool x_2.fV.fBool, .int .i64 x_2.fV.fNum, S x_2.fV.fText, .slice A_1 x_2.fV.fList.length cap_1, .slice A_2 x_2.fV.fKeys.length cap_2]) (ad := ⟨b_2, 0, none⟩) f (own_cells (p_4.ownCell 0 rfl) 0 rfl)) (Y11 (v := .bool true) f) ?_)))
  obtain rfl := sI hF_3
  exact ⟨_, rfl, M_1, hM_1, (p_4.dropN 1), ⟨[S x_2.fName, .bool x_2.fUnknown, .int .i8 x_2.fV.fKind, .bool x_2.fV.fBool, .int .i64 x_2.fV.fNum, S x_2.fV.fText, .slice A_1 x_2.fV.fList.length cap_1, .slice A_2 x_2.fV.fKeys.length cap_2], rfl, (TA0.shutx (x := x_2) h_2 h_3)⟩⟩
 ·have k_2 := iff_f dI h_1
  refine wp_skip (T_n (RR (Z (v := .agg #[S [], .bool false, .int .i8 0, .bool false, .int .i64 0, S [], .slice none 0 0, .slice none 0 0]) f (Y32 (cs := [S [], .bool false, .int .i8 0, .bool false, .int .i64 0, S [], .slice none 0 0, .slice none 0 0]) rfl (ad := ⟨b_2, 0, none⟩) (own_cells (p_3.ownCell 0 rfl) 0 rfl)) fun _ f => Y28 (vs := [S [], .bool false, .int .i8 0, .bool false, .int .i64 0, S [], .slice none 0 0, .slice none 0 0]) (j := 0) f p_3 rfl rfl (by simp [Value.oneCell', S]) (by simp) (by decide) (cs' := #[S [], .bool false, .int .i8 0, .bool false, .int .i64 0, S [], .slice none 0 0, .slice none 0 0]) fun w_5 p_5 _ f => Y f 1 fun _ f => eT (wp_ret (E_rv2 f rfl (Y10 (cs := [S [], .bool false, .int .i8 0, .bool false, .int .i64 0, S [], .slice none 0 0, .slice none 0 0]) (ad := ⟨b_2, 0, none⟩) f (own_cells (p_5.ownCell 0 rfl) 0 rfl)) (Y11 (v := .bool false) f) ?_)))))
  obtain rfl := sI hF_4
  exact ⟨_, rfl, M_1, hM_1, (p_5.dropN 1), ⟨[S [], .bool false, .int .i8 0, .bool false, .int .i64 0, S [], .slice none 0 0, .slice none 0 0], rfl, (TA0.shut Sli.nil Sli.nil)⟩⟩
def params_may_1 (n : Nat) (d0 : TC0) : Option Bool :=
  (runes_Name n d0.fName).bind fun x_1 =>
  bif !x_1 then
    (some ((true)))
  else
    some ((decide ((8 : Int) < ((d0.fAllowed.length : Nat) : Int))))
theorem params_may_1_ok (n : Nat) (M : Mem) (hG : GL M) (ad0 : Addr) (c0 : List Value) (d0 : TC0) (h0 : Rep M (emb_TC0 d0) c0) (q0 : ∀ j v, c0[j]? = some v → M.cell? (ad0.add j) = some v) (r : Bool) (hF : params_may_1 n d0 = some r) : Ok Tryd.prog M 57 [.pointer (some ad0)] (fun _ v => v = .bool r) := by
 unfold params_may_1 at hF
 intro M1 hM0 w0 H w p0
 replace hG := GL.mono hM0 hG
 replace h0 := Rep.mono hM0 _ _ h0
 replace q0 := fun j v h => hM0.cell (q0 j v h)
 obtain ⟨A_1, cap_1, A_2, cap_2, A_3, cap_3, rfl, h_1, h_2, h_3⟩ := TC0.opn h0
 refine R_enter 12 Tryd.func57 rfl rfl (by simp) fun a0 f0 => RR (Y f0 1 fun _ f => eT (RR (Y f 1 fun _ f => Y15 f p0 q0 0 rfl fun _ f => ?_)))
 obtain ⟨x_1, hx_1, hF_1⟩ := bS hF
 refine Y18 f p0 (runes_Name_ok n _ hG d0.fName x_1 hx_1) fun w_1 p_1 _ f => Y f 2 fun _ f => ?_
 rcases cE hF_1 with ⟨h_4, hF_2⟩ | ⟨h_4, hF_3⟩
 ·have k_1 : (x_1) = false := by simpa using h_4
  have f := f.st 6 (cB h_4)
  refine Y f 6 fun _ f => eT (wp_ret (E_ret1 f rfl (by kernel_rfl : Vc.look _ 1 = some (.bool true)) ?_))
  obtain rfl := sI hF_2
  exact ⟨_, rfl, M1, (mR _), p_1, rfl⟩
 ·have k_2 : (x_1) = true := by simpa using h_4
  have f := f.st 6 (cB h_4)
  refine Y f 1 fun _ f => Y15 f p_1 q0 9 rfl fun _ f => Y f 4 fun _ f => eT (wp_ret (E_ret1 f rfl (by kernel_rfl : Vc.look _ 1 = some (.bool (decide ((8 : Int) < ((d0.fAllowed.length : Nat) : Int))))) ?_))
  obtain rfl := sI hF_3
  exact ⟨_, rfl, M1, (mR _), p_1, rfl⟩
def params_may_6 (n : Nat) (d0_0 : TC0) : Option Bool :=
  (params_may_1 n d0_0).bind fun x_1 =>
  some ((x_1))
theorem params_may_6_ok (n : Nat) (M : Mem) (hG : GL M) (ad0_0 : Addr) (c0_0 : List Value) (d0_0 : TC0) (h0_0 : Rep M (emb_TC0 d0_0) c0_0) (q0_0 : ∀ j v, c0_0[j]? = some v → M.cell? (ad0_0.add j) = some v) (r : Bool) (hF : params_may_6 n d0_0 = some r) : Ok Tryd.prog M 67 [.func (.func 57) #[] #[.pointer (some ad0_0)]] (fun _ v => v = .bool r) := by
 unfold params_may_6 at hF
 intro M1 hM0 w0 H w p0
 replace hG := GL.mono hM0 hG
 replace h0_0 := Rep.mono hM0 _ _ h0_0
 replace q0_0 := fun j v h => hM0.cell (q0_0 j v h)
 obtain ⟨A_1, cap_1, A_2, cap_2, A_3, cap_3, rfl, h_1, h_2, h_3⟩ := TC0.opn h0_0
 refine R_enter 5 Tryd.func67 rfl rfl (by simp) fun a0 f0 => RR (Y f0 1 fun _ f => eT (RR (Y f 1 fun _ f => ?_)))
 obtain ⟨x_1, hx_1, hF_1⟩ := bS hF
 refine Y18 f p0 (params_may_1_ok n _ hG ad0_0 [S d0_0.fName, .bool d0_0.fNumber, .bool d0_0.fHas, .int .i8 d0_0.fDefault.fKind, .bool d0_0.fDefault.fBool, .int .i64 d0_0.fDefault.fNum, S d0_0.fDefault.fText, .slice A_1 d0_0.fDefault.fList.length cap_1, .slice A_2 d0_0.fDefault.fKeys.length cap_2, .slice A_3 d0_0.fAllowed.length cap_3] d0_0 (TC0.shutx (x := d0_0) h_1 h_2 h_3) (fz_at (q0_0) 0 rfl) x_1 hx_1) fun w_1 p_1 _ f => Y f 1 fun _ f => eT (wp_ret (E_ret1 f rfl (by kernel_rfl : Vc.look _ 2 = some (.bool x_1)) ?_))
 obtain rfl := sI hF_1
 exact ⟨_, rfl, M1, (mR _), p_1, rfl⟩
def params_may_2_1 (n : Nat) (d0 : TB0) (d1 : TC0) : Option Bool :=
  (params_kind n d1 d0).bind fun x_1 =>
  some ((!x_1))
theorem params_may_2_1_ok (n : Nat) (M : Mem) (hG : GL M) (c0 : List Value) (d0 : TB0) (h0 : Rep M (emb_TB0 d0) c0) (ad1 : Addr) (c1 : List Value) (d1 : TC0) (h1 : Rep M (emb_TC0 d1) c1) (q1 : ∀ j v, c1[j]? = some v → M.cell? (ad1.add j) = some v) (r : Bool) (hF : params_may_2_1 n d0 d1 = some r) : Ok Tryd.prog M 61 [.agg c0.toArray, .pointer (some ad1)] (fun _ v => v = .bool r) := by
 unfold params_may_2_1 at hF
 intro M1 hM0 w0 H w p0
 replace hG := GL.mono hM0 hG
 replace h0 := Rep.mono hM0 _ _ h0
 replace h1 := Rep.mono hM0 _ _ h1
 replace q1 := fun j v h => hM0.cell (q1 j v h)
 obtain ⟨A_1, cap_1, A_2, cap_2, rfl, h_1, h_2⟩ := TB0.opn h0
 obtain ⟨A_3, cap_3, A_4, cap_4, A_5, cap_5, rfl, h_3, h_4, h_5⟩ := TC0.opn h1
 refine R_enter 8 Tryd.func61 rfl rfl (by simp) fun a0 f0 => RR (Y13 (cs := #[.int .i8 d0.fKind, .bool d0.fBool, .int .i64 d0.fNum, S d0.fText, .slice A_1 d0.fList.length cap_1, .slice A_2 d0.fKeys.length cap_2]) (T := 33) f0 p0 fun b_1 M_1 w_1 hM_1 hc_1 p_1 _ f => ?_)
 have hc_2 := fz_box hc_1
 refine Y f 1 fun _ f => eT (RR (Z (v := .agg #[S d1.fName, .bool d1.fNumber, .bool d1.fHas, .int .i8 d1.fDefault.fKind, .bool d1.fDefault.fBool, .int .i64 d1.fDefault.fNum, S d1.fDefault.fText, .slice A_3 d1.fDefault.fList.length cap_3, .slice A_4 d1.fDefault.fKeys.length cap_4, .slice A_5 d1.fAllowed.length cap_5]) f (Y32 (cs := [S d1.fName, .bool d1.fNumber, .bool d1.fHas, .int .i8 d1.fDefault.fKind, .bool d1.fDefault.fBool, .int .i64 d1.fDefault.fNum, S d1.fDefault.fText, .slice A_3 d1.fDefault.fList.length cap_3, .slice A_4 d1.fDefault.fKeys.length cap_4, .slice A_5 d1.fAllowed.length cap_5]) rfl (ad := ad1) (fun j v h => p_1.cell ((fzu hM_1 q1) j v h))) fun _ f => Z (v := .agg #[.int .i8 d0.fKind, .bool d0.fBool, .int .i64 d0.fNum, S d0.fText, .slice A_1 d0.fList.length cap_1, .slice A_2 d0.fKeys.length cap_2]) f (Y32 (cs := [.int .i8 d0.fKind, .bool d0.fBool, .int .i64 d0.fNum, S d0.fText, .slice A_1 d0.fList.length cap_1, .slice A_2 d0.fKeys.length cap_2]) rfl (ad := ⟨b_1, 0, none⟩) (fun j v h => p_1.cell (hc_2 j v h))) fun _ f => ?_))
 obtain ⟨x_1, hx_1, hF_1⟩ := bS hF
 refine Y18 f p_1 (params_kind_ok n _ (GL.mono hM_1 hG) _ d1 (TC0.shutx (x := d1) (h_3.mono hM_1) (h_4.mono hM_1) (h_5.mono hM_1)) _ d0 (TB0.shutx (x := d0) (h_1.mono hM_1) (h_2.mono hM_1)) x_1 hx_1) fun w_2 p_2 _ f => Y f 2 fun _ f => eT (wp_ret (E_ret1 f rfl (by kernel_rfl : Vc.look _ 3 = some (.bool !x_1)) ?_))
 obtain rfl := sI hF_1
 exact ⟨_, rfl, M_1, hM_1, p_2, rfl⟩
def params_find_5_s1 (n : Nat) (d0 : List TB0) (d1_0 : TC0) (s_1 : Int) : Option (Lp Int (Sum Int Unit)) :=
    bif (decide (s_1 < ((d0.length : Nat) : Int))) then
      ((getI d0 s_1).bind fun x_1 =>
      (params_may_2_1 n x_1 d1_0).bind fun x_2 =>
      bif x_2 then
        (some (.br (.inl s_1)))
      else
        need (inR .i64 (s_1 + 1)) <|
        some (.nx (s_1 + 1)))
    else
      some (.br (.inr ()))
def params_find_5 (n : Nat) (d0 : List TB0) (d1_0 : TC0) : Option Int :=
  (loopF (params_find_5_s1 n d0 d1_0) n (0 : Int)).bind fun b_1 =>
  (match b_1 with 
  | .inl y_1 => some (y_1) 
  | .inr y_2 => some ((-1 : Int)))
theorem params_find_5_ok (n : Nat) (M : Mem) (hG : GL M) (A0 : Option Addr) (cap0 : Nat) (d0 : List TB0) (h0 : Sli M 6 emb_TB0 A0 cap0 d0) (ad1_0 : Addr) (c1_0 : List Value) (d1_0 : TC0) (h1_0 : Rep M (emb_TC0 d1_0) c1_0) (q1_0 : ∀ j v, c1_0[j]? = some v → M.cell? (ad1_0.add j) = some v) (r : Int) (hF : params_find_5 n d0 d1_0 = some r) : Ok Tryd.prog M 60 [.slice A0 d0.length cap0, .func (.func 61) #[] #[.pointer (some ad1_0)]] (fun _ v => v = .int .i64 r) := by
 unfold params_find_5 at hF
 intro M1 hM0 w0 H w p0
 replace hG := GL.mono hM0 hG
 replace h0 := h0.mono hM0
 replace h1_0 := Rep.mono hM0 _ _ h1_0
 replace q1_0 := fun j v h => hM0.cell (q1_0 j v h)
 obtain ⟨A_1, cap_1, A_2, cap_2, A_3, cap_3, rfl, h_1, h_2, h_3⟩ := TC0.opn h1_0
 refine R_enter 19 Tryd.func60 rfl rfl (by simp) fun a0 f0 => RR (Y f0 1 fun _ f => eT (R_seq (RR (Y f 3 fun _ f => eT (wp_block ?_)))))
 obtain ⟨b_1, hL_1, hF_1⟩ := bS hF
 refine wp_mono (Q := fun e a w => (e = .ret ∧ (∃ y_1 : Int, b_1 = .inl y_1 ∧ ∃ M_2 : Mem, M1.le M_2 ∧ Frm 19 [(4, .int .i64 y_1)] a ∧ Hp w0 M_2 (H) w)) ∨ (e = .exit 0 ∧ (∃ y_2 : Unit, b_1 = .inr y_2 ∧ ∃ M_3 : Mem, M1.le M_3 ∧ Frm 19 [] a ∧ Hp w0 M_3 (H) w))) (R_loop (n := 19) (w0 := w0) (M := M1) (fun (x : Nat × Int) => match x with | (m_1, s_1) => [(1, .func (.func 61) #[] #[.pointer (some ad1_0)]), (7, .slice A0 d0.length cap0), (8, .int .i64 ((d0.length : Nat) : Int)), (9, .int .i64 s_1)]) (fun (x : Nat × Int) => match x with | (m_1, s_1) => (H)) (fun (x : Nat × Int) (MM : Mem) => match x with | (m_1, s_1) => loopF (params_find_5_s1 n d0 d1_0) m_1 s_1 = some b_1) (fun (x : Nat × Int) => match x with | (m_1, s_1) => m_1) (n, (0 : Int)) (f.kp) p0 hL_1 ?_) ?_
 ·rintro ⟨m_1, s_1⟩ M_1 _ w_1 hM_1 I_1 f p_1
  have I_1L := I_1
  obtain ⟨m_2, r_1, rfl, hs_1, hn_1⟩ := loop_step I_1L
  unfold params_find_5_s1 at hs_1
  refine RR (Y f 1 fun _ f => eT (R_seq (RcF f hs_1 (fun h_4 hF_2 => ?_) fun h_4 hF_8 => ?_)))
  ·have k_1 := dI.1 h_4
   refine wp_skip (T_n (R_seq (wp_block (RR (Y f 1 fun _ f => ?_)))))
   obtain ⟨x_1, hx_1, hF_3⟩ := bS hF_2
   obtain ⟨ad_1, c_1, e_1, -, hr_1, hc_1⟩ := Sli.at_ (h0.mono hM_1) hx_1
   obtain ⟨A_4, cap_4, A_5, cap_5, rfl, h_5, h_6⟩ := TB0.opn hr_1
   refine Z f (Y30 e_1 rfl (len := d0.length) (cap := cap0) (k := .i64) (i := s_1) (e := 33) (sz := 6) (getI_nn hx_1) (getI_lt hx_1)) fun _ f => Z (v := .agg #[.int .i8 x_1.fKind, .bool x_1.fBool, .int .i64 x_1.fNum, S x_1.fText, .slice A_4 x_1.fList.length cap_4, .slice A_5 x_1.fKeys.length cap_5]) f (Y32 (cs := [.int .i8 x_1.fKind, .bool x_1.fBool, .int .i64 x_1.fNum, S x_1.fText, .slice A_4 x_1.fList.length cap_4, .slice A_5 x_1.fKeys.length cap_5]) rfl (ad := ad_1.add (s_1.toNat * 6)) (fun j v h => p_1.cell (hc_1 j v h))) fun _ f => Y12 f p_1 (.cells #[.int .i8 0, .bool false, .int .i64 0, S [], .slice none 0 0, .slice none 0 0] 33 (0, 0)) fun b_2 w_2 p_2 _ f => Y f 1 fun _ f => Y28 (vs := [.int .i8 x_1.fKind, .bool x_1.fBool, .int .i64 x_1.fNum, S x_1.fText, .slice A_4 x_1.fList.length cap_4, .slice A_5 x_1.fKeys.length cap_5]) (j := 0) f p_2 rfl rfl (by simp [Value.oneCell', S]) (by simp) (by decide) (cs' := #[.int .i8 x_1.fKind, .bool x_1.fBool, .int .i64 x_1.fNum, S x_1.fText, .slice A_4 x_1.fList.length cap_4, .slice A_5 x_1.fKeys.length cap_5]) fun w_3 p_3 _ f => eT (RR (Y f 1 fun _ f => Z (v := .agg #[.int .i8 x_1.fKind, .bool x_1.fBool, .int .i64 x_1.fNum, S x_1.fText, .slice A_4 x_1.fList.length cap_4, .slice A_5 x_1.fKeys.length cap_5]) f (Y32 (cs := [.int .i8 x_1.fKind, .bool x_1.fBool, .int .i64 x_1.fNum, S x_1.fText, .slice A_4 x_1.fList.length cap_4, .slice A_5 x_1.fKeys.length cap_5]) rfl (ad := ⟨b_2, 0, none⟩) (own_cells (p_3.ownCell 0 rfl) 0 rfl)) fun _ f => ?_))
   obtain ⟨x_2, hx_2, hF_4⟩ := bS hF_3
   refine Y18 f p_3 (params_may_2_1_ok n _ (GL.mono hM_1 hG) _ x_1 (TB0.shutx (x := x_1) h_5 h_6) ad1_0 [S d1_0.fName, .bool d1_0.fNumber, .bool d1_0.fHas, .int .i8 d1_0.fDefault.fKind, .bool d1_0.fDefault.fBool, .int .i64 d1_0.fDefault.fNum, S d1_0.fDefault.fText, .slice A_1 d1_0.fDefault.fList.length cap_1, .slice A_2 d1_0.fDefault.fKeys.length cap_2, .slice A_3 d1_0.fAllowed.length cap_3] d1_0 (TC0.shutx (x := d1_0) (h_1.mono hM_1) (h_2.mono hM_1) (h_3.mono hM_1)) (fz_at ((fzu hM_1 q1_0)) 0 rfl) x_2 hx_2) fun w_4 p_4 _ f => eT (RcF f hF_4 (fun h_7 hF_5 => ?_) fun h_7 hF_6 => ?_)
   ·refine RR (Y f 2 fun _ f => eT (wp_ret (B_r (T_r (T_r ?_)))))
    obtain rfl := sI hF_5
    exact .inl ⟨rfl, s_1, (sI hn_1).symm, M_1, hM_1, f.kp, (p_4.dropN 1)⟩
   ·refine wp_skip (B_n (T_n (R_reg ?_)))
    obtain ⟨g_1, hF_7⟩ := nS hF_6
    refine Y f 1 fun _ f => ?_
    have f := f.st 18 (congrArg (Value.int .i64) (inR_wrap g_1))
    refine Y f 1 fun _ f => eT ?_
    obtain rfl := sI hF_7
    exact ⟨⟨m_2, s_1 + 1⟩, Nat.lt_succ_self _, M_1, hM_1, hn_1, f.kp, (p_4.dropN 1)⟩
  ·have k_4 := iff_f dI h_4
   refine wp_exit (T_x (T_x ?_))
   obtain rfl := sI hF_8
   exact .inr ⟨rfl, (), (sI hn_1).symm, M_1, hM_1, f.kp, p_1⟩
 ·rintro _ _ w_7 (⟨rfl, y_1, rfl, M_2, hM_2, f, p_5⟩ | ⟨rfl, y_2, rfl, M_3, hM_3, f, p_6⟩)
  ·refine B_r (T_r (E_ret1 f rfl (by kernel_rfl : Vc.look _ 4 = some (.int .i64 y_1)) ?_))
   obtain rfl := sI hF_1
   exact ⟨_, rfl, M_2, hM_2, p_5, rfl⟩
  ·refine B_x (T_n (RR (Y f 1 fun _ f => eT (wp_ret (E_ret1 f rfl (by kernel_rfl : Vc.look _ 4 = some (.int .i64 (-1))) ?_)))))
   obtain rfl := sI hF_1
   exact ⟨_, rfl, M_3, hM_3, p_6, rfl⟩
def params_may_2 (n : Nat) (d0 : TC0) : Option Bool :=
  (params_find_5 n d0.fAllowed d0).bind fun x_1 =>
  some ((decide ((0 : Int) ≤ x_1)))
theorem params_may_2_ok (n : Nat) (M : Mem) (hG : GL M) (ad0 : Addr) (c0 : List Value) (d0 : TC0) (h0 : Rep M (emb_TC0 d0) c0) (q0 : ∀ j v, c0[j]? = some v → M.cell? (ad0.add j) = some v) (r : Bool) (hF : params_may_2 n d0 = some r) : Ok Tryd.prog M 59 [.pointer (some ad0)] (fun _ v => v = .bool r) := by
 unfold params_may_2 at hF
 intro M1 hM0 w0 H w p0
 replace hG := GL.mono hM0 hG
 replace h0 := Rep.mono hM0 _ _ h0
 replace q0 := fun j v h => hM0.cell (q0 j v h)
 obtain ⟨A_1, cap_1, A_2, cap_2, A_3, cap_3, rfl, h_1, h_2, h_3⟩ := TC0.opn h0
 refine R_enter 7 Tryd.func59 rfl rfl (by simp) fun a0 f0 => RR (Y f0 1 fun _ f => eT (RR (Y f 1 fun _ f => Y15 f p0 q0 9 rfl fun _ f => Y f 1 fun _ f => ?_)))
 obtain ⟨x_1, hx_1, hF_1⟩ := bS hF
 refine Y18 f p0 (params_find_5_ok n _ hG A_3 cap_3 d0.fAllowed h_3 ad0 [S d0.fName, .bool d0.fNumber, .bool d0.fHas, .int .i8 d0.fDefault.fKind, .bool d0.fDefault.fBool, .int .i64 d0.fDefault.fNum, S d0.fDefault.fText, .slice A_1 d0.fDefault.fList.length cap_1, .slice A_2 d0.fDefault.fKeys.length cap_2, .slice A_3 d0.fAllowed.length cap_3] d0 (TC0.shutx (x := d0) h_1 h_2 h_3) (fz_at (q0) 0 rfl) x_1 hx_1) fun w_1 p_1 _ f => Y f 2 fun _ f => eT (wp_ret (E_ret1 f rfl (by kernel_rfl : Vc.look _ 1 = some (.bool (decide ((0 : Int) ≤ x_1)))) ?_))
 obtain rfl := sI hF_1
 exact ⟨_, rfl, M1, (mR _), p_1, rfl⟩
def params_may_6_2 (n : Nat) (d0_0 : TC0) : Option Bool :=
  (params_may_2 n d0_0).bind fun x_1 =>
  some ((x_1))
theorem params_may_6_2_ok (n : Nat) (M : Mem) (hG : GL M) (ad0_0 : Addr) (c0_0 : List Value) (d0_0 : TC0) (h0_0 : Rep M (emb_TC0 d0_0) c0_0) (q0_0 : ∀ j v, c0_0[j]? = some v → M.cell? (ad0_0.add j) = some v) (r : Bool) (hF : params_may_6_2 n d0_0 = some r) : Ok Tryd.prog M 67 [.func (.func 59) #[] #[.pointer (some ad0_0)]] (fun _ v => v = .bool r) := by
 unfold params_may_6_2 at hF
 intro M1 hM0 w0 H w p0
 replace hG := GL.mono hM0 hG
 replace h0_0 := Rep.mono hM0 _ _ h0_0
 replace q0_0 := fun j v h => hM0.cell (q0_0 j v h)
 obtain ⟨A_1, cap_1, A_2, cap_2, A_3, cap_3, rfl, h_1, h_2, h_3⟩ := TC0.opn h0_0
 refine R_enter 5 Tryd.func67 rfl rfl (by simp) fun a0 f0 => RR (Y f0 1 fun _ f => eT (RR (Y f 1 fun _ f => ?_)))
 obtain ⟨x_1, hx_1, hF_1⟩ := bS hF
 refine Y18 f p0 (params_may_2_ok n _ hG ad0_0 [S d0_0.fName, .bool d0_0.fNumber, .bool d0_0.fHas, .int .i8 d0_0.fDefault.fKind, .bool d0_0.fDefault.fBool, .int .i64 d0_0.fDefault.fNum, S d0_0.fDefault.fText, .slice A_1 d0_0.fDefault.fList.length cap_1, .slice A_2 d0_0.fDefault.fKeys.length cap_2, .slice A_3 d0_0.fAllowed.length cap_3] d0_0 (TC0.shutx (x := d0_0) h_1 h_2 h_3) (fz_at (q0_0) 0 rfl) x_1 hx_1) fun w_1 p_1 _ f => Y f 1 fun _ f => eT (wp_ret (E_ret1 f rfl (by kernel_rfl : Vc.look _ 2 = some (.bool x_1)) ?_))
 obtain rfl := sI hF_1
 exact ⟨_, rfl, M1, (mR _), p_1, rfl⟩
def params_may_3 (n : Nat) (d0 : TC0) : Option Bool :=
  (params_twice n d0.fAllowed).bind fun x_1 =>
  some ((x_1))
theorem params_may_3_ok (n : Nat) (M : Mem) (hG : GL M) (ad0 : Addr) (c0 : List Value) (d0 : TC0) (h0 : Rep M (emb_TC0 d0) c0) (q0 : ∀ j v, c0[j]? = some v → M.cell? (ad0.add j) = some v) (r : Bool) (hF : params_may_3 n d0 = some r) : Ok Tryd.prog M 62 [.pointer (some ad0)] (fun _ v => v = .bool r) := by
 unfold params_may_3 at hF
 intro M1 hM0 w0 H w p0
 replace hG := GL.mono hM0 hG
 replace h0 := Rep.mono hM0 _ _ h0
 replace q0 := fun j v h => hM0.cell (q0 j v h)
 obtain ⟨A_1, cap_1, A_2, cap_2, A_3, cap_3, rfl, h_1, h_2, h_3⟩ := TC0.opn h0
 refine R_enter 5 Tryd.func62 rfl rfl (by simp) fun a0 f0 => RR (Y f0 1 fun _ f => eT (RR (Y f 1 fun _ f => Y15 f p0 q0 9 rfl fun _ f => ?_)))
 obtain ⟨x_1, hx_1, hF_1⟩ := bS hF
 refine Y18 f p0 (params_twice_ok n _ hG A_3 cap_3 d0.fAllowed h_3 x_1 hx_1) fun w_1 p_1 _ f => Y f 1 fun _ f => eT (wp_ret (E_ret1 f rfl (by kernel_rfl : Vc.look _ 1 = some (.bool x_1)) ?_))
 obtain rfl := sI hF_1
 exact ⟨_, rfl, M1, (mR _), p_1, rfl⟩
def params_may_6_3 (n : Nat) (d0_0 : TC0) : Option Bool :=
  (params_may_3 n d0_0).bind fun x_1 =>
  some ((x_1))
theorem params_may_6_3_ok (n : Nat) (M : Mem) (hG : GL M) (ad0_0 : Addr) (c0_0 : List Value) (d0_0 : TC0) (h0_0 : Rep M (emb_TC0 d0_0) c0_0) (q0_0 : ∀ j v, c0_0[j]? = some v → M.cell? (ad0_0.add j) = some v) (r : Bool) (hF : params_may_6_3 n d0_0 = some r) : Ok Tryd.prog M 67 [.func (.func 62) #[] #[.pointer (some ad0_0)]] (fun _ v => v = .bool r) := by
 unfold params_may_6_3 at hF
 intro M1 hM0 w0 H w p0
 replace hG := GL.mono hM0 hG
 replace h0_0 := Rep.mono hM0 _ _ h0_0
 replace q0_0 := fun j v h => hM0.cell (q0_0 j v h)
 obtain ⟨A_1, cap_1, A_2, cap_2, A_3, cap_3, rfl, h_1, h_2, h_3⟩ := TC0.opn h0_0
 refine R_enter 5 Tryd.func67 rfl rfl (by simp) fun a0 f0 => RR (Y f0 1 fun _ f => eT (RR (Y f 1 fun _ f => ?_)))
 obtain ⟨x_1, hx_1, hF_1⟩ := bS hF
 refine Y18 f p0 (params_may_3_ok n _ hG ad0_0 [S d0_0.fName, .bool d0_0.fNumber, .bool d0_0.fHas, .int .i8 d0_0.fDefault.fKind, .bool d0_0.fDefault.fBool, .int .i64 d0_0.fDefault.fNum, S d0_0.fDefault.fText, .slice A_1 d0_0.fDefault.fList.length cap_1, .slice A_2 d0_0.fDefault.fKeys.length cap_2, .slice A_3 d0_0.fAllowed.length cap_3] d0_0 (TC0.shutx (x := d0_0) h_1 h_2 h_3) (fz_at (q0_0) 0 rfl) x_1 hx_1) fun w_1 p_1 _ f => Y f 1 fun _ f => eT (wp_ret (E_ret1 f rfl (by kernel_rfl : Vc.look _ 2 = some (.bool x_1)) ?_))
 obtain rfl := sI hF_1
 exact ⟨_, rfl, M1, (mR _), p_1, rfl⟩
def params_may_4 (n : Nat) (d0 : TC0) : Option Bool :=
  bif !d0.fHas then
    ((params_empty n (⟨d0.fDefault.fKind, (d0.fDefault.fBool), d0.fDefault.fNum, d0.fDefault.fText, d0.fDefault.fList, d0.fDefault.fKeys⟩ : TB0)).bind fun x_1 =>
    some ((!x_1)))
  else
    some ((false))
theorem params_may_4_ok (n : Nat) (M : Mem) (hG : GL M) (ad0 : Addr) (c0 : List Value) (d0 : TC0) (h0 : Rep M (emb_TC0 d0) c0) (q0 : ∀ j v, c0[j]? = some v → M.cell? (ad0.add j) = some v) (r : Bool) (hF : params_may_4 n d0 = some r) : Ok Tryd.prog M 64 [.pointer (some ad0)] (fun _ v => v = .bool r) := by
 unfold params_may_4 at hF
 intro M1 hM0 w0 H w p0
 replace hG := GL.mono hM0 hG
 replace h0 := Rep.mono hM0 _ _ h0
 replace q0 := fun j v h => hM0.cell (q0 j v h)
 obtain ⟨A_1, cap_1, A_2, cap_2, A_3, cap_3, rfl, h_1, h_2, h_3⟩ := TC0.opn h0
 refine R_enter 11 Tryd.func64 rfl rfl (by simp) fun a0 f0 => RR (Y f0 1 fun _ f => eT (RR (Y f 1 fun _ f => Y15 f p0 q0 2 rfl fun _ f => Y f 2 fun _ f => ?_)))
 rcases cE hF with ⟨h_4, hF_1⟩ | ⟨h_4, hF_3⟩
 ·have k_1 : (d0.fHas) = false := by simpa using h_4
  have f := f.st 5 (cB h_4)
  refine Y f 1 fun _ f => Z (v := .agg #[.int .i8 d0.fDefault.fKind, .bool d0.fDefault.fBool, .int .i64 d0.fDefault.fNum, S d0.fDefault.fText, .slice A_1 d0.fDefault.fList.length cap_1, .slice A_2 d0.fDefault.fKeys.length cap_2]) f (Y32 (cs := [.int .i8 d0.fDefault.fKind, .bool d0.fDefault.fBool, .int .i64 d0.fDefault.fNum, S d0.fDefault.fText, .slice A_1 d0.fDefault.fList.length cap_1, .slice A_2 d0.fDefault.fKeys.length cap_2]) rfl (ad := ad0.add 3) (fz_part (base := ad0) (fun j v h => p0.cell (q0 j v h)) 3 rfl)) fun _ f => ?_
  obtain ⟨x_1, hx_1, hF_2⟩ := bS hF_1
  refine Y18 f p0 (params_empty_ok n _ hG _ (⟨d0.fDefault.fKind, (d0.fDefault.fBool), d0.fDefault.fNum, d0.fDefault.fText, d0.fDefault.fList, d0.fDefault.fKeys⟩ : TB0) (TB0.shut h_1 h_2) x_1 hx_1) fun w_1 p_1 _ f => Y f 3 fun _ f => eT (wp_ret (E_ret1 f rfl (by kernel_rfl : Vc.look _ 1 = some (.bool !x_1)) ?_))
  obtain rfl := sI hF_2
  exact ⟨_, rfl, M1, (mR _), p_1, rfl⟩
 ·have k_2 : (d0.fHas) = true := by simpa using h_4
  have f := f.st 5 (cB h_4)
  refine Y f 6 fun _ f => eT (wp_ret (E_ret1 f rfl (by kernel_rfl : Vc.look _ 1 = some (.bool false)) ?_))
  obtain rfl := sI hF_3
  exact ⟨_, rfl, M1, (mR _), p0, rfl⟩
def params_may_6_4 (n : Nat) (d0_0 : TC0) : Option Bool :=
  (params_may_4 n d0_0).bind fun x_1 =>
  some ((x_1))
theorem params_may_6_4_ok (n : Nat) (M : Mem) (hG : GL M) (ad0_0 : Addr) (c0_0 : List Value) (d0_0 : TC0) (h0_0 : Rep M (emb_TC0 d0_0) c0_0) (q0_0 : ∀ j v, c0_0[j]? = some v → M.cell? (ad0_0.add j) = some v) (r : Bool) (hF : params_may_6_4 n d0_0 = some r) : Ok Tryd.prog M 67 [.func (.func 64) #[] #[.pointer (some ad0_0)]] (fun _ v => v = .bool r) := by
 unfold params_may_6_4 at hF
 intro M1 hM0 w0 H w p0
 replace hG := GL.mono hM0 hG
 replace h0_0 := Rep.mono hM0 _ _ h0_0
 replace q0_0 := fun j v h => hM0.cell (q0_0 j v h)
 obtain ⟨A_1, cap_1, A_2, cap_2, A_3, cap_3, rfl, h_1, h_2, h_3⟩ := TC0.opn h0_0
 refine R_enter 5 Tryd.func67 rfl rfl (by simp) fun a0 f0 => RR (Y f0 1 fun _ f => eT (RR (Y f 1 fun _ f => ?_)))
 obtain ⟨x_1, hx_1, hF_1⟩ := bS hF
 refine Y18 f p0 (params_may_4_ok n _ hG ad0_0 [S d0_0.fName, .bool d0_0.fNumber, .bool d0_0.fHas, .int .i8 d0_0.fDefault.fKind, .bool d0_0.fDefault.fBool, .int .i64 d0_0.fDefault.fNum, S d0_0.fDefault.fText, .slice A_1 d0_0.fDefault.fList.length cap_1, .slice A_2 d0_0.fDefault.fKeys.length cap_2, .slice A_3 d0_0.fAllowed.length cap_3] d0_0 (TC0.shutx (x := d0_0) h_1 h_2 h_3) (fz_at (q0_0) 0 rfl) x_1 hx_1) fun w_1 p_1 _ f => Y f 1 fun _ f => eT (wp_ret (E_ret1 f rfl (by kernel_rfl : Vc.look _ 2 = some (.bool x_1)) ?_))
 obtain rfl := sI hF_1
 exact ⟨_, rfl, M1, (mR _), p_1, rfl⟩
def params_may_5 (n : Nat) (d0 : TC0) : Option Bool :=
  bif d0.fHas then
    ((params_kind n d0 (⟨d0.fDefault.fKind, (d0.fDefault.fBool), d0.fDefault.fNum, d0.fDefault.fText, d0.fDefault.fList, d0.fDefault.fKeys⟩ : TB0)).bind fun x_1 =>
    bif x_1 then
      ((params_allowed n d0 (⟨d0.fDefault.fKind, (d0.fDefault.fBool), d0.fDefault.fNum, d0.fDefault.fText, d0.fDefault.fList, d0.fDefault.fKeys⟩ : TB0)).bind fun x_2 =>
      some ((!x_2)))
    else
      some ((true)))
  else
    some ((false))
theorem params_may_5_ok (n : Nat) (M : Mem) (hG : GL M) (ad0 : Addr) (c0 : List Value) (d0 : TC0) (h0 : Rep M (emb_TC0 d0) c0) (q0 : ∀ j v, c0[j]? = some v → M.cell? (ad0.add j) = some v) (r : Bool) (hF : params_may_5 n d0 = some r) : Ok Tryd.prog M 65 [.pointer (some ad0)] (fun _ v => v = .bool r) := by
 unfold params_may_5 at hF
 intro M1 hM0 w0 H w p0
 replace hG := GL.mono hM0 hG
 replace h0 := Rep.mono hM0 _ _ h0
 replace q0 := fun j v h => hM0.cell (q0 j v h)
 obtain ⟨A_1, cap_1, A_2, cap_2, A_3, cap_3, rfl, h_1, h_2, h_3⟩ := TC0.opn h0
 refine R_enter 17 Tryd.func65 rfl rfl (by simp) fun a0 f0 => RR (Y f0 1 fun _ f => eT (RR (Y f 1 fun _ f => Y15 f p0 q0 2 rfl fun _ f => Y f 1 fun _ f => ?_)))
 rcases cE hF with ⟨h_4, hF_1⟩ | ⟨h_4, hF_6⟩
 ·have f := f.st 4 (cB h_4)
  refine Z (v := .agg #[S d0.fName, .bool d0.fNumber, .bool d0.fHas, .int .i8 d0.fDefault.fKind, .bool d0.fDefault.fBool, .int .i64 d0.fDefault.fNum, S d0.fDefault.fText, .slice A_1 d0.fDefault.fList.length cap_1, .slice A_2 d0.fDefault.fKeys.length cap_2, .slice A_3 d0.fAllowed.length cap_3]) f (Y32 (cs := [S d0.fName, .bool d0.fNumber, .bool d0.fHas, .int .i8 d0.fDefault.fKind, .bool d0.fDefault.fBool, .int .i64 d0.fDefault.fNum, S d0.fDefault.fText, .slice A_1 d0.fDefault.fList.length cap_1, .slice A_2 d0.fDefault.fKeys.length cap_2, .slice A_3 d0.fAllowed.length cap_3]) rfl (ad := ad0) (fun j v h => p0.cell (q0 j v h))) fun _ f => Y f 1 fun _ f => Z (v := .agg #[.int .i8 d0.fDefault.fKind, .bool d0.fDefault.fBool, .int .i64 d0.fDefault.fNum, S d0.fDefault.fText, .slice A_1 d0.fDefault.fList.length cap_1, .slice A_2 d0.fDefault.fKeys.length cap_2]) f (Y32 (cs := [.int .i8 d0.fDefault.fKind, .bool d0.fDefault.fBool, .int .i64 d0.fDefault.fNum, S d0.fDefault.fText, .slice A_1 d0.fDefault.fList.length cap_1, .slice A_2 d0.fDefault.fKeys.length cap_2]) rfl (ad := ad0.add 3) (fz_part (base := ad0) (fun j v h => p0.cell (q0 j v h)) 3 rfl)) fun _ f => ?_
  obtain ⟨x_1, hx_1, hF_2⟩ := bS hF_1
  refine Y18 f p0 (params_kind_ok n _ hG _ d0 (TC0.shutx (x := d0) h_1 h_2 h_3) _ (⟨d0.fDefault.fKind, (d0.fDefault.fBool), d0.fDefault.fNum, d0.fDefault.fText, d0.fDefault.fList, d0.fDefault.fKeys⟩ : TB0) (TB0.shut h_1 h_2) x_1 hx_1) fun w_1 p_1 _ f => Y f 1 fun _ f => ?_
  rcases cE hF_2 with ⟨h_5, hF_3⟩ | ⟨h_5, hF_5⟩
  ·have f := f.st 9 (cB h_5)
   refine Z (v := .agg #[S d0.fName, .bool d0.fNumber, .bool d0.fHas, .int .i8 d0.fDefault.fKind, .bool d0.fDefault.fBool, .int .i64 d0.fDefault.fNum, S d0.fDefault.fText, .slice A_1 d0.fDefault.fList.length cap_1, .slice A_2 d0.fDefault.fKeys.length cap_2, .slice A_3 d0.fAllowed.length cap_3]) f (Y32 (cs := [S d0.fName, .bool d0.fNumber, .bool d0.fHas, .int .i8 d0.fDefault.fKind, .bool d0.fDefault.fBool, .int .i64 d0.fDefault.fNum, S d0.fDefault.fText, .slice A_1 d0.fDefault.fList.length cap_1, .slice A_2 d0.fDefault.fKeys.length cap_2, .slice A_3 d0.fAllowed.length cap_3]) rfl (ad := ad0) (fun j v h => p_1.cell (q0 j v h))) fun _ f => Y f 1 fun _ f => Z (v := .agg #[.int .i8 d0.fDefault.fKind, .bool d0.fDefault.fBool, .int .i64 d0.fDefault.fNum, S d0.fDefault.fText, .slice A_1 d0.fDefault.fList.length cap_1, .slice A_2 d0.fDefault.fKeys.length cap_2]) f (Y32 (cs := [.int .i8 d0.fDefault.fKind, .bool d0.fDefault.fBool, .int .i64 d0.fDefault.fNum, S d0.fDefault.fText, .slice A_1 d0.fDefault.fList.length cap_1, .slice A_2 d0.fDefault.fKeys.length cap_2]) rfl (ad := ad0.add 3) (fz_part (base := ad0) (fun j v h => p_1.cell (q0 j v h)) 3 rfl)) fun _ f => ?_
   obtain ⟨x_2, hx_2, hF_4⟩ := bS hF_3
   refine Y18 f p_1 (params_allowed_ok n _ hG _ d0 (TC0.shutx (x := d0) h_1 h_2 h_3) _ (⟨d0.fDefault.fKind, (d0.fDefault.fBool), d0.fDefault.fNum, d0.fDefault.fText, d0.fDefault.fList, d0.fDefault.fKeys⟩ : TB0) (TB0.shut h_1 h_2) x_2 hx_2) fun w_2 p_2 _ f => Y f 4 fun _ f => eT (wp_ret (E_ret1 f rfl (by kernel_rfl : Vc.look _ 1 = some (.bool !x_2)) ?_))
   obtain rfl := sI hF_4
   exact ⟨_, rfl, M1, (mR _), p_2, rfl⟩
  ·have f := f.st 9 (cB h_5)
   refine Y f 8 fun _ f => eT (wp_ret (E_ret1 f rfl (by kernel_rfl : Vc.look _ 1 = some (.bool true)) ?_))
   obtain rfl := sI hF_5
   exact ⟨_, rfl, M1, (mR _), p_1, rfl⟩
 ·have f := f.st 4 (cB h_4)
  refine Y f 13 fun _ f => eT (wp_ret (E_ret1 f rfl (by kernel_rfl : Vc.look _ 1 = some (.bool false)) ?_))
  obtain rfl := sI hF_6
  exact ⟨_, rfl, M1, (mR _), p0, rfl⟩
def params_may_6_5 (n : Nat) (d0_0 : TC0) : Option Bool :=
  (params_may_5 n d0_0).bind fun x_1 =>
  some ((x_1))
theorem params_may_6_5_ok (n : Nat) (M : Mem) (hG : GL M) (ad0_0 : Addr) (c0_0 : List Value) (d0_0 : TC0) (h0_0 : Rep M (emb_TC0 d0_0) c0_0) (q0_0 : ∀ j v, c0_0[j]? = some v → M.cell? (ad0_0.add j) = some v) (r : Bool) (hF : params_may_6_5 n d0_0 = some r) : Ok Tryd.prog M 67 [.func (.func 65) #[] #[.pointer (some ad0_0)]] (fun _ v => v = .bool r) := by
 unfold params_may_6_5 at hF
 intro M1 hM0 w0 H w p0
 replace hG := GL.mono hM0 hG
 replace h0_0 := Rep.mono hM0 _ _ h0_0
 replace q0_0 := fun j v h => hM0.cell (q0_0 j v h)
 obtain ⟨A_1, cap_1, A_2, cap_2, A_3, cap_3, rfl, h_1, h_2, h_3⟩ := TC0.opn h0_0
 refine R_enter 5 Tryd.func67 rfl rfl (by simp) fun a0 f0 => RR (Y f0 1 fun _ f => eT (RR (Y f 1 fun _ f => ?_)))
 obtain ⟨x_1, hx_1, hF_1⟩ := bS hF
 refine Y18 f p0 (params_may_5_ok n _ hG ad0_0 [S d0_0.fName, .bool d0_0.fNumber, .bool d0_0.fHas, .int .i8 d0_0.fDefault.fKind, .bool d0_0.fDefault.fBool, .int .i64 d0_0.fDefault.fNum, S d0_0.fDefault.fText, .slice A_1 d0_0.fDefault.fList.length cap_1, .slice A_2 d0_0.fDefault.fKeys.length cap_2, .slice A_3 d0_0.fAllowed.length cap_3] d0_0 (TC0.shutx (x := d0_0) h_1 h_2 h_3) (fz_at (q0_0) 0 rfl) x_1 hx_1) fun w_1 p_1 _ f => Y f 1 fun _ f => eT (wp_ret (E_ret1 f rfl (by kernel_rfl : Vc.look _ 2 = some (.bool x_1)) ?_))
 obtain rfl := sI hF_1
 exact ⟨_, rfl, M1, (mR _), p_1, rfl⟩
def params_find_4 (n : Nat) (d0_0_0 : TC0) (d0_1_0 : TC0) (d0_2_0 : TC0) (d0_3_0 : TC0) (d0_4_0 : TC0) : Option Int :=
  (params_may_6 n d0_0_0).bind fun x_1 =>
  bif x_1 then
    (some ((0 : Int)))
  else
    (params_may_6_2 n d0_1_0).bind fun x_2 =>
    bif x_2 then
      (some ((1 : Int)))
    else
      (params_may_6_3 n d0_2_0).bind fun x_3 =>
      bif x_3 then
        (some ((2 : Int)))
      else
        (params_may_6_4 n d0_3_0).bind fun x_4 =>
        bif x_4 then
          (some ((3 : Int)))
        else
          (params_may_6_5 n d0_4_0).bind fun x_5 =>
          bif x_5 then
            (some ((4 : Int)))
          else
            some ((-1 : Int))
theorem params_find_4_ok (n : Nat) (M : Mem) (hG : GL M) (ad0_0_0 : Addr) (c0_0_0 : List Value) (d0_0_0 : TC0) (h0_0_0 : Rep M (emb_TC0 d0_0_0) c0_0_0) (q0_0_0 : ∀ j v, c0_0_0[j]? = some v → M.cell? (ad0_0_0.add j) = some v) (ad0_1_0 : Addr) (c0_1_0 : List Value) (d0_1_0 : TC0) (h0_1_0 : Rep M (emb_TC0 d0_1_0) c0_1_0) (q0_1_0 : ∀ j v, c0_1_0[j]? = some v → M.cell? (ad0_1_0.add j) = some v) (ad0_2_0 : Addr) (c0_2_0 : List Value) (d0_2_0 : TC0) (h0_2_0 : Rep M (emb_TC0 d0_2_0) c0_2_0) (q0_2_0 : ∀ j v, c0_2_0[j]? = some v → M.cell? (ad0_2_0.add j) = some v) (ad0_3_0 : Addr) (c0_3_0 : List Value) (d0_3_0 : TC0) (h0_3_0 : Rep M (emb_TC0 d0_3_0) c0_3_0) (q0_3_0 : ∀ j v, c0_3_0[j]? = some v → M.cell? (ad0_3_0.add j) = some v) (ad0_4_0 : Addr) (c0_4_0 : List Value) (d0_4_0 : TC0) (h0_4_0 : Rep M (emb_TC0 d0_4_0) c0_4_0) (q0_4_0 : ∀ j v, c0_4_0[j]? = some v → M.cell? (ad0_4_0.add j) = some v) (ad0 : Addr) (q0 : ∀ j v, [(.func (.func 57) #[] #[.pointer (some ad0_0_0)] : Value), .func (.func 59) #[] #[.pointer (some ad0_1_0)], .func (.func 62) #[] #[.pointer (some ad0_2_0)], .func (.func 64) #[] #[.pointer (some ad0_3_0)], .func (.func 65) #[] #[.pointer (some ad0_4_0)]][j]? = some v → M.cell? (ad0.add j) = some v) (r : Int) (hF : params_find_4 n d0_0_0 d0_1_0 d0_2_0 d0_3_0 d0_4_0 = some r) : Ok Tryd.prog M 66 [.slice (some ad0) 5 5, .func (.func 67) #[] #[]] (fun _ v => v = .int .i64 r) := by
 unfold params_find_4 at hF
 intro M1 hM0 w0 H w p0
 replace hG := GL.mono hM0 hG
 replace h0_0_0 := Rep.mono hM0 _ _ h0_0_0
 replace q0_0_0 := fun j v h => hM0.cell (q0_0_0 j v h)
 replace h0_1_0 := Rep.mono hM0 _ _ h0_1_0
 replace q0_1_0 := fun j v h => hM0.cell (q0_1_0 j v h)
 replace h0_2_0 := Rep.mono hM0 _ _ h0_2_0
 replace q0_2_0 := fun j v h => hM0.cell (q0_2_0 j v h)
 replace h0_3_0 := Rep.mono hM0 _ _ h0_3_0
 replace q0_3_0 := fun j v h => hM0.cell (q0_3_0 j v h)
 replace h0_4_0 := Rep.mono hM0 _ _ h0_4_0
 replace q0_4_0 := fun j v h => hM0.cell (q0_4_0 j v h)
 replace q0 := fun j v h => hM0.cell (q0 j v h)
 obtain ⟨A_1, cap_1, A_2, cap_2, A_3, cap_3, rfl, h_1, h_2, h_3⟩ := TC0.opn h0_0_0
 obtain ⟨A_4, cap_4, A_5, cap_5, A_6, cap_6, rfl, h_4, h_5, h_6⟩ := TC0.opn h0_1_0
 obtain ⟨A_7, cap_7, A_8, cap_8, A_9, cap_9, rfl, h_7, h_8, h_9⟩ := TC0.opn h0_2_0
 obtain ⟨A_10, cap_10, A_11, cap_11, A_12, cap_12, rfl, h_10, h_11, h_12⟩ := TC0.opn h0_3_0
 obtain ⟨A_13, cap_13, A_14, cap_14, A_15, cap_15, rfl, h_13, h_14, h_15⟩ := TC0.opn h0_4_0
 refine R_enter 19 Tryd.func66 rfl rfl (by simp) fun a0 f0 => RR (Y f0 1 fun _ f => eT (R_seq (RR (Y f 3 fun _ f => eT (wp_block (wp_loop_rounds 6 (rounds_go (RR (Y f 1 fun _ f => eT (R_seq ?_))))))))))
 refine Y8 f (wp_skip (T_n (R_seq (wp_block (RR (Y f 1 fun _ f => Z f (Y29 rfl (ad := ad0) (len := 5) (cap := 5) (k := .i64) (i := 0) (e := 25) (sz := 1) (by decide) (by decide)) fun _ f => Y15 f p0 q0 0 rfl fun _ f => Y f 2 fun _ f => eT (RR (Y f 2 fun _ f => ?_))))))))
 obtain ⟨x_1, hx_1, hF_1⟩ := bS hF
 refine Y18 f p0 (params_may_6_ok n _ hG ad0_0_0 [S d0_0_0.fName, .bool d0_0_0.fNumber, .bool d0_0_0.fHas, .int .i8 d0_0_0.fDefault.fKind, .bool d0_0_0.fDefault.fBool, .int .i64 d0_0_0.fDefault.fNum, S d0_0_0.fDefault.fText, .slice A_1 d0_0_0.fDefault.fList.length cap_1, .slice A_2 d0_0_0.fDefault.fKeys.length cap_2, .slice A_3 d0_0_0.fAllowed.length cap_3] d0_0_0 (TC0.shutx (x := d0_0_0) h_1 h_2 h_3) (fz_at (q0_0_0) 0 rfl) x_1 hx_1) fun w_1 p_1 _ f => eT (RcF f hF_1 (fun h_16 hF_2 => ?_) fun h_16 hF_3 => ?_)
 ·refine RR (Y f 2 fun _ f => eT (wp_ret (B_r (T_r (T_r (B_r (T_r (E_ret1 f rfl (by kernel_rfl : Vc.look _ 4 = some (.int .i64 0)) ?_))))))))
  obtain rfl := sI hF_2
  exact ⟨_, rfl, M1, (mR _), p_1, rfl⟩
 ·refine wp_skip (B_n (T_n (R_reg (Y f 2 fun _ f => eT (rounds_go (RR (Y f 1 fun _ f => eT (R_seq (Y8 f (wp_skip (T_n (R_seq (wp_block (RR (Y f 1 fun _ f => Z f (Y29 rfl (ad := ad0) (len := 5) (cap := 5) (k := .i64) (i := 1) (e := 25) (sz := 1) (by decide) (by decide)) fun _ f => ?_)))))))))))))))
  refine Y15 f p_1 q0 1 rfl fun _ f => Y f 2 fun _ f => eT (RR (Y f 2 fun _ f => ?_))
  obtain ⟨x_2, hx_2, hF_4⟩ := bS hF_3
  refine Y18 f p_1 (params_may_6_2_ok n _ hG ad0_1_0 [S d0_1_0.fName, .bool d0_1_0.fNumber, .bool d0_1_0.fHas, .int .i8 d0_1_0.fDefault.fKind, .bool d0_1_0.fDefault.fBool, .int .i64 d0_1_0.fDefault.fNum, S d0_1_0.fDefault.fText, .slice A_4 d0_1_0.fDefault.fList.length cap_4, .slice A_5 d0_1_0.fDefault.fKeys.length cap_5, .slice A_6 d0_1_0.fAllowed.length cap_6] d0_1_0 (TC0.shutx (x := d0_1_0) h_4 h_5 h_6) (fz_at (q0_1_0) 0 rfl) x_2 hx_2) fun w_2 p_2 _ f => eT (RcF f hF_4 (fun h_17 hF_5 => ?_) fun h_17 hF_6 => ?_)
  ·refine RR (Y f 2 fun _ f => eT (wp_ret (B_r (T_r (T_r (B_r (T_r (E_ret1 f rfl (by kernel_rfl : Vc.look _ 4 = some (.int .i64 1)) ?_))))))))
   obtain rfl := sI hF_5
   exact ⟨_, rfl, M1, (mR _), p_2, rfl⟩
  ·refine wp_skip (B_n (T_n (R_reg (Y f 2 fun _ f => eT (rounds_go (RR (Y f 1 fun _ f => eT (R_seq (Y8 f (wp_skip (T_n (R_seq (wp_block (RR (Y f 1 fun _ f => Z f (Y29 rfl (ad := ad0) (len := 5) (cap := 5) (k := .i64) (i := 2) (e := 25) (sz := 1) (by decide) (by decide)) fun _ f => ?_)))))))))))))))
   refine Y15 f p_2 q0 2 rfl fun _ f => Y f 2 fun _ f => eT (RR (Y f 2 fun _ f => ?_))
   obtain ⟨x_3, hx_3, hF_7⟩ := bS hF_6
   refine Y18 f p_2 (params_may_6_3_ok n _ hG ad0_2_0 [S d0_2_0.fName, .bool d0_2_0.fNumber, .bool d0_2_0.fHas, .int .i8 d0_2_0.fDefault.fKind, .bool d0_2_0.fDefault.fBool, .int .i64 d0_2_0.fDefault.fNum, S d0_2_0.fDefault.fText, .slice A_7 d0_2_0.fDefault.fList.length cap_7, .slice A_8 d0_2_0.fDefault.fKeys.length cap_8, .slice A_9 d0_2_0.fAllowed.length cap_9] d0_2_0 (TC0.shutx (x := d0_2_0) h_7 h_8 h_9) (fz_at (q0_2_0) 0 rfl) x_3 hx_3) fun w_3 p_3 _ f => eT (RcF f hF_7 (fun h_18 hF_8 => ?_) fun h_18 hF_9 => ?_)
   ·refine RR (Y f 2 fun _ f => eT (wp_ret (B_r (T_r (T_r (B_r (T_r (E_ret1 f rfl (by kernel_rfl : Vc.look _ 4 = some (.int .i64 2)) ?_))))))))
    obtain rfl := sI hF_8
    exact ⟨_, rfl, M1, (mR _), p_3, rfl⟩
   ·refine wp_skip (B_n (T_n (R_reg (Y f 2 fun _ f => eT (rounds_go (RR (Y f 1 fun _ f => eT (R_seq (Y8 f (wp_skip (T_n (R_seq (wp_block (RR (Y f 1 fun _ f => Z f (Y29 rfl (ad := ad0) (len := 5) (cap := 5) (k := .i64) (i := 3) (e := 25) (sz := 1) (by decide) (by decide)) fun _ f => ?_)))))))))))))))
    refine Y15 f p_3 q0 3 rfl fun _ f => Y f 2 fun _ f => eT (RR (Y f 2 fun _ f => ?_))
    obtain ⟨x_4, hx_4, hF_10⟩ := bS hF_9
    refine Y18 f p_3 (params_may_6_4_ok n _ hG ad0_3_0 [S d0_3_0.fName, .bool d0_3_0.fNumber, .bool d0_3_0.fHas, .int .i8 d0_3_0.fDefault.fKind, .bool d0_3_0.fDefault.fBool, .int .i64 d0_3_0.fDefault.fNum, S d0_3_0.fDefault.fText, .slice A_10 d0_3_0.fDefault.fList.length cap_10, .slice A_11 d0_3_0.fDefault.fKeys.length cap_11, .slice A_12 d0_3_0.fAllowed.length cap_12] d0_3_0 (TC0.shutx (x := d0_3_0) h_10 h_11 h_12) (fz_at (q0_3_0) 0 rfl) x_4 hx_4) fun w_4 p_4 _ f => eT (RcF f hF_10 (fun h_19 hF_11 => ?_) fun h_19 hF_12 => ?_)
    ·refine RR (Y f 2 fun _ f => eT (wp_ret (B_r (T_r (T_r (B_r (T_r (E_ret1 f rfl (by kernel_rfl : Vc.look _ 4 = some (.int .i64 3)) ?_))))))))
     obtain rfl := sI hF_11
     exact ⟨_, rfl, M1, (mR _), p_4, rfl⟩
    ·refine wp_skip (B_n (T_n (R_reg (Y f 2 fun _ f => eT (rounds_go (RR (Y f 1 fun _ f => eT (R_seq (Y8 f (wp_skip (T_n (R_seq (wp_block (RR (Y f 1 fun _ f => Z f (Y29 rfl (ad := ad0) (len := 5) (cap := 5) (k := .i64) (i := 4) (e := 25) (sz := 1) (by decide) (by decide)) fun _ f => ?_)))))))))))))))
     refine Y15 f p_4 q0 4 rfl fun _ f => Y f 2 fun _ f => eT (RR (Y f 2 fun _ f => ?_))
     obtain ⟨x_5, hx_5, hF_13⟩ := bS hF_12
     refine Y18 f p_4 (params_may_6_5_ok n _ hG ad0_4_0 [S d0_4_0.fName, .bool d0_4_0.fNumber, .bool d0_4_0.fHas, .int .i8 d0_4_0.fDefault.fKind, .bool d0_4_0.fDefault.fBool, .int .i64 d0_4_0.fDefault.fNum, S d0_4_0.fDefault.fText, .slice A_13 d0_4_0.fDefault.fList.length cap_13, .slice A_14 d0_4_0.fDefault.fKeys.length cap_14, .slice A_15 d0_4_0.fAllowed.length cap_15] d0_4_0 (TC0.shutx (x := d0_4_0) h_13 h_14 h_15) (fz_at (q0_4_0) 0 rfl) x_5 hx_5) fun w_5 p_5 _ f => eT (RcF f hF_13 (fun h_20 hF_14 => ?_) fun h_20 hF_15 => ?_)
     ·refine RR (Y f 2 fun _ f => eT (wp_ret (B_r (T_r (T_r (B_r (T_r (E_ret1 f rfl (by kernel_rfl : Vc.look _ 4 = some (.int .i64 4)) ?_))))))))
      obtain rfl := sI hF_14
      exact ⟨_, rfl, M1, (mR _), p_5, rfl⟩
     ·refine wp_skip (B_n (T_n (R_reg (Y f 2 fun _ f => eT (rounds_go (RR (Y f 1 fun _ f => eT (R_seq (Y7 f (wp_exit (T_x (T_x (B_x (T_n (RR (Y f 1 fun _ f => eT (wp_ret ?_)))))))))))))))))
      refine E_ret1 f rfl (by kernel_rfl : Vc.look _ 4 = some (.int .i64 (-1))) ?_
      obtain rfl := sI hF_15
      exact ⟨_, rfl, M1, (mR _), p_5, rfl⟩
def params_may (n : Nat) (d0 : TC0) : Option Bool :=
  (params_find_4 n d0 d0 d0 d0 d0).bind fun x_1 =>
  some ((decide (x_1 < 0)))
theorem params_may_ok (n : Nat) (M : Mem) (hG : GL M) (c0 : List Value) (d0 : TC0) (h0 : Rep M (emb_TC0 d0) c0) (r : Bool) (hF : params_may n d0 = some r) : Ok Tryd.prog M 32 [.agg c0.toArray] (fun _ v => v = .bool r) := by
 unfold params_may at hF
 intro M1 hM0 w0 H w p0
 replace hG := GL.mono hM0 hG
 replace h0 := Rep.mono hM0 _ _ h0
 obtain ⟨A_1, cap_1, A_2, cap_2, A_3, cap_3, rfl, h_1, h_2, h_3⟩ := TC0.opn h0
 refine R_enter 13 Tryd.func32 rfl rfl (by simp) fun a0 f0 => RR (Y13 (cs := #[S d0.fName, .bool d0.fNumber, .bool d0.fHas, .int .i8 d0.fDefault.fKind, .bool d0.fDefault.fBool, .int .i64 d0.fDefault.fNum, S d0.fDefault.fText, .slice A_1 d0.fDefault.fList.length cap_1, .slice A_2 d0.fDefault.fKeys.length cap_2, .slice A_3 d0.fAllowed.length cap_3]) (T := 37) f0 p0 fun b_1 M_1 w_1 hM_1 hc_1 p_1 _ f => ?_)
 have hc_2 := fz_box hc_1
 refine Y f 1 fun _ f => eT (RR (Y f 5 fun _ f => V_allocS (k := 5) (c := 5) f p_1 (.cells #[.func (.func 57) #[] #[.pointer (some (⟨b_1, 0, none⟩))], .func (.func 59) #[] #[.pointer (some (⟨b_1, 0, none⟩))], .func (.func 62) #[] #[.pointer (some (⟨b_1, 0, none⟩))], .func (.func 64) #[] #[.pointer (some (⟨b_1, 0, none⟩))], .func (.func 65) #[] #[.pointer (some (⟨b_1, 0, none⟩))]] 25 (0, 0)) (by kernel_rfl) (fun _ => by kernel_rfl) fun b_2 w_2 p_2 _ f => Y f 1 fun _ f => eT (RR (Y f 1 fun _ f => ?_))))
 obtain ⟨M_2, hM_2, p_3, hc_3⟩ := p_2.fzOwn
 obtain ⟨x_1, hx_1, hF_1⟩ := bS hF
 refine Y18 f p_3 (params_find_4_ok n _ (GL.mono (hM_1.trans hM_2) hG) (⟨b_1, 0, none⟩) [S d0.fName, .bool d0.fNumber, .bool d0.fHas, .int .i8 d0.fDefault.fKind, .bool d0.fDefault.fBool, .int .i64 d0.fDefault.fNum, S d0.fDefault.fText, .slice A_1 d0.fDefault.fList.length cap_1, .slice A_2 d0.fDefault.fKeys.length cap_2, .slice A_3 d0.fAllowed.length cap_3] d0 (TC0.shutx (x := d0) (h_1.mono (hM_1.trans hM_2)) (h_2.mono (hM_1.trans hM_2)) (h_3.mono (hM_1.trans hM_2))) (fz_at ((fzu hM_2 hc_2)) 0 rfl) (⟨b_1, 0, none⟩) [S d0.fName, .bool d0.fNumber, .bool d0.fHas, .int .i8 d0.fDefault.fKind, .bool d0.fDefault.fBool, .int .i64 d0.fDefault.fNum, S d0.fDefault.fText, .slice A_1 d0.fDefault.fList.length cap_1, .slice A_2 d0.fDefault.fKeys.length cap_2, .slice A_3 d0.fAllowed.length cap_3] d0 (TC0.shutx (x := d0) (h_1.mono (hM_1.trans hM_2)) (h_2.mono (hM_1.trans hM_2)) (h_3.mono (hM_1.trans hM_2))) (fz_at ((fzu hM_2 hc_2)) 0 rfl) (⟨b_1, 0, none⟩) [S d0.fName, .bool d0.fNumber, .bool d0.fHas, .int .i8 d0.fDefault.fKind, .bool d0.fDefault.fBool, .int .i64 d0.fDefault.fNum, S d0.fDefault.fText, .slice A_1 d0.fDefault.fList.length cap_1, .slice A_2 d0.fDefault.fKeys.length cap_2, .slice A_3 d0.fAllowed.length cap_3] d0 (TC0.shutx (x := d0) (h_1.mono (hM_1.trans hM_2)) (h_2.mono (hM_1.trans hM_2)) (h_3.mono (hM_1.trans hM_2))) (fz_at ((fzu hM_2 hc_2)) 0 rfl) (⟨b_1, 0, none⟩) [S d0.fName, .bool d0.fNumber, .bool d0.fHas, .int .i8 d0.fDefault.fKind, .bool d0.fDefault.fBool, .int .i64 d0.fDefault.fNum, S d0.fDefault.fText, .slice A_1 d0.fDefault.fList.length cap_1, .slice A_2 d0.fDefault.fKeys.length cap_2, .slice A_3 d0.fAllowed.length cap_3] d0 (TC0.shutx (x := d0) (h_1.mono (hM_1.trans hM_2)) (h_2.mono (hM_1.trans hM_2)) (h_3.mono (hM_1.trans hM_2))) (fz_at ((fzu hM_2 hc_2)) 0 rfl) (⟨b_1, 0, none⟩) [S d0.fName, .bool d0.fNumber, .bool d0.fHas, .int .i8 d0.fDefault.fKind, .bool d0.fDefault.fBool, .int .i64 d0.fDefault.fNum, S d0.fDefault.fText, .slice A_1 d0.fDefault.fList.length cap_1, .slice A_2 d0.fDefault.fKeys.length cap_2, .slice A_3 d0.fAllowed.length cap_3] d0 (TC0.shutx (x := d0) (h_1.mono (hM_1.trans hM_2)) (h_2.mono (hM_1.trans hM_2)) (h_3.mono (hM_1.trans hM_2))) (fz_at ((fzu hM_2 hc_2)) 0 rfl) (⟨b_2, 0, none⟩ : Addr) (hc_3) x_1 hx_1) fun w_3 p_4 _ f => Y f 2 fun _ f => eT (wp_ret (E_ret1 f rfl (by kernel_rfl : Vc.look _ 2 = some (.bool (decide (x_1 < 0)))) ?_))
 obtain rfl := sI hF_1
 exact ⟨_, rfl, M_2, (hM_1.trans hM_2), p_4, rfl⟩
end Go.Proofs.YtalifkcchfkgmaaDoor
end
