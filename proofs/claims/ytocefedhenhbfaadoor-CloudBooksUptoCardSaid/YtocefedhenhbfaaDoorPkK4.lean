/-
  Texts of this claim, packed (what nothing names is left out): NumC, TextC, Num2, NumH, VkH, VkI, T1, T2, StoreP1, StoreP2. Own work, partly printed by own programs. No condition.
-/
import Derived.Test.YtocefedhenhbfaaDoorPkK1
import Derived.Test.YtocefedhenhbfaaDoorPkK3
import Derived.Test.YtocefedhenhbfaaDoorRows
import GoSem.Op.String
import Derived.Laws.StructEq
set_option linter.unusedVariables false
set_option linter.unusedSimpArgs false
set_option maxHeartbeats 2000000
section
namespace Go.Proofs.YtocefedhenhbfaaDoor
open Go Go.Vc Go.RowKit Go.Num
theorem tup3 {x : Int × Int × Int} {a b c : Int} (h : x = (a, b, c)) : Value.tuple #[.int .i64 a, .int .i64 b, .int .i64 c] = .tuple #[.int .i64 x.1, .int .i64 x.2.1, .int .i64 x.2.2] := by rw [h]
theorem tup2 {x : Int × Int} {a b : Int} (h : x = (a, b)) : Value.tuple #[.int .i64 a, .int .i64 b] = .tuple #[.int .i64 x.1, .int .i64 x.2] := by rw [h]
theorem fits_ok (M : Mem) (n : Int) : Ok Tryd.prog M 108 [.int .i64 n] (fun _ v => v = .bool (fitsB n)) := by
 intro M hM0 w0 H w p0
 refine R_enter 9 Tryd.func108 rfl rfl (by simp) fun a0 f0 => RR (Y f0 1 fun _ f => eT (R_seq (R_mid (fun a_2 w_1 => Frm 9 [(2, .bool ((decide ((-9007199254740992 : Int) ≤ n)) && (decide (n ≤ 9007199254740992))))] a_2 ∧ Hp w0 M (H) w_1) ?_ ?_)))
 ·refine R_reg (Y f 3 fun _ f => ?_)
  rcases bE (decide ((-9007199254740992 : Int) ≤ n)) with h_1 | h_1
  ·have k_1 := dI.1 h_1
   have f := f.st 5 (cB h_1)
   refine Y f 4 fun _ f => eT ?_
   have f := Frm.set f 2 (v := .bool (decide (n ≤ 9007199254740992))) (v' := .bool ((decide ((-9007199254740992 : Int) ≤ n)) && (decide (n ≤ 9007199254740992)))) (by kernel_rfl) (by simp only [h_1, Bool.and_true, Bool.true_and, Bool.false_and, Bool.and_false, Bool.or_true, Bool.true_or, Bool.or_false, Bool.false_or, Bool.not_true, Bool.not_false, cond_true, cond_false])
   exact ⟨f.kp, p0⟩
  ·have k_2 := iff_f dI h_1
   have f := f.st 5 (cB h_1)
   refine Y f 4 fun _ f => eT ?_
   have f := Frm.set f 2 (v := .bool false) (v' := .bool ((decide ((-9007199254740992 : Int) ≤ n)) && (decide (n ≤ 9007199254740992)))) (by kernel_rfl) (by simp only [h_1, Bool.and_true, Bool.true_and, Bool.false_and, Bool.and_false, Bool.or_true, Bool.true_or, Bool.or_false, Bool.false_or, Bool.not_true, Bool.not_false, cond_true, cond_false])
   exact ⟨f.kp, p0⟩
 ·rintro a_2 w_1 ⟨f, p_1⟩
  refine T_n (wp_ret (E_ret1 f rfl (by kernel_rfl : Vc.look _ 2 = some (.bool ((decide ((-9007199254740992 : Int) ≤ n)) && (decide (n ≤ 9007199254740992))))) (⟨_, rfl, M, (mR _), p_1, ?_⟩)))
  exact cB (fits_eq _)
theorem digit_ok (M : Mem) (c : UInt8) : Ok Tryd.prog M 141 [.int .u8 (c.toNat : Int)] (fun _ v => v = .bool (dig c)) := by
 intro M hM0 w0 H w p0
 refine R_enter 6 Tryd.func141 rfl rfl (by simp) fun a0 f0 => RR (Y f0 1 fun _ f => eT (RR (Y f 1 fun _ f => Y f 1 fun _ f => ?_)))
 have f := Frm.set f 4 (v := .int .u8 (IntKind.wrap .u8 ((c.toNat : Int) - 48))) (v' := .int .u8 (((c.toNat : Int) - 48) % 256)) (by kernel_rfl) (congrArg (Value.int .u8) (IntKind.wrap_u8 _))
 refine Y f 2 fun _ f => eT (wp_ret (E_ret1 f rfl (by kernel_rfl : Vc.look _ 2 = some (.bool (decide ((((c.toNat : Int) - 48) % 256) < 10)))) (⟨_, rfl, M, (mR _), p0, ?_⟩)))
 exact cB (dig_prog c)
theorem scanP_ok (M : Mem) (s : List UInt8) (at_ : Int) (hs : s.length ≤ 140737488351232) : Ok Tryd.prog M 135 [S s, .int .i64 at_] (fun _ v => v = .tuple #[.int .i64 (scan s at_).1, .int .i64 (scan s at_).2.1, .int .i64 (scan s at_).2.2]) := by
 intro M hM0 w0 H w p0
 refine R_enter 110 Tryd.func135 rfl rfl (by simp) fun a0 f0 => RR (Y f0 3 fun _ f => eT (R_seq (R_seq (R_mid (fun a_2 w_1 => Frm 110 [(0, S s), (1, .int .i64 at_), (4, .int .i64 0), (19, .bool ((decide (at_ < 0)) || (decide ((s.length : Int) < at_))))] a_2 ∧ Hp w0 M (H) w_1) ?_ ?_))))
 ·refine R_reg (Y f 3 fun _ f => ?_)
  rcases bE (decide (at_ < 0)) with h_1 | h_1
  ·have k_1 := dI.1 h_1
   have f := f.st 14 (cB h_1)
   refine Y f 5 fun _ f => eT ?_
   have f := Frm.set f 19 (v := .bool true) (v' := .bool ((decide (at_ < 0)) || (decide ((s.length : Int) < at_)))) (by kernel_rfl) (by simp only [h_1, Bool.and_true, Bool.true_and, Bool.false_and, Bool.and_false, Bool.or_true, Bool.true_or, Bool.or_false, Bool.false_or, Bool.not_true, Bool.not_false, cond_true, cond_false])
   exact ⟨f.kp, p0⟩
  ·have k_2 := iff_f dI h_1
   have f := f.st 14 (cB h_1)
   refine Y f 5 fun _ f => eT ?_
   have f := Frm.set f 19 (v := .bool (decide ((s.length : Int) < at_))) (v' := .bool ((decide (at_ < 0)) || (decide ((s.length : Int) < at_)))) (by kernel_rfl) (by simp only [h_1, Bool.and_true, Bool.true_and, Bool.false_and, Bool.and_false, Bool.or_true, Bool.true_or, Bool.or_false, Bool.false_or, Bool.not_true, Bool.not_false, cond_true, cond_false])
   exact ⟨f.kp, p0⟩
 ·rintro a_2 w_1 ⟨f, p_1⟩
  refine T_n (Y6 f (b := (decide (at_ < 0)) || (decide ((s.length : Int) < at_))) (fun h_2 => ?_) fun h_2 => ?_)
  ·have k_3 : (at_ < 0) ∨ ((s.length : Int) < at_) := (or_iff dI dI).1 h_2
   refine RR (Y f 3 fun _ f => eT (wp_ret (T_r (E_ret3 f rfl (by kernel_rfl : Vc.look _ 4 = some (.int .i64 0)) (by kernel_rfl : Vc.look _ 5 = some (.int .i64 0)) (by kernel_rfl : Vc.look _ 6 = some (.int .i64 2)) (⟨_, rfl, M, (mR _), p_1, ?_⟩)))))
   exact tup3 (scan_out (by omega))
  ·have k_4 : ¬ ((at_ < 0) ∨ ((s.length : Int) < at_)) := iff_f (or_iff dI dI) h_2
   refine wp_skip (T_n (RR (Y f 2 fun _ f => Z (v := S (s.drop at_.toNat)) f (X_strFrom rfl (l := s) (k := .i64) (a := at_) (by kernel_rfl) (by kernel_rfl) (by kernel_rfl) (by omega) (by omega)) fun _ f => ?_)))
   obtain ⟨l, hl⟩ : ∃ l, l = s.drop at_.toNat := ⟨_, rfl⟩
   have hll : (l.length : Int) = s.length - at_ := by rw [hl, List.length_drop]; omega
   have hf1 := fst_le1 l
   have hf2 := fst_le l
   have hsc : scan s at_ = scanL l at_ := by rw [hl]; exact scan_inside (by omega)
   have f := Frm.set f 22 (v := S (s.drop at_.toNat)) (v' := S l) (by kernel_rfl) (by rw [hl])
   refine W_bytes f p_1 (by kernel_rfl) (by kernel_rfl) rfl rfl rfl (l := l) (by kernel_rfl) (e := 5) (by kernel_rfl) (by kernel_rfl) (by kernel_rfl) fun b_1 cap_1 w_2 hcap_1 p_2 _ f => V_allocS (k := 1) (c := 1) f p_2 (.cells #[.int .u8 0] 5 (0, 0)) (by kernel_rfl) (fun _ => by kernel_rfl) fun b_2 w_3 p_3 _ f => W_bytes_push f p_3 (by kernel_rfl) (by kernel_rfl) rfl rfl rfl (l := l) (c := 0) (by kernel_rfl) (by kernel_rfl) (by kernel_rfl) (by kernel_rfl) rfl (by omega) (by omega) fun ad_1 cap_2 M_1 w_4 hM_1 p_4 kb_1 hc_1 _ f => ?_
   have kz_1 := KB.z kb_1
   refine Y f 1 fun _ f => eT (RR (Y f 1 fun _ f => Z f (Y30 rfl (ad := ad_1) (len := l.length + 1) (cap := cap_2) (k := .i64) (i := 0) (e := 5) (sz := 1) (by omega) (by omega)) fun _ f => Z f (Y32 (v := .int .u8 ((l.getD 0 0).toNat : Int)) rfl (ad := ad_1.add (((0 : Int)).toNat * 1)) (p_4.cell (KZ.get kz_1 (by omega) (by omega)))) fun _ f => ?_))
   have hb_1 := byte_lt (l.getD 0 0)
   refine Y f 1 fun _ f => ?_
   have f := Frm.set f 29 (v := .bool (decide (((l.getD 0 0).toNat : Int) = 45))) (v' := .bool (neg l)) (by kernel_rfl) (cB (neg_byte l))
   refine Y f 1 fun _ f => eT (RR (Y f 1 fun _ f => eT (R_seq (RR ?_))))
   refine Y f 1 fun _ f => eT (R_mid (fun a_20 w_5 => Frm 110 [(0, S s), (1, .int .i64 at_), (4, .int .i64 0), (7, .slice (some ad_1) (l.length + 1) cap_2), (8, .bool (neg l)), (9, .int .i64 (fst l : Int))] a_20 ∧ Hp w0 M_1 (H) w_5) ?_ ?_)
   ·refine Y6 f (b := neg l) (fun h_3 => ?_) fun h_3 => ?_
    ·refine R_reg (Y f 1 fun _ f => eT ?_)
     have f := Frm.set f 9 (v := .int .i64 1) (v' := .int .i64 (fst l : Int)) (by kernel_rfl) (by rw [fst_t h_3]; rfl)
     exact ⟨f.kp, p_4⟩
    ·refine wp_skip (T_n ?_)
     have f := Frm.set f 9 (v := .int .i64 0) (v' := .int .i64 (fst l : Int)) (by kernel_rfl) (by rw [fst_f h_3]; rfl)
     exact ⟨f.kp, p_4⟩
   ·rintro a_20 w_5 ⟨f, p_5⟩
    refine T_n (RR (Y f 2 fun _ f => eT (R_seq (wp_block ?_))))
    have f := Frm.set f 9 (v := .int .i64 (fst l : Int)) (v' := .int .i64 ((fst l) : Int)) (by kernel_rfl) (by first | rfl | (congr 1; omega) | simp)
    refine R_loop (n := 110) (w0 := w0) (M := M_1) (fun (x : Nat × Int × Nat) => match x with | (k, n, v) => [(0, S s), (1, .int .i64 at_), (4, .int .i64 n), (7, .slice (some ad_1) (l.length + 1) cap_2), (8, .bool (neg l)), (9, .int .i64 (k : Int)), (10, .int .i64 (fst l : Int))]) (fun (x : Nat × Int × Nat) => match x with | (k, n, v) => (H)) (fun (x : Nat × Int × Nat) (_ : Mem) => match x with | (k, n, v) => (ScanI l k v) ∧ (KeepP n v)) (fun (x : Nat × Int × Nat) => match x with | (k, n, v) => l.length + 1 - k) (fst l, 0, 0) (f.kp) p_5 ?_ ?_
    ·exact ⟨ScanI.start l, KeepP.start⟩
    ·rintro ⟨k, n, v⟩ M_2 _ w_6 hM_2 I_1 f p_6
     replace I_1 : (ScanI l k v) ∧ (KeepP n v) := I_1
     obtain ⟨I_s, K_s⟩ := I_1
     have hk1 := I_s.ge
     have hk2 := I_s.le
     obtain ⟨hn1, hn2, hn3, hn4⟩ := id K_s
     refine R_seq (RR (Y f 2 fun _ f => Z f (Y30 rfl (ad := ad_1) (len := l.length + 1) (cap := cap_2) (k := .i64) (i := (k : Int)) (e := 5) (sz := 1) (by omega) (by omega)) fun _ f => Z f (Y32 (v := .int .u8 ((l.getD k 0).toNat : Int)) rfl (ad := ad_1.add (((k : Int)).toNat * 1)) (p_6.cell (KZ.get (kz_1.mono hM_2) (by omega) (by omega)))) fun _ f => ?_))
     have hb_2 := byte_lt (l.getD k 0)
     refine Y18 f p_6 (digit_ok _ (l.getD k 0)) fun w_7 p_7 _ f => eT (Y6 f (b := dig (l.getD k 0)) (fun h_4 => ?_) fun h_4 => ?_)
     ·refine wp_skip (T_n (R_seq (wp_block (R_seq (R_seq (R_mid (fun a_28 w_8 => Frm 110 [(0, S s), (1, .int .i64 at_), (4, .int .i64 n), (7, .slice (some ad_1) (l.length + 1) cap_2), (8, .bool (neg l)), (9, .int .i64 (k : Int)), (10, .int .i64 (fst l : Int)), (49, .bool ((decide ((k : Int) = ((fst l : Int) + 1))) && (decide (((l.getD (fst l) 0).toNat : Int) = 48))))] a_28 ∧ Hp w0 M_2 (H) w_8) ?_ ?_))))))
      ·refine R_reg (Y f 2 fun _ f => Y f 1 fun _ f => ?_)
       have f := Frm.set f 41 (v := .int .i64 (IntKind.wrap .i64 ((fst l : Int) + 1))) (v' := .int .i64 ((fst l : Int) + 1)) (by kernel_rfl) (congrArg (Value.int .i64) (IntWalk.i64_in _ (by omega)))
       refine Y f 2 fun _ f => ?_
       rcases bE (decide ((k : Int) = ((fst l : Int) + 1))) with h_5 | h_5
       ·have k_8 := dI.1 h_5
        have f := f.st 43 (cB h_5)
        refine Y f 2 fun _ f => Z f (Y30 rfl (ad := ad_1) (len := l.length + 1) (cap := cap_2) (k := .i64) (i := (fst l : Int)) (e := 5) (sz := 1) (by omega) (by omega)) fun _ f => Z f (Y32 (v := .int .u8 ((l.getD (fst l) 0).toNat : Int)) rfl (ad := ad_1.add (((fst l : Int)).toNat * 1)) (p_7.cell (KZ.get (kz_1.mono hM_2) (by omega) (by omega)))) fun _ f => ?_
        have hb_3 := byte_lt (l.getD (fst l) 0)
        refine Y f 2 fun _ f => eT ?_
        have f := Frm.set f 49 (v := .bool (decide (((l.getD (fst l) 0).toNat : Int) = 48))) (v' := .bool ((decide ((k : Int) = ((fst l : Int) + 1))) && (decide (((l.getD (fst l) 0).toNat : Int) = 48)))) (by kernel_rfl) (by simp only [h_5, Bool.and_true, Bool.true_and, Bool.false_and, Bool.and_false, Bool.or_true, Bool.true_or, Bool.or_false, Bool.false_or, Bool.not_true, Bool.not_false, cond_true, cond_false])
        exact ⟨f.kp, p_7⟩
       ·have k_9 := iff_f dI h_5
        have f := f.st 43 (cB h_5)
        refine Y f 6 fun _ f => eT ?_
        have f := Frm.set f 49 (v := .bool false) (v' := .bool ((decide ((k : Int) = ((fst l : Int) + 1))) && (decide (((l.getD (fst l) 0).toNat : Int) = 48)))) (by kernel_rfl) (by simp only [h_5, Bool.and_true, Bool.true_and, Bool.false_and, Bool.and_false, Bool.or_true, Bool.true_or, Bool.or_false, Bool.false_or, Bool.not_true, Bool.not_false, cond_true, cond_false])
        exact ⟨f.kp, p_7⟩
      ·rintro a_28 w_8 ⟨f, p_8⟩
       refine T_n (Y6 f (b := (decide ((k : Int) = ((fst l : Int) + 1))) && (decide (((l.getD (fst l) 0).toNat : Int) = 48))) (fun h_6 => ?_) fun h_6 => ?_)
       ·have k_10 : ((k : Int) = ((fst l : Int) + 1)) ∧ (((l.getD (fst l) 0).toNat : Int) = 48) := (and_iff dI dI).1 h_6
        refine RR (Y f 2 fun _ f => Y f 1 fun _ f => ?_)
        have f := Frm.set f 52 (v := .int .i64 (IntKind.wrap .i64 (at_ + (k : Int)))) (v' := .int .i64 (at_ + (k : Int))) (by kernel_rfl) (congrArg (Value.int .i64) (IntWalk.i64_in _ (by omega)))
        refine Y f 3 fun _ f => eT (wp_ret (T_r (B_r (T_r (T_r (B_r (T_r (E_ret3 f rfl (by kernel_rfl : Vc.look _ 4 = some (.int .i64 0)) (by kernel_rfl : Vc.look _ 5 = some (.int .i64 (at_ + (k : Int)))) (by kernel_rfl : Vc.look _ 6 = some (.int .i64 20)) ?_))))))))
        refine ⟨_, rfl, M_2, (hM_1.trans hM_2), p_8, ?_⟩
        obtain ⟨e1, e2⟩ := isboth k_10
        exact tup3 (hsc.trans (I_s.early at_ h_4 e1 e2))
       ·have k_11 : ¬ (((k : Int) = ((fst l : Int) + 1)) ∧ (((l.getD (fst l) 0).toNat : Int) = 48)) := iff_f (and_iff dI dI) h_6
        refine wp_skip (T_n (RR (Y f 2 fun _ f => eT (Y6 f (b := decide (n ≤ 9007199254740992)) (fun h_7 => ?_) fun h_7 => ?_))))
        ·have k_12 := dI.1 h_7
         refine R_reg (Y f 1 fun _ f => Y f 1 fun _ f => ?_)
         have f := Frm.set f 56 (v := .int .i64 (IntKind.wrap .i64 ((10 : Int) * n))) (v' := .int .i64 ((10 : Int) * n)) (by kernel_rfl) (congrArg (Value.int .i64) (IntWalk.i64_in _ (by omega)))
         refine Y f 2 fun _ f => Z f (Y30 rfl (ad := ad_1) (len := l.length + 1) (cap := cap_2) (k := .i64) (i := (k : Int)) (e := 5) (sz := 1) (by omega) (by omega)) fun _ f => Z f (Y32 (v := .int .u8 ((l.getD k 0).toNat : Int)) rfl (ad := ad_1.add (((k : Int)).toNat * 1)) (p_8.cell (KZ.get (kz_1.mono hM_2) (by omega) (by omega)))) fun _ f => ?_
         have hb_4 := byte_lt (l.getD k 0)
         refine Y f 1 fun _ f => ?_
         have f := Frm.set f 61 (v := .int .u8 (IntKind.wrap .u8 (((l.getD k 0).toNat : Int) - 48))) (v' := .int .u8 ((((l.getD k 0).toNat : Int) - 48) % 256)) (by kernel_rfl) (congrArg (Value.int .u8) (IntKind.wrap_u8 _))
         refine Y f 1 fun _ f => ?_
         have f := Frm.set f 62 (v := .int .i64 (IntKind.wrap .i64 ((((l.getD k 0).toNat : Int) - 48) % 256))) (v' := .int .i64 ((((l.getD k 0).toNat : Int) - 48) % 256)) (by kernel_rfl) (congrArg (Value.int .i64) (IntWalk.i64_in _ (by omega)))
         refine Y f 1 fun _ f => ?_
         have f := Frm.set f 63 (v := .int .i64 (IntKind.wrap .i64 (((10 : Int) * n) + ((((l.getD k 0).toNat : Int) - 48) % 256)))) (v' := .int .i64 (((10 : Int) * n) + ((((l.getD k 0).toNat : Int) - 48) % 256))) (by kernel_rfl) (congrArg (Value.int .i64) (IntWalk.i64_in _ (by omega)))
         refine Y f 1 fun _ f => W_end rfl (B_n (T_n (R_reg (Y f 1 fun _ f => Y f 1 fun _ f => ?_))))
         have f := Frm.set f 38 (v := .int .i64 (IntKind.wrap .i64 ((k : Int) + 1))) (v' := .int .i64 ((k : Int) + 1)) (by kernel_rfl) (congrArg (Value.int .i64) (IntWalk.i64_in _ (by omega)))
         refine Y f 1 fun _ f => eT ?_
         have hkl := I_s.lt h_4
         have hzz := notboth k_11
         have f := Frm.set f 9 (v := .int .i64 ((k : Int) + 1)) (v' := .int .i64 ((k + 1) : Int)) (by kernel_rfl) (by first | rfl | (congr 1; omega) | simp)
         refine ⟨((k + 1, ((10 : Int) * n) + ((((l.getD k 0).toNat : Int) - 48) % 256), 10 * v + ((l.getD k 0).toNat - 48)) : Nat × Int × Nat), ?_, M_2, hM_2, ?_, f.kp, p_8⟩
         ·show l.length + 1 - (k + 1) < l.length + 1 - k; omega
         ·exact ⟨I_s.step h_4 hkl hzz, K_s.more _ h_4 k_12⟩
        ·have k_13 := iff_f dI h_7
         refine wp_skip (B_n (T_n (R_reg (Y f 1 fun _ f => Y f 1 fun _ f => ?_))))
         have f := Frm.set f 38 (v := .int .i64 (IntKind.wrap .i64 ((k : Int) + 1))) (v' := .int .i64 ((k : Int) + 1)) (by kernel_rfl) (congrArg (Value.int .i64) (IntWalk.i64_in _ (by omega)))
         refine Y f 1 fun _ f => eT ?_
         have hkl := I_s.lt h_4
         have hzz := notboth k_11
         have f := Frm.set f 9 (v := .int .i64 ((k : Int) + 1)) (v' := .int .i64 ((k + 1) : Int)) (by kernel_rfl) (by first | rfl | (congr 1; omega) | simp)
         refine ⟨((k + 1, n, 10 * v + ((l.getD k 0).toNat - 48)) : Nat × Int × Nat), ?_, M_2, hM_2, ?_, f.kp, p_8⟩
         ·show l.length + 1 - (k + 1) < l.length + 1 - k; omega
         ·exact ⟨I_s.step h_4 hkl hzz, K_s.full k_13⟩
     ·refine wp_exit (T_x (T_x (B_x (T_n (R_seq (RR (Y f 2 fun _ f => Z f (Y30 rfl (ad := ad_1) (len := l.length + 1) (cap := cap_2) (k := .i64) (i := (k : Int)) (e := 5) (sz := 1) (by omega) (by omega)) fun _ f => Z f (Y32 (v := .int .u8 ((l.getD k 0).toNat : Int)) rfl (ad := ad_1.add (((k : Int)).toNat * 1)) (p_7.cell (KZ.get (kz_1.mono hM_2) (by omega) (by omega)))) fun _ f => ?_)))))))
      have hb_5 := byte_lt (l.getD k 0)
      refine Y f 1 fun _ f => eT (wp_block (R_seq (RR (Y f 4 fun _ f => eT (R_mid (fun a_61 w_9 => Frm 110 [(1, .int .i64 at_), (4, .int .i64 n), (8, .bool (neg l)), (9, .int .i64 (k : Int)), (68, .bool ((decide ((k : Int) = (fst l : Int))) || ((decide ((at_ + (k : Int)) < (s.length : Int))) && ((decide (((l.getD k 0).toNat : Int) = 46)) || ((decide (((l.getD k 0).toNat : Int) = 101)) || (decide (((l.getD k 0).toNat : Int) = 69)))))))] a_61 ∧ Hp w0 M_2 (H) w_9) ?_ ?_)))))
      ·refine Y6 f (b := decide ((k : Int) = (fst l : Int))) (fun h_8 => ?_) fun h_8 => ?_
       ·have k_15 := dI.1 h_8
        refine wp_skip (T_n ?_)
        have f := Frm.set f 68 (v := .bool (decide ((k : Int) = (fst l : Int)))) (v' := .bool ((decide ((k : Int) = (fst l : Int))) || ((decide ((at_ + (k : Int)) < (s.length : Int))) && ((decide (((l.getD k 0).toNat : Int) = 46)) || ((decide (((l.getD k 0).toNat : Int) = 101)) || (decide (((l.getD k 0).toNat : Int) = 69))))))) (by kernel_rfl) (by simp only [h_8, Bool.and_true, Bool.true_and, Bool.false_and, Bool.and_false, Bool.or_true, Bool.true_or, Bool.or_false, Bool.false_or, Bool.not_true, Bool.not_false, cond_true, cond_false])
        exact ⟨f.kp, p_7⟩
       ·have k_16 := iff_f dI h_8
        refine R_mid (fun a_62 w_10 => Frm 110 [(1, .int .i64 at_), (4, .int .i64 n), (8, .bool (neg l)), (9, .int .i64 (k : Int)), (68, .bool ((decide ((at_ + (k : Int)) < (s.length : Int))) && ((decide (((l.getD k 0).toNat : Int) = 46)) || ((decide (((l.getD k 0).toNat : Int) = 101)) || (decide (((l.getD k 0).toNat : Int) = 69))))))] a_62 ∧ Hp w0 M_2 (H) w_10) ?_ ?_
        ·refine R_reg (Y f 2 fun _ f => Y f 1 fun _ f => ?_)
         have f := Frm.set f 74 (v := .int .i64 (IntKind.wrap .i64 (at_ + (k : Int)))) (v' := .int .i64 (at_ + (k : Int))) (by kernel_rfl) (congrArg (Value.int .i64) (IntWalk.i64_in _ (by omega)))
         refine Y f 4 fun _ f => ?_
         rcases bE (decide ((at_ + (k : Int)) < (s.length : Int))) with h_9 | h_9
         ·have k_17 := dI.1 h_9
          have f := f.st 78 (cB h_9)
          refine Y f 3 fun _ f => ?_
          rcases bE (decide (((l.getD k 0).toNat : Int) = 46)) with h_10 | h_10
          ·have k_18 := dI.1 h_10
           have f := f.st 81 (cB h_10)
           refine Y f 9 fun _ f => eT ?_
           have f := Frm.set f 68 (v := .bool true) (v' := .bool ((decide ((at_ + (k : Int)) < (s.length : Int))) && ((decide (((l.getD k 0).toNat : Int) = 46)) || ((decide (((l.getD k 0).toNat : Int) = 101)) || (decide (((l.getD k 0).toNat : Int) = 69)))))) (by kernel_rfl) (by simp only [h_9, h_10, Bool.and_true, Bool.true_and, Bool.false_and, Bool.and_false, Bool.or_true, Bool.true_or, Bool.or_false, Bool.false_or, Bool.not_true, Bool.not_false, cond_true, cond_false])
           exact ⟨f.kp, p_7⟩
          ·have k_19 := iff_f dI h_10
           have f := f.st 81 (cB h_10)
           refine Y f 4 fun _ f => ?_
           rcases bE (decide (((l.getD k 0).toNat : Int) = 101)) with h_11 | h_11
           ·have k_20 := dI.1 h_11
            have f := f.st 85 (cB h_11)
            refine Y f 5 fun _ f => eT ?_
            have f := Frm.set f 68 (v := .bool true) (v' := .bool ((decide ((at_ + (k : Int)) < (s.length : Int))) && ((decide (((l.getD k 0).toNat : Int) = 46)) || ((decide (((l.getD k 0).toNat : Int) = 101)) || (decide (((l.getD k 0).toNat : Int) = 69)))))) (by kernel_rfl) (by simp only [h_9, h_10, h_11, Bool.and_true, Bool.true_and, Bool.false_and, Bool.and_false, Bool.or_true, Bool.true_or, Bool.or_false, Bool.false_or, Bool.not_true, Bool.not_false, cond_true, cond_false])
            exact ⟨f.kp, p_7⟩
           ·have k_21 := iff_f dI h_11
            have f := f.st 85 (cB h_11)
            refine Y f 5 fun _ f => eT ?_
            have f := Frm.set f 68 (v := .bool (decide (((l.getD k 0).toNat : Int) = 69))) (v' := .bool ((decide ((at_ + (k : Int)) < (s.length : Int))) && ((decide (((l.getD k 0).toNat : Int) = 46)) || ((decide (((l.getD k 0).toNat : Int) = 101)) || (decide (((l.getD k 0).toNat : Int) = 69)))))) (by kernel_rfl) (by simp only [h_9, h_10, h_11, Bool.and_true, Bool.true_and, Bool.false_and, Bool.and_false, Bool.or_true, Bool.true_or, Bool.or_false, Bool.false_or, Bool.not_true, Bool.not_false, cond_true, cond_false])
            exact ⟨f.kp, p_7⟩
         ·have k_22 := iff_f dI h_9
          have f := f.st 78 (cB h_9)
          refine Y f 12 fun _ f => eT ?_
          have f := Frm.set f 68 (v := .bool false) (v' := .bool ((decide ((at_ + (k : Int)) < (s.length : Int))) && ((decide (((l.getD k 0).toNat : Int) = 46)) || ((decide (((l.getD k 0).toNat : Int) = 101)) || (decide (((l.getD k 0).toNat : Int) = 69)))))) (by kernel_rfl) (by simp only [h_9, Bool.and_true, Bool.true_and, Bool.false_and, Bool.and_false, Bool.or_true, Bool.true_or, Bool.or_false, Bool.false_or, Bool.not_true, Bool.not_false, cond_true, cond_false])
          exact ⟨f.kp, p_7⟩
        ·rintro a_62 w_10 ⟨f, p_10⟩
         refine T_n ?_
         have f := Frm.set f 68 (v := .bool ((decide ((at_ + (k : Int)) < (s.length : Int))) && ((decide (((l.getD k 0).toNat : Int) = 46)) || ((decide (((l.getD k 0).toNat : Int) = 101)) || (decide (((l.getD k 0).toNat : Int) = 69)))))) (v' := .bool ((decide ((k : Int) = (fst l : Int))) || ((decide ((at_ + (k : Int)) < (s.length : Int))) && ((decide (((l.getD k 0).toNat : Int) = 46)) || ((decide (((l.getD k 0).toNat : Int) = 101)) || (decide (((l.getD k 0).toNat : Int) = 69))))))) (by kernel_rfl) (by simp only [h_8, Bool.and_true, Bool.true_and, Bool.false_and, Bool.and_false, Bool.or_true, Bool.true_or, Bool.or_false, Bool.false_or, Bool.not_true, Bool.not_false, cond_true, cond_false])
         exact ⟨f.kp, p_10⟩
      ·rintro a_61 w_9 ⟨f, p_9⟩
       refine T_n (Y6 f (b := (decide ((k : Int) = (fst l : Int))) || ((decide ((at_ + (k : Int)) < (s.length : Int))) && ((decide (((l.getD k 0).toNat : Int) = 46)) || ((decide (((l.getD k 0).toNat : Int) = 101)) || (decide (((l.getD k 0).toNat : Int) = 69)))))) (fun h_12 => ?_) fun h_12 => ?_)
       ·have k_23 : ((k : Int) = (fst l : Int)) ∨ (((at_ + (k : Int)) < (s.length : Int)) ∧ ((((l.getD k 0).toNat : Int) = 46) ∨ ((((l.getD k 0).toNat : Int) = 101) ∨ (((l.getD k 0).toNat : Int) = 69)))) := (or_iff dI (and_iff dI (or_iff dI (or_iff dI dI)))).1 h_12
        refine RR (Y f 2 fun _ f => Y f 1 fun _ f => ?_)
        have f := Frm.set f 92 (v := .int .i64 (IntKind.wrap .i64 (at_ + (k : Int)))) (v' := .int .i64 (at_ + (k : Int))) (by kernel_rfl) (congrArg (Value.int .i64) (IntWalk.i64_in _ (by omega)))
        refine Y f 3 fun _ f => eT (wp_ret (B_r (T_r (E_ret3 f rfl (by kernel_rfl : Vc.look _ 4 = some (.int .i64 0)) (by kernel_rfl : Vc.look _ 5 = some (.int .i64 (at_ + (k : Int)))) (by kernel_rfl : Vc.look _ 6 = some (.int .i64 20)) (⟨_, rfl, M_2, (hM_1.trans hM_2), p_9, ?_⟩)))))
        exact tup3 (hsc.trans (I_s.e1 h_4 k_23))
       ·have k_24 : ¬ (((k : Int) = (fst l : Int)) ∨ (((at_ + (k : Int)) < (s.length : Int)) ∧ ((((l.getD k 0).toNat : Int) = 46) ∨ ((((l.getD k 0).toNat : Int) = 101) ∨ (((l.getD k 0).toNat : Int) = 69))))) := iff_f (or_iff dI (and_iff dI (or_iff dI (or_iff dI dI)))) h_12
        refine R_seq (RR (Y f 1 fun _ f => Y18 f p_9 (fits_ok _ (n)) fun w_11 p_11 _ f => Y f 2 fun _ f => eT (R_mid (fun a_78 w_12 => Frm 110 [(1, .int .i64 at_), (4, .int .i64 n), (8, .bool (neg l)), (9, .int .i64 (k : Int)), (93, .bool ((!(fitsB n)) || ((neg l) && (decide (n = 0)))))] a_78 ∧ Hp w0 M_2 (H) w_12) ?_ ?_)))
        ·refine Y6 f (b := !(fitsB n)) (fun h_13 => ?_) fun h_13 => ?_
         ·have k_25 : (fitsB n) = false := by simpa using h_13
          refine wp_skip (T_n ?_)
          have f := Frm.set f 93 (v := .bool (!(fitsB n))) (v' := .bool ((!(fitsB n)) || ((neg l) && (decide (n = 0))))) (by kernel_rfl) (by simp only [h_13, Bool.and_true, Bool.true_and, Bool.false_and, Bool.and_false, Bool.or_true, Bool.true_or, Bool.or_false, Bool.false_or, Bool.not_true, Bool.not_false, cond_true, cond_false])
          exact ⟨f.kp, p_11⟩
         ·have k_26 : (fitsB n) = true := by simpa using h_13
          refine R_mid (fun a_79 w_13 => Frm 110 [(1, .int .i64 at_), (4, .int .i64 n), (8, .bool (neg l)), (9, .int .i64 (k : Int)), (93, .bool ((neg l) && (decide (n = 0))))] a_79 ∧ Hp w0 M_2 (H) w_13) ?_ ?_
          ·refine R_reg (Y f 2 fun _ f => ?_)
           rcases bE (neg l) with h_14 | h_14
           ·have f := f.st 98 (cB h_14)
            refine Y f 4 fun _ f => eT ?_
            have f := Frm.set f 93 (v := .bool (decide (n = 0))) (v' := .bool ((neg l) && (decide (n = 0)))) (by kernel_rfl) (by simp only [h_14, Bool.and_true, Bool.true_and, Bool.false_and, Bool.and_false, Bool.or_true, Bool.true_or, Bool.or_false, Bool.false_or, Bool.not_true, Bool.not_false, cond_true, cond_false])
            exact ⟨f.kp, p_11⟩
           ·have f := f.st 98 (cB h_14)
            refine Y f 4 fun _ f => eT ?_
            have f := Frm.set f 93 (v := .bool false) (v' := .bool ((neg l) && (decide (n = 0)))) (by kernel_rfl) (by simp only [h_14, Bool.and_true, Bool.true_and, Bool.false_and, Bool.and_false, Bool.or_true, Bool.true_or, Bool.or_false, Bool.false_or, Bool.not_true, Bool.not_false, cond_true, cond_false])
            exact ⟨f.kp, p_11⟩
          ·rintro a_79 w_13 ⟨f, p_13⟩
           refine T_n ?_
           have f := Frm.set f 93 (v := .bool ((neg l) && (decide (n = 0)))) (v' := .bool ((!(fitsB n)) || ((neg l) && (decide (n = 0))))) (by kernel_rfl) (by simp only [h_13, Bool.and_true, Bool.true_and, Bool.false_and, Bool.and_false, Bool.or_true, Bool.true_or, Bool.or_false, Bool.false_or, Bool.not_true, Bool.not_false, cond_true, cond_false])
           exact ⟨f.kp, p_13⟩
        ·rintro a_78 w_12 ⟨f, p_12⟩
         refine T_n (Y6 f (b := (!(fitsB n)) || ((neg l) && (decide (n = 0)))) (fun h_15 => ?_) fun h_15 => ?_)
         ·have k_29 : (¬ ((fitsB n) = true)) ∨ (((neg l) = true) ∧ (n = 0)) := (or_iff (not_iff Iff.rfl) (and_iff Iff.rfl dI)).1 h_15
          refine RR (Y f 4 fun _ f => eT (wp_ret (B_r (T_r (E_ret3 f rfl (by kernel_rfl : Vc.look _ 4 = some (.int .i64 0)) (by kernel_rfl : Vc.look _ 5 = some (.int .i64 at_)) (by kernel_rfl : Vc.look _ 6 = some (.int .i64 20)) (⟨_, rfl, M_2, (hM_1.trans hM_2), p_12, ?_⟩))))))
          have hno := ScanI.no (l := l) (k := k) (sl := s.length) (at_ := at_) (by omega) k_24
          exact tup3 (hsc.trans (I_s.e2 h_4 hno (K_s.bad.1 k_29)))
         ·have k_30 : ¬ ((¬ ((fitsB n) = true)) ∨ (((neg l) = true) ∧ (n = 0))) := iff_f (or_iff (not_iff Iff.rfl) (and_iff Iff.rfl dI)) h_15
          refine wp_skip (B_n (T_n (R_seq (RR (Y f 1 fun _ f => eT (Y6 f (b := neg l) (fun h_16 => ?_) fun h_16 => ?_))))))
          ·refine R_reg (Y f 1 fun _ f => Y f 1 fun _ f => ?_)
           have f := Frm.set f 105 (v := .int .i64 (IntKind.wrap .i64 (0 - n))) (v' := .int .i64 (-n)) (by kernel_rfl) (congrArg (Value.int .i64) ((IntWalk.i64_in _ (by omega)).trans (Int.zero_sub _)))
           refine Y f 1 fun _ f => eT (RR (Y f 3 fun _ f => Y f 1 fun _ f => ?_))
           have f := Frm.set f 109 (v := .int .i64 (IntKind.wrap .i64 (at_ + (k : Int)))) (v' := .int .i64 (at_ + (k : Int))) (by kernel_rfl) (congrArg (Value.int .i64) (IntWalk.i64_in _ (by omega)))
           refine Y f 3 fun _ f => eT (wp_ret (E_ret3 f rfl (by kernel_rfl : Vc.look _ 4 = some (.int .i64 (-n))) (by kernel_rfl : Vc.look _ 5 = some (.int .i64 (at_ + (k : Int)))) (by kernel_rfl : Vc.look _ 6 = some (.int .i64 0)) (⟨_, rfl, M_2, (hM_1.trans hM_2), p_12, ?_⟩)))
           have hno := ScanI.no (l := l) (k := k) (sl := s.length) (at_ := at_) (by omega) k_24
           have hbb := fun x => k_30 (K_s.bad.2 x)
           exact tup3 (hsc.trans ((I_s.e3 h_4 hno hbb).trans (by rw [h_16, K_s.val hbb]; rfl)))
          ·refine wp_skip (T_n (RR (Y f 3 fun _ f => Y f 1 fun _ f => ?_)))
           have f := Frm.set f 109 (v := .int .i64 (IntKind.wrap .i64 (at_ + (k : Int)))) (v' := .int .i64 (at_ + (k : Int))) (by kernel_rfl) (congrArg (Value.int .i64) (IntWalk.i64_in _ (by omega)))
           refine Y f 3 fun _ f => eT (wp_ret (E_ret3 f rfl (by kernel_rfl : Vc.look _ 4 = some (.int .i64 n)) (by kernel_rfl : Vc.look _ 5 = some (.int .i64 (at_ + (k : Int)))) (by kernel_rfl : Vc.look _ 6 = some (.int .i64 0)) (⟨_, rfl, M_2, (hM_1.trans hM_2), p_12, ?_⟩)))
           have hno := ScanI.no (l := l) (k := k) (sl := s.length) (at_ := at_) (by omega) k_24
           have hbb := fun x => k_30 (K_s.bad.2 x)
           exact tup3 (hsc.trans ((I_s.e3 h_4 hno hbb).trans (by rw [h_16, K_s.val hbb]; rfl)))
theorem readP_ok (M : Mem) (s : List UInt8) (hs : s.length ≤ 140737488351232) : Ok Tryd.prog M 125 [S s] (fun _ v => v = .tuple #[.int .i64 (read s).1, .int .i64 (read s).2]) := by
 intro M hM0 w0 H w p0
 refine R_enter 22 Tryd.func125 rfl rfl (by simp) fun a0 f0 => RR (Y f0 2 fun _ f => eT (R_seq (RR (Y f 1 fun _ f => Y18 f p0 (scanP_ok _ s 0 (by first | omega | decide | assumption | (simp only [List.length_append, List.length_cons, List.length_nil]; omega))) fun w_1 p_1 _ f => ?_))))
 refine Y f 7 fun _ f => eT (R_seq (R_mid (fun a_5 w_2 => Frm 22 [(4, .int .i64 (scan s 0).1), (20, .bool ((decide ((scan s 0).2.2 = 0)) && (decide ((scan s 0).2.1 = (s.length : Int)))))] a_5 ∧ Hp w0 M (H) w_2) ?_ ?_))
 ·refine R_reg (Y f 3 fun _ f => ?_)
  rcases bE (decide ((scan s 0).2.2 = 0)) with h_1 | h_1
  ·have k_1 := dI.1 h_1
   have f := f.st 15 (cB h_1)
   refine Y f 5 fun _ f => eT ?_
   have f := Frm.set f 20 (v := .bool (decide ((scan s 0).2.1 = (s.length : Int)))) (v' := .bool ((decide ((scan s 0).2.2 = 0)) && (decide ((scan s 0).2.1 = (s.length : Int))))) (by kernel_rfl) (by simp only [h_1, Bool.and_true, Bool.true_and, Bool.false_and, Bool.and_false, Bool.or_true, Bool.true_or, Bool.or_false, Bool.false_or, Bool.not_true, Bool.not_false, cond_true, cond_false])
   exact ⟨f.kp, p_1⟩
  ·have k_2 := iff_f dI h_1
   have f := f.st 15 (cB h_1)
   refine Y f 5 fun _ f => eT ?_
   have f := Frm.set f 20 (v := .bool false) (v' := .bool ((decide ((scan s 0).2.2 = 0)) && (decide ((scan s 0).2.1 = (s.length : Int))))) (by kernel_rfl) (by simp only [h_1, Bool.and_true, Bool.true_and, Bool.false_and, Bool.and_false, Bool.or_true, Bool.true_or, Bool.or_false, Bool.false_or, Bool.not_true, Bool.not_false, cond_true, cond_false])
   exact ⟨f.kp, p_1⟩
 ·rintro a_5 w_2 ⟨f, p_2⟩
  refine T_n (Y6 f (b := (decide ((scan s 0).2.2 = 0)) && (decide ((scan s 0).2.1 = (s.length : Int)))) (fun h_2 => ?_) fun h_2 => ?_)
  ·have k_3 : ((scan s 0).2.2 = 0) ∧ ((scan s 0).2.1 = (s.length : Int)) := (and_iff dI dI).1 h_2
   refine RR (Y f 3 fun _ f => eT (wp_ret (T_r (E_ret2 f rfl (by kernel_rfl : Vc.look _ 2 = some (.int .i64 (scan s 0).1)) (by kernel_rfl : Vc.look _ 3 = some (.int .i64 0)) (⟨_, rfl, M, (mR _), p_2, ?_⟩)))))
   exact tup2 (if_pos (by omega))
  ·have k_4 : ¬ (((scan s 0).2.2 = 0) ∧ ((scan s 0).2.1 = (s.length : Int))) := iff_f (and_iff dI dI) h_2
   refine wp_skip (T_n (RR (Y f 2 fun _ f => eT (wp_ret (E_ret2 f rfl (by kernel_rfl : Vc.look _ 2 = some (.int .i64 0)) (by kernel_rfl : Vc.look _ 3 = some (.int .i64 20)) (⟨_, rfl, M, (mR _), p_2, ?_⟩))))))
   exact tup2 (if_neg (by omega))
theorem textIn_ok (M : Mem) (bp bo n : Nat) : ∀ (hn : n ≤ 9007199254740992) (v : Value) (k : Nat) (xs : List Value) (hk : k ≤ 1000), OkH Tryd.prog M [Ent.obj bp (.cells #[.func (.func 109) #[] #[.pointer (some (⟨bp, 0, none⟩)), .pointer (some (⟨bo, 0, none⟩))]] 139 (0, 0)), Ent.obj bo (.cells #[v] 35 (0, 0)), Ent.row 5 1 v k xs] 109 [.int .i64 (n : Int), .pointer (some (⟨bp, 0, none⟩)), .pointer (some (⟨bo, 0, none⟩))] (fun _ E2 r => r = .tuple #[] ∧ ∃ v2, E2 = [Ent.obj bp (.cells #[.func (.func 109) #[] #[.pointer (some (⟨bp, 0, none⟩)), .pointer (some (⟨bo, 0, none⟩))]] 139 (0, 0)), Ent.obj bo (.cells #[v2] 35 (0, 0)), Ent.row 5 1 v2 (k + (digs n).length) (xs ++ byteCs (digs n))]) := by
 induction n using Nat.strongRecOn generalizing M
 rename_i n ih
 intro hn v k xs hk
 have hl1 := digs_len16 hn
 have hl2 := digs_len16 (n := n / 10) (by omega)
 intro M hM0 w0 H w p0
 refine R_enter 17 Tryd.func109 rfl rfl (by simp) fun a0 f0 => R_seq (RR (Y f0 2 fun _ f => eT (Y6 f (b := decide ((9 : Int) < (n : Int))) (fun h_1 => ?_) fun h_1 => ?_)))
 ·have k_1 := dI.1 h_1
  refine R_reg (Z f (Y32 (v := .func (.func 109) #[] #[.pointer (some (⟨bp, 0, none⟩)), .pointer (some (⟨bo, 0, none⟩))]) rfl (ad := ⟨bp, 0, none⟩) (p0.ownCell 0 rfl 0)) fun _ f => Y f 1 fun _ f => Y f 1 fun _ f => ?_)
  have f := Frm.set f 8 (v := .int .i64 (IntKind.wrap .i64 ((n : Int).tdiv 10))) (v' := .int .i64 ((n : Int) / 10)) (by kernel_rfl) (congrArg (Value.int .i64) (quo_i64 (by omega) (by decide) (by omega)))
  have f := Frm.set f 8 (v := .int .i64 ((n : Int) / 10)) (v' := .int .i64 ((n / 10 : Nat) : Int)) (by kernel_rfl) (congrArg (Value.int .i64) (by omega))
  refine Y17 (E := [Ent.obj bp (.cells #[.func (.func 109) #[] #[.pointer (some (⟨bp, 0, none⟩)), .pointer (some (⟨bo, 0, none⟩))]] 139 (0, 0)), Ent.obj bo (.cells #[v] 35 (0, 0)), Ent.row 5 1 v k xs]) (H := (H)) f p0 (ih (n / 10) (by omega) _ (by omega) v k xs hk) fun v_1 M_1 E_1 w_1 hM_1 p_1 q_1 _ f => ?_
  obtain ⟨rfl, v2, rfl⟩ := q_1
  have p_2 : Hp w0 M ((Ent.obj bp (.cells #[.func (.func 109) #[] #[.pointer (some (⟨bp, 0, none⟩)), .pointer (some (⟨bo, 0, none⟩))]] 139 (0, 0))) :: (Ent.obj bo (.cells #[v2] 35 (0, 0))) :: (Ent.row 5 1 v2 (k + (digs (n / 10)).length) (xs ++ byteCs (digs (n / 10)))) :: H) w_1 := p_1.less hM_1
  refine eT (R_reg (Z f (Y32 (v := v2) rfl (ad := ⟨bo, 0, none⟩) (p_2.ownCell 1 rfl 0)) fun _ f => Y f 1 fun _ f => Y f 1 fun _ f => ?_))
  have f := Frm.set f 12 (v := .int .i64 ((n : Int).tmod 10)) (v' := .int .i64 ((n : Int) % 10)) (by kernel_rfl) (congrArg (Value.int .i64) (rem_nn (by omega)))
  refine Y f 1 fun _ f => ?_
  have f := Frm.set f 13 (v := .int .i64 (IntKind.wrap .i64 ((48 : Int) + ((n : Int) % 10)))) (v' := .int .i64 ((48 : Int) + ((n : Int) % 10))) (by kernel_rfl) (congrArg (Value.int .i64) (IntWalk.i64_in _ (by omega)))
  refine Y f 1 fun _ f => ?_
  have f := Frm.set f 14 (v := .int .u8 (IntKind.wrap .u8 ((48 : Int) + ((n : Int) % 10)))) (v' := .int .u8 (((48 : Int) + ((n : Int) % 10)) % 256)) (by kernel_rfl) (congrArg (Value.int .u8) (IntKind.wrap_u8 _))
  have f := Frm.set f 14 (v := .int .u8 (((48 : Int) + ((n : Int) % 10)) % 256)) (v' := .int .u8 ((dch n).toNat : Int)) (by kernel_rfl) (congrArg (Value.int .u8) (dch_int n))
  refine V_allocS (k := 1) (c := 1) f p_2 (.cells #[.int .u8 ((dch n).toNat : Int)] 5 (0, 0)) (by kernel_rfl) (fun _ => by kernel_rfl) fun b_1 w_2 p_3 _ f => ?_
  have p_4 := p_3.pl [3]
  refine W_append (d := 16) (t := 35) (e := 5) (z := .int .u8 0) (v := v2) (size := 1) (bytes := 1) (k := k + (digs (n / 10)).length) (m := 1) (c := 1) (xs := xs ++ byteCs (digs (n / 10))) (news := [.int .u8 ((dch n).toNat : Int)]) (ad := ⟨b_1, 0, none⟩) f p_4 (by kernel_rfl) (by kernel_rfl) rfl rfl rfl (by kernel_rfl) (by kernel_rfl) (by kernel_rfl) (by kernel_rfl) (rfl) (own_cells (p_4.ownCell 1 rfl) 0 rfl) (all_one (by kernel_rfl)) (by omega) (by omega) fun v_2 w_3 p_5 _ f => ?_
  have p_6 := p_5.pl [1]
  have p_7 := p_6.drop
  refine Y26 f p_7 2 rfl rfl (b := bo) (j := 0) (v := v_2) (row_one (p_7.rowAt 0 rfl)) (by exact rfl) (by simp) (by simp) ((Ent.row 5 1 v_2 ((k + (digs (n / 10)).length) + 1) ((xs ++ byteCs (digs (n / 10))) ++ [.int .u8 ((dch n).toNat : Int)])) :: (Ent.obj bp (.cells #[.func (.func 109) #[] #[.pointer (some (⟨bp, 0, none⟩)), .pointer (some (⟨bo, 0, none⟩))]] 139 (0, 0))) :: (Ent.obj bo (.cells #[v_2] 35 (0, 0))) :: H) rfl fun w_4 p_8 _ f => W_end rfl (E_end0 f rfl  ?_)
  have p_9 : Hp w0 M ((Ent.row 5 1 v_2 (k + (digs n).length) (xs ++ byteCs (digs n))) :: (Ent.obj bp (.cells #[.func (.func 109) #[] #[.pointer (some (⟨bp, 0, none⟩)), .pointer (some (⟨bo, 0, none⟩))]] 139 (0, 0))) :: (Ent.obj bo (.cells #[v_2] 35 (0, 0))) :: H) w_4 := p_8.rowEq (by rw [digs_ge (n := n) (by omega)]; simp; omega) (by rw [digs_ge (n := n) (by omega), byteCs_append, List.append_assoc]; rfl)
  have p_11 := p_9.pl [2, 2]
  exact ⟨_, rfl, M, [Ent.obj bp (.cells #[.func (.func 109) #[] #[.pointer (some (⟨bp, 0, none⟩)), .pointer (some (⟨bo, 0, none⟩))]] 139 (0, 0)), Ent.obj bo (.cells #[v_2] 35 (0, 0)), Ent.row 5 1 v_2 (k + (digs n).length) (xs ++ byteCs (digs n))], mR _, p_11, rfl, v_2, rfl⟩
 ·have k_2 := iff_f dI h_1
  refine wp_skip (T_n (R_reg (Z f (Y32 (v := v) rfl (ad := ⟨bo, 0, none⟩) (p0.ownCell 1 rfl 0)) fun _ f => Y f 1 fun _ f => Y f 1 fun _ f => ?_)))
  have f := Frm.set f 12 (v := .int .i64 ((n : Int).tmod 10)) (v' := .int .i64 ((n : Int) % 10)) (by kernel_rfl) (congrArg (Value.int .i64) (rem_nn (by omega)))
  refine Y f 1 fun _ f => ?_
  have f := Frm.set f 13 (v := .int .i64 (IntKind.wrap .i64 ((48 : Int) + ((n : Int) % 10)))) (v' := .int .i64 ((48 : Int) + ((n : Int) % 10))) (by kernel_rfl) (congrArg (Value.int .i64) (IntWalk.i64_in _ (by omega)))
  refine Y f 1 fun _ f => ?_
  have f := Frm.set f 14 (v := .int .u8 (IntKind.wrap .u8 ((48 : Int) + ((n : Int) % 10)))) (v' := .int .u8 (((48 : Int) + ((n : Int) % 10)) % 256)) (by kernel_rfl) (congrArg (Value.int .u8) (IntKind.wrap_u8 _))
  have f := Frm.set f 14 (v := .int .u8 (((48 : Int) + ((n : Int) % 10)) % 256)) (v' := .int .u8 ((dch n).toNat : Int)) (by kernel_rfl) (congrArg (Value.int .u8) (dch_int n))
  refine V_allocS (k := 1) (c := 1) f p0 (.cells #[.int .u8 ((dch n).toNat : Int)] 5 (0, 0)) (by kernel_rfl) (fun _ => by kernel_rfl) fun b_2 w_5 p_12 _ f => ?_
  have p_13 := p_12.pl [3]
  refine W_append (d := 16) (t := 35) (e := 5) (z := .int .u8 0) (v := v) (size := 1) (bytes := 1) (k := k) (m := 1) (c := 1) (xs := xs) (news := [.int .u8 ((dch n).toNat : Int)]) (ad := ⟨b_2, 0, none⟩) f p_13 (by kernel_rfl) (by kernel_rfl) rfl rfl rfl (by kernel_rfl) (by kernel_rfl) (by kernel_rfl) (by kernel_rfl) (rfl) (own_cells (p_13.ownCell 1 rfl) 0 rfl) (all_one (by kernel_rfl)) (by omega) (by omega) fun v_3 w_6 p_14 _ f => ?_
  have p_15 := p_14.pl [1]
  have p_16 := p_15.drop
  refine Y26 f p_16 2 rfl rfl (b := bo) (j := 0) (v := v_3) (row_one (p_16.rowAt 0 rfl)) (by exact rfl) (by simp) (by simp) ((Ent.row 5 1 v_3 (k + 1) (xs ++ [.int .u8 ((dch n).toNat : Int)])) :: (Ent.obj bp (.cells #[.func (.func 109) #[] #[.pointer (some (⟨bp, 0, none⟩)), .pointer (some (⟨bo, 0, none⟩))]] 139 (0, 0))) :: (Ent.obj bo (.cells #[v_3] 35 (0, 0))) :: H) rfl fun w_7 p_17 _ f => W_end rfl (E_end0 f rfl  ?_)
  have p_18 : Hp w0 M ((Ent.row 5 1 v_3 (k + (digs n).length) (xs ++ byteCs (digs n))) :: (Ent.obj bp (.cells #[.func (.func 109) #[] #[.pointer (some (⟨bp, 0, none⟩)), .pointer (some (⟨bo, 0, none⟩))]] 139 (0, 0))) :: (Ent.obj bo (.cells #[v_3] 35 (0, 0))) :: H) w_7 := p_17.rowEq (by rw [digs_lt (n := n) (by omega)]; rfl) (by rw [digs_lt (n := n) (by omega)]; rfl)
  have p_20 := p_18.pl [2, 2]
  exact ⟨_, rfl, M, [Ent.obj bp (.cells #[.func (.func 109) #[] #[.pointer (some (⟨bp, 0, none⟩)), .pointer (some (⟨bo, 0, none⟩))]] 139 (0, 0)), Ent.obj bo (.cells #[v_3] 35 (0, 0)), Ent.row 5 1 v_3 (k + (digs n).length) (xs ++ byteCs (digs n))], mR _, p_20, rfl, v_3, rfl⟩
theorem textP_ok (M : Mem) (n : Int) : Ok Tryd.prog M 83 [.int .i64 n] (fun _ v => v = .tuple #[S (text n).1, .int .i64 (text n).2]) := by
 intro M hM0 w0 H w p0
 refine R_enter 25 Tryd.func83 rfl rfl (by simp) fun a0 f0 => RR (Y f0 2 fun _ f => eT (R_seq (RR (Y f 1 fun _ f => Y18 f p0 (fits_ok _ (n)) fun w_1 p_1 _ f => ?_))))
 refine Y f 1 fun _ f => eT (Y6 f (b := !(fitsB n)) (fun h_1 => ?_) fun h_1 => ?_)
 ·have k_1 : (fitsB n) = false := by simpa using h_1
  refine RR (Y f 2 fun _ f => eT (wp_ret (T_r (E_ret2 f rfl (by kernel_rfl : Vc.look _ 2 = some (S [])) (by kernel_rfl : Vc.look _ 3 = some (.int .i64 20)) (⟨_, rfl, M, (mR _), (p_1.dropN 0), ?_⟩)))))
  rw [text_no k_1]
 ·have k_2 : (fitsB n) = true := by simpa using h_1
  refine wp_skip (T_n (R_seq ?_))
  have hfit := k_2
  have hfit2 := fitsB_iff.1 hfit
  refine R_reg (Y12 f p_1 (.cells #[.slice none 0 0] 35 (0, 0)) fun b_1 w_2 p_2 _ f => eT (RR (Y12 f p_2 (.cells #[.nilFunc] 139 (0, 0)) fun b_2 w_3 p_3 _ f => eT (RR ?_))))
  refine Y f 1 fun _ f => Y26 f p_3 0 rfl rfl (b := b_2) (j := 0) (v := .func (.func 109) #[] #[.pointer (some (⟨b_2, 0, none⟩)), .pointer (some (⟨b_1, 0, none⟩))]) rfl (by exact rfl) (by simp) (by simp) ((Ent.obj b_2 (.cells #[.func (.func 109) #[] #[.pointer (some (⟨b_2, 0, none⟩)), .pointer (some (⟨b_1, 0, none⟩))]] 139 (0, 0))) :: (Ent.obj b_1 (.cells #[.slice none 0 0] 35 (0, 0))) :: H) rfl fun w_4 p_4 _ f => eT (R_seq (wp_block (RR (Y f 1 fun _ f => ?_))))
  have p_5 := p_4.nilRow 5 1
  refine Y f 2 fun _ f => eT (Y6 f (b := decide (n < 0)) (fun h_2 => ?_) fun h_2 => ?_)
  ·have k_3 := dI.1 h_2
   refine RR (Z f (Y32 (v := .slice none 0 0) rfl (ad := ⟨b_1, 0, none⟩) (p_5.ownCell 2 rfl 0)) fun _ f => V_allocS (k := 1) (c := 1) f p_5 (.cells #[.int .u8 45] 5 (0, 0)) (by kernel_rfl) (fun _ => by kernel_rfl) fun b_3 w_5 p_6 _ f => ?_)
   have p_7 := p_6.pl [1]
   refine W_append (d := 18) (t := 35) (e := 5) (z := .int .u8 0) (v := .slice none 0 0) (size := 1) (bytes := 1) (k := 0) (m := 1) (c := 1) (xs := []) (news := [.int .u8 45]) (ad := ⟨b_3, 0, none⟩) f p_7 (by kernel_rfl) (by kernel_rfl) rfl rfl rfl (by kernel_rfl) (by kernel_rfl) (by kernel_rfl) (by kernel_rfl) (rfl) (own_cells (p_7.ownCell 1 rfl) 0 rfl) (all_one (by kernel_rfl)) (by omega) (by omega) fun v_1 w_6 p_8 _ f => ?_
   have p_9 := p_8.pl [1]
   have p_10 := p_9.drop
   refine Y26 f p_10 2 rfl rfl (b := b_1) (j := 0) (v := v_1) (row_one (p_10.rowAt 0 rfl)) (by exact rfl) (by simp) (by simp) ((Ent.row 5 1 v_1 (0 + 1) ([] ++ [.int .u8 45])) :: (Ent.obj b_2 (.cells #[.func (.func 109) #[] #[.pointer (some (⟨b_2, 0, none⟩)), .pointer (some (⟨b_1, 0, none⟩))]] 139 (0, 0))) :: (Ent.obj b_1 (.cells #[v_1] 35 (0, 0))) :: H) rfl fun w_7 p_11 _ f => eT (R_reg (Z f (Y32 (v := .func (.func 109) #[] #[.pointer (some (⟨b_2, 0, none⟩)), .pointer (some (⟨b_1, 0, none⟩))]) rfl (ad := ⟨b_2, 0, none⟩) (p_11.ownCell 1 rfl 0)) fun _ f => Y f 1 fun _ f => Y f 1 fun _ f => ?_))
   have f := Frm.set f 21 (v := .int .i64 (IntKind.wrap .i64 (0 - n))) (v' := .int .i64 (-n)) (by kernel_rfl) (congrArg (Value.int .i64) ((IntWalk.i64_in _ (by omega)).trans (Int.zero_sub _)))
   have f := Frm.set f 21 (v := .int .i64 (-n)) (v' := .int .i64 ((-n).toNat : Int)) (by kernel_rfl) (congrArg (Value.int .i64) (by omega))
   have p_13 := p_11.pl [2, 2]
   refine Y17 (E := [Ent.obj b_2 (.cells #[.func (.func 109) #[] #[.pointer (some (⟨b_2, 0, none⟩)), .pointer (some (⟨b_1, 0, none⟩))]] 139 (0, 0)), Ent.obj b_1 (.cells #[v_1] 35 (0, 0)), Ent.row 5 1 v_1 (0 + 1) ([] ++ [.int .u8 45])]) (H := (H)) f p_13 (textIn_ok _ b_2 b_1 ((-n).toNat) (by omega) (v_1) (0 + 1) ([] ++ [.int .u8 45]) (by omega)) fun v_2 M_1 E_1 w_8 hM_1 p_14 q_1 _ f => ?_
   obtain ⟨rfl, v3, rfl⟩ := q_1
   have p_15 : Hp w0 M ((Ent.obj b_2 (.cells #[.func (.func 109) #[] #[.pointer (some (⟨b_2, 0, none⟩)), .pointer (some (⟨b_1, 0, none⟩))]] 139 (0, 0))) :: (Ent.obj b_1 (.cells #[v3] 35 (0, 0))) :: (Ent.row 5 1 v3 ((0 + 1) + (digs (-n).toNat).length) (([] ++ [.int .u8 45]) ++ byteCs (digs (-n).toNat))) :: H) w_8 := p_14.less hM_1
   refine W_end rfl (B_n (T_n (RR (Z f (Y32 (v := v3) rfl (ad := ⟨b_1, 0, none⟩) (p_15.ownCell 1 rfl 0)) fun _ f => ?_))))
   have p_16 := p_15.pl [2]
   have p_17 : Hp w0 M ((Ent.row 5 1 v3 (45 :: digs (-n).toNat).length (byteCs (45 :: digs (-n).toNat))) :: (Ent.obj b_2 (.cells #[.func (.func 109) #[] #[.pointer (some (⟨b_2, 0, none⟩)), .pointer (some (⟨b_1, 0, none⟩))]] 139 (0, 0))) :: (Ent.obj b_1 (.cells #[v3] 35 (0, 0))) :: H) w_8 := p_16.rowEq (by simp <;> omega) (by simp [byteCs])
   refine Z (v := S (45 :: digs (-n).toNat)) f (X_string_row rfl (l := 45 :: digs (-n).toNat) (v := v3) (by kernel_rfl) (e := 5) (by kernel_rfl) (by kernel_rfl) (by kernel_rfl) (p_17.rowAt 0 rfl)) fun _ f => Y f 2 fun _ f => eT (wp_ret (E_ret2 f rfl (by kernel_rfl : Vc.look _ 2 = some (S (45 :: digs (-n).toNat))) (by kernel_rfl : Vc.look _ 3 = some (.int .i64 0)) (⟨_, rfl, M, (mR _), (p_17.dropN 3), ?_⟩)))
   rw [text_neg hfit k_3]
  ·have k_4 := iff_f dI h_2
   refine R_reg (Z f (Y32 (v := .func (.func 109) #[] #[.pointer (some (⟨b_2, 0, none⟩)), .pointer (some (⟨b_1, 0, none⟩))]) rfl (ad := ⟨b_2, 0, none⟩) (p_5.ownCell 1 rfl 0)) fun _ f => Y f 1 fun _ f => ?_)
   have f := Frm.set f 11 (v := .int .i64 n) (v' := .int .i64 (n.toNat : Int)) (by kernel_rfl) (congrArg (Value.int .i64) (by omega))
   have p_19 := p_5.pl [2, 2]
   refine Y17 (E := [Ent.obj b_2 (.cells #[.func (.func 109) #[] #[.pointer (some (⟨b_2, 0, none⟩)), .pointer (some (⟨b_1, 0, none⟩))]] 139 (0, 0)), Ent.obj b_1 (.cells #[.slice none 0 0] 35 (0, 0)), Ent.row 5 1 (.slice none 0 0) 0 []]) (H := (H)) f p_19 (textIn_ok _ b_2 b_1 (n.toNat) (by omega) (.slice none 0 0) (0) ([]) (by omega)) fun v_3 M_2 E_2 w_9 hM_2 p_20 q_2 _ f => ?_
   obtain ⟨rfl, v3, rfl⟩ := q_2
   have p_21 : Hp w0 M ((Ent.obj b_2 (.cells #[.func (.func 109) #[] #[.pointer (some (⟨b_2, 0, none⟩)), .pointer (some (⟨b_1, 0, none⟩))]] 139 (0, 0))) :: (Ent.obj b_1 (.cells #[v3] 35 (0, 0))) :: (Ent.row 5 1 v3 (0 + (digs n.toNat).length) ([] ++ byteCs (digs n.toNat))) :: H) w_9 := p_20.less hM_2
   refine W_end rfl (B_n (T_n (RR (Z f (Y32 (v := v3) rfl (ad := ⟨b_1, 0, none⟩) (p_21.ownCell 1 rfl 0)) fun _ f => ?_))))
   have p_22 := p_21.pl [2]
   have p_23 : Hp w0 M ((Ent.row 5 1 v3 (digs n.toNat).length (byteCs (digs n.toNat))) :: (Ent.obj b_2 (.cells #[.func (.func 109) #[] #[.pointer (some (⟨b_2, 0, none⟩)), .pointer (some (⟨b_1, 0, none⟩))]] 139 (0, 0))) :: (Ent.obj b_1 (.cells #[v3] 35 (0, 0))) :: H) w_9 := p_22.rowEq (by simp) (by simp)
   refine Z (v := S (digs n.toNat)) f (X_string_row rfl (l := digs n.toNat) (v := v3) (by kernel_rfl) (e := 5) (by kernel_rfl) (by kernel_rfl) (by kernel_rfl) (p_23.rowAt 0 rfl)) fun _ f => Y f 2 fun _ f => eT (wp_ret (E_ret2 f rfl (by kernel_rfl : Vc.look _ 2 = some (S (digs n.toNat))) (by kernel_rfl : Vc.look _ 3 = some (.int .i64 0)) (⟨_, rfl, M, (mR _), (p_23.dropN 3), ?_⟩)))
   rw [text_pos hfit k_4]
end Go.Proofs.YtocefedhenhbfaaDoor
end

section
namespace Go.Num
open Go
theorem digs_ne (n : Nat) : digs n ≠ [] := by
 by_cases h : n < 10
 ·rw [digs_lt h]; simp
 ·rw [digs_ge h]; simp
theorem digs_pos (n : Nat) : 1 ≤ (digs n).length := by
 have := digs_ne n
 cases h : digs n with
 | nil => exact absurd h this
 | cons c r => simp
theorem text_fit {n : Int} (h : (text n).2 = 0) : fitsB n = true := by
 cases hf : fitsB n with
 | true => rfl
 | false => rw [text_no hf] at h; simp at h
end Go.Num
namespace Go.Num
open Go
theorem dig_dch (n : Nat) : dig (dch n) = true := by rw [dig_iff, dch_toNat]; omega
theorem digs_dig : ∀ (n : Nat), ∀ c ∈ digs n, dig c = true := by
 intro n
 induction n using Nat.strongRecOn with
 | _ n ih =>
  intro c hc
  by_cases h : n < 10
  ·rw [digs_lt h] at hc; simp only [List.mem_cons, List.not_mem_nil, or_false] at hc; rw [hc]; exact dig_dch n
  ·rw [digs_ge h] at hc
   rcases List.mem_append.1 hc with hc | hc
   ·exact ih (n / 10) (by omega) c hc
   ·simp only [List.mem_cons, List.not_mem_nil, or_false] at hc; rw [hc]; exact dig_dch n
theorem nd_app : ∀ (ds b : List UInt8) (k : Nat), (∀ c ∈ ds, dig c = true) → nd (ds ++ b) k = nd b (k + ds.length)
 | [], b, k, _ => by simp
 | c :: ds, b, k, h => by
  simp only [List.cons_append, nd, h c List.mem_cons_self, if_true]
  rw [nd_app ds b (k + 1) (fun x hx => h x (List.mem_cons_of_mem _ hx))]
  simp only [List.length_cons]; congr 1; omega
theorem vl_app : ∀ (ds b : List UInt8) (v : Nat), (∀ c ∈ ds, dig c = true) → vl (ds ++ b) v = vl b (vl ds v)
 | [], b, v, _ => by simp [vl]
 | c :: ds, b, v, h => by
  simp only [List.cons_append, vl, h c List.mem_cons_self, if_true]
  exact vl_app ds b _ (fun x hx => h x (List.mem_cons_of_mem _ hx))
theorem vl_digs : ∀ (n : Nat), vl (digs n) 0 = n := by
 intro n
 induction n using Nat.strongRecOn with
 | _ n ih =>
  by_cases h : n < 10
  ·rw [digs_lt h]; simp only [vl, dig_dch, if_true]; rw [dch_toNat]; omega
  ·rw [digs_ge h, vl_app _ _ _ (digs_dig _), ih (n / 10) (by omega)]
   simp only [vl, dig_dch, if_true]; rw [dch_toNat]; omega
theorem digs_zero : ∀ (n : Nat), (digs n).getD 0 0 = 48 → n = 0 := by
 intro n
 induction n using Nat.strongRecOn with
 | _ n ih =>
  intro h0
  by_cases h : n < 10
  ·rw [digs_lt h] at h0
   have : (dch n).toNat = 48 := by rw [show dch n = 48 by simpa using h0]; rfl
   rw [dch_toNat] at this; omega
  ·rw [digs_ge h] at h0
   have hp := digs_pos (n / 10)
   have : (digs (n / 10)).getD 0 0 = 48 := by
    rw [← h0]; simp only [List.getD]; rw [List.getElem?_append_left (by omega)]
   have := ih (n / 10) (by omega) this
   omega
def stops (b : List UInt8) : Prop := dig (b.getD 0 0) = false ∧ b.getD 0 0 ≠ 46 ∧ b.getD 0 0 ≠ 101 ∧ b.getD 0 0 ≠ 69
theorem getD_app (x b : List UInt8) (j : Nat) : (x ++ b).getD (x.length + j) 0 = b.getD j 0 := by
 simp [List.getD, List.getElem?_append_right]
theorem neg_digs (n : Nat) (b : List UInt8) : neg (digs n ++ b) = false := by
 have hp := digs_pos n
 cases h : digs n with
 | nil => rw [h] at hp; simp at hp
 | cons c r =>
  have hd := digs_dig n c (by rw [h]; exact List.mem_cons_self)
  rw [dig_iff] at hd
  simp only [neg, List.cons_append, List.getD_cons_zero, decide_eq_false_iff_not]
  intro e; rw [e] at hd; simp at hd
theorem scanL_text {n : Int} (hf : fitsB n = true) (b : List UInt8) (hb : stops b) (at_ : Int) : scanL ((text n).1 ++ b) at_ = (n, at_ + (text n).1.length, 0) := by
 obtain ⟨f1, f2⟩ := fitsB_iff.1 hf
 obtain ⟨b1, b2, b3, b4⟩ := hb
 have key : ∀ (f m : Nat) (l : List UInt8), l.drop f = digs m ++ b → fst l = f → (neg l = true → f = 1 ∧ m ≠ 0) → m ≤ 9007199254740992 → l.getD f 0 = (digs m ++ b).getD 0 0 → l.getD (f + (digs m).length) 0 = b.getD 0 0 →
   scanL l at_ = (if neg l then -(m : Int) else m, at_ + (f + (digs m).length : Nat), 0) := by
  intro f m l hd hfst hneg hm h0 hk
  have hp := digs_pos m
  have hnd : nd (l.drop f) f = f + (digs m).length := by
   rw [hd, nd_app _ _ _ (digs_dig m)]
   have := nd_stop b 0 b1
   cases b with
   | nil => rfl
   | cons c r =>
    have : dig c = false := by simpa using b1
    simp only [nd, this]; rfl
  have hvl : vl (l.drop f) 0 = m := by
   rw [hd, vl_app _ _ _ (digs_dig m), vl_digs]
   cases b with
   | nil => rfl
   | cons c r =>
    have : dig c = false := by simpa using b1
    simp only [vl, this]; rfl
  unfold scanL
  simp only []
  rw [hfst, hnd, hvl, hk, if_neg, if_neg, if_neg]
  ·unfold big; rintro (h | ⟨h, h'⟩)
   ·omega
   ·exact (hneg h).2 h'
  ·rintro (h | h | h | h)
   ·omega
   ·exact b2 h
   ·exact b3 h
   ·exact b4 h
  ·rintro ⟨h, h'⟩
   rw [h0] at h
   have h2 : (digs m).getD 0 0 = 48 := by
    rw [← h]; simp only [List.getD]; rw [List.getElem?_append_left (by omega)]
   have := digs_zero m h2
   subst this
   rw [digs_lt (by omega)] at h'
   simp at h'
 by_cases h0 : n < 0
 ·rw [text_neg hf h0]
  dsimp only
  have hn : neg (45 :: digs (-n).toNat ++ b) = true := by simp [neg]
  have := key 1 (-n).toNat (45 :: digs (-n).toNat ++ b) (by simp) (fst_t hn) (fun _ => ⟨rfl, by omega⟩) (by omega) (by simp [List.getD]) (by
   have := getD_app (45 :: digs (-n).toNat) b 0
   simp only [List.length_cons, Nat.add_zero] at this
   rw [Nat.add_comm 1]; exact this)
  rw [this, hn]
  simp only [if_true, List.length_cons]
  refine Prod.ext ?_ (Prod.ext ?_ rfl)
  ·dsimp only; omega
  ·dsimp only; omega
 ·rw [text_pos hf h0]
  dsimp only
  have hn := neg_digs n.toNat b
  have := key 0 n.toNat (digs n.toNat ++ b) (by simp) (fst_f hn) (fun h => by rw [hn] at h; cases h) (by omega) rfl (by
   have := getD_app (digs n.toNat) b 0
   simpa using this)
  rw [this, hn]
  refine Prod.ext ?_ (Prod.ext ?_ rfl)
  ·show (n.toNat : Int) = n; omega
  ·dsimp only; omega
theorem stops_nil : stops [] := by unfold stops; decide
theorem read_text {n : Int} (hf : fitsB n = true) : read (text n).1 = (n, 0) := by
 have h := scanL_text hf [] stops_nil 0
 simp only [List.append_nil] at h
 have hs : scan (text n).1 0 = (n, 0 + ((text n).1.length : Int), 0) := by
  rw [scan_inside (by omega)]
  simpa using h
 unfold read
 rw [hs]
 simp
theorem text_zero (n : Int) : (text n).2 = 0 ↔ fitsB n = true := ⟨text_fit, fun h => by simp [text, h]⟩
theorem text_len {n : Int} (h : fitsB n = true) : (text n).1.length ≤ 17 := by
 have h2 := fitsB_iff.1 h
 by_cases h0 : n < 0
 ·rw [text_neg h h0]; have := digs_len16 (n := (-n).toNat) (by omega); simp; omega
 ·rw [text_pos h h0]; have := digs_len16 (n := n.toNat) (by omega); dsimp only; omega
end Go.Num
end

section
namespace Go.Proofs.YtocefedhenhbfaaDoor
open Go Go.Vc Go.RowKit Go.Num
def h_numText (_ : Nat) (x : Int) : Option (List UInt8 × Int) := some (Go.Num.text x)
theorem h_numText_ok (n : Nat) (M : Mem) (x : Int) (r : List UInt8 × Int) (hF : h_numText n x = some r) : Ok Tryd.prog M 83 [.int .i64 x] (fun _ v => v = .tuple #[S r.1, .int .i64 r.2]) := by
 obtain rfl := Option.some.inj hF
 exact textP_ok M x
def h_numRead (_ : Nat) (s : List UInt8) : Option (Int × Int) := need (s.length ≤ 140737488351232) (some (Go.Num.read s))
theorem h_numRead_ok (n : Nat) (M : Mem) (s : List UInt8) (r : Int × Int) (hF : h_numRead n s = some r) : Ok Tryd.prog M 125 [S s] (fun _ v => v = .tuple #[.int .i64 r.1, .int .i64 r.2]) := by
 unfold h_numRead at hF
 obtain ⟨g, hF⟩ := need_some hF
 obtain rfl := Option.some.inj hF
 exact readP_ok M s g
end Go.Proofs.YtocefedhenhbfaaDoor
end

section
namespace Go.Vc
open Go Go.RowKit
section
variable {P : Program} {w : World} {ρ : Operand → Value} {o : Oper}
theorem X_slice3 {t e sz : Nat} {x hi mx : Operand} {A : Option Addr} {len cap : Nat} {k k' : IntKind} {b : Int} (ho : o.op = .slice t x none (some hi) (some mx)) (hx : ρ x = .slice A len cap) (hhi : ρ hi = .int k b) (hmx : ρ mx = .int k' b) (ht : P.underlying t = some (.slice e))
  (hs : szIs P e sz = true) (h0 : 0 ≤ b) (h2 : b ≤ cap) : (execOp ρ o).run P w = .ok (.value (.slice (cutA A sz 0 b.toNat) b.toNat b.toNat)) w := by
 obtain ⟨b, rfl⟩ := Int.eq_ofNat_of_zero_le h0
 have hb : b ≤ cap := by omega
 unfold execOp
 simp only [ho, hx, hhi, hmx, Option.map, Instr.sliceAt, Sem.run_bind, Sem.run_pure, Result.andThen_ok, run_underlying ht, Instr.slice, Instr.sliceBounds, Instr.sliceBound, asIntOf]
 simp only [Int.toNat_natCast]
 simp [hb, run_sizeOf hs, cutA]
 rfl
theorem Y35 {t e sz : Nat} {x hi mx : Operand} {A : Option Addr} {len cap : Nat} {k k' : IntKind} {b : Int} (ho : o.op = .slice t x none (some hi) (some mx)) (h0 : 0 ≤ b) (h2 : b ≤ cap) (hx : ρ x = .slice A len cap := by kernel_rfl) (hhi : ρ hi = .int k b := by kernel_rfl) (hmx : ρ mx = .int k' b := by kernel_rfl) (ht : P.underlying t = some (.slice e) := by kernel_rfl) (hs : szIs P e sz = true := by kernel_rfl) : (execOp ρ o).run P w = .ok (.value (.slice (cutA A sz 0 b.toNat) b.toNat b.toNat)) w := X_slice3 ho hx hhi hmx ht hs h0 h2
end
section
variable {α : Type} {M : Mem} {sz : Nat} {f : α → Dat} {A : Option Addr} {cap : Nat} {xs : List α}
theorem Sli.full (h : Sli M sz f A cap xs) {b : Nat} (hb : b ≤ xs.length) : Sli M sz f (cutA A sz 0 b) (xs.take b).length (xs.take b) := by
 obtain ⟨h1, h2, h3⟩ := h
 have hl : (xs.take b).length = b := by rw [List.length_take]; omega
 refine ⟨Nat.le_refl _, fun e => ?_, ?_⟩
 ·rw [hl]
  unfold cutA at e
  split at e
  ·omega
  ·cases A with
   | none => have := h2 rfl; omega
   | some ad => simp at e
 ·rcases h3 with h3 | ⟨ad, h4, h5⟩
  ·exact .inl (by simp [h3])
  ·by_cases hac : b = 0
   ·exact .inl (by simp [hac])
   ·refine .inr ⟨ad.add (0 * sz), by simp [cutA, hac, h4], ?_⟩
    rw [List.map_take]
    have := RepArr.drop 0 (RepArr.take b h5)
    simpa using this
end
section
variable {α : Type} {P : Program} {ops : Array Oper} {n : Nat} {Q : Exit → Act → World → Prop} {L : Fr} {a : Act} {w0 w : World} {M : Mem} {H : List Ent} {sz : Nat} {f : α → Dat} {dd : List Deferred}
theorem Hp.appendFull {t tx ty e : TypeId} {i : TypeInfo} {z x : Value} {m : Nat} {xs : List α} {news : List Value} {A : Option Addr} (hp : Hp w0 M H w) (hxs : Sli M sz f A xs.length xs) (hs : Src P sz tx x m news w) (hm : 0 < m)
  (ht : P.underlying t = some (.slice e)) (hi : P.info? e = some i) (hz : i.zero = some z) (hsz : i.size = sz) (hzs : z.cells.size = sz) (h0 : 0 < sz) (hb : (xs.length + m) * i.bytes ≤ 140737488355328) (h63 : xs.length + m ≤ 9223372036854775807) :
  ∃ v' cs w', (Builtin.append_ #[t, tx] ty #[.slice A xs.length xs.length, x]).run P w = .ok v' w' ∧ RepSeq M (xs.map f) cs ∧ Hp w0 M (.row e sz v' (xs.length + m) (cs ++ news) :: H) w' := by
 subst hsz
 have hl := hs.newsLen
 have hold : ∃ cs : List Value, cs.length = xs.length * i.size ∧ RepSeq M (xs.map f) cs ∧ (Builtin.firstCells i.size xs.length (.slice A xs.length xs.length)).run P w.drew = .ok cs.toArray w.drew := by
  obtain ⟨h1, h2, h3⟩ := hxs
  cases A with
  | none =>
   have h4 := h2 rfl
   have h5 : xs = [] := List.eq_nil_of_length_eq_zero h4
   subst h5
   exact ⟨[], by simp, rfl, run_firstCells_none w.drew i.size 0 0 0⟩
  | some ad =>
   have h5 : RepArr M i.size (xs.map f) ad := by
    rcases h3 with h3 | ⟨ad', e', h5⟩
    ·subst h3; trivial
    ·cases e'; exact h5
   obtain ⟨cs, k1, k2, k3⟩ := RepArr.cells h5
   have k1' : cs.length = xs.length * i.size := by simpa using k1
   exact ⟨cs, k1', k2, run_firstCells_some w.drew i.size xs.length ad xs.length xs.length cs k1' fun j u hu => hp.drew.cell (k3 j u hu)⟩
 obtain ⟨cs, k1, k2, k3⟩ := hold
 have hc : xs.length < xs.length + m := by omega
 have hr := run_append_grow_src (P := P) w t tx ty e i z ht hi hz A xs.length xs.length cs k3 x m news hs hc (by omega) (growslice_fits hc hb)
 have hlen : (cs ++ news).length = (xs.length + m) * i.size := by rw [List.length_append, k1, hl, Nat.add_mul]
 refine ⟨_, cs, _, hr, k2, ?_⟩
 refine (hp.drew.alloc _).objRow (grownCap_ge w (xs.length + m) xs.length e) (grownCap_le_maxLen w (xs.length + m) xs.length e (by unfold maxLen; exact h63)) (blk_eq (grownCap_le_maxLen w (xs.length + m) xs.length e (by unfold maxLen; exact h63)) ?_) ?_ hlen
 ·have := grownCap_ge w (xs.length + m) xs.length e
  rw [Array.size_append, List.size_toArray, size_zeroCells, hzs, hlen, ← Nat.add_mul]
  congr 1
  omega
 ·rw [Array.toList_append, ← hlen]
  exact List.take_left
theorem W_appendFL {o : Oper} {rest : List Oper} {d : Nat} {t e : TypeId} {x y : Operand} {z : Value} {bytes m c : Nat} {ad : Addr} {A : Option Addr} {xs ys : List α} {news : List Value} (hf : Frm n L a dd) (hp : Hp w0 M H w) (h0 : 0 < sz) (hm : 0 < m)
  (hxs : Sli M sz f A xs.length xs) (hys : RepSeq M (ys.map f) news)
  (hw : wantedL ops L o = some true) (hr : readyL L o = true) (hd : o.dst = some d) (hdn : Nat.blt d n = true) (ho : o.op = .call { callee := .builtin .append, args := #[x, y], argTypes := #[t, t] })
  (hx : ev L x = .slice A xs.length xs.length) (hy : ev L y = .slice (some ad) m c) (ht : P.underlying t = some (.slice e)) (hi : infoIs P e z sz bytes = true) (hl : (ys.length, news.length) = (m, m * sz))
  (hn : ∀ j u, news[j]? = some u → w.cell? (ad.add j) = some u)
  (hb : (xs.length + m) * bytes ≤ 140737488355328) (h63 : xs.length + m ≤ 9223372036854775807)
  (hk : ∀ A cap cs' w', Hp w0 M (.row e sz (.slice A (xs ++ ys).length cap) (xs ++ ys).length cs' :: H) w' → RepSeq M ((xs ++ ys).map f) cs' → ∀ a', Frm n ((d, .slice A (xs ++ ys).length cap) :: L) a' dd → wpList P ops Q rest a' w') : wpList P ops Q (o :: rest) a w := by
 obtain ⟨i, u, hi1, hi2, hi3, hi4, hi5, hi6⟩ := info_of hi
 simp only [Prod.mk.injEq] at hl
 have hsrc := Src.ofSlice (P := P) (size := sz) w ht ad m c news hl.2 hn (RepSeq.oneC _ _ hys)
 obtain ⟨v', cs, w', hrun, hcs, hp'⟩ := hp.appendFull (ty := o.type) hxs hsrc hm ht hi1 hi2 hi3 hi5 h0 (by rw [hi4]; exact hb) h63
 obtain ⟨A', cap, rfl, _⟩ := hp'.rowShape 0 rfl
 have e3 : xs.length + m = (xs ++ ys).length := by simp [hl.1]
 refine W_eq hf hw hr hd hdn (X_append ho hx hy hrun) fun a' ha => ?_
 rw [e3] at ha hp'
 exact hk A' cap (cs ++ news) w' hp' (hcs.more hys) a' ha
theorem Y20 {o : Oper} {rest : List Oper} {d : Nat} {t e : TypeId} {x y : Operand} {z : Value} {bytes m c : Nat} {ad : Addr} {A : Option Addr} {xs ys : List α} {news : List Value} (hf : Frm n L a dd) (hp : Hp w0 M H w) (h0 : 0 < sz) (hm : 0 < m) (hxs : Sli M sz f A xs.length xs) (hys : RepSeq M (ys.map f) news) (hd : o.dst = some d) (hdn : Nat.blt d n = true) (ho : o.op = .call { callee := .builtin .append, args := #[x, y], argTypes := #[t, t] }) (hl : (ys.length, news.length) = (m, m * sz)) (hn : ∀ j u, news[j]? = some u → w.cell? (ad.add j) = some u) (hb : (xs.length + m) * bytes ≤ 140737488355328) (h63 : xs.length + m ≤ 9223372036854775807) (hk : ∀ A cap cs' w', Hp w0 M (.row e sz (.slice A (xs ++ ys).length cap) (xs ++ ys).length cs' :: H) w' → RepSeq M ((xs ++ ys).map f) cs' → ∀ a', Frm n ((d, .slice A (xs ++ ys).length cap) :: L) a' dd → wpList P ops Q rest a' w') (hw : wantedL ops L o = some true := by kernel_rfl) (hr : readyL L o = true := by kernel_rfl) (hx : ev L x = .slice A xs.length xs.length := by kernel_rfl) (hy : ev L y = .slice (some ad) m c := by kernel_rfl) (ht : P.underlying t = some (.slice e) := by kernel_rfl) (hi : infoIs P e z sz bytes = true := by kernel_rfl) : wpList P ops Q (o :: rest) a w := W_appendFL hf hp h0 hm hxs hys hw hr hd hdn ho hx hy ht hi hl hn hb h63 hk
theorem W_appendFS {o : Oper} {rest : List Oper} {d : Nat} {t e : TypeId} {x y : Operand} {z : Value} {bytes c : Nat} {A B : Option Addr} {xs ys : List α} (hf : Frm n L a dd) (hp : Hp w0 M H w) (h0 : 0 < sz) (hsz : ∀ x, Szd sz (f x))
  (hxs : Sli M sz f A xs.length xs) (hys : Sli M sz f B c ys)
  (hw : wantedL ops L o = some true) (hr : readyL L o = true) (hd : o.dst = some d) (hdn : Nat.blt d n = true) (ho : o.op = .call { callee := .builtin .append, args := #[x, y], argTypes := #[t, t] })
  (hx : ev L x = .slice A xs.length xs.length) (hy : ev L y = .slice B ys.length c) (ht : P.underlying t = some (.slice e)) (hi : infoIs P e z sz bytes = true)
  (hb : (xs.length + ys.length) * bytes ≤ 140737488355328) (h63 : xs.length + ys.length ≤ 9223372036854775807)
  (hk : ∀ A cap M' w', M.le M' → Hp w0 M' H w' → Sli M' sz f A cap (xs ++ ys) → ∀ a', Frm n ((d, .slice A (xs ++ ys).length cap) :: L) a' dd → wpList P ops Q rest a' w') : wpList P ops Q (o :: rest) a w := by
 obtain ⟨i, u, hi1, hi2, hi3, hi4, hi5, hi6⟩ := info_of hi
 obtain ⟨h1, h2, h3⟩ := hys
 have hsrc : ∃ news, RepSeq M (ys.map f) news ∧ Src P sz t (.slice B ys.length c) ys.length news w := by
  cases B with
  | none =>
   have h4 := h2 rfl
   have h5 : ys = [] := List.eq_nil_of_length_eq_zero (by omega)
   subst h5
   exact ⟨[], rfl, Src.ofNil w ht c⟩
  | some ad =>
   have h5 : RepArr M sz (ys.map f) ad := by
    rcases h3 with h3 | ⟨ad', e', h5⟩
    ·subst h3; trivial
    ·cases e'; exact h5
   obtain ⟨news, k1, k2, k3⟩ := RepArr.cells h5
   exact ⟨news, k2, Src.ofSlice (P := P) (size := sz) w ht ad ys.length c news (by simpa using k1) (fun j u hu => hp.cell (k3 j u hu)) (RepSeq.oneC _ _ k2)⟩
 obtain ⟨news, hns, hsrc⟩ := hsrc
 rcases Nat.eq_zero_or_pos ys.length with hz | hz
 ·have hy0 : ys = [] := List.eq_nil_of_length_eq_zero hz
  subst hy0
  have hnw : news = [] := List.eq_nil_of_length_eq_zero (by simpa using hsrc.newsLen)
  subst hnw
  have hrun := run_append_nothing w t t o.type e i ht hi1 A xs.length xs.length (Nat.le_refl _) (.slice B 0 c) (by rw [hi3]; exact hsrc)
  refine W_eq hf hw hr hd hdn (X_append ho hx hy hrun) fun a' ha => ?_
  refine hk A xs.length M w (Mem.le_refl _) hp (by rw [List.append_nil]; exact hxs) a' ?_
  rw [List.append_nil]; exact ha
 ·obtain ⟨v', cs, w', hrun, hcs, hp'⟩ := hp.appendFull (ty := o.type) hxs hsrc hz ht hi1 hi2 hi3 hi5 h0 (by rw [hi4]; exact hb) h63
  have e3 : xs.length + ys.length = (xs ++ ys).length := by simp
  rw [e3] at hp'
  obtain ⟨A', cap, M', rfl, hM, hp2, hsl⟩ := hp'.rowSli (f := f) hsz (hcs.more hns)
  refine W_eq hf hw hr hd hdn (X_append ho hx hy hrun) fun a' ha => ?_
  exact hk A' cap M' w' hM hp2 hsl a' ha
theorem Y21 {o : Oper} {rest : List Oper} {d : Nat} {t e : TypeId} {x y : Operand} {z : Value} {bytes c : Nat} {A B : Option Addr} {xs ys : List α} (hf : Frm n L a dd) (hp : Hp w0 M H w) (h0 : 0 < sz) (hsz : ∀ x, Szd sz (f x)) (hxs : Sli M sz f A xs.length xs) (hys : Sli M sz f B c ys) (hd : o.dst = some d) (hdn : Nat.blt d n = true) (ho : o.op = .call { callee := .builtin .append, args := #[x, y], argTypes := #[t, t] }) (hb : (xs.length + ys.length) * bytes ≤ 140737488355328) (h63 : xs.length + ys.length ≤ 9223372036854775807) (hk : ∀ A cap M' w', M.le M' → Hp w0 M' H w' → Sli M' sz f A cap (xs ++ ys) → ∀ a', Frm n ((d, .slice A (xs ++ ys).length cap) :: L) a' dd → wpList P ops Q rest a' w') (hw : wantedL ops L o = some true := by kernel_rfl) (hr : readyL L o = true := by kernel_rfl) (hx : ev L x = .slice A xs.length xs.length := by kernel_rfl) (hy : ev L y = .slice B ys.length c := by kernel_rfl) (ht : P.underlying t = some (.slice e) := by kernel_rfl) (hi : infoIs P e z sz bytes = true := by kernel_rfl) : wpList P ops Q (o :: rest) a w := W_appendFS hf hp h0 hsz hxs hys hw hr hd hdn ho hx hy ht hi hb h63 hk
end
section
variable {P : Program} {w : World} {d : Nat} {xs ys : Array Value}
theorem EqS {t : TypeId} {a b : List UInt8} (ht : P.underlying t = some .string) : (Op.equalIn (d + 1) t (S a) (S b)).run P w = .ok (decide (a = b)) w := by
 have : ((⟨a.toArray⟩ : ByteArray) == ⟨b.toArray⟩) = decide (a = b) := by
  rw [beq_toListBytes, ByteArray.toList_eq, ByteArray.toList_eq]
  rw [Bool.eq_iff_iff]; simp
 simp only [Op.equalIn, Sem.run_bind, run_underlying ht, Result.andThen_ok, Sem.run_pure, this]
theorem EqB {t : TypeId} {a b : Bool} (ht : P.underlying t = some .bool) : (Op.equalIn (d + 1) t (.bool a) (.bool b)).run P w = .ok (a == b) w := by
 simp [Op.equalIn, run_underlying ht]
def FEq (P : Program) (d : Nat) (xs ys : Array Value) (w : World) : List (TypeId × Nat) → List Bool → Prop
  | [], [] => True
  | (t, o) :: s, r :: rs => (∃ a b, (part t xs o).run P w = .ok a w ∧ (part t ys o).run P w = .ok b w ∧ (Op.equalIn d t a b).run P w = .ok r w) ∧ FEq P d xs ys w s rs
  | _, _ => False
def fieldsAre : List Field → List (TypeId × Nat) → Bool
  | [], [] => true
  | f :: fs, (t, o) :: s => f.name != "_" && (Nat.beq f.type t && (Nat.beq f.offset o && fieldsAre fs s))
  | _, _ => false
def andL : List Bool → Bool
  | [] => true
  | [r] => r
  | r :: rs => r && andL rs
theorem andL_cons (r : Bool) (rs : List Bool) : andL (r :: rs) = (r && andL rs) := by cases rs <;> simp [andL]
theorem FEq.run : ∀ {fs : List Field} {s : List (TypeId × Nat)} {rs : List Bool}, fieldsAre fs s = true → FEq P d xs ys w s rs → (Op.eqFields d xs ys fs).run P w = .ok (andL rs) w
 | [], [], [], _, _ => by simp [Op.eqFields, andL]
 | f :: fs, (t, o) :: s, r :: rs, h, ⟨⟨a, b, ha, hb, hr⟩, h2⟩ => by
  simp only [fieldsAre, Bool.and_eq_true, bne_iff_ne] at h
  obtain ⟨h1, h3, h4, h5⟩ := h
  have e1 := Nat.eq_of_beq_eq_true h3
  have e2 := Nat.eq_of_beq_eq_true h4
  subst e1; subst e2
  have ih := FEq.run h5 h2
  rw [andL_cons]
  simp only [Op.eqFields, h1, ne_eq, not_false_eq_true, if_true, Sem.run_bind, ha, hb, hr, Result.andThen_ok]
  cases r
  ·simp
  ·simpa using ih
 | [], [], _ :: _, _, h => h.elim
 | [], _ :: _, _, h, _ => by simp [fieldsAre] at h
 | _ :: _, [], _, h, _ => by simp [fieldsAre] at h
 | _ :: _, _ :: _, [], _, h => h.elim
theorem X_aggEq {o : Oper} {ρ : Operand → Value} {t t' : TypeId} {x y : Operand} {xs ys : Array Value} {s : List (TypeId × Nat)} {rs : List Bool} (ho : o.op = .binOp .eql t x y t') (hx : ρ x = .agg xs) (hy : ρ y = .agg ys) (hg : P.eqGuardType P.depth t = false)
  (ht : P.underlying t = some (.struct (P.fieldsOf t))) (hp : P.stoodInHeld t = false) (hf : fieldsAre (P.fieldsOf t).toList s = true) (h : ∀ w, FEq P 9999 xs ys w s rs) (w : World) : (execOp ρ o).run P w = .ok (.value (.bool (andL rs))) w := by
 unfold execOp
 simp only [ho, hx, hy, Sem.run_bind, run_eqGuard_agg w .eql t x y xs ys hg, Result.andThen_ok, run_eql_struct, run_equalIn_struct w 9999 t xs ys ht hp, FEq.run hf (h w), Sem.run_pure]
theorem Y28 {o : Oper} {ρ : Operand → Value} {t t' : TypeId} {x y : Operand} {xs ys : Array Value} {s : List (TypeId × Nat)} {rs : List Bool} (ho : o.op = .binOp .eql t x y t') (h : ∀ w, FEq P 9999 xs ys w s rs) (w : World) (hx : ρ x = .agg xs := by kernel_rfl) (hy : ρ y = .agg ys := by kernel_rfl) (hg : P.eqGuardType P.depth t = false := by kernel_rfl) (ht : P.underlying t = some (.struct (P.fieldsOf t)) := by kernel_rfl) (hp : P.stoodInHeld t = false := by kernel_rfl) (hf : fieldsAre (P.fieldsOf t).toList s = true := by kernel_rfl) : (execOp ρ o).run P w = .ok (.value (.bool (andL rs))) w := X_aggEq ho hx hy hg ht hp hf h w
end
section
variable {κ V : Type} {P : Program} {w : World} {ek : κ → Value} {ev : V → Value}
end
section
variable {α : Type} {P : Program} {ops : Array Oper} {n : Nat} {Q : Exit → Act → World → Prop} {L : Fr} {a : Act} {w0 w : World} {M : Mem} {H : List Ent} {sz : Nat} {f : α → Dat} {dd : List Deferred}
theorem W_rowRemove3 {o : Oper} {rest : List Oper} {d : Nat} {t e : TypeId} {x y : Operand} {z v : Value} {bytes k : Nat} {A : Option Addr} {cap : Nat} {xs : List α} {cs : List Value} (hf : Frm n L a dd) (hp : Hp w0 M (.row e sz v xs.length cs :: H) w) (hs : ∀ x, Szd sz (f x))
  (hcs : RepSeq M (xs.map f) cs) (hv : v = .slice A xs.length cap) (hk : k < xs.length)
  (hw : wantedL ops L o = some true) (hr : readyL L o = true) (hd : o.dst = some d) (hdn : Nat.blt d n = true) (ho : o.op = .call { callee := .builtin .append, args := #[x, y], argTypes := #[t, t] })
  (hx : ev L x = .slice (cutA A sz 0 k) k k) (hy : ev L y = .slice (cutA A sz (k + 1) cap) (xs.length - (k + 1)) (cap - (k + 1))) (ht : P.underlying t = some (.slice e)) (hi : infoIs P e z sz bytes = true)
  (hb : xs.length * bytes ≤ 140737488355328) (h63 : xs.length ≤ 9223372036854775807)
  (hq' : ∀ A cap cs' w', Hp w0 M (.row e sz (.slice A (xs.take k ++ xs.drop (k + 1)).length cap) (xs.take k ++ xs.drop (k + 1)).length cs' :: H) w' → RepSeq M ((xs.take k ++ xs.drop (k + 1)).map f) cs' → ∀ a', Frm n ((d, .slice A (xs.take k ++ xs.drop (k + 1)).length cap) :: L) a' dd → wpList P ops Q rest a' w') : wpList P ops Q (o :: rest) a w := by
 obtain ⟨i, u, hi1, hi2, hi3, hi4, hi5, hi6⟩ := info_of hi
 have hseg : RepSeq M ((xs.drop (k + 1)).map f) (cs.drop ((k + 1) * sz)) := by rw [List.map_drop]; exact RepSeq.dropD _ (szd_all hs) hcs
 have hcl : cs.length = xs.length * sz := by
  have := RepSeq.len (szd_all hs) hcs
  rw [this, List.length_map]
 have hl : (cs.drop ((k + 1) * sz)).length = (xs.length - (k + 1)) * sz := by
  have := RepSeq.len (szd_all hs) hseg
  rw [this]; simp
 have hsrc : Src P sz t (.slice (cutA A sz (k + 1) cap) (xs.length - (k + 1)) (cap - (k + 1))) (xs.length - (k + 1)) (cs.drop ((k + 1) * sz)) w := by
  rcases hp.rowPart 0 rfl hv (show k + 1 ≤ xs.length by omega) (Nat.le_refl _) with ⟨e1, e2, e3⟩ | ⟨ad, e1, e2⟩
  ·have hn : cs.drop ((k + 1) * sz) = [] := List.eq_nil_of_length_eq_zero (by rw [hl, e2]; simp)
   rw [e1, e2, e3, hn]
   exact Src.ofNil w ht 0
  ·rw [e1]
   exact Src.ofSlice (P := P) (size := sz) w ht ad _ _ _ hl (fun j u hu => e2 j u (by rw [List.take_of_length_le (by rw [hcl]; exact Nat.le_refl _)]; exact hu)) (RepSeq.oneC _ _ hseg)
 have hp2 := hp.rowFull hv (Nat.le_of_lt hk)
 have hle : k + (xs.length - (k + 1)) ≤ xs.length := by omega
 obtain ⟨v', w', hrun, hp'⟩ := hp2.appendSrc (ty := o.type) hsrc ht hi1 hi2 hi3 hi5 hi6 (by rw [hi4]; exact Nat.le_trans (Nat.mul_le_mul_right _ hle) hb) (by omega)
 obtain ⟨A', cap', rfl, _⟩ := hp'.rowShape 0 rfl
 have e3 : k + (xs.length - (k + 1)) = (xs.take k ++ xs.drop (k + 1)).length := by simp; omega
 refine W_eq hf hw hr hd hdn (X_append ho hx hy hrun) fun a' ha => ?_
 rw [e3] at ha hp'
 refine hq' A' cap' _ w' hp' ?_ a' ha
 rw [List.map_append, List.map_take]
 exact (RepSeq.takeD k (szd_all hs) hcs).append hseg
theorem W_cloneRow {o : Oper} {rest : List Oper} {d : Nat} {t e : TypeId} {x y : Operand} {z v0 v : Value} {bytes : Nat} {A : Option Addr} {cap : Nat} {xs : List α} {cs : List Value} (hf : Frm n L a dd) (hp : Hp w0 M (.row e sz v0 0 [] :: .row e sz v xs.length cs :: H) w) (hs : ∀ x, Szd sz (f x))
  (hcs : RepSeq M (xs.map f) cs) (hv : v = .slice A xs.length cap) (hA : A.isNone = false)
  (hw : wantedL ops L o = some true) (hr : readyL L o = true) (hd : o.dst = some d) (hdn : Nat.blt d n = true) (ho : o.op = .call { callee := .builtin .append, args := #[x, y], argTypes := #[t, t] })
  (hx : ev L x = v0) (hy : ev L y = .slice A xs.length cap) (ht : P.underlying t = some (.slice e)) (hi : infoIs P e z sz bytes = true)
  (hb : xs.length * bytes ≤ 140737488355328) (h63 : xs.length ≤ 9223372036854775807)
  (hk : ∀ A' cap' w', Hp w0 M (.row e sz (.slice A' xs.length cap') xs.length cs :: .row e sz v xs.length cs :: H) w' → ∀ a', Frm n ((d, .slice A' xs.length cap') :: L) a' dd → wpList P ops Q rest a' w') : wpList P ops Q (o :: rest) a w := by
 cases A with
 | none => cases hA
 | some ad =>
  have hcl : cs.length = xs.length * sz := by
   have := RepSeq.len (szd_all hs) hcs
   rw [this, List.length_map]
  have hown := hp.rowAt 1 rfl
  rcases hown.2 with ⟨e1, _⟩ | ⟨g, cap', cur, e1, e2, e3, e4, e5, e6, e7⟩
  ·rw [hv] at e1; cases e1
  ·have e1' := hv.symm.trans e1
   obtain ⟨rfl, rfl⟩ : ad = ⟨g, 0, none⟩ ∧ cap = cap' := by
    simp only [Value.slice.injEq, Option.some.injEq] at e1'
    exact ⟨e1'.1, e1'.2.2⟩
   refine W_append (z := z) hf hp hw hr hd hdn ho hx hy ht hi hcl (fun j u hu => ?_) (RepSeq.oneC _ _ hcs) (by rw [Nat.zero_add]; exact hb) (by omega) fun v' w' hp' a' ha => ?_
   ·have := hp.rowCell 1 rfl hv j u hu
    rw [Addr.add_lit, Nat.zero_add]; exact this
   ·obtain ⟨A', cap', rfl, _⟩ := hp'.rowShape 0 rfl
    rw [Nat.zero_add] at hp' ha
    exact hk A' cap' w' (by simpa using hp') a' ha
end
end Go.Vc
end

section
namespace Go.Proofs.YtocefedhenhbfaaDoor
open Go Go.Vc Go.RowKit
def store_Phys (n : Nat) (d0 : Int) : Option (List UInt8 × Int) :=
  ((bif (decide (d0 < 1)) then
      (some ((true)))
    else
      some ((decide ((1099511627776 : Int) < d0))) : Option Bool)).bind fun y_1 =>
  bif y_1 then
    (some ((([] : List UInt8), (2 : Int))))
  else
    (h_numText n d0).bind fun x_1 =>
    need ([112].length + x_1.1.length ≤ 9223372036854775807) <|
    some (([112] ++ x_1.1, x_1.2))
theorem store_Phys_ok (n : Nat) (M : Mem) (hG : GL M) (d0 : Int) (r : List UInt8 × Int) (hF : store_Phys n d0 = some r) : Ok Tryd.prog M 79 [.int .i64 d0] (fun _ v => v = .tuple #[S r.1, .int .i64 r.2]) := by
 unfold store_Phys at hF
 intro M1 hM0 w0 H w p0
 replace hG := GL.mono hM0 hG
 refine R_enter 20 Tryd.func79 rfl rfl (by simp) fun a0 f0 => RR (Y f0 2 fun _ f => eT (R_seq (R_seq ?_)))
 obtain ⟨j_1, hj_1, hF_1⟩ := bS hF
 refine R_mid (fun a_5 w_1 => ∃ y_1 : Bool, j_1 = y_1 ∧ ∃ M_1 : Mem, M1.le M_1 ∧ Frm 20 [(0, .int .i64 d0), (11, .bool y_1)] a_5 ∧ Hp w0 M_1 (H) w_1) ?_ ?_
 ·refine R_reg (Y f 3 fun _ f => ?_)
  rcases cE hj_1 with ⟨h_1, hF_2⟩ | ⟨h_1, hF_3⟩
  ·have k_1 := dI.1 h_1
   have f := f.st 8 (cB h_1)
   refine Y f 3 fun _ f => eT ?_
   exact ⟨(true), (sI hF_2).symm, M1, (mR _), f.kp, p0⟩
  ·have k_2 := iff_f dI h_1
   have f := f.st 8 (cB h_1)
   refine Y f 3 fun _ f => eT ?_
   exact ⟨(decide ((1099511627776 : Int) < d0)), (sI hF_3).symm, M1, (mR _), f.kp, p0⟩
 ·rintro a_5 w_1 ⟨y_1, hq_1, M_1, hM_1, f, p_1⟩
  subst j_1
  refine T_n (RcF f hF_1 (fun h_2 hF_4 => ?_) fun h_2 hF_5 => ?_)
  ·refine RR (Y f 2 fun _ f => eT (wp_ret (T_r (E_ret2 f rfl (by kernel_rfl : Vc.look _ 2 = some (S [])) (by kernel_rfl : Vc.look _ 3 = some (.int .i64 2)) ?_))))
   obtain rfl := sI hF_4
   exact ⟨_, rfl, M_1, hM_1, p_1, rfl⟩
  ·refine wp_skip (T_n (RR (Y f 1 fun _ f => ?_)))
   obtain ⟨x_1, hx_1, hF_6⟩ := bS hF_5
   refine Y18 f p_1 (h_numText_ok n _ d0 x_1 hx_1) fun w_2 p_2 _ f => Y f 5 fun _ f => eT (RR (Y f 1 fun _ f => ?_))
   obtain ⟨g_1, hF_7⟩ := nS hF_6
   refine Z f (Y29 rfl (l := [112]) (m := x_1.1) g_1) fun _ f => Y f 3 fun _ f => eT (wp_ret (E_ret2 f rfl (by kernel_rfl : Vc.look _ 2 = some (S ([112] ++ x_1.1))) (by kernel_rfl : Vc.look _ 3 = some (.int .i64 x_1.2)) ?_))
   obtain rfl := sI hF_7
   exact ⟨_, rfl, M_1, hM_1, p_2, rfl⟩
def store_Number (n : Nat) (d0 : List UInt8) : Option (Int × Bool) :=
  ((bif (decide (d0 = [])) then
      (some ((true)))
    else
      (getI d0 (0 : Int)).bind fun c_1 =>
      some ((!(decide (((c_1).toNat : Int) = 112)))) : Option Bool)).bind fun y_1 =>
  bif y_1 then
    (some (((0 : Int), (false))))
  else
    need (0 ≤ (1 : Int) ∧ (1 : Int) ≤ d0.length) <|
    (h_numRead n (d0.drop (1 : Int).toNat)).bind fun x_1 =>
    bif (!(decide (x_1.2 = 0))) then
      (some (((0 : Int), (false))))
    else
      bif (decide (x_1.1 < 1)) then
        (some (((0 : Int), (false))))
      else
        bif (decide ((1099511627776 : Int) < x_1.1)) then
          (some (((0 : Int), (false))))
        else
          some ((x_1.1, (true)))
set_option maxRecDepth 20000 in
theorem store_Number_ok (n : Nat) (M : Mem) (hG : GL M) (d0 : List UInt8) (r : Int × Bool) (hF : store_Number n d0 = some r) : Ok Tryd.prog M 98 [S d0] (fun _ v => v = .tuple #[.int .i64 r.1, .bool r.2]) := by
 unfold store_Number at hF
 intro M1 hM0 w0 H w p0
 replace hG := GL.mono hM0 hG
 refine R_enter 30 Tryd.func98 rfl rfl (by simp) fun a0 f0 => RR (Y f0 2 fun _ f => eT (R_seq (R_seq ?_)))
 obtain ⟨j_1, hj_1, hF_1⟩ := bS hF
 refine R_mid (fun a_9 w_1 => ∃ y_1 : Bool, j_1 = y_1 ∧ ∃ M_1 : Mem, M1.le M_1 ∧ Frm 30 [(0, S d0), (12, .bool y_1)] a_9 ∧ Hp w0 M_1 (H) w_1) ?_ ?_
 ·refine R_reg (Y f 1 fun _ f => Z f (Y38 rfl (l := d0) (m := [])) fun _ f => Y f 1 fun _ f => ?_)
  rcases cE hj_1 with ⟨h_1, hF_2⟩ | ⟨h_1, hF_3⟩
  ·have k_1 := dI.1 h_1
   have f := f.st 8 (cB h_1)
   refine Y f 4 fun _ f => eT ?_
   exact ⟨(true), (sI hF_2).symm, M1, (mR _), f.kp, p0⟩
  ·have k_2 := iff_f dI h_1
   have f := f.st 8 (cB h_1)
   refine Y f 1 fun _ f => ?_
   obtain ⟨c_1, hx_1, hF_4⟩ := bS hF_3
   refine Z f (Y37 rfl (l := d0) (k := .i64) (i := (0 : Int)) (getI_nn hx_1) (getI_lt hx_1)) fun _ f => ?_
   have f := Frm.set f 10 (v := .int .u8 ((d0.getD (0 : Int).toNat 0).toNat : Int)) (v' := .int .u8 ((c_1).toNat : Int)) (by kernel_rfl) (congrArg (fun c : UInt8 => Value.int .u8 ((c.toNat : Nat) : Int)) (getI_getD hx_1))
   refine Y f 2 fun _ f => eT ?_
   exact ⟨(!(decide (((c_1).toNat : Int) = 112))), (sI hF_4).symm, M1, (mR _), f.kp, p0⟩
 ·rintro a_9 w_1 ⟨y_1, hq_1, M_1, hM_1, f, p_1⟩
  subst j_1
  refine T_n (RcF f hF_1 (fun h_2 hF_5 => ?_) fun h_2 hF_6 => ?_)
  ·refine RR (Y f 2 fun _ f => eT (wp_ret (T_r (E_ret2 f rfl (by kernel_rfl : Vc.look _ 2 = some (.int .i64 0)) (by kernel_rfl : Vc.look _ 3 = some (.bool false)) ?_))))
   obtain rfl := sI hF_5
   exact ⟨_, rfl, M_1, hM_1, p_1, rfl⟩
  ·refine wp_skip (T_n (RR (Y f 1 fun _ f => ?_)))
   obtain ⟨g_1, hF_7⟩ := nS hF_6
   refine Z (v := S (d0.drop (1 : Int).toNat)) f (X_strFrom rfl (l := d0) (k := .i64) (a := (1 : Int)) (by kernel_rfl) (by kernel_rfl) (by kernel_rfl) g_1.1 g_1.2) fun _ f => ?_
   obtain ⟨x_1, hx_2, hF_8⟩ := bS hF_7
   refine Y18 f p_1 (h_numRead_ok n _ (d0.drop (1 : Int).toNat) x_1 hx_2) fun w_2 p_2 _ f => Y f 5 fun _ f => eT (R_seq (RR (Y f 3 fun _ f => ?_)))
   rcases cE hF_8 with ⟨h_3, hF_9⟩ | ⟨h_3, hF_10⟩
   ·have k_5 : ¬ (x_1.2 = 0) := (not_iff dI).1 h_3
    have f := f.st 21 (cB h_3)
    refine Y f 7 fun _ f => eT (Y8 f (RR (Y f 2 fun _ f => eT (wp_ret (T_r (E_ret2 f rfl (by kernel_rfl : Vc.look _ 2 = some (.int .i64 0)) (by kernel_rfl : Vc.look _ 3 = some (.bool false)) ?_))))))
    obtain rfl := sI hF_9
    exact ⟨_, rfl, M_1, hM_1, p_2, rfl⟩
   ·have k_6 : ¬ (¬ (x_1.2 = 0)) := iff_f (not_iff dI) h_3
    have f := f.st 21 (cB h_3)
    refine Y f 4 fun _ f => ?_
    rcases cE hF_10 with ⟨h_4, hF_11⟩ | ⟨h_4, hF_12⟩
    ·have k_7 := dI.1 h_4
     have f := f.st 25 (cB h_4)
     refine Y f 3 fun _ f => eT (Y8 f (RR (Y f 2 fun _ f => eT (wp_ret (T_r (E_ret2 f rfl (by kernel_rfl : Vc.look _ 2 = some (.int .i64 0)) (by kernel_rfl : Vc.look _ 3 = some (.bool false)) ?_))))))
     obtain rfl := sI hF_11
     exact ⟨_, rfl, M_1, hM_1, p_2, rfl⟩
    ·have k_8 := iff_f dI h_4
     have f := f.st 25 (cB h_4)
     refine Y f 3 fun _ f => eT (RcF f hF_12 (fun h_5 hF_13 => ?_) fun h_5 hF_14 => ?_)
     ·have k_9 := dI.1 h_5
      refine RR (Y f 2 fun _ f => eT (wp_ret (T_r (E_ret2 f rfl (by kernel_rfl : Vc.look _ 2 = some (.int .i64 0)) (by kernel_rfl : Vc.look _ 3 = some (.bool false)) ?_))))
      obtain rfl := sI hF_13
      exact ⟨_, rfl, M_1, hM_1, p_2, rfl⟩
     ·have k_10 := iff_f dI h_5
      refine wp_skip (T_n (RR (Y f 3 fun _ f => eT (wp_ret (E_ret2 f rfl (by kernel_rfl : Vc.look _ 2 = some (.int .i64 x_1.1)) (by kernel_rfl : Vc.look _ 3 = some (.bool true)) ?_)))))
      obtain rfl := sI hF_14
      exact ⟨_, rfl, M_1, hM_1, p_2, rfl⟩
def store_known_1 (n : Nat) (d0 : TE0) : Option Bool :=
  some ((d0.fUnknown))
theorem store_known_1_ok (n : Nat) (M : Mem) (hG : GL M) (c0 : List Value) (d0 : TE0) (h0 : Rep M (emb_TE0 d0) c0) (r : Bool) (hF : store_known_1 n d0 = some r) : Ok Tryd.prog M 100 [.agg c0.toArray] (fun _ v => v = .bool r) := by
 unfold store_known_1 at hF
 intro M1 hM0 w0 H w p0
 replace hG := GL.mono hM0 hG
 replace h0 := Rep.mono hM0 _ _ h0
 obtain ⟨A_1, cap_1, A_2, cap_2, rfl, h_1, h_2⟩ := TE0.opn h0
 refine R_enter 5 Tryd.func100 rfl rfl (by simp) fun a0 f0 => RR (Y13 (cs := #[S d0.fName, .bool d0.fUnknown, .int .i8 d0.fV.fKind, .bool d0.fV.fBool, .int .i64 d0.fV.fNum, S d0.fV.fText, .slice A_1 d0.fV.fList.length cap_1, .slice A_2 d0.fV.fKeys.length cap_2]) (T := 79) f0 p0 fun b_1 M_1 w_1 hM_1 hc_1 p_1 _ f => ?_)
 have hc_2 := fz_box hc_1
 refine Y f 1 fun _ f => eT (RR (Y f 1 fun _ f => Y15 f p_1 hc_2 1 rfl fun _ f => Y f 1 fun _ f => eT (wp_ret (E_ret1 f rfl (by kernel_rfl : Vc.look _ 2 = some (.bool d0.fUnknown)) ?_))))
 obtain rfl := sI hF
 exact ⟨_, rfl, M_1, hM_1, p_1, rfl⟩
def store_find_s1 (n : Nat) (d0 : List TE0) (s_1 : Int) : Option (Lp Int (Sum Int Unit)) :=
    bif (decide (s_1 < ((d0.length : Nat) : Int))) then
      ((getI d0 s_1).bind fun x_1 =>
      (store_known_1 n x_1).bind fun x_2 =>
      bif x_2 then
        (some (.br (.inl s_1)))
      else
        need (inR .i64 (s_1 + 1)) <|
        some (.nx (s_1 + 1)))
    else
      some (.br (.inr ()))
def store_find (n : Nat) (d0 : List TE0) : Option Int :=
  (loopF (store_find_s1 n d0) n (0 : Int)).bind fun b_1 =>
  (match b_1 with 
  | .inl y_1 => some (y_1) 
  | .inr y_2 => some ((-1 : Int)))
theorem store_find_ok (n : Nat) (M : Mem) (hG : GL M) (A0 : Option Addr) (cap0 : Nat) (d0 : List TE0) (h0 : Sli M 8 emb_TE0 A0 cap0 d0) (r : Int) (hF : store_find n d0 = some r) : Ok Tryd.prog M 99 [.slice A0 d0.length cap0, .func (.func 100) #[] #[]] (fun _ v => v = .int .i64 r) := by
 unfold store_find at hF
 intro M1 hM0 w0 H w p0
 replace hG := GL.mono hM0 hG
 replace h0 := h0.mono hM0
 refine R_enter 19 Tryd.func99 rfl rfl (by simp) fun a0 f0 => RR (Y f0 1 fun _ f => eT (R_seq (RR (Y f 3 fun _ f => eT (wp_block ?_)))))
 obtain ⟨b_1, hL_1, hF_1⟩ := bS hF
 refine wp_mono (Q := fun e a w => (e = .ret ∧ (∃ y_1 : Int, b_1 = .inl y_1 ∧ ∃ M_2 : Mem, M1.le M_2 ∧ Frm 19 [(4, .int .i64 y_1)] a ∧ Hp w0 M_2 (H) w)) ∨ (e = .exit 0 ∧ (∃ y_2 : Unit, b_1 = .inr y_2 ∧ ∃ M_3 : Mem, M1.le M_3 ∧ Frm 19 [] a ∧ Hp w0 M_3 (H) w))) (R_loop (n := 19) (w0 := w0) (M := M1) (fun (x : Nat × Int) => match x with | (m_1, s_1) => [(1, .func (.func 100) #[] #[]), (7, .slice A0 d0.length cap0), (8, .int .i64 ((d0.length : Nat) : Int)), (9, .int .i64 s_1)]) (fun (x : Nat × Int) => match x with | (m_1, s_1) => (H)) (fun (x : Nat × Int) (MM : Mem) => match x with | (m_1, s_1) => loopF (store_find_s1 n d0) m_1 s_1 = some b_1) (fun (x : Nat × Int) => match x with | (m_1, s_1) => m_1) (n, (0 : Int)) (f.kp) p0 hL_1 ?_) ?_
 ·rintro ⟨m_1, s_1⟩ M_1 _ w_1 hM_1 I_1 f p_1
  have I_1L := I_1
  obtain ⟨m_2, r_1, rfl, hs_1, hn_1⟩ := loop_step I_1L
  unfold store_find_s1 at hs_1
  refine RR (Y f 1 fun _ f => eT (R_seq (RcF f hs_1 (fun h_1 hF_2 => ?_) fun h_1 hF_8 => ?_)))
  ·have k_1 := dI.1 h_1
   refine wp_skip (T_n (R_seq (wp_block (RR (Y f 1 fun _ f => ?_)))))
   obtain ⟨x_1, hx_1, hF_3⟩ := bS hF_2
   obtain ⟨ad_1, c_1, e_1, -, hr_1, hc_1⟩ := Sli.at_ (h0.mono hM_1) hx_1
   obtain ⟨A_1, cap_1, A_2, cap_2, rfl, h_2, h_3⟩ := TE0.opn hr_1
   refine Z f (Y31 e_1 rfl (len := d0.length) (cap := cap0) (k := .i64) (i := s_1) (e := 79) (sz := 8) (getI_nn hx_1) (getI_lt hx_1)) fun _ f => Z (v := .agg #[S x_1.fName, .bool x_1.fUnknown, .int .i8 x_1.fV.fKind, .bool x_1.fV.fBool, .int .i64 x_1.fV.fNum, S x_1.fV.fText, .slice A_1 x_1.fV.fList.length cap_1, .slice A_2 x_1.fV.fKeys.length cap_2]) f (Y33 (cs := [S x_1.fName, .bool x_1.fUnknown, .int .i8 x_1.fV.fKind, .bool x_1.fV.fBool, .int .i64 x_1.fV.fNum, S x_1.fV.fText, .slice A_1 x_1.fV.fList.length cap_1, .slice A_2 x_1.fV.fKeys.length cap_2]) rfl (ad := ad_1.add (s_1.toNat * 8)) (fun j v h => p_1.cell (hc_1 j v h))) fun _ f => Y12 f p_1 (.cells #[S [], .bool false, .int .i8 0, .bool false, .int .i64 0, S [], .slice none 0 0, .slice none 0 0] 79 (0, 0)) fun b_2 w_2 p_2 _ f => Y f 1 fun _ f => Y27 (vs := [S x_1.fName, .bool x_1.fUnknown, .int .i8 x_1.fV.fKind, .bool x_1.fV.fBool, .int .i64 x_1.fV.fNum, S x_1.fV.fText, .slice A_1 x_1.fV.fList.length cap_1, .slice A_2 x_1.fV.fKeys.length cap_2]) (j := 0) f p_2 rfl rfl (by simp [Value.oneCell', S]) (by simp) (by decide) (cs' := #[S x_1.fName, .bool x_1.fUnknown, .int .i8 x_1.fV.fKind, .bool x_1.fV.fBool, .int .i64 x_1.fV.fNum, S x_1.fV.fText, .slice A_1 x_1.fV.fList.length cap_1, .slice A_2 x_1.fV.fKeys.length cap_2]) (by kernel_rfl) fun w_3 p_3 _ f => eT (RR (Y f 1 fun _ f => Z (v := .agg #[S x_1.fName, .bool x_1.fUnknown, .int .i8 x_1.fV.fKind, .bool x_1.fV.fBool, .int .i64 x_1.fV.fNum, S x_1.fV.fText, .slice A_1 x_1.fV.fList.length cap_1, .slice A_2 x_1.fV.fKeys.length cap_2]) f (Y33 (cs := [S x_1.fName, .bool x_1.fUnknown, .int .i8 x_1.fV.fKind, .bool x_1.fV.fBool, .int .i64 x_1.fV.fNum, S x_1.fV.fText, .slice A_1 x_1.fV.fList.length cap_1, .slice A_2 x_1.fV.fKeys.length cap_2]) rfl (ad := ⟨b_2, 0, none⟩) (own_cells (p_3.ownCell 0 rfl) 0 rfl)) fun _ f => ?_))
   obtain ⟨x_2, hx_2, hF_4⟩ := bS hF_3
   refine Y18 f p_3 (store_known_1_ok n _ (GL.mono hM_1 hG) _ x_1 (TE0.shutx (x := x_1) h_2 h_3) x_2 hx_2) fun w_4 p_4 _ f => eT (RcF f hF_4 (fun h_4 hF_5 => ?_) fun h_4 hF_6 => ?_)
   ·refine RR (Y f 2 fun _ f => eT (wp_ret (B_r (T_r (T_r ?_)))))
    obtain rfl := sI hF_5
    exact .inl ⟨rfl, s_1, (sI hn_1).symm, M_1, hM_1, f.kp, (p_4.dropN 1)⟩
   ·refine wp_skip (B_n (T_n (R_reg ?_)))
    obtain ⟨g_1, hF_7⟩ := nS hF_6
    refine Y f 1 fun _ f => ?_
    have f := f.st 18 (congrArg (Value.int .i64) (inR_wrap g_1))
    refine Y f 1 fun _ f => eT ?_
    obtain rfl := sI hF_7
    exact ⟨⟨m_2, s_1 + 1⟩, Nat.lt_succ_self _, M_1, hM_1, hn_1, f.kp, (p_4.dropN 1)⟩
  ·have k_4 := iff_f dI h_1
   refine wp_exit (T_x (T_x ?_))
   obtain rfl := sI hF_8
   exact .inr ⟨rfl, (), (sI hn_1).symm, M_1, hM_1, f.kp, p_1⟩
 ·rintro _ _ w_7 (⟨rfl, y_1, rfl, M_2, hM_2, f, p_5⟩ | ⟨rfl, y_2, rfl, M_3, hM_3, f, p_6⟩)
  ·refine B_r (T_r (E_ret1 f rfl (by kernel_rfl : Vc.look _ 4 = some (.int .i64 y_1)) ?_))
   obtain rfl := sI hF_1
   exact ⟨_, rfl, M_2, hM_2, p_5, rfl⟩
  ·refine B_x (T_n (RR (Y f 1 fun _ f => eT (wp_ret (E_ret1 f rfl (by kernel_rfl : Vc.look _ 4 = some (.int .i64 (-1))) ?_)))))
   obtain rfl := sI hF_1
   exact ⟨_, rfl, M_3, hM_3, p_6, rfl⟩
def store_known (n : Nat) (d0 : List TE0) : Option Bool :=
  (store_find n d0).bind fun x_1 =>
  some ((decide (x_1 < 0)))
theorem store_known_ok (n : Nat) (M : Mem) (hG : GL M) (A0 : Option Addr) (cap0 : Nat) (d0 : List TE0) (h0 : Sli M 8 emb_TE0 A0 cap0 d0) (r : Bool) (hF : store_known n d0 = some r) : Ok Tryd.prog M 78 [.slice A0 d0.length cap0] (fun _ v => v = .bool r) := by
 unfold store_known at hF
 intro M1 hM0 w0 H w p0
 replace hG := GL.mono hM0 hG
 replace h0 := h0.mono hM0
 refine R_enter 6 Tryd.func78 rfl rfl (by simp) fun a0 f0 => RR (Y f0 1 fun _ f => eT (RR (Y f 1 fun _ f => ?_)))
 obtain ⟨x_1, hx_1, hF_1⟩ := bS hF
 refine Y18 f p0 (store_find_ok n _ hG A0 cap0 d0 h0 x_1 hx_1) fun w_1 p_1 _ f => Y f 2 fun _ f => eT (wp_ret (E_ret1 f rfl (by kernel_rfl : Vc.look _ 2 = some (.bool (decide (x_1 < 0)))) ?_))
 obtain rfl := sI hF_1
 exact ⟨_, rfl, M1, (mR _), p_1, rfl⟩
def store_Check_s1 (n : Nat) (d0 : TB0) (s_1 : Int × Int) : Option (Lp (Int × Int) (Sum Unit Int)) :=
    bif (decide (s_1.2 < ((d0.fL.length : Nat) : Int))) then
      ((getI d0.fL s_1.2).bind fun x_1 =>
      (store_Number n x_1.fPhys).bind fun x_2 =>
      bif !x_2.2 then
        (some (.br (.inl ())))
      else
        bif (decide (x_2.1 ≤ s_1.1)) then
          (some (.br (.inl ())))
        else
          (schema_Check n x_1.fType x_1.fProps).bind fun x_3 =>
          bif (!(decide (x_3 = 0))) then
            (some (.br (.inl ())))
          else
            (store_known n x_1.fProps).bind fun x_4 =>
            bif !x_4 then
              (some (.br (.inl ())))
            else
              need (inR .i64 (s_1.2 + 1)) <|
              some (.nx (x_2.1, s_1.2 + 1)))
    else
      some (.br (.inr s_1.1))
def store_Check (n : Nat) (d0 : TB0) : Option Int :=
  (loopF (store_Check_s1 n d0) n ((0 : Int), (0 : Int))).bind fun b_2 =>
  (match b_2 with 
  | .inl y_1 => some ((2 : Int)) 
  | .inr y_2 => bif (decide (d0.fMade < y_2)) then
      (some ((2 : Int)))
    else
      bif (decide ((1099511627776 : Int) < d0.fMade)) then
        (some ((2 : Int)))
      else
        some ((0 : Int)))
set_option maxRecDepth 20000 in
theorem store_Check_ok (n : Nat) (M : Mem) (hG : GL M) (c0 : List Value) (d0 : TB0) (h0 : Rep M (emb_TB0 d0) c0) (r : Int) (hF : store_Check n d0 = some r) : Ok Tryd.prog M 77 [.agg c0.toArray] (fun _ v => v = .int .i64 r) := by
 unfold store_Check at hF
 intro M1 hM0 w0 H w p0
 replace hG := GL.mono hM0 hG
 replace h0 := Rep.mono hM0 _ _ h0
 obtain ⟨A_1, cap_1, rfl, h_1⟩ := TB0.opn h0
 refine R_enter 53 Tryd.func77 rfl rfl (by simp) fun a0 f0 => RR (Y13 (cs := #[.slice A_1 d0.fL.length cap_1, .int .i64 d0.fMade]) (T := 72) f0 p0 fun b_1 M_1 w_1 hM_1 hc_1 p_1 _ f => ?_)
 have hc_2 := fz_box hc_1
 refine Y f 1 fun _ f => eT (RR (Y f 1 fun _ f => eT (R_seq (RR (Y f 1 fun _ f => Y15 f p_1 hc_2 0 rfl fun _ f => Y f 2 fun _ f => eT (wp_block ?_))))))
 obtain ⟨b_2, hL_1, hF_1⟩ := bS hF
 refine wp_mono (Q := fun e a w => (e = .ret ∧ (∃ y_1 : Unit, b_2 = .inl y_1 ∧ ∃ M_3 : Mem, M_1.le M_3 ∧ Frm 53 [(2, .int .i64 2)] a ∧ Hp w0 M_3 (H) w)) ∨ (e = .exit 0 ∧ (∃ y_2 : Int, b_2 = .inr y_2 ∧ ∃ M_4 : Mem, M_1.le M_4 ∧ Frm 53 [(1, .pointer (some (⟨b_1, 0, none⟩))), (3, .int .i64 y_2)] a ∧ Hp w0 M_4 (H) w))) (R_loop (n := 53) (w0 := w0) (M := M_1) (fun (x : Nat × (Int × Int)) => match x with | (m_1, s_1) => [(1, .pointer (some (⟨b_1, 0, none⟩))), (3, .int .i64 s_1.1), (9, .slice A_1 d0.fL.length cap_1), (10, .int .i64 ((d0.fL.length : Nat) : Int)), (11, .int .i64 s_1.2)]) (fun (x : Nat × (Int × Int)) => match x with | (m_1, s_1) => (H)) (fun (x : Nat × (Int × Int)) (MM : Mem) => match x with | (m_1, s_1) => loopF (store_Check_s1 n d0) m_1 s_1 = some b_2) (fun (x : Nat × (Int × Int)) => match x with | (m_1, s_1) => m_1) (n, ((0 : Int), (0 : Int))) (f.kp) p_1 hL_1 ?_) ?_
 ·rintro ⟨m_1, s_1⟩ M_2 _ w_2 hM_2 I_1 f p_2
  have I_1L := I_1
  obtain ⟨m_2, r_1, rfl, hs_1, hn_1⟩ := loop_step I_1L
  unfold store_Check_s1 at hs_1
  refine RR (Y f 1 fun _ f => eT (R_seq (RcF f hs_1 (fun h_2 hF_2 => ?_) fun h_2 hF_16 => ?_)))
  ·have k_1 := dI.1 h_2
   refine wp_skip (T_n (R_seq (wp_block (RR ?_))))
   obtain ⟨x_1, hx_1, hF_3⟩ := bS hF_2
   obtain ⟨ad_1, c_1, e_1, -, hr_1, hc_3⟩ := Sli.at_ (h_1.mono (hM_1.trans hM_2)) hx_1
   obtain ⟨A_2, cap_2, rfl, h_3⟩ := TF0.opn hr_1
   refine Z f (Y31 e_1 rfl (len := d0.fL.length) (cap := cap_1) (k := .i64) (i := s_1.2) (e := 60) (sz := 3) (getI_nn hx_1) (getI_lt hx_1)) fun _ f => Z (v := .agg #[S x_1.fPhys, S x_1.fType, .slice A_2 x_1.fProps.length cap_2]) f (Y33 (cs := [S x_1.fPhys, S x_1.fType, .slice A_2 x_1.fProps.length cap_2]) rfl (ad := ad_1.add (s_1.2.toNat * 3)) (fun j v h => p_2.cell (hc_3 j v h))) fun _ f => Y12 f p_2 (.cells #[S [], S [], .slice none 0 0] 60 (0, 0)) fun b_3 w_3 p_3 _ f => Y27 (vs := [S x_1.fPhys, S x_1.fType, .slice A_2 x_1.fProps.length cap_2]) (j := 0) f p_3 rfl rfl (by simp [Value.oneCell', S]) (by simp) (by decide) (cs' := #[S x_1.fPhys, S x_1.fType, .slice A_2 x_1.fProps.length cap_2]) (by kernel_rfl) fun w_4 p_4 _ f => eT (RR (Y f 1 fun _ f => Z f (Y32 (v := S x_1.fPhys) rfl (ad := ⟨b_3, 0, none⟩) (p_4.ownCell 0 rfl 0)) fun _ f => ?_))
   obtain ⟨x_2, hx_2, hF_4⟩ := bS hF_3
   refine Y18 f p_4 (store_Number_ok n _ (GL.mono (hM_1.trans hM_2) hG) x_1.fPhys x_2 hx_2) fun w_5 p_5 _ f => Y f 5 fun _ f => eT (R_seq (RR (Y f 3 fun _ f => ?_)))
   rcases cE hF_4 with ⟨h_4, hF_5⟩ | ⟨h_4, hF_6⟩
   ·have k_2 : (x_2.2) = false := by simpa using h_4
    have f := f.st 23 (cB h_4)
    refine Y f 18 fun _ f => eT (Y8 f (RR (Y f 1 fun _ f => eT (wp_ret (T_r (B_r (T_r (T_r ?_))))))))
    obtain rfl := sI hF_5
    exact .inl ⟨rfl, (), (sI hn_1).symm, M_2, hM_2, f.kp, (p_5.dropN 1)⟩
   ·have k_3 : (x_2.2) = true := by simpa using h_4
    have f := f.st 23 (cB h_4)
    refine Y f 5 fun _ f => ?_
    rcases cE hF_6 with ⟨h_5, hF_7⟩ | ⟨h_5, hF_8⟩
    ·have k_4 := dI.1 h_5
     have f := f.st 28 (cB h_5)
     refine Y f 13 fun _ f => eT (Y8 f (RR (Y f 1 fun _ f => eT (wp_ret (T_r (B_r (T_r (T_r ?_))))))))
     obtain rfl := sI hF_7
     exact .inl ⟨rfl, (), (sI hn_1).symm, M_2, hM_2, f.kp, (p_5.dropN 1)⟩
    ·have k_5 := iff_f dI h_5
     have f := f.st 28 (cB h_5)
     refine Y f 1 fun _ f => Z f (Y32 (v := S x_1.fType) rfl (ad := ⟨b_3, 1, none⟩) (p_5.ownCell 0 rfl 1)) fun _ f => Y f 1 fun _ f => Z f (Y32 (v := .slice A_2 x_1.fProps.length cap_2) rfl (ad := ⟨b_3, 2, none⟩) (p_5.ownCell 0 rfl 2)) fun _ f => ?_
     obtain ⟨x_3, hx_3, hF_9⟩ := bS hF_8
     refine Y18 f p_5 (schema_Check_ok n _ (GL.mono (hM_1.trans hM_2) hG) x_1.fType A_2 cap_2 x_1.fProps h_3 x_3 hx_3) fun w_6 p_6 _ f => Y f 3 fun _ f => ?_
     rcases cE hF_9 with ⟨h_6, hF_10⟩ | ⟨h_6, hF_11⟩
     ·have k_6 : ¬ (x_3 = 0) := (not_iff dI).1 h_6
      have f := f.st 36 (cB h_6)
      refine Y f 5 fun _ f => eT (Y8 f (RR (Y f 1 fun _ f => eT (wp_ret (T_r (B_r (T_r (T_r ?_))))))))
      obtain rfl := sI hF_10
      exact .inl ⟨rfl, (), (sI hn_1).symm, M_2, hM_2, f.kp, (p_6.dropN 1)⟩
     ·have k_7 : ¬ (¬ (x_3 = 0)) := iff_f (not_iff dI) h_6
      have f := f.st 36 (cB h_6)
      refine Y f 1 fun _ f => Z f (Y32 (v := .slice A_2 x_1.fProps.length cap_2) rfl (ad := ⟨b_3, 2, none⟩) (p_6.ownCell 0 rfl 2)) fun _ f => ?_
      obtain ⟨x_4, hx_4, hF_12⟩ := bS hF_11
      refine Y18 f p_6 (store_known_ok n _ (GL.mono (hM_1.trans hM_2) hG) A_2 cap_2 x_1.fProps h_3 x_4 hx_4) fun w_7 p_7 _ f => Y f 2 fun _ f => eT (RcF f hF_12 (fun h_7 hF_13 => ?_) fun h_7 hF_14 => ?_)
      ·have k_8 : (x_4) = false := by simpa using h_7
       refine RR (Y f 1 fun _ f => eT (wp_ret (T_r (B_r (T_r (T_r ?_))))))
       obtain rfl := sI hF_13
       exact .inl ⟨rfl, (), (sI hn_1).symm, M_2, hM_2, f.kp, (p_7.dropN 1)⟩
      ·have k_9 : (x_4) = true := by simpa using h_7
       refine wp_skip (T_n (R_reg (Y f 2 fun _ f => W_end rfl (B_n (T_n (R_reg ?_))))))
       obtain ⟨g_1, hF_15⟩ := nS hF_14
       refine Y f 1 fun _ f => ?_
       have f := f.st 43 (congrArg (Value.int .i64) (inR_wrap g_1))
       refine Y f 1 fun _ f => eT ?_
       obtain rfl := sI hF_15
       exact ⟨⟨m_2, (x_2.1, s_1.2 + 1)⟩, Nat.lt_succ_self _, M_2, hM_2, hn_1, f.kp, (p_7.dropN 1)⟩
  ·have k_10 := iff_f dI h_2
   refine wp_exit (T_x (T_x ?_))
   obtain rfl := sI hF_16
   exact .inr ⟨rfl, s_1.1, (sI hn_1).symm, M_2, hM_2, f.kp, p_2⟩
 ·rintro _ _ w_10 (⟨rfl, y_1, rfl, M_3, hM_3, f, p_8⟩ | ⟨rfl, y_2, rfl, M_4, hM_4, f, p_9⟩)
  ·refine B_r (T_r (E_ret1 f rfl (by kernel_rfl : Vc.look _ 2 = some (.int .i64 2)) ?_))
   obtain rfl := sI hF_1
   exact ⟨_, rfl, M_3, (hM_1.trans hM_3), p_8, rfl⟩
  ·refine B_x (T_n (R_seq (RR (Y f 1 fun _ f => Y15 f p_9 (fzu hM_4 hc_2) 1 rfl fun _ f => Y f 3 fun _ f => ?_))))
   rcases cE hF_1 with ⟨h_8, hF_17⟩ | ⟨h_8, hF_18⟩
   ·have k_11 := dI.1 h_8
    have f := f.st 48 (cB h_8)
    refine Y f 4 fun _ f => eT (Y8 f (RR (Y f 1 fun _ f => eT (wp_ret (T_r (E_ret1 f rfl (by kernel_rfl : Vc.look _ 2 = some (.int .i64 2)) ?_))))))
    obtain rfl := sI hF_17
    exact ⟨_, rfl, M_4, (hM_1.trans hM_4), p_9, rfl⟩
   ·have k_12 := iff_f dI h_8
    have f := f.st 48 (cB h_8)
    refine Y f 1 fun _ f => Y15 f p_9 (fzu hM_4 hc_2) 1 rfl fun _ f => Y f 2 fun _ f => eT (RcF f hF_18 (fun h_9 hF_19 => ?_) fun h_9 hF_20 => ?_)
    ·have k_13 := dI.1 h_9
     refine RR (Y f 1 fun _ f => eT (wp_ret (T_r (E_ret1 f rfl (by kernel_rfl : Vc.look _ 2 = some (.int .i64 2)) ?_))))
     obtain rfl := sI hF_19
     exact ⟨_, rfl, M_4, (hM_1.trans hM_4), p_9, rfl⟩
    ·have k_14 := iff_f dI h_9
     refine wp_skip (T_n (RR (Y f 1 fun _ f => eT (wp_ret (E_ret1 f rfl (by kernel_rfl : Vc.look _ 2 = some (.int .i64 0)) ?_)))))
     obtain rfl := sI hF_20
     exact ⟨_, rfl, M_4, (hM_1.trans hM_4), p_9, rfl⟩
def store_at_1 (n : Nat) (d0 : TF0) (d1 : List UInt8) : Option Bool :=
  some ((decide (d0.fPhys = d1)))
theorem store_at_1_ok (n : Nat) (M : Mem) (hG : GL M) (c0 : List Value) (d0 : TF0) (h0 : Rep M (emb_TF0 d0) c0) (ad1 : Addr) (c1 : List Value) (d1 : List UInt8) (h1 : Rep M (Dat.str d1) c1) (q1 : ∀ j v, c1[j]? = some v → M.cell? (ad1.add j) = some v) (r : Bool) (hF : store_at_1 n d0 d1 = some r) : Ok Tryd.prog M 102 [.agg c0.toArray, .pointer (some ad1)] (fun _ v => v = .bool r) := by
 unfold store_at_1 at hF
 intro M1 hM0 w0 H w p0
 replace hG := GL.mono hM0 hG
 replace h0 := Rep.mono hM0 _ _ h0
 replace h1 := Rep.mono hM0 _ _ h1
 replace q1 := fun j v h => hM0.cell (q1 j v h)
 obtain ⟨A_1, cap_1, rfl, h_1⟩ := TF0.opn h0
 obtain rfl : c1 = [S d1] := h1
 refine R_enter 8 Tryd.func102 rfl rfl (by simp) fun a0 f0 => RR (Y13 (cs := #[S d0.fPhys, S d0.fType, .slice A_1 d0.fProps.length cap_1]) (T := 60) f0 p0 fun b_1 M_1 w_1 hM_1 hc_1 p_1 _ f => ?_)
 have hc_2 := fz_box hc_1
 refine Y f 1 fun _ f => eT (RR (Y f 1 fun _ f => Y15 f p_1 hc_2 0 rfl fun _ f => Y15 f p_1 (fzu hM_1 q1) 0 rfl fun _ f => Z f (Y38 rfl (l := d0.fPhys) (m := d1)) fun _ f => Y f 1 fun _ f => eT (wp_ret (E_ret1 f rfl (by kernel_rfl : Vc.look _ 3 = some (.bool (decide (d0.fPhys = d1)))) ?_))))
 obtain rfl := sI hF
 exact ⟨_, rfl, M_1, hM_1, p_1, rfl⟩
def store_find_2_s1 (n : Nat) (d0 : List TF0) (d1_0 : List UInt8) (s_1 : Int) : Option (Lp Int (Sum Int Unit)) :=
    bif (decide (s_1 < ((d0.length : Nat) : Int))) then
      ((getI d0 s_1).bind fun x_1 =>
      (store_at_1 n x_1 d1_0).bind fun x_2 =>
      bif x_2 then
        (some (.br (.inl s_1)))
      else
        need (inR .i64 (s_1 + 1)) <|
        some (.nx (s_1 + 1)))
    else
      some (.br (.inr ()))
def store_find_2 (n : Nat) (d0 : List TF0) (d1_0 : List UInt8) : Option Int :=
  (loopF (store_find_2_s1 n d0 d1_0) n (0 : Int)).bind fun b_1 =>
  (match b_1 with 
  | .inl y_1 => some (y_1) 
  | .inr y_2 => some ((-1 : Int)))
theorem store_find_2_ok (n : Nat) (M : Mem) (hG : GL M) (A0 : Option Addr) (cap0 : Nat) (d0 : List TF0) (h0 : Sli M 3 emb_TF0 A0 cap0 d0) (ad1_0 : Addr) (c1_0 : List Value) (d1_0 : List UInt8) (h1_0 : Rep M (Dat.str d1_0) c1_0) (q1_0 : ∀ j v, c1_0[j]? = some v → M.cell? (ad1_0.add j) = some v) (r : Int) (hF : store_find_2 n d0 d1_0 = some r) : Ok Tryd.prog M 101 [.slice A0 d0.length cap0, .func (.func 102) #[] #[.pointer (some ad1_0)]] (fun _ v => v = .int .i64 r) := by
 unfold store_find_2 at hF
 intro M1 hM0 w0 H w p0
 replace hG := GL.mono hM0 hG
 replace h0 := h0.mono hM0
 replace h1_0 := Rep.mono hM0 _ _ h1_0
 replace q1_0 := fun j v h => hM0.cell (q1_0 j v h)
 obtain rfl : c1_0 = [S d1_0] := h1_0
 refine R_enter 19 Tryd.func101 rfl rfl (by simp) fun a0 f0 => RR (Y f0 1 fun _ f => eT (R_seq (RR (Y f 3 fun _ f => eT (wp_block ?_)))))
 obtain ⟨b_1, hL_1, hF_1⟩ := bS hF
 refine wp_mono (Q := fun e a w => (e = .ret ∧ (∃ y_1 : Int, b_1 = .inl y_1 ∧ ∃ M_2 : Mem, M1.le M_2 ∧ Frm 19 [(4, .int .i64 y_1)] a ∧ Hp w0 M_2 (H) w)) ∨ (e = .exit 0 ∧ (∃ y_2 : Unit, b_1 = .inr y_2 ∧ ∃ M_3 : Mem, M1.le M_3 ∧ Frm 19 [] a ∧ Hp w0 M_3 (H) w))) (R_loop (n := 19) (w0 := w0) (M := M1) (fun (x : Nat × Int) => match x with | (m_1, s_1) => [(1, .func (.func 102) #[] #[.pointer (some ad1_0)]), (7, .slice A0 d0.length cap0), (8, .int .i64 ((d0.length : Nat) : Int)), (9, .int .i64 s_1)]) (fun (x : Nat × Int) => match x with | (m_1, s_1) => (H)) (fun (x : Nat × Int) (MM : Mem) => match x with | (m_1, s_1) => loopF (store_find_2_s1 n d0 d1_0) m_1 s_1 = some b_1) (fun (x : Nat × Int) => match x with | (m_1, s_1) => m_1) (n, (0 : Int)) (f.kp) p0 hL_1 ?_) ?_
 ·rintro ⟨m_1, s_1⟩ M_1 _ w_1 hM_1 I_1 f p_1
  have I_1L := I_1
  obtain ⟨m_2, r_1, rfl, hs_1, hn_1⟩ := loop_step I_1L
  unfold store_find_2_s1 at hs_1
  refine RR (Y f 1 fun _ f => eT (R_seq (RcF f hs_1 (fun h_1 hF_2 => ?_) fun h_1 hF_8 => ?_)))
  ·have k_1 := dI.1 h_1
   refine wp_skip (T_n (R_seq (wp_block (RR (Y f 1 fun _ f => ?_)))))
   obtain ⟨x_1, hx_1, hF_3⟩ := bS hF_2
   obtain ⟨ad_1, c_1, e_1, -, hr_1, hc_1⟩ := Sli.at_ (h0.mono hM_1) hx_1
   obtain ⟨A_1, cap_1, rfl, h_2⟩ := TF0.opn hr_1
   refine Z f (Y31 e_1 rfl (len := d0.length) (cap := cap0) (k := .i64) (i := s_1) (e := 60) (sz := 3) (getI_nn hx_1) (getI_lt hx_1)) fun _ f => Z (v := .agg #[S x_1.fPhys, S x_1.fType, .slice A_1 x_1.fProps.length cap_1]) f (Y33 (cs := [S x_1.fPhys, S x_1.fType, .slice A_1 x_1.fProps.length cap_1]) rfl (ad := ad_1.add (s_1.toNat * 3)) (fun j v h => p_1.cell (hc_1 j v h))) fun _ f => Y12 f p_1 (.cells #[S [], S [], .slice none 0 0] 60 (0, 0)) fun b_2 w_2 p_2 _ f => Y f 1 fun _ f => Y27 (vs := [S x_1.fPhys, S x_1.fType, .slice A_1 x_1.fProps.length cap_1]) (j := 0) f p_2 rfl rfl (by simp [Value.oneCell', S]) (by simp) (by decide) (cs' := #[S x_1.fPhys, S x_1.fType, .slice A_1 x_1.fProps.length cap_1]) (by kernel_rfl) fun w_3 p_3 _ f => eT (RR (Y f 1 fun _ f => Z (v := .agg #[S x_1.fPhys, S x_1.fType, .slice A_1 x_1.fProps.length cap_1]) f (Y33 (cs := [S x_1.fPhys, S x_1.fType, .slice A_1 x_1.fProps.length cap_1]) rfl (ad := ⟨b_2, 0, none⟩) (own_cells (p_3.ownCell 0 rfl) 0 rfl)) fun _ f => ?_))
   obtain ⟨x_2, hx_2, hF_4⟩ := bS hF_3
   refine Y18 f p_3 (store_at_1_ok n _ (GL.mono hM_1 hG) _ x_1 (TF0.shutx (x := x_1) h_2) ad1_0 [S d1_0] d1_0 (rfl) (fz_at ((fzu hM_1 q1_0)) 0 rfl) x_2 hx_2) fun w_4 p_4 _ f => eT (RcF f hF_4 (fun h_3 hF_5 => ?_) fun h_3 hF_6 => ?_)
   ·refine RR (Y f 2 fun _ f => eT (wp_ret (B_r (T_r (T_r ?_)))))
    obtain rfl := sI hF_5
    exact .inl ⟨rfl, s_1, (sI hn_1).symm, M_1, hM_1, f.kp, (p_4.dropN 1)⟩
   ·refine wp_skip (B_n (T_n (R_reg ?_)))
    obtain ⟨g_1, hF_7⟩ := nS hF_6
    refine Y f 1 fun _ f => ?_
    have f := f.st 18 (congrArg (Value.int .i64) (inR_wrap g_1))
    refine Y f 1 fun _ f => eT ?_
    obtain rfl := sI hF_7
    exact ⟨⟨m_2, s_1 + 1⟩, Nat.lt_succ_self _, M_1, hM_1, hn_1, f.kp, (p_4.dropN 1)⟩
  ·have k_4 := iff_f dI h_1
   refine wp_exit (T_x (T_x ?_))
   obtain rfl := sI hF_8
   exact .inr ⟨rfl, (), (sI hn_1).symm, M_1, hM_1, f.kp, p_1⟩
 ·rintro _ _ w_7 (⟨rfl, y_1, rfl, M_2, hM_2, f, p_5⟩ | ⟨rfl, y_2, rfl, M_3, hM_3, f, p_6⟩)
  ·refine B_r (T_r (E_ret1 f rfl (by kernel_rfl : Vc.look _ 4 = some (.int .i64 y_1)) ?_))
   obtain rfl := sI hF_1
   exact ⟨_, rfl, M_2, hM_2, p_5, rfl⟩
  ·refine B_x (T_n (RR (Y f 1 fun _ f => eT (wp_ret (E_ret1 f rfl (by kernel_rfl : Vc.look _ 4 = some (.int .i64 (-1))) ?_)))))
   obtain rfl := sI hF_1
   exact ⟨_, rfl, M_3, hM_3, p_6, rfl⟩
def store_at (n : Nat) (d0 : TB0) (d1 : List UInt8) : Option Int :=
  (store_find_2 n d0.fL d1).bind fun x_1 =>
  some (x_1)
theorem store_at_ok (n : Nat) (M : Mem) (hG : GL M) (c0 : List Value) (d0 : TB0) (h0 : Rep M (emb_TB0 d0) c0) (d1 : List UInt8) (r : Int) (hF : store_at n d0 d1 = some r) : Ok Tryd.prog M 80 [.agg c0.toArray, S d1] (fun _ v => v = .int .i64 r) := by
 unfold store_at at hF
 intro M1 hM0 w0 H w p0
 replace hG := GL.mono hM0 hG
 replace h0 := Rep.mono hM0 _ _ h0
 obtain ⟨A_1, cap_1, rfl, h_1⟩ := TB0.opn h0
 refine R_enter 9 Tryd.func80 rfl rfl (by simp) fun a0 f0 => RR (Y13 (cs := #[.slice A_1 d0.fL.length cap_1, .int .i64 d0.fMade]) (T := 72) f0 p0 fun b_1 M_1 w_1 hM_1 hc_1 p_1 _ f => ?_)
 have hc_2 := fz_box hc_1
 refine Y13 (cs := #[S d1]) (T := 9) f p_1 fun b_2 M_2 w_2 hM_2 hc_3 p_2 _ f => ?_
 have hc_4 := fz_box hc_3
 refine Y f 1 fun _ f => eT (RR (Y f 1 fun _ f => Y15 f p_2 (fzu hM_2 hc_2) 0 rfl fun _ f => Y f 1 fun _ f => ?_))
 obtain ⟨x_1, hx_1, hF_1⟩ := bS hF
 refine Y18 f p_2 (store_find_2_ok n _ (GL.mono (hM_1.trans hM_2) hG) A_1 cap_1 d0.fL (h_1.mono (hM_1.trans hM_2)) (⟨b_2, 0, none⟩) [S d1] d1 (rfl) (fz_at (hc_4) 0 rfl) x_1 hx_1) fun w_3 p_3 _ f => Y f 1 fun _ f => eT (wp_ret (E_ret1 f rfl (by kernel_rfl : Vc.look _ 4 = some (.int .i64 x_1)) ?_))
 obtain rfl := sI hF_1
 exact ⟨_, rfl, M_2, (hM_1.trans hM_2), p_3, rfl⟩
def store_Create (n : Nat) (d0 : TB0) (d1 : List UInt8) (d2 : List TE0) : Option (TB0 × List UInt8 × Int) :=
  (store_Check n (⟨d0.fL, d0.fMade⟩ : TB0)).bind fun x_1 =>
  ((bif (decide (x_1 = 0)) then
      ((schema_Check n d1 d2).bind fun x_2 =>
      some (x_2))
    else
      some (x_1) : Option Int)).bind fun y_1 =>
  bif (!(decide (y_1 = 0))) then
    (some ((z_TB0, ([] : List UInt8), y_1)))
  else
    (store_known n d2).bind fun x_3 =>
    bif !x_3 then
      (some ((z_TB0, ([] : List UInt8), (91 : Int))))
    else
      bif (decide (d0.fMade = 1099511627776)) then
        (some ((z_TB0, ([] : List UInt8), (3 : Int))))
      else
        need (inR .i64 (d0.fMade + 1)) <|
        (store_Phys n (d0.fMade + 1)).bind fun x_4 =>
        need (0 ≤ ((d0.fL.length : Nat) : Int) ∧ ((d0.fL.length : Nat) : Int) ≤ (d0.fL.length : Int)) <|
        need (((d0.fL.take ((d0.fL.length : Nat) : Int).toNat).length + 1) * 56 ≤ 140737488355328) <|
        some (((⟨(d0.fL.take ((d0.fL.length : Nat) : Int).toNat) ++ [(⟨x_4.1, d1, d2⟩ : TF0)], d0.fMade + 1⟩ : TB0), x_4.1, (0 : Int)))
set_option maxRecDepth 20000 in
theorem store_Create_ok (n : Nat) (M : Mem) (hG : GL M) (c0 : List Value) (d0 : TB0) (h0 : Rep M (emb_TB0 d0) c0) (d1 : List UInt8) (A2 : Option Addr) (cap2 : Nat) (d2 : List TE0) (h2 : Sli M 8 emb_TE0 A2 cap2 d2) (r : TB0 × List UInt8 × Int) (hF : store_Create n d0 d1 d2 = some r) : Ok Tryd.prog M 53 [.agg c0.toArray, S d1, .slice A2 d2.length cap2] (fun M' v => ∃ (c0 : List Value), v = .tuple #[.agg c0.toArray, S r.2.1, .int .i64 r.2.2] ∧ Rep M' (emb_TB0 r.1) c0) := by
 unfold store_Create at hF
 intro M1 hM0 w0 H w p0
 replace hG := GL.mono hM0 hG
 replace h0 := Rep.mono hM0 _ _ h0
 replace h2 := h2.mono hM0
 obtain ⟨A_1, cap_1, rfl, h_1⟩ := TB0.opn h0
 refine R_enter 62 Tryd.func53 rfl rfl (by simp) fun a0 f0 => RR (Y12 f0 p0 (.cells #[.slice A_1 d0.fL.length cap_1, .int .i64 d0.fMade] 72 (0, 0)) fun b_1 w_1 p_1 _ f => Y12 f p_1 (.cells #[.slice none 0 0, .int .i64 0] 72 (0, 0)) fun b_2 w_2 p_2 _ f => Y f 2 fun _ f => eT (RR (Z (v := .agg #[.slice A_1 d0.fL.length cap_1, .int .i64 d0.fMade]) f (Y33 (cs := [.slice A_1 d0.fL.length cap_1, .int .i64 d0.fMade]) rfl (ad := ⟨b_1, 0, none⟩) (own_cells (p_2.ownCell 1 rfl) 0 rfl)) fun _ f => ?_)))
 obtain ⟨x_1, hx_1, hF_1⟩ := bS hF
 refine Y18 f p_2 (store_Check_ok n _ hG _ (⟨d0.fL, d0.fMade⟩ : TB0) (TB0.shut h_1) x_1 hx_1) fun w_3 p_3 _ f => Y f 1 fun _ f => eT (R_seq (RR (Y f 2 fun _ f => eT ?_)))
 obtain ⟨j_1, hj_1, hF_2⟩ := bS hF_1
 refine R_mid (fun a_11 w_5 => ∃ y_1 : Int, j_1 = y_1 ∧ ∃ M_1 : Mem, M1.le M_1 ∧ Frm 62 [(1, S d1), (2, .slice A2 d2.length cap2), (3, .pointer (some (⟨b_1, 0, none⟩))), (6, .pointer (some (⟨b_2, 0, none⟩))), (9, .int .i64 y_1)] a_11 ∧ Hp w0 M_1 ((Ent.obj b_2 (.cells #[.slice none 0 0, .int .i64 0] 72 (0, 0))) :: (Ent.obj b_1 (.cells #[.slice A_1 d0.fL.length cap_1, .int .i64 d0.fMade] 72 (0, 0))) :: H) w_5) ?_ ?_
 ·refine RcF f hj_1 (fun h_2 hF_3 => ?_) fun h_2 hF_5 => ?_
  ·have k_1 := dI.1 h_2
   refine R_reg (Y f 2 fun _ f => ?_)
   obtain ⟨x_2, hx_2, hF_4⟩ := bS hF_3
   refine Y18 f p_3 (schema_Check_ok n _ hG d1 A2 cap2 d2 h2 x_2 hx_2) fun w_4 p_4 _ f => Y f 1 fun _ f => eT ?_
   exact ⟨x_2, (sI hF_4).symm, M1, (mR _), f.kp, p_4⟩
  ·have k_2 := iff_f dI h_2
   refine wp_skip (T_n ?_)
   exact ⟨x_1, (sI hF_5).symm, M1, (mR _), f.kp, p_3⟩
 ·rintro a_11 w_5 ⟨y_1, hq_1, M_1, hM_1, f, p_5⟩
  subst j_1
  refine T_n (R_seq (wp_block (RR (Y f 3 fun _ f => eT (RcF f hF_2 (fun h_3 hF_6 => ?_) fun h_3 hF_7 => ?_)))))
  ·have k_3 : ¬ (y_1 = 0) := (not_iff dI).1 h_3
   refine RR (Y f 2 fun _ f => Y27 (vs := [.slice none 0 0, .int .i64 0]) (j := 0) f p_5 rfl rfl (by simp [Value.oneCell', S]) (by simp) (by decide) (cs' := #[.slice none 0 0, .int .i64 0]) (by kernel_rfl) fun w_6 p_6 _ f => Y f 2 fun _ f => eT (wp_ret (B_r (T_r (E_rv3 f rfl (Y10 (cs := [.slice none 0 0, .int .i64 0]) (ad := ⟨b_2, 0, none⟩) f (own_cells (p_6.ownCell 0 rfl) 0 rfl)) (Y11 (v := S []) f) (Y11 (v := .int .i64 y_1) f) ?_)))))
   obtain rfl := sI hF_6
   exact ⟨_, rfl, M_1, hM_1, (p_6.dropN 2), ⟨[.slice none 0 0, .int .i64 0], rfl, (TB0.shut Sli.nil)⟩⟩
  ·have k_4 : ¬ (¬ (y_1 = 0)) := iff_f (not_iff dI) h_3
   refine RR (Y f 1 fun _ f => ?_)
   obtain ⟨x_3, hx_3, hF_8⟩ := bS hF_7
   refine Y18 f p_5 (store_known_ok n _ (GL.mono hM_1 hG) A2 cap2 d2 (h2.mono hM_1) x_3 hx_3) fun w_7 p_7 _ f => Y f 2 fun _ f => eT (RcF f hF_8 (fun h_4 hF_9 => ?_) fun h_4 hF_10 => ?_)
   ·have k_5 : (x_3) = false := by simpa using h_4
    refine RR (Y f 1 fun _ f => Y27 (vs := [.slice none 0 0, .int .i64 0]) (j := 0) f p_7 rfl rfl (by simp [Value.oneCell', S]) (by simp) (by decide) (cs' := #[.slice none 0 0, .int .i64 0]) (by kernel_rfl) fun w_8 p_8 _ f => Y f 2 fun _ f => eT (wp_ret (B_r (T_r (E_rv3 f rfl (Y10 (cs := [.slice none 0 0, .int .i64 0]) (ad := ⟨b_2, 0, none⟩) f (own_cells (p_8.ownCell 0 rfl) 0 rfl)) (Y11 (v := S []) f) (Y11 (v := .int .i64 91) f) ?_)))))
    obtain rfl := sI hF_9
    exact ⟨_, rfl, M_1, hM_1, (p_8.dropN 2), ⟨[.slice none 0 0, .int .i64 0], rfl, (TB0.shut Sli.nil)⟩⟩
   ·have k_6 : (x_3) = true := by simpa using h_4
    refine RR (Y f 1 fun _ f => Z f (Y32 (v := .int .i64 d0.fMade) rfl (ad := ⟨b_1, 1, none⟩) (p_7.ownCell 1 rfl 1)) fun _ f => Y f 2 fun _ f => eT (RcF f hF_10 (fun h_5 hF_11 => ?_) fun h_5 hF_12 => ?_))
    ·have k_7 := dI.1 h_5
     refine RR (Y f 1 fun _ f => Y27 (vs := [.slice none 0 0, .int .i64 0]) (j := 0) f p_7 rfl rfl (by simp [Value.oneCell', S]) (by simp) (by decide) (cs' := #[.slice none 0 0, .int .i64 0]) (by kernel_rfl) fun w_9 p_9 _ f => Y f 2 fun _ f => eT (wp_ret (B_r (T_r (E_rv3 f rfl (Y10 (cs := [.slice none 0 0, .int .i64 0]) (ad := ⟨b_2, 0, none⟩) f (own_cells (p_9.ownCell 0 rfl) 0 rfl)) (Y11 (v := S []) f) (Y11 (v := .int .i64 3) f) ?_)))))
     obtain rfl := sI hF_11
     exact ⟨_, rfl, M_1, hM_1, (p_9.dropN 2), ⟨[.slice none 0 0, .int .i64 0], rfl, (TB0.shut Sli.nil)⟩⟩
    ·have k_8 := iff_f dI h_5
     refine wp_skip (B_n (T_n (RR (Y f 1 fun _ f => Z f (Y32 (v := .slice A_1 d0.fL.length cap_1) rfl (ad := ⟨b_1, 0, none⟩) (p_7.ownCell 1 rfl 0)) fun _ f => Y f 2 fun _ f => eT (RR (Y f 1 fun _ f => Z f (Y32 (v := .int .i64 d0.fMade) rfl (ad := ⟨b_1, 1, none⟩) (p_7.ownCell 1 rfl 1)) fun _ f => ?_))))))
     obtain ⟨g_1, hF_13⟩ := nS hF_12
     refine Y f 1 fun _ f => ?_
     have f := f.st 40 (congrArg (Value.int .i64) (inR_wrap g_1))
     refine Y f 1 fun _ f => Y26 f p_7 1 rfl rfl (b := b_1) (j := 1) (v := .int .i64 (d0.fMade + 1)) rfl (by exact rfl) (by simp) (by simp) ((Ent.obj b_2 (.cells #[.slice none 0 0, .int .i64 0] 72 (0, 0))) :: (Ent.obj b_1 (.cells #[.slice A_1 d0.fL.length cap_1, .int .i64 (d0.fMade + 1)] 72 (0, 0))) :: H) rfl fun w_10 p_10 _ f => eT (RR (Y f 1 fun _ f => Z f (Y32 (v := .int .i64 (d0.fMade + 1)) rfl (ad := ⟨b_1, 1, none⟩) (p_10.ownCell 1 rfl 1)) fun _ f => ?_))
     obtain ⟨x_4, hx_4, hF_14⟩ := bS hF_13
     refine Y18 f p_10 (store_Phys_ok n _ (GL.mono hM_1 hG) (d0.fMade + 1) x_4 hx_4) fun w_11 p_11 _ f => Y f 5 fun _ f => eT (RR (Y f 1 fun _ f => Z f (Y32 (v := .slice A_1 d0.fL.length cap_1) rfl (ad := ⟨b_1, 0, none⟩) (p_11.ownCell 1 rfl 0)) fun _ f => Y f 2 fun _ f => ?_))
     obtain ⟨g_2, hF_15⟩ := nS hF_14
     have h_6 : Sli M_1 3 emb_TF0 (cutA A_1 3 0 ((d0.fL.length : Nat) : Int).toNat) (d0.fL.take ((d0.fL.length : Nat) : Int).toNat).length (d0.fL.take ((d0.fL.length : Nat) : Int).toNat) := Sli.full (cap := cap_1) (h_1.mono hM_1) (by omega)
     have hl_1 := Sli.len (cap := cap_1) (h_1.mono hM_1)
     have he_1 : ((d0.fL.length : Nat) : Int).toNat = (d0.fL.take ((d0.fL.length : Nat) : Int).toNat).length := by rw [List.length_take]; omega
     refine Z (v := .slice (cutA A_1 3 0 ((d0.fL.length : Nat) : Int).toNat) ((d0.fL.length : Nat) : Int).toNat ((d0.fL.length : Nat) : Int).toNat) f (Y35 rfl (A := A_1) (len := d0.fL.length) (cap := cap_1) (k := .i64) (k' := .i64) (b := ((d0.fL.length : Nat) : Int)) (e := 60) (sz := 3) g_2.1 (by omega)) fun _ f => ?_
     have f := Frm.set f 52 (v := .slice (cutA A_1 3 0 ((d0.fL.length : Nat) : Int).toNat) ((d0.fL.length : Nat) : Int).toNat ((d0.fL.length : Nat) : Int).toNat) (v' := .slice (cutA A_1 3 0 ((d0.fL.length : Nat) : Int).toNat) (d0.fL.take ((d0.fL.length : Nat) : Int).toNat).length (d0.fL.take ((d0.fL.length : Nat) : Int).toNat).length) (by kernel_rfl) (by rw [← he_1])
     refine Y f 4 fun _ f => V_allocS (k := 1) (c := 1) f p_11 (.cells #[S x_4.1, S d1, .slice A2 d2.length cap2] 60 (0, 0)) (by kernel_rfl) (fun _ => by kernel_rfl) fun b_3 w_12 p_12 _ f => ?_
     obtain ⟨g_3, hF_16⟩ := nS hF_15
     refine Y20 (e := 60) (bytes := 56) (z := .agg #[S [], S [], .slice none 0 0]) (f := emb_TF0) (xs := d0.fL.take ((d0.fL.length : Nat) : Int).toNat) (ys := [(⟨x_4.1, d1, d2⟩ : TF0)]) (news := [S x_4.1, S d1, .slice A2 d2.length cap2]) (ad := ⟨b_3, 0, none⟩) (m := 1) (c := 1) f p_12 (by decide) (by decide) h_6 (by exact ⟨_, _, rfl, TF0.shut (h2.mono hM_1), rfl⟩) rfl rfl rfl rfl (own_cells (p_12.ownCell 0 rfl) 0 rfl) g_3 (by have hg_ := g_3; omega) fun A_2 cap_2 cs_1 w_13 p_13 hr_1 _ f => ?_
     have p_14 := p_13.pl [1]
     have p_15 := p_14.drop
     refine Y f 1 fun _ f => Y26 f p_15 2 rfl rfl (b := b_1) (j := 0) (v := .slice A_2 ((d0.fL.take ((d0.fL.length : Nat) : Int).toNat) ++ [(⟨x_4.1, d1, d2⟩ : TF0)]).length cap_2) rfl (by exact rfl) (by simp) (by simp) ((Ent.row 60 3 (.slice A_2 ((d0.fL.take ((d0.fL.length : Nat) : Int).toNat) ++ [(⟨x_4.1, d1, d2⟩ : TF0)]).length cap_2) ((d0.fL.take ((d0.fL.length : Nat) : Int).toNat) ++ [(⟨x_4.1, d1, d2⟩ : TF0)]).length cs_1) :: (Ent.obj b_2 (.cells #[.slice none 0 0, .int .i64 0] 72 (0, 0))) :: (Ent.obj b_1 (.cells #[.slice A_2 ((d0.fL.take ((d0.fL.length : Nat) : Int).toNat) ++ [(⟨x_4.1, d1, d2⟩ : TF0)]).length cap_2, .int .i64 (d0.fMade + 1)] 72 (0, 0))) :: H) rfl fun w_14 p_16 _ f => eT (RR (Z (v := .agg #[.slice A_2 ((d0.fL.take ((d0.fL.length : Nat) : Int).toNat) ++ [(⟨x_4.1, d1, d2⟩ : TF0)]).length cap_2, .int .i64 (d0.fMade + 1)]) f (Y33 (cs := [.slice A_2 ((d0.fL.take ((d0.fL.length : Nat) : Int).toNat) ++ [(⟨x_4.1, d1, d2⟩ : TF0)]).length cap_2, .int .i64 (d0.fMade + 1)]) rfl (ad := ⟨b_1, 0, none⟩) (own_cells (p_16.ownCell 2 rfl) 0 rfl)) fun _ f => Y f 1 fun _ f => ?_))
     obtain ⟨A_3, cap_3, M_2, hv_1, hM_2, p_17, h_7⟩ := p_16.rowSli (f := emb_TF0) (xs := (d0.fL.take ((d0.fL.length : Nat) : Int).toNat) ++ [(⟨x_4.1, d1, d2⟩ : TF0)]) szd_TF0 hr_1
     have f := Frm.set f 60 (v := .agg #[.slice A_2 ((d0.fL.take ((d0.fL.length : Nat) : Int).toNat) ++ [(⟨x_4.1, d1, d2⟩ : TF0)]).length cap_2, .int .i64 (d0.fMade + 1)]) (v' := .agg #[.slice A_3 ((d0.fL.take ((d0.fL.length : Nat) : Int).toNat) ++ [(⟨x_4.1, d1, d2⟩ : TF0)]).length cap_3, .int .i64 (d0.fMade + 1)]) (by kernel_rfl) (by rw [hv_1])
     have p_18 : Hp w0 M_2 ((Ent.obj b_2 (.cells #[.slice none 0 0, .int .i64 0] 72 (0, 0))) :: (Ent.obj b_1 (.cells #[.slice A_3 ((d0.fL.take ((d0.fL.length : Nat) : Int).toNat) ++ [(⟨x_4.1, d1, d2⟩ : TF0)]).length cap_3, .int .i64 (d0.fMade + 1)] 72 (0, 0))) :: H) w_14 := by rw [hv_1] at p_17; exact p_17
     refine Y27 (vs := [.slice A_3 ((d0.fL.take ((d0.fL.length : Nat) : Int).toNat) ++ [(⟨x_4.1, d1, d2⟩ : TF0)]).length cap_3, .int .i64 (d0.fMade + 1)]) (j := 0) f p_18 rfl rfl (by simp [Value.oneCell', S]) (by simp) (by decide) (cs' := #[.slice A_3 ((d0.fL.take ((d0.fL.length : Nat) : Int).toNat) ++ [(⟨x_4.1, d1, d2⟩ : TF0)]).length cap_3, .int .i64 (d0.fMade + 1)]) (by kernel_rfl) fun w_15 p_19 _ f => Y f 2 fun _ f => eT (wp_ret (E_rv3 f rfl (Y10 (cs := [.slice A_3 ((d0.fL.take ((d0.fL.length : Nat) : Int).toNat) ++ [(⟨x_4.1, d1, d2⟩ : TF0)]).length cap_3, .int .i64 (d0.fMade + 1)]) (ad := ⟨b_2, 0, none⟩) f (own_cells (p_19.ownCell 0 rfl) 0 rfl)) (Y11 (v := S x_4.1) f) (Y11 (v := .int .i64 0) f) ?_))
     obtain rfl := sI hF_16
     exact ⟨_, rfl, M_2, (hM_1.trans hM_2), (p_19.dropN 2), ⟨[.slice A_3 ((d0.fL.take ((d0.fL.length : Nat) : Int).toNat) ++ [(⟨x_4.1, d1, d2⟩ : TF0)]).length cap_3, .int .i64 (d0.fMade + 1)], rfl, (TB0.shut h_7)⟩⟩
def store_Update (n : Nat) (d0 : TB0) (d1 : List UInt8) (d2 : List TE0) : Option (TB0 × Int) :=
  (store_Check n (⟨d0.fL, d0.fMade⟩ : TB0)).bind fun x_1 =>
  bif (!(decide (x_1 = 0))) then
    (some ((z_TB0, (2 : Int))))
  else
    (store_at n (⟨d0.fL, d0.fMade⟩ : TB0) d1).bind fun x_2 =>
    bif (decide (x_2 < 0)) then
      (some ((z_TB0, (4 : Int))))
    else
      (getI d0.fL x_2).bind fun x_3 =>
      (schema_Check n x_3.fType d2).bind fun x_4 =>
      bif (!(decide (x_4 = 0))) then
        (some ((z_TB0, x_4)))
      else
        (schema_Differ n x_3.fType x_3.fProps d2).bind fun x_5 =>
        (((store_known n d2).bind fun x_6 =>
          bif !x_6 then
            (some ((true)))
          else
            bif (!(decide (x_5.2 = 0))) then
              (some ((true)))
            else
              some ((decide (x_5.1 = 3))) : Option Bool)).bind fun y_1 =>
        bif y_1 then
          (some ((z_TB0, (91 : Int))))
        else
          ((need (0 ≤ x_2 ∧ x_2 ≤ (d0.fL.length : Int)) <|
            need (inR .i64 (x_2 + 1)) <|
            need (0 ≤ (x_2 + 1) ∧ (x_2 + 1) ≤ (d0.fL.length : Int)) <|
            need (((d0.fL.take x_2.toNat).length + 1) * 56 ≤ 140737488355328) <|
            need ((((d0.fL.take x_2.toNat) ++ [(⟨x_3.fPhys, x_3.fType, d2⟩ : TF0)]).length + (d0.fL.drop (x_2 + 1).toNat).length) * 56 ≤ 140737488355328) <|
            some (((d0.fL.take x_2.toNat) ++ [(⟨x_3.fPhys, x_3.fType, d2⟩ : TF0)]) ++ (d0.fL.drop (x_2 + 1).toNat)) : Option (List TF0))).bind fun y_2 =>
          some (((⟨y_2, d0.fMade⟩ : TB0), (0 : Int)))
set_option maxRecDepth 20000 in
theorem store_Update_ok (n : Nat) (M : Mem) (hG : GL M) (c0 : List Value) (d0 : TB0) (h0 : Rep M (emb_TB0 d0) c0) (d1 : List UInt8) (A2 : Option Addr) (cap2 : Nat) (d2 : List TE0) (h2 : Sli M 8 emb_TE0 A2 cap2 d2) (r : TB0 × Int) (hF : store_Update n d0 d1 d2 = some r) : Ok Tryd.prog M 54 [.agg c0.toArray, S d1, .slice A2 d2.length cap2] (fun M' v => ∃ (c0 : List Value), v = .tuple #[.agg c0.toArray, .int .i64 r.2] ∧ Rep M' (emb_TB0 r.1) c0) := by
 unfold store_Update at hF
 intro M1 hM0 w0 H w p0
 replace hG := GL.mono hM0 hG
 replace h0 := Rep.mono hM0 _ _ h0
 replace h2 := h2.mono hM0
 obtain ⟨A_1, cap_1, rfl, h_1⟩ := TB0.opn h0
 refine R_enter 75 Tryd.func54 rfl rfl (by simp) fun a0 f0 => RR (Y12 f0 p0 (.cells #[.slice A_1 d0.fL.length cap_1, .int .i64 d0.fMade] 72 (0, 0)) fun b_1 w_1 p_1 _ f => Y12 f p_1 (.cells #[.slice none 0 0, .int .i64 0] 72 (0, 0)) fun b_2 w_2 p_2 _ f => Y f 1 fun _ f => eT (R_seq (RR (Z (v := .agg #[.slice A_1 d0.fL.length cap_1, .int .i64 d0.fMade]) f (Y33 (cs := [.slice A_1 d0.fL.length cap_1, .int .i64 d0.fMade]) rfl (ad := ⟨b_1, 0, none⟩) (own_cells (p_2.ownCell 1 rfl) 0 rfl)) fun _ f => ?_))))
 obtain ⟨x_1, hx_1, hF_1⟩ := bS hF
 refine Y18 f p_2 (store_Check_ok n _ hG _ (⟨d0.fL, d0.fMade⟩ : TB0) (TB0.shut h_1) x_1 hx_1) fun w_3 p_3 _ f => Y f 1 fun _ f => eT (RcF f hF_1 (fun h_2 hF_2 => ?_) fun h_2 hF_3 => ?_)
 ·have k_1 : ¬ (x_1 = 0) := (not_iff dI).1 h_2
  refine RR (Y f 1 fun _ f => Y27 (vs := [.slice none 0 0, .int .i64 0]) (j := 0) f p_3 rfl rfl (by simp [Value.oneCell', S]) (by simp) (by decide) (cs' := #[.slice none 0 0, .int .i64 0]) (by kernel_rfl) fun w_4 p_4 _ f => Y f 1 fun _ f => eT (wp_ret (T_r (E_rv2 f rfl (Y10 (cs := [.slice none 0 0, .int .i64 0]) (ad := ⟨b_2, 0, none⟩) f (own_cells (p_4.ownCell 0 rfl) 0 rfl)) (Y11 (v := .int .i64 2) f) ?_))))
  obtain rfl := sI hF_2
  exact ⟨_, rfl, M1, (mR _), (p_4.dropN 2), ⟨[.slice none 0 0, .int .i64 0], rfl, (TB0.shut Sli.nil)⟩⟩
 ·have k_2 : ¬ (¬ (x_1 = 0)) := iff_f (not_iff dI) h_2
  refine wp_skip (T_n (RR (Z (v := .agg #[.slice A_1 d0.fL.length cap_1, .int .i64 d0.fMade]) f (Y33 (cs := [.slice A_1 d0.fL.length cap_1, .int .i64 d0.fMade]) rfl (ad := ⟨b_1, 0, none⟩) (own_cells (p_3.ownCell 1 rfl) 0 rfl)) fun _ f => Y f 1 fun _ f => ?_)))
  obtain ⟨x_2, hx_2, hF_4⟩ := bS hF_3
  refine Y18 f p_3 (store_at_ok n _ hG _ (⟨d0.fL, d0.fMade⟩ : TB0) (TB0.shut h_1) d1 x_2 hx_2) fun w_5 p_5 _ f => Y f 1 fun _ f => eT (R_seq (RR (Y f 2 fun _ f => eT (RcF f hF_4 (fun h_3 hF_5 => ?_) fun h_3 hF_6 => ?_))))
  ·have k_3 := dI.1 h_3
   refine RR (Y f 1 fun _ f => Y27 (vs := [.slice none 0 0, .int .i64 0]) (j := 0) f p_5 rfl rfl (by simp [Value.oneCell', S]) (by simp) (by decide) (cs' := #[.slice none 0 0, .int .i64 0]) (by kernel_rfl) fun w_6 p_6 _ f => Y f 1 fun _ f => eT (wp_ret (T_r (E_rv2 f rfl (Y10 (cs := [.slice none 0 0, .int .i64 0]) (ad := ⟨b_2, 0, none⟩) f (own_cells (p_6.ownCell 0 rfl) 0 rfl)) (Y11 (v := .int .i64 4) f) ?_))))
   obtain rfl := sI hF_5
   exact ⟨_, rfl, M1, (mR _), (p_6.dropN 2), ⟨[.slice none 0 0, .int .i64 0], rfl, (TB0.shut Sli.nil)⟩⟩
  ·have k_4 := iff_f dI h_3
   refine wp_skip (T_n (RR (Y f 1 fun _ f => Z f (Y32 (v := .slice A_1 d0.fL.length cap_1) rfl (ad := ⟨b_1, 0, none⟩) (p_5.ownCell 1 rfl 0)) fun _ f => Y f 1 fun _ f => ?_)))
   obtain ⟨x_3, hx_3, hF_7⟩ := bS hF_6
   obtain ⟨ad_1, c_1, e_1, -, hr_1, hc_1⟩ := Sli.at_ h_1 hx_3
   obtain ⟨A_2, cap_2, rfl, h_4⟩ := TF0.opn hr_1
   refine Z f (Y31 e_1 rfl (len := d0.fL.length) (cap := cap_1) (k := .i64) (i := x_2) (e := 60) (sz := 3) (getI_nn hx_3) (getI_lt hx_3)) fun _ f => Z (v := .agg #[S x_3.fPhys, S x_3.fType, .slice A_2 x_3.fProps.length cap_2]) f (Y33 (cs := [S x_3.fPhys, S x_3.fType, .slice A_2 x_3.fProps.length cap_2]) rfl (ad := ad_1.add (x_2.toNat * 3)) (fun j v h => p_5.cell (hc_1 j v h))) fun _ f => Y12 f p_5 (.cells #[S [], S [], .slice none 0 0] 60 (0, 0)) fun b_3 w_7 p_7 _ f => Y27 (vs := [S x_3.fPhys, S x_3.fType, .slice A_2 x_3.fProps.length cap_2]) (j := 0) f p_7 rfl rfl (by simp [Value.oneCell', S]) (by simp) (by decide) (cs' := #[S x_3.fPhys, S x_3.fType, .slice A_2 x_3.fProps.length cap_2]) (by kernel_rfl) fun w_8 p_8 _ f => eT (R_seq (RR (Y f 1 fun _ f => Z f (Y32 (v := S x_3.fType) rfl (ad := ⟨b_3, 1, none⟩) (p_8.ownCell 0 rfl 1)) fun _ f => Y f 1 fun _ f => ?_)))
   obtain ⟨x_4, hx_4, hF_8⟩ := bS hF_7
   refine Y18 f p_8 (schema_Check_ok n _ hG x_3.fType A2 cap2 d2 h2 x_4 hx_4) fun w_9 p_9 _ f => Y f 1 fun _ f => eT (RR (Y f 2 fun _ f => eT (RcF f hF_8 (fun h_5 hF_9 => ?_) fun h_5 hF_10 => ?_)))
   ·have k_5 : ¬ (x_4 = 0) := (not_iff dI).1 h_5
    refine RR (Y f 2 fun _ f => ?_)
    have p_10 := p_9.pl [1]
    refine Y27 (vs := [.slice none 0 0, .int .i64 0]) (j := 0) f p_10 rfl rfl (by simp [Value.oneCell', S]) (by simp) (by decide) (cs' := #[.slice none 0 0, .int .i64 0]) (by kernel_rfl) fun w_10 p_11 _ f => Y f 1 fun _ f => eT (wp_ret (T_r (E_rv2 f rfl (Y10 (cs := [.slice none 0 0, .int .i64 0]) (ad := ⟨b_2, 0, none⟩) f (own_cells (p_11.ownCell 0 rfl) 0 rfl)) (Y11 (v := .int .i64 x_4) f) ?_)))
    obtain rfl := sI hF_9
    exact ⟨_, rfl, M1, (mR _), (p_11.dropN 3), ⟨[.slice none 0 0, .int .i64 0], rfl, (TB0.shut Sli.nil)⟩⟩
   ·have k_6 : ¬ (¬ (x_4 = 0)) := iff_f (not_iff dI) h_5
    refine wp_skip (T_n (RR (Y f 1 fun _ f => Z f (Y32 (v := S x_3.fType) rfl (ad := ⟨b_3, 1, none⟩) (p_9.ownCell 0 rfl 1)) fun _ f => Y f 1 fun _ f => Z f (Y32 (v := .slice A_2 x_3.fProps.length cap_2) rfl (ad := ⟨b_3, 2, none⟩) (p_9.ownCell 0 rfl 2)) fun _ f => Y f 1 fun _ f => ?_)))
    obtain ⟨x_5, hx_5, hF_11⟩ := bS hF_10
    refine Y18 f p_9 (schema_Differ_ok n _ hG x_3.fType A_2 cap_2 x_3.fProps h_4 A2 cap2 d2 h2 x_5 hx_5) fun w_11 p_12 _ f => Y f 5 fun _ f => eT (R_seq (R_seq ?_))
    obtain ⟨j_1, hj_1, hF_12⟩ := bS hF_11
    refine R_mid (fun a_48 w_13 => ∃ y_1 : Bool, j_1 = y_1 ∧ ∃ M_1 : Mem, M1.le M_1 ∧ Frm 75 [(2, .slice A2 d2.length cap2), (3, .pointer (some (⟨b_1, 0, none⟩))), (6, .pointer (some (⟨b_2, 0, none⟩))), (8, .int .i64 x_2), (9, .pointer (some (⟨b_3, 0, none⟩))), (55, .bool y_1)] a_48 ∧ Hp w0 M_1 ((Ent.obj b_3 (.cells #[S x_3.fPhys, S x_3.fType, .slice A_2 x_3.fProps.length cap_2] 60 (0, 0))) :: (Ent.obj b_2 (.cells #[.slice none 0 0, .int .i64 0] 72 (0, 0))) :: (Ent.obj b_1 (.cells #[.slice A_1 d0.fL.length cap_1, .int .i64 d0.fMade] 72 (0, 0))) :: H) w_13) ?_ ?_
    ·refine R_reg (Y f 1 fun _ f => ?_)
     obtain ⟨x_6, hx_6, hF_13⟩ := bS hj_1
     refine Y18 f p_12 (store_known_ok n _ hG A2 cap2 d2 h2 x_6 hx_6) fun w_12 p_13 _ f => Y f 2 fun _ f => ?_
     rcases cE hF_13 with ⟨h_6, hF_14⟩ | ⟨h_6, hF_15⟩
     ·have k_7 : (x_6) = false := by simpa using h_6
      have f := f.st 48 (cB h_6)
      refine Y f 7 fun _ f => eT ?_
      exact ⟨(true), (sI hF_14).symm, M1, (mR _), f.kp, p_13⟩
     ·have k_8 : (x_6) = true := by simpa using h_6
      have f := f.st 48 (cB h_6)
      refine Y f 4 fun _ f => ?_
      rcases cE hF_15 with ⟨h_7, hF_16⟩ | ⟨h_7, hF_17⟩
      ·have k_9 : ¬ (x_5.2 = 0) := (not_iff dI).1 h_7
       have f := f.st 52 (cB h_7)
       refine Y f 3 fun _ f => eT ?_
       exact ⟨(true), (sI hF_16).symm, M1, (mR _), f.kp, p_13⟩
      ·have k_10 : ¬ (¬ (x_5.2 = 0)) := iff_f (not_iff dI) h_7
       have f := f.st 52 (cB h_7)
       refine Y f 3 fun _ f => eT ?_
       exact ⟨(decide (x_5.1 = 3)), (sI hF_17).symm, M1, (mR _), f.kp, p_13⟩
    ·rintro a_48 w_13 ⟨y_1, hq_1, M_1, hM_1, f, p_14⟩
     subst j_1
     refine T_n (RcF f hF_12 (fun h_8 hF_18 => ?_) fun h_8 hF_19 => ?_)
     ·refine RR (Y f 1 fun _ f => ?_)
      have p_15 := p_14.pl [1]
      refine Y27 (vs := [.slice none 0 0, .int .i64 0]) (j := 0) f p_15 rfl rfl (by simp [Value.oneCell', S]) (by simp) (by decide) (cs' := #[.slice none 0 0, .int .i64 0]) (by kernel_rfl) fun w_14 p_16 _ f => Y f 1 fun _ f => eT (wp_ret (T_r (E_rv2 f rfl (Y10 (cs := [.slice none 0 0, .int .i64 0]) (ad := ⟨b_2, 0, none⟩) f (own_cells (p_16.ownCell 0 rfl) 0 rfl)) (Y11 (v := .int .i64 91) f) ?_)))
      obtain rfl := sI hF_18
      exact ⟨_, rfl, M_1, hM_1, (p_16.dropN 3), ⟨[.slice none 0 0, .int .i64 0], rfl, (TB0.shut Sli.nil)⟩⟩
     ·refine wp_skip (T_n (RR (Y f 2 fun _ f => Y26 f p_14 0 rfl rfl (b := b_3) (j := 2) (v := .slice A2 d2.length cap2) rfl (by exact rfl) (by simp) (by simp) ((Ent.obj b_3 (.cells #[S x_3.fPhys, S x_3.fType, .slice A2 d2.length cap2] 60 (0, 0))) :: (Ent.obj b_2 (.cells #[.slice none 0 0, .int .i64 0] 72 (0, 0))) :: (Ent.obj b_1 (.cells #[.slice A_1 d0.fL.length cap_1, .int .i64 d0.fMade] 72 (0, 0))) :: H) rfl fun w_15 p_17 _ f => eT (R_seq ?_))))
      obtain ⟨j_2, hj_2, hF_20⟩ := bS hF_19
      refine R_mid (fun a_83 w_27 => ∃ y_2 : List TF0, j_2 = y_2 ∧ ∃ M_2 : Mem, M_1.le M_2 ∧ ∃ (A_7 : Option Addr), ∃ (cap_7 : Nat), ∃ (cs_5 : List Value), RepSeq M_2 (y_2.map emb_TF0) cs_5 ∧ Frm 75 [(3, .pointer (some (⟨b_1, 0, none⟩))), (6, .pointer (some (⟨b_2, 0, none⟩)))] a_83 ∧ Hp w0 M_2 ((Ent.row 60 3 (.slice A_7 y_2.length cap_7) y_2.length cs_5) :: (Ent.obj b_3 (.cells #[S x_3.fPhys, S x_3.fType, .slice A2 d2.length cap2] 60 (0, 0))) :: (Ent.obj b_2 (.cells #[.slice none 0 0, .int .i64 0] 72 (0, 0))) :: (Ent.obj b_1 (.cells #[.slice A_7 y_2.length cap_7, .int .i64 d0.fMade] 72 (0, 0))) :: H) w_27) ?_ ?_
      ·obtain ⟨g_1, hF_21⟩ := nS hj_2
       obtain ⟨g_2, hF_22⟩ := nS hF_21
       obtain ⟨g_3, hF_23⟩ := nS hF_22
       obtain ⟨g_4, hF_24⟩ := nS hF_23
       obtain ⟨g_5, hF_25⟩ := nS hF_24
       refine R_plan (ks := [14, 15]) (E := []) (Hr := ((Ent.obj b_3 (.cells #[S x_3.fPhys, S x_3.fType, .slice A2 d2.length cap2] 60 (0, 0))) :: (Ent.obj b_2 (.cells #[.slice none 0 0, .int .i64 0] 72 (0, 0))) :: (Ent.obj b_1 (.cells #[.slice A_1 d0.fL.length cap_1, .int .i64 d0.fMade] 72 (0, 0))) :: H)) (.quiet 0 (.quiet 1 (.quiet 2 (.quiet 3 (.quiet 4 (.quiet 5 (.quiet 8 (.quiet 9 (.quiet 10 (.quiet 11 (.quiet 12 (.alt 6 (.alt 7 (.alt 13 .done .none) .none) .none)))))))))))) p_17 (by kernel_rfl) (by kernel_rfl) (by kernel_rfl) (Y1 (v := .pointer (some (⟨b_1, 0, none⟩))) rfl f rfl rfl (fun _ _ => by kernel_rfl) fun _ f => Y1 (v := .slice A_1 d0.fL.length cap_1) rfl f rfl rfl (fun _ pq => Y32 (v := .slice A_1 d0.fL.length cap_1) rfl (ad := ⟨b_1, 0, none⟩) (pq.ownCell 2 rfl 0)) fun _ f => Y1 (v := .int .i64 x_2) rfl f rfl rfl (fun _ _ => by kernel_rfl) fun _ f => Y1 (v := .int .i64 x_2) rfl f rfl rfl (fun _ _ => by kernel_rfl) fun _ f => ?_)
       have h_11 : Sli M_1 3 emb_TF0 (cutA A_1 3 0 x_2.toNat) (d0.fL.take x_2.toNat).length (d0.fL.take x_2.toNat) := Sli.full (cap := cap_1) (h_1.mono hM_1) (by omega)
       have hl_3 := Sli.len (cap := cap_1) (h_1.mono hM_1)
       have he_2 : x_2.toNat = (d0.fL.take x_2.toNat).length := by rw [List.length_take]; omega
       refine Y1 (v := .slice (cutA A_1 3 0 x_2.toNat) x_2.toNat x_2.toNat) rfl f rfl rfl (fun _ pq => Y35 rfl (A := A_1) (len := d0.fL.length) (cap := cap_1) (k := .i64) (k' := .i64) (b := x_2) (e := 60) (sz := 3) g_1.1 (by omega)) fun _ f => ?_
       have f := Frm.set f 63 (v := .slice (cutA A_1 3 0 x_2.toNat) x_2.toNat x_2.toNat) (v' := .slice (cutA A_1 3 0 x_2.toNat) (d0.fL.take x_2.toNat).length (d0.fL.take x_2.toNat).length) (by kernel_rfl) (by rw [← he_2])
       refine Y1 (v := .agg #[S x_3.fPhys, S x_3.fType, .slice A2 d2.length cap2]) rfl f rfl rfl (fun _ pq => Y33 (cs := [S x_3.fPhys, S x_3.fType, .slice A2 d2.length cap2]) rfl (ad := ⟨b_3, 0, none⟩) (own_cells (pq.ownCell 0 rfl) 0 rfl)) fun _ f => Y1 (v := .pointer (some (⟨b_1, 0, none⟩))) rfl f rfl rfl (fun _ _ => by kernel_rfl) fun _ f => Y1 (v := .slice A_1 d0.fL.length cap_1) rfl f rfl rfl (fun _ pq => Y32 (v := .slice A_1 d0.fL.length cap_1) rfl (ad := ⟨b_1, 0, none⟩) (pq.ownCell 2 rfl 0)) fun _ f => Y1 (v := .int .i64 x_2) rfl f rfl rfl (fun _ _ => by kernel_rfl) fun _ f => Y1 (v := .int .i64 (IntKind.wrap .i64 (x_2 + 1))) rfl f rfl rfl (fun _ pq => by kernel_rfl) fun _ f => ?_
       have f := f.st 70 (congrArg (Value.int .i64) (inR_wrap g_2))
       have h_12 : Sli M_1 3 emb_TF0 (cutA A_1 3 (x_2 + 1).toNat cap_1) (cap_1 - (x_2 + 1).toNat) (d0.fL.drop (x_2 + 1).toNat) := Sli.cutFrom (h_1.mono hM_1) (by omega)
       refine Y1 (v := .slice (cutA A_1 3 (x_2 + 1).toNat cap_1) (d0.fL.length - (x_2 + 1).toNat) (cap_1 - (x_2 + 1).toNat)) rfl f rfl rfl (fun _ pq => Y36 rfl (A := A_1) (len := d0.fL.length) (cap := cap_1) (k := .i64) (a := x_2 + 1) (e := 60) (sz := 3) g_3.1 g_3.2) fun _ f => ?_
       have f := Frm.set f 71 (v := .slice (cutA A_1 3 (x_2 + 1).toNat cap_1) (d0.fL.length - (x_2 + 1).toNat) (cap_1 - (x_2 + 1).toNat)) (v' := .slice (cutA A_1 3 (x_2 + 1).toNat cap_1) (d0.fL.drop (x_2 + 1).toNat).length (cap_1 - (x_2 + 1).toNat)) (by kernel_rfl) (by rw [List.length_drop])
       refine N_alt rfl (fun w_19 p_23 => ?_) ?_
       ·refine V_allocS (k := 1) (c := 1) f p_23 (.cells #[S x_3.fPhys, S x_3.fType, .slice A2 d2.length cap2] 60 (0, 0)) (by kernel_rfl) (fun _ => by kernel_rfl) fun b_5 w_20 p_24 _ f => W_end rfl (N_goN 1 (mR _) p_24 rfl (N_alt rfl (fun w_21 p_25 => ?_) ?_))
        ·refine Y20 (e := 60) (bytes := 56) (z := .agg #[S [], S [], .slice none 0 0]) (f := emb_TF0) (xs := d0.fL.take x_2.toNat) (ys := [(⟨x_3.fPhys, x_3.fType, d2⟩ : TF0)]) (news := [S x_3.fPhys, S x_3.fType, .slice A2 d2.length cap2]) (ad := ⟨b_5, 0, none⟩) (m := 1) (c := 1) f p_25 (by decide) (by decide) h_11 (by exact ⟨_, _, rfl, TF0.shut (h2.mono hM_1), rfl⟩) rfl rfl rfl rfl (own_cells (p_25.ownCell 0 rfl) 0 rfl) g_4 (by have hg_ := g_4; omega) fun A_5 cap_5 cs_3 w_22 p_26 hr_4 _ f => ?_
         have p_27 := p_26.pl [1]
         have p_28 := p_27.drop
         refine W_end rfl (N_goN 1 (mR _) p_28 rfl (N_alt rfl (fun w_23 p_29 => ?_) ?_))
         ·refine Y23 (z := .agg #[S [], S [], .slice none 0 0]) (f := emb_TF0) (xs := (d0.fL.take x_2.toNat) ++ [(⟨x_3.fPhys, x_3.fType, d2⟩ : TF0)]) (ys := d0.fL.drop (x_2 + 1).toNat) (c := (cap_1 - (x_2 + 1).toNat)) f p_29 hr_4 h_12 rfl rfl rfl g_5 (by omega) fun A_6 cap_6 cs_4 w_24 p_30 hr_5 _ f => W_end rfl (N_goN 1 (mR _) p_30 rfl (N_tail fun w_25 p_31 => Y f 1 fun _ f => Y26 f p_31 3 rfl rfl (b := b_1) (j := 0) (v := .slice A_6 (((d0.fL.take x_2.toNat) ++ [(⟨x_3.fPhys, x_3.fType, d2⟩ : TF0)]) ++ (d0.fL.drop (x_2 + 1).toNat)).length cap_6) rfl (by exact rfl) (by simp) (by simp) ((Ent.row 60 3 (.slice A_6 (((d0.fL.take x_2.toNat) ++ [(⟨x_3.fPhys, x_3.fType, d2⟩ : TF0)]) ++ (d0.fL.drop (x_2 + 1).toNat)).length cap_6) (((d0.fL.take x_2.toNat) ++ [(⟨x_3.fPhys, x_3.fType, d2⟩ : TF0)]) ++ (d0.fL.drop (x_2 + 1).toNat)).length cs_4) :: (Ent.obj b_3 (.cells #[S x_3.fPhys, S x_3.fType, .slice A2 d2.length cap2] 60 (0, 0))) :: (Ent.obj b_2 (.cells #[.slice none 0 0, .int .i64 0] 72 (0, 0))) :: (Ent.obj b_1 (.cells #[.slice A_6 (((d0.fL.take x_2.toNat) ++ [(⟨x_3.fPhys, x_3.fType, d2⟩ : TF0)]) ++ (d0.fL.drop (x_2 + 1).toNat)).length cap_6, .int .i64 d0.fMade] 72 (0, 0))) :: H) rfl fun w_26 p_32 _ f => W_end rfl (N_te (T_n ?_))))
          exact ⟨((d0.fL.take x_2.toNat) ++ [(⟨x_3.fPhys, x_3.fType, d2⟩ : TF0)]) ++ (d0.fL.drop (x_2 + 1).toNat), (sI hF_25).symm, M_1, (mR _), A_6, cap_6, cs_4, hr_5, f.kp, p_32⟩
         exact N_none
        exact N_none
       exact N_none
      ·rintro a_83 w_27 ⟨y_2, hq_2, M_2, hM_2, A_7, cap_7, cs_5, hr_6, f, p_33⟩
       subst j_2
       refine T_n (RR (Z (v := .agg #[.slice A_7 y_2.length cap_7, .int .i64 d0.fMade]) f (Y33 (cs := [.slice A_7 y_2.length cap_7, .int .i64 d0.fMade]) rfl (ad := ⟨b_1, 0, none⟩) (own_cells (p_33.ownCell 3 rfl) 0 rfl)) fun _ f => ?_))
       obtain ⟨A_8, cap_8, M_3, hv_1, hM_3, p_34, h_13⟩ := p_33.rowSli (f := emb_TF0) (xs := y_2) szd_TF0 hr_6
       have f := Frm.set f 74 (v := .agg #[.slice A_7 y_2.length cap_7, .int .i64 d0.fMade]) (v' := .agg #[.slice A_8 y_2.length cap_8, .int .i64 d0.fMade]) (by kernel_rfl) (by rw [hv_1])
       have p_35 : Hp w0 M_3 ((Ent.obj b_3 (.cells #[S x_3.fPhys, S x_3.fType, .slice A2 d2.length cap2] 60 (0, 0))) :: (Ent.obj b_2 (.cells #[.slice none 0 0, .int .i64 0] 72 (0, 0))) :: (Ent.obj b_1 (.cells #[.slice A_8 y_2.length cap_8, .int .i64 d0.fMade] 72 (0, 0))) :: H) w_27 := by rw [hv_1] at p_34; exact p_34
       have p_36 := p_35.pl [1]
       refine Y27 (vs := [.slice A_8 y_2.length cap_8, .int .i64 d0.fMade]) (j := 0) f p_36 rfl rfl (by simp [Value.oneCell', S]) (by simp) (by decide) (cs' := #[.slice A_8 y_2.length cap_8, .int .i64 d0.fMade]) (by kernel_rfl) fun w_28 p_37 _ f => Y f 1 fun _ f => eT (wp_ret (E_rv2 f rfl (Y10 (cs := [.slice A_8 y_2.length cap_8, .int .i64 d0.fMade]) (ad := ⟨b_2, 0, none⟩) f (own_cells (p_37.ownCell 0 rfl) 0 rfl)) (Y11 (v := .int .i64 0) f) ?_))
       obtain rfl := sI hF_20
       exact ⟨_, rfl, M_3, ((hM_1.trans hM_2).trans hM_3), (p_37.dropN 3), ⟨[.slice A_8 y_2.length cap_8, .int .i64 d0.fMade], rfl, (TB0.shut h_13)⟩⟩
def store_Delete (n : Nat) (d0 : TB0) (d1 : List UInt8) : Option (TB0 × Int) :=
  (store_Check n (⟨d0.fL, d0.fMade⟩ : TB0)).bind fun x_1 =>
  bif (!(decide (x_1 = 0))) then
    (some ((z_TB0, (2 : Int))))
  else
    (store_at n (⟨d0.fL, d0.fMade⟩ : TB0) d1).bind fun x_2 =>
    bif (decide (x_2 < 0)) then
      (some ((z_TB0, (4 : Int))))
    else
      need (0 ≤ x_2 ∧ x_2 ≤ (d0.fL.length : Int)) <|
      need (inR .i64 (x_2 + 1)) <|
      need (0 ≤ (x_2 + 1) ∧ (x_2 + 1) ≤ (d0.fL.length : Int)) <|
      need (((d0.fL.take x_2.toNat).length + (d0.fL.drop (x_2 + 1).toNat).length) * 56 ≤ 140737488355328) <|
      some (((⟨(d0.fL.take x_2.toNat) ++ (d0.fL.drop (x_2 + 1).toNat), d0.fMade⟩ : TB0), (0 : Int)))
set_option maxRecDepth 20000 in
theorem store_Delete_ok (n : Nat) (M : Mem) (hG : GL M) (c0 : List Value) (d0 : TB0) (h0 : Rep M (emb_TB0 d0) c0) (d1 : List UInt8) (r : TB0 × Int) (hF : store_Delete n d0 d1 = some r) : Ok Tryd.prog M 55 [.agg c0.toArray, S d1] (fun M' v => ∃ (c0 : List Value), v = .tuple #[.agg c0.toArray, .int .i64 r.2] ∧ Rep M' (emb_TB0 r.1) c0) := by
 unfold store_Delete at hF
 intro M1 hM0 w0 H w p0
 replace hG := GL.mono hM0 hG
 replace h0 := Rep.mono hM0 _ _ h0
 obtain ⟨A_1, cap_1, rfl, h_1⟩ := TB0.opn h0
 refine R_enter 30 Tryd.func55 rfl rfl (by simp) fun a0 f0 => RR (Y12 f0 p0 (.cells #[.slice A_1 d0.fL.length cap_1, .int .i64 d0.fMade] 72 (0, 0)) fun b_1 w_1 p_1 _ f => Y12 f p_1 (.cells #[.slice none 0 0, .int .i64 0] 72 (0, 0)) fun b_2 w_2 p_2 _ f => Y f 1 fun _ f => eT (R_seq (RR (Z (v := .agg #[.slice A_1 d0.fL.length cap_1, .int .i64 d0.fMade]) f (Y33 (cs := [.slice A_1 d0.fL.length cap_1, .int .i64 d0.fMade]) rfl (ad := ⟨b_1, 0, none⟩) (own_cells (p_2.ownCell 1 rfl) 0 rfl)) fun _ f => ?_))))
 obtain ⟨x_1, hx_1, hF_1⟩ := bS hF
 refine Y18 f p_2 (store_Check_ok n _ hG _ (⟨d0.fL, d0.fMade⟩ : TB0) (TB0.shut h_1) x_1 hx_1) fun w_3 p_3 _ f => Y f 1 fun _ f => eT (RcF f hF_1 (fun h_2 hF_2 => ?_) fun h_2 hF_3 => ?_)
 ·have k_1 : ¬ (x_1 = 0) := (not_iff dI).1 h_2
  refine RR (Y f 1 fun _ f => Y27 (vs := [.slice none 0 0, .int .i64 0]) (j := 0) f p_3 rfl rfl (by simp [Value.oneCell', S]) (by simp) (by decide) (cs' := #[.slice none 0 0, .int .i64 0]) (by kernel_rfl) fun w_4 p_4 _ f => Y f 1 fun _ f => eT (wp_ret (T_r (E_rv2 f rfl (Y10 (cs := [.slice none 0 0, .int .i64 0]) (ad := ⟨b_2, 0, none⟩) f (own_cells (p_4.ownCell 0 rfl) 0 rfl)) (Y11 (v := .int .i64 2) f) ?_))))
  obtain rfl := sI hF_2
  exact ⟨_, rfl, M1, (mR _), (p_4.dropN 2), ⟨[.slice none 0 0, .int .i64 0], rfl, (TB0.shut Sli.nil)⟩⟩
 ·have k_2 : ¬ (¬ (x_1 = 0)) := iff_f (not_iff dI) h_2
  refine wp_skip (T_n (RR (Z (v := .agg #[.slice A_1 d0.fL.length cap_1, .int .i64 d0.fMade]) f (Y33 (cs := [.slice A_1 d0.fL.length cap_1, .int .i64 d0.fMade]) rfl (ad := ⟨b_1, 0, none⟩) (own_cells (p_3.ownCell 1 rfl) 0 rfl)) fun _ f => Y f 1 fun _ f => ?_)))
  obtain ⟨x_2, hx_2, hF_4⟩ := bS hF_3
  refine Y18 f p_3 (store_at_ok n _ hG _ (⟨d0.fL, d0.fMade⟩ : TB0) (TB0.shut h_1) d1 x_2 hx_2) fun w_5 p_5 _ f => Y f 1 fun _ f => eT (R_seq (RR (Y f 2 fun _ f => eT (RcF f hF_4 (fun h_3 hF_5 => ?_) fun h_3 hF_6 => ?_))))
  ·have k_3 := dI.1 h_3
   refine RR (Y f 1 fun _ f => Y27 (vs := [.slice none 0 0, .int .i64 0]) (j := 0) f p_5 rfl rfl (by simp [Value.oneCell', S]) (by simp) (by decide) (cs' := #[.slice none 0 0, .int .i64 0]) (by kernel_rfl) fun w_6 p_6 _ f => Y f 1 fun _ f => eT (wp_ret (T_r (E_rv2 f rfl (Y10 (cs := [.slice none 0 0, .int .i64 0]) (ad := ⟨b_2, 0, none⟩) f (own_cells (p_6.ownCell 0 rfl) 0 rfl)) (Y11 (v := .int .i64 4) f) ?_))))
   obtain rfl := sI hF_5
   exact ⟨_, rfl, M1, (mR _), (p_6.dropN 2), ⟨[.slice none 0 0, .int .i64 0], rfl, (TB0.shut Sli.nil)⟩⟩
  ·have k_4 := iff_f dI h_3
   refine wp_skip (T_n (R_seq (R_drawT 10 p_5 (by kernel_rfl) (by kernel_rfl) fun w_7 p_7 => ST_eq (v := .pointer (some (⟨b_1, 0, none⟩))) f (by kernel_rfl) (by kernel_rfl) rfl rfl (by kernel_rfl) fun _ f => ST_eq (v := .slice A_1 d0.fL.length cap_1) f (by kernel_rfl) (by kernel_rfl) rfl rfl (Y32 (v := .slice A_1 d0.fL.length cap_1) rfl (ad := ⟨b_1, 0, none⟩) (p_7.ownCell 1 rfl 0)) fun _ f => ST_eq (v := .int .i64 x_2) f (by kernel_rfl) (by kernel_rfl) rfl rfl (by kernel_rfl) fun _ f => ST_eq (v := .int .i64 x_2) f (by kernel_rfl) (by kernel_rfl) rfl rfl (by kernel_rfl) fun _ f => ?_)))
   obtain ⟨g_1, hF_7⟩ := nS hF_6
   have h_4 : Sli M1 3 emb_TF0 (cutA A_1 3 0 x_2.toNat) (d0.fL.take x_2.toNat).length (d0.fL.take x_2.toNat) := Sli.full (cap := cap_1) h_1 (by omega)
   have hl_1 := Sli.len (cap := cap_1) h_1
   have he_1 : x_2.toNat = (d0.fL.take x_2.toNat).length := by rw [List.length_take]; omega
   refine ST_eq (v := .slice (cutA A_1 3 0 x_2.toNat) x_2.toNat x_2.toNat) f (by kernel_rfl) (by kernel_rfl) rfl rfl (Y35 rfl (A := A_1) (len := d0.fL.length) (cap := cap_1) (k := .i64) (k' := .i64) (b := x_2) (e := 60) (sz := 3) g_1.1 (by omega)) fun _ f => ?_
   have f := Frm.set f 21 (v := .slice (cutA A_1 3 0 x_2.toNat) x_2.toNat x_2.toNat) (v' := .slice (cutA A_1 3 0 x_2.toNat) (d0.fL.take x_2.toNat).length (d0.fL.take x_2.toNat).length) (by kernel_rfl) (by rw [← he_1])
   refine ST_eq (v := .pointer (some (⟨b_1, 0, none⟩))) f (by kernel_rfl) (by kernel_rfl) rfl rfl (by kernel_rfl) fun _ f => ST_eq (v := .slice A_1 d0.fL.length cap_1) f (by kernel_rfl) (by kernel_rfl) rfl rfl (Y32 (v := .slice A_1 d0.fL.length cap_1) rfl (ad := ⟨b_1, 0, none⟩) (p_7.ownCell 1 rfl 0)) fun _ f => ST_eq (v := .int .i64 x_2) f (by kernel_rfl) (by kernel_rfl) rfl rfl (by kernel_rfl) fun _ f => ?_
   obtain ⟨g_2, hF_8⟩ := nS hF_7
   refine ST_eq (v := .int .i64 (IntKind.wrap .i64 (x_2 + 1))) f (by kernel_rfl) (by kernel_rfl) rfl rfl (by kernel_rfl) fun _ f => ?_
   have f := f.st 25 (congrArg (Value.int .i64) (inR_wrap g_2))
   obtain ⟨g_3, hF_9⟩ := nS hF_8
   have h_5 : Sli M1 3 emb_TF0 (cutA A_1 3 (x_2 + 1).toNat cap_1) (cap_1 - (x_2 + 1).toNat) (d0.fL.drop (x_2 + 1).toNat) := Sli.cutFrom h_1 (by omega)
   refine ST_eq (v := .slice (cutA A_1 3 (x_2 + 1).toNat cap_1) (d0.fL.length - (x_2 + 1).toNat) (cap_1 - (x_2 + 1).toNat)) f (by kernel_rfl) (by kernel_rfl) rfl rfl (Y36 rfl (A := A_1) (len := d0.fL.length) (cap := cap_1) (k := .i64) (a := x_2 + 1) (e := 60) (sz := 3) g_3.1 g_3.2) fun _ f => ?_
   have f := Frm.set f 26 (v := .slice (cutA A_1 3 (x_2 + 1).toNat cap_1) (d0.fL.length - (x_2 + 1).toNat) (cap_1 - (x_2 + 1).toNat)) (v' := .slice (cutA A_1 3 (x_2 + 1).toNat cap_1) (d0.fL.drop (x_2 + 1).toNat).length (cap_1 - (x_2 + 1).toNat)) (by kernel_rfl) (by rw [List.length_drop])
   refine ST_end rfl ?_
   obtain ⟨g_4, hF_10⟩ := nS hF_9
   refine Y21 (e := 60) (bytes := 56) (z := .agg #[S [], S [], .slice none 0 0]) (f := emb_TF0) (xs := d0.fL.take x_2.toNat) (ys := d0.fL.drop (x_2 + 1).toNat) (c := (cap_1 - (x_2 + 1).toNat)) f p_7 (by decide) szd_TF0 h_4 h_5 rfl rfl rfl g_4 (by omega) fun A_2 cap_2 M_1 w_8 hM_1 p_8 h_6 _ f => Y f 1 fun _ f => Y26 f p_8 1 rfl rfl (b := b_1) (j := 0) (v := .slice A_2 ((d0.fL.take x_2.toNat) ++ (d0.fL.drop (x_2 + 1).toNat)).length cap_2) rfl (by exact rfl) (by simp) (by simp) ((Ent.obj b_2 (.cells #[.slice none 0 0, .int .i64 0] 72 (0, 0))) :: (Ent.obj b_1 (.cells #[.slice A_2 ((d0.fL.take x_2.toNat) ++ (d0.fL.drop (x_2 + 1).toNat)).length cap_2, .int .i64 d0.fMade] 72 (0, 0))) :: H) rfl fun w_9 p_9 _ f => eT (RR (Z (v := .agg #[.slice A_2 ((d0.fL.take x_2.toNat) ++ (d0.fL.drop (x_2 + 1).toNat)).length cap_2, .int .i64 d0.fMade]) f (Y33 (cs := [.slice A_2 ((d0.fL.take x_2.toNat) ++ (d0.fL.drop (x_2 + 1).toNat)).length cap_2, .int .i64 d0.fMade]) rfl (ad := ⟨b_1, 0, none⟩) (own_cells (p_9.ownCell 1 rfl) 0 rfl)) fun _ f => Y27 (vs := [.slice A_2 ((d0.fL.take x_2.toNat) ++ (d0.fL.drop (x_2 + 1).toNat)).length cap_2, .int .i64 d0.fMade]) (j := 0) f p_9 rfl rfl (by simp [Value.oneCell', S]) (by simp) (by decide) (cs' := #[.slice A_2 ((d0.fL.take x_2.toNat) ++ (d0.fL.drop (x_2 + 1).toNat)).length cap_2, .int .i64 d0.fMade]) (by kernel_rfl) fun w_10 p_10 _ f => Y f 1 fun _ f => eT (wp_ret (E_rv2 f rfl (Y10 (cs := [.slice A_2 ((d0.fL.take x_2.toNat) ++ (d0.fL.drop (x_2 + 1).toNat)).length cap_2, .int .i64 d0.fMade]) (ad := ⟨b_2, 0, none⟩) f (own_cells (p_10.ownCell 0 rfl) 0 rfl)) (Y11 (v := .int .i64 0) f) ?_))))
   obtain rfl := sI hF_10
   exact ⟨_, rfl, M_1, hM_1, (p_10.dropN 2), ⟨[.slice A_2 ((d0.fL.take x_2.toNat) ++ (d0.fL.drop (x_2 + 1).toNat)).length cap_2, .int .i64 d0.fMade], rfl, (TB0.shut h_6)⟩⟩
def numR (d : List UInt8) : Int × Bool := if (Go.Num.read (d.drop 1)).2 = 0 ∧ 1 ≤ (Go.Num.read (d.drop 1)).1 ∧ (Go.Num.read (d.drop 1)).1 ≤ 1099511627776 then ((Go.Num.read (d.drop 1)).1, true) else (0, false)
def numV (d : List UInt8) : Int × Bool := if d = [] ∨ d.getD 0 0 ≠ 112 then (0, false) else numR d
def physV (m : Int) : List UInt8 := 112 :: (Go.Num.text m).1
theorem fits_most {m : Int} (h0 : 1 ≤ m) (h1 : m ≤ 1099511627776) : Go.Num.fitsB m = true := Go.Num.fitsB_iff.2 ⟨by omega, by omega⟩
theorem byte_eq (c : UInt8) : (!decide (((c).toNat : Int) = 112)) = decide (c ≠ 112) := by
 by_cases h : c = 112
 ·subst h; rfl
 ·have : ¬ ((c.toNat : Int) = 112) := fun e => h (UInt8.toNat_inj.1 (show c.toNat = 112 by omega))
  rw [decide_eq_false this, decide_eq_true h]; rfl
theorem num_tail {n : Nat} {d : List UInt8} {r : Int × Int} (hr : r = Go.Num.read (d.drop 1)) :
  (bif (!(decide (r.2 = 0))) then (some (((0 : Int), (false)))) else bif (decide (r.1 < 1)) then (some (((0 : Int), (false)))) else bif (decide ((1099511627776 : Int) < r.1)) then (some (((0 : Int), (false)))) else some ((r.1, (true))) : Option (Int × Bool)) = some (numR d) := by
 subst hr
 unfold numR
 by_cases h1 : (Go.Num.read (d.drop 1)).2 = 0
 ·rw [decide_eq_true h1, Bool.not_true, cF]
  by_cases h2 : (Go.Num.read (d.drop 1)).1 < 1
  ·rw [decide_eq_true h2, cT, if_neg (by omega)]
  ·rw [decide_eq_false h2, cF]
   by_cases h3 : (1099511627776 : Int) < (Go.Num.read (d.drop 1)).1
   ·rw [decide_eq_true h3, cT, if_neg (by omega)]
   ·rw [decide_eq_false h3, cF, if_pos ⟨h1, by omega, by omega⟩]
 ·rw [decide_eq_false h1, Bool.not_false, cT, if_neg (fun h => h1 h.1)]
theorem one_nat : (1 : Int).toNat = 1 := rfl
theorem number_run {n : Nat} {d : List UInt8} (hd : d.length ≤ 1000) : store_Number n d = some (numV d) := by
 unfold store_Number numV h_numRead
 cases d with
 | nil => rw [decide_eq_true rfl, cT, bnd, cT, if_pos (.inl rfl)]
 | cons c d =>
  have hg : getI (c :: d) (0 : Int) = some c := rfl
  rw [decide_eq_false (by simp), cF, hg, bnd, bnd, byte_eq]
  by_cases hc : c = 112
  ·rw [decide_eq_false (fun h => h hc), cF, need_t (by simp only [List.length_cons] at *; omega), need_t (by rw [List.length_drop]; omega), bnd, if_neg (by simp [hc]), one_nat]
   exact num_tail (n := n) rfl
  ·rw [decide_eq_true hc, cT, if_pos (.inr hc)]
theorem num_phys {m : Int} (h0 : 1 ≤ m) (h1 : m ≤ 1099511627776) : numV (physV m) = (m, true) := by
 unfold numV physV numR
 have e : (112 :: (Go.Num.text m).1 : List UInt8).drop 1 = (Go.Num.text m).1 := rfl
 rw [if_neg (by simp), e, Go.Num.read_text (fits_most h0 h1), if_pos ⟨rfl, h0, h1⟩]
theorem Phys_run {n : Nat} {m : Int} (h0 : 1 ≤ m) (h1 : m ≤ 1099511627776) : store_Phys n m = some (physV m, 0) := by
 unfold store_Phys h_numText physV
 have hl := Go.Num.text_len (fits_most h0 h1)
 rw [decide_eq_false (by omega), cF, bnd, decide_eq_false (by omega), cF, bnd, need_t (by simp only [List.length_cons, List.length_nil]; omega), (Go.Num.text_zero m).2 (fits_most h0 h1)]
 rfl
theorem phys_len {m : Int} (h0 : 1 ≤ m) (h1 : m ≤ 1099511627776) : (physV m).length ≤ 18 := by
 unfold physV
 have hl := Go.Num.text_len (fits_most h0 h1)
 rw [List.length_cons]; omega
def knownV (l : List TE0) : Bool := !l.any (·.fUnknown)
theorem known_run {n : Nat} (hn : 6000 < n) {l : List TE0} (hl : l.length ≤ 60) : store_known n l = some (knownV l) := by
 unfold store_known store_find knownV
 obtain ⟨b, hb, hp⟩ := index_any (n := n) z_TE0 (·.fUnknown) l (step := store_find_s1 n l) (fun k hk => by
  unfold store_find_s1 store_known_1
  rw [decide_eq_true (by omega), cT, getI_at z_TE0 hk, bnd, bnd]
  cases (l.getD k z_TE0).fUnknown with
  | false => rw [cF, need_i (by omega) (by omega)]; rfl
  | true => rw [cT]; rfl) (by
  unfold store_find_s1
  rw [decide_eq_false (by omega), cF]) (by omega)
 rw [hb, bnd]
 cases b with
 | inl i =>
  obtain ⟨h0, h1⟩ := hp
  dsimp only
  rw [bnd, h1, decide_eq_false (by omega)]; rfl
 | inr u =>
  have h1 : l.any (·.fUnknown) = false := hp
  dsimp only
  rw [bnd, h1]; rfl
structure GoodT (x : TF0) : Prop where
  few : x.fProps.length ≤ 60
  fine : ∀ g ∈ x.fProps, Fine g.fV
  short : x.fPhys.length ≤ 1000
structure GoodL (L : List TF0) : Prop where
  few : L.length ≤ 200
  each : ∀ x ∈ L, GoodT x
def okT (x : TF0) (last : Int) : Bool := (numV x.fPhys).2 && (decide (last < (numV x.fPhys).1) && (decide (checkG x.fType x.fProps = 0) && knownV x.fProps))
def scanS : List TF0 → Int → Option Int
  | [], last => some last
  | x :: r, last => bif okT x last then scanS r (numV x.fPhys).1 else none
theorem scanS_app : ∀ (l m : List TF0) (z : Int), scanS (l ++ m) z = (scanS l z).bind (scanS m)
 | [], m, z => rfl
 | x :: l, m, z => by
  rw [List.cons_append, scanS, scanS]
  cases okT x z with
  | true => rw [cT, cT, scanS_app l m]
  | false => rfl
theorem okT_spec {x : TF0} {z : Int} (h : okT x z = true) : (numV x.fPhys).2 = true ∧ z < (numV x.fPhys).1 ∧ checkG x.fType x.fProps = 0 ∧ knownV x.fProps = true := by
 unfold okT at h
 simp only [Bool.and_eq_true, decide_eq_true_eq] at h
 exact ⟨h.1, h.2.1, h.2.2.1, h.2.2.2⟩
theorem scanS_le : ∀ {l : List TF0} {z y : Int}, scanS l z = some y → z ≤ y
 | [], z, y, h => by cases h; omega
 | x :: l, z, y, h => by
  rw [scanS] at h
  cases hk : okT x z with
  | false => rw [hk] at h; cases h
  | true =>
   rw [hk, cT] at h
   have := scanS_le h
   have := (okT_spec hk).2.1
   omega
theorem scanS_mem : ∀ {l : List TF0} {z y : Int}, scanS l z = some y → ∀ x ∈ l, (numV x.fPhys).2 = true ∧ z < (numV x.fPhys).1 ∧ (numV x.fPhys).1 ≤ y ∧ checkG x.fType x.fProps = 0 ∧ knownV x.fProps = true
 | [], z, y, h, x, hx => by cases hx
 | w :: l, z, y, h, x, hx => by
  rw [scanS] at h
  cases hk : okT w z with
  | false => rw [hk] at h; cases h
  | true =>
   rw [hk, cT] at h
   obtain ⟨h1, h2, h3, h4⟩ := okT_spec hk
   rcases List.mem_cons.1 hx with rfl | hx
   ·exact ⟨h1, h2, scanS_le h, h3, h4⟩
   ·obtain ⟨k1, k2, k3, k4⟩ := scanS_mem h x hx
    exact ⟨k1, by omega, k3, k4⟩
theorem scanS_nodup : ∀ {l : List TF0} {z y : Int}, scanS l z = some y → (l.map (·.fPhys)).Nodup
 | [], z, y, h => by simp
 | w :: l, z, y, h => by
  rw [scanS] at h
  cases hk : okT w z with
  | false => rw [hk] at h; cases h
  | true =>
   rw [hk, cT] at h
   rw [List.map_cons, List.nodup_cons]
   refine ⟨fun hm => ?_, scanS_nodup h⟩
   obtain ⟨x, hx, e⟩ := List.mem_map.1 hm
   have := (scanS_mem h x hx).2.1
   rw [e] at this; omega
def checkS (L : List TF0) (made : Int) : Int := match scanS L 0 with
  | none => 2
  | some last => if made < last ∨ 1099511627776 < made then 2 else 0
theorem checkS_zero {L : List TF0} {made : Int} (h : checkS L made = 0) : ∃ last, scanS L 0 = some last ∧ 0 ≤ last ∧ last ≤ made ∧ made ≤ 1099511627776 := by
 unfold checkS at h
 cases hs : scanS L 0 with
 | none => rw [hs] at h; cases h
 | some last =>
  rw [hs] at h
  dsimp only at h
  by_cases h1 : made < last ∨ 1099511627776 < made
  ·rw [if_pos h1] at h; cases h
  ·exact ⟨last, rfl, scanS_le hs, by omega, by omega⟩
theorem checkS_of {L : List TF0} {made last : Int} (h : scanS L 0 = some last) (h1 : last ≤ made) (h2 : made ≤ 1099511627776) : checkS L made = 0 := by
 unfold checkS
 rw [h]
 dsimp only
 rw [if_neg (by omega)]
theorem checkS_two {L : List TF0} {made : Int} (h : checkS L made ≠ 0) : checkS L made = 2 := by
 unfold checkS at h ⊢
 cases hs : scanS L 0 with
 | none => rfl
 | some last =>
  rw [hs] at h
  dsimp only at h ⊢
  by_cases h1 : made < last ∨ 1099511627776 < made
  ·rw [if_pos h1]
  ·rw [if_neg h1] at h; exact absurd rfl h
theorem evS (s : TB0) : (⟨s.fL, s.fMade⟩ : TB0) = s := by cases s; rfl
theorem getT {L : List TF0} {k : Nat} (hk : k < L.length) : L.getD k z_TF0 = L[k] := by simp [List.getD, hk]
theorem scan_step {L : List TF0} {k : Nat} (hk : k < L.length) {z : Int} (h : scanS (L.take k) 0 = some z) : scanS (L.take (k + 1)) 0 = bif okT L[k] z then some (numV L[k].fPhys).1 else none := by
 rw [List.take_add_one, List.getElem?_eq_getElem hk, Option.toList_some, scanS_app, h, bnd]
 rfl
theorem scan_fail {L : List TF0} {k : Nat} (h : scanS (L.take k) 0 = none) : scanS L 0 = none := by
 have := scanS_app (L.take k) (L.drop k) 0
 rw [List.take_append_drop, h] at this
 exact this
theorem Check_run {n : Nat} (hn : 6000 < n) {s : TB0} (hg : GoodL s.fL) : store_Check n s = some (checkS s.fL s.fMade) := by
 unfold store_Check checkS
 obtain ⟨b, hb, hp⟩ := loop_inv (n := n) (step := store_Check_s1 n s) (s0 := ((0 : Int), (0 : Int))) (fun k q => q.2 = (k : Int) ∧ scanS (s.fL.take k) 0 = some q.1)
  (fun b => match b with | .inl _ => scanS s.fL 0 = none | .inr y => scanS s.fL 0 = some y) s.fL.length ⟨rfl, rfl⟩ (fun k q hk hI => by
   obtain ⟨last, i⟩ := q
   obtain ⟨e, hs⟩ := hI
   dsimp only at e hs
   subst e
   have gt := hg.each _ (List.getElem_mem hk)
   have hst := scan_step hk hs
   unfold store_Check_s1
   dsimp only
   rw [decide_eq_true (by have := hg.few; omega), cT, getI_at z_TF0 hk, bnd, getT hk, number_run gt.short, bnd]
   have hbad : okT s.fL[k] last = false → scanS s.fL 0 = none := fun h => scan_fail (k := k + 1) (by rw [hst, h]; rfl)
   cases h1 : (numV s.fL[k].fPhys).2 with
   | false => exact .inr ⟨_, by rw [Bool.not_false, cT], hbad (by unfold okT; rw [h1]; rfl)⟩
   | true =>
    rw [Bool.not_true, cF]
    by_cases h2 : (numV s.fL[k].fPhys).1 ≤ last
    ·exact .inr ⟨_, by rw [decide_eq_true h2, cT], hbad (by unfold okT; rw [decide_eq_false (by omega)]; simp)⟩
    ·rw [decide_eq_false h2, cF, schemaCheck_run hn _ gt.few gt.fine, bnd]
     by_cases h3 : checkG s.fL[k].fType s.fL[k].fProps = 0
     ·rw [decide_eq_true h3, Bool.not_true, cF, known_run hn gt.few, bnd]
      cases h4 : knownV s.fL[k].fProps with
      | false => exact .inr ⟨_, by rw [Bool.not_false, cT], hbad (by unfold okT; rw [h4]; simp)⟩
      | true =>
       refine .inl ⟨_, by rw [Bool.not_true, cF, need_i (by have := hg.few; omega) (by have := hg.few; omega)], ?_, ?_⟩
       ·dsimp only; omega
       ·rw [hst]
        have : okT s.fL[k] last = true := by
         unfold okT
         rw [h1, decide_eq_true (by omega), decide_eq_true h3, h4]; rfl
        rw [this, cT]
     ·exact .inr ⟨_, by rw [decide_eq_false h3, Bool.not_false, cT], hbad (by unfold okT; rw [decide_eq_false h3]; simp)⟩) (fun q hI => by
   obtain ⟨last, i⟩ := q
   obtain ⟨e, hs⟩ := hI
   dsimp only at e hs
   subst e
   rw [List.take_length] at hs
   unfold store_Check_s1
   dsimp only
   rw [decide_eq_false (by omega), cF]
   exact ⟨_, rfl, hs⟩) (by have := hg.few; omega)
 rw [hb, bnd]
 cases b with
 | inl u =>
  have hp' : scanS s.fL 0 = none := hp
  rw [hp']
 | inr y =>
  have hp' : scanS s.fL 0 = some y := hp
  rw [hp']
  dsimp only
  by_cases h1 : s.fMade < y
  ·rw [decide_eq_true h1, cT, if_pos (.inl h1)]
  ·rw [decide_eq_false h1, cF]
   by_cases h2 : (1099511627776 : Int) < s.fMade
   ·rw [decide_eq_true h2, cT, if_pos (.inr h2)]
   ·rw [decide_eq_false h2, cF, if_neg (by omega)]
def placeT (phys : List UInt8) (L : List TF0) : Option Nat := placeV phys (L.map (·.fPhys))
def findT (L : List TF0) (phys : List UInt8) : Option TF0 := (placeT phys L).map fun k => L.getD k z_TF0
theorem placeT_lt {phys : List UInt8} {L : List TF0} {k : Nat} (h : placeT phys L = some k) : k < L.length := by
 have := place_lt h
 simpa using this
theorem placeT_at {phys : List UInt8} {L : List TF0} {k : Nat} (h : placeT phys L = some k) : (L.getD k z_TF0).fPhys = phys := by
 have h1 := (place_some h).1
 have hk := placeT_lt h
 rw [getT hk]
 simpa [hk] using h1
theorem at_run {n : Nat} (hn : 6000 < n) {s : TB0} (hl : s.fL.length ≤ 200) (phys : List UInt8) : store_at n s phys = some (match placeT phys s.fL with | some i => (i : Int) | none => -1) := by
 unfold store_at store_find_2
 obtain ⟨b, hb, hp⟩ := loop_inv (n := n) (step := store_find_2_s1 n s.fL phys) (s0 := (0 : Int)) (fun k q => q = (k : Int) ∧ ∀ j, j < k → (s.fL.map (·.fPhys))[j]? ≠ some phys)
  (fun b => match b with | .inl i => ∃ k, i = ((k : Nat) : Int) ∧ placeT phys s.fL = some k | .inr _ => placeT phys s.fL = none) s.fL.length ⟨rfl, fun j hj => absurd hj (by omega)⟩ (fun k q hk hI => by
   obtain ⟨rfl, hf⟩ := hI
   unfold store_find_2_s1 store_at_1
   rw [decide_eq_true (by omega), cT, getI_at z_TF0 hk, bnd, bnd, getT hk]
   by_cases hp : s.fL[k].fPhys = phys
   ·exact .inr ⟨.inl ((k : Nat) : Int), by rw [decide_eq_true hp, cT], k, rfl, place_first (by simp [hk, hp]) hf⟩
   ·refine .inl ⟨_, by rw [decide_eq_false hp, cF, need_i (by omega) (by omega)], by omega, fun j hj => ?_⟩
    by_cases e : j = k
    ·subst e
     simp [hk, hp]
    ·exact hf j (by omega)) (fun q hI => by
   obtain ⟨rfl, hf⟩ := hI
   unfold store_find_2_s1
   rw [decide_eq_false (by omega), cF]
   refine ⟨_, rfl, ?_⟩
   dsimp only
   cases h : placeT phys s.fL with
   | none => rfl
   | some k => exact absurd (place_some h).1 (hf k (placeT_lt h))) (by omega)
 rw [hb, bnd]
 cases b with
 | inl i =>
  obtain ⟨k, rfl, h⟩ := hp
  rw [h]; rfl
 | inr u =>
  have h : placeT phys s.fL = none := hp
  rw [h]; rfl
theorem find_place (phys : List UInt8) : ∀ L : List TF0, L.find? (fun x => decide (x.fPhys = phys)) = findT L phys
 | [] => rfl
 | x :: L => by
  unfold findT placeT
  rw [List.find?_cons, List.map_cons, placeV]
  by_cases h : x.fPhys = phys
  ·rw [if_pos h, decide_eq_true h]; rfl
  ·rw [if_neg h, decide_eq_false h]
   have := find_place phys L
   unfold findT placeT at this
   rw [this, Option.map_map]
   congr 1
def updT (L : List TF0) (phys : List UInt8) (props : List TE0) : List TF0 := L.map fun y => if y.fPhys = phys then ⟨y.fPhys, y.fType, props⟩ else y
def delT (L : List TF0) (phys : List UInt8) : List TF0 := L.filter fun y => !decide (y.fPhys = phys)
theorem upd_none {L : List TF0} {phys : List UInt8} {props : List TE0} (h : phys ∉ L.map (·.fPhys)) : updT L phys props = L := by
 unfold updT
 have : ∀ y ∈ L, (if y.fPhys = phys then (⟨y.fPhys, y.fType, props⟩ : TF0) else y) = id y := fun y hy => by
  rw [if_neg (fun e => h (List.mem_map.2 ⟨y, hy, e⟩))]; rfl
 rw [List.map_congr_left this, List.map_id]
theorem del_none {L : List TF0} {phys : List UInt8} (h : phys ∉ L.map (·.fPhys)) : delT L phys = L := by
 unfold delT
 exact List.filter_eq_self.2 fun y hy => by rw [decide_eq_false (fun e => h (List.mem_map.2 ⟨y, hy, e⟩))]; rfl
theorem place_upd {phys : List UInt8} {props : List TE0} : ∀ {L : List TF0} {k : Nat}, (L.map (·.fPhys)).Nodup → placeT phys L = some k →
  (L.take k ++ [(⟨(L.getD k z_TF0).fPhys, (L.getD k z_TF0).fType, props⟩ : TF0)]) ++ L.drop (k + 1) = updT L phys props ∧ L.take k ++ L.drop (k + 1) = delT L phys
 | [], k, _, h => by cases h
 | x :: L, k, hd, h => by
  rw [List.map_cons, List.nodup_cons] at hd
  unfold placeT at h
  rw [List.map_cons, placeV] at h
  by_cases hx : x.fPhys = phys
  ·rw [if_pos hx] at h
   obtain rfl := Option.some.inj h
   have hno : phys ∉ L.map (·.fPhys) := hx ▸ hd.1
   have e1 := upd_none (props := props) hno
   have e2 := del_none hno
   refine ⟨?_, ?_⟩
   ·unfold updT at e1 ⊢
    rw [List.map_cons, if_pos hx, e1]; rfl
   ·unfold delT at e2 ⊢
    rw [List.filter_cons_of_neg (by simp [hx]), e2]; rfl
  ·rw [if_neg hx] at h
   obtain ⟨j, hj, rfl⟩ := Option.map_eq_some_iff.1 h
   obtain ⟨e1, e2⟩ := place_upd (props := props) hd.2 hj
   refine ⟨?_, ?_⟩
   ·have : updT (x :: L) phys props = x :: updT L phys props := by
     unfold updT; rw [List.map_cons, if_neg hx]
    rw [this, ← e1]; rfl
   ·have : delT (x :: L) phys = x :: delT L phys := by
     unfold delT; rw [List.filter_cons_of_pos (by simp [hx])]
    rw [this, ← e2]; rfl
theorem find_of_mem : ∀ {L : List TF0} {y : TF0}, (L.map (·.fPhys)).Nodup → y ∈ L → findT L y.fPhys = some y
 | [], y, _, h => by cases h
 | x :: L, y, hd, h => by
  rw [← find_place, List.find?_cons]
  rw [List.map_cons, List.nodup_cons] at hd
  rcases List.mem_cons.1 h with rfl | h
  ·rw [decide_eq_true rfl]
  ·have : x.fPhys ≠ y.fPhys := fun e => hd.1 (e ▸ List.mem_map.2 ⟨y, h, rfl⟩)
   rw [decide_eq_false this, find_place]
   exact find_of_mem hd.2 h
theorem findT_some {L : List TF0} {phys : List UInt8} {x : TF0} (h : findT L phys = some x) : x ∈ L ∧ x.fPhys = phys ∧ ∃ k, placeT phys L = some k ∧ L.getD k z_TF0 = x := by
 unfold findT at h
 obtain ⟨k, hk, rfl⟩ := Option.map_eq_some_iff.1 h
 refine ⟨?_, placeT_at hk, k, hk, rfl⟩
 rw [getT (placeT_lt hk)]
 exact List.getElem_mem _
theorem findT_none {L : List TF0} {phys : List UInt8} (h : findT L phys = none) : placeT phys L = none ∧ phys ∉ L.map (·.fPhys) := by
 unfold findT at h
 have := Option.map_eq_none_iff.1 h
 exact ⟨this, place_none this⟩
def createS (s : TB0) (kind : List UInt8) (props : List TE0) : TB0 × List UInt8 × Int :=
  if checkS s.fL s.fMade ≠ 0 then (z_TB0, [], 2) else if checkG kind props ≠ 0 then (z_TB0, [], checkG kind props) else if knownV props = false then (z_TB0, [], 91) else
  if s.fMade = 1099511627776 then (z_TB0, [], 3) else (⟨s.fL ++ [⟨physV (s.fMade + 1), kind, props⟩], s.fMade + 1⟩, physV (s.fMade + 1), 0)
def badU (x : TF0) (props : List TE0) : Bool := !knownV props || (!decide ((differV x.fType x.fProps props).2 = 0) || decide ((differV x.fType x.fProps props).1 = 3))
def updateS (s : TB0) (phys : List UInt8) (props : List TE0) : TB0 × Int :=
  if checkS s.fL s.fMade ≠ 0 then (z_TB0, 2) else match findT s.fL phys with
  | none => (z_TB0, 4)
  | some x => if checkG x.fType props ≠ 0 then (z_TB0, checkG x.fType props) else if badU x props = true then (z_TB0, 91) else (⟨updT s.fL phys props, s.fMade⟩, 0)
def deleteS (s : TB0) (phys : List UInt8) : TB0 × Int :=
  if checkS s.fL s.fMade ≠ 0 then (z_TB0, 2) else match findT s.fL phys with
  | none => (z_TB0, 4)
  | some x => (⟨delT s.fL phys, s.fMade⟩, 0)
structure GoodP (l : List TE0) : Prop where
  few : l.length ≤ 60
  fine : ∀ g ∈ l, Fine g.fV
theorem Create_run {n : Nat} (hn : 6000 < n) {s : TB0} (hg : GoodL s.fL) (kind : List UInt8) {props : List TE0} (hp : GoodP props) : store_Create n s kind props = some (createS s kind props) := by
 unfold store_Create createS
 rw [evS, Check_run hn hg, bnd]
 by_cases h1 : checkS s.fL s.fMade = 0
 ·obtain ⟨last, hs, hl0, hl1, hl2⟩ := checkS_zero h1
  rw [decide_eq_true h1, cT, schemaCheck_run hn kind hp.few hp.fine, bnd, bnd, if_neg (fun h => h h1)]
  by_cases h2 : checkG kind props = 0
  ·rw [decide_eq_true h2, Bool.not_true, cF, known_run hn hp.few, bnd, if_neg (fun h => h h2)]
   cases h3 : knownV props with
   | false => rw [Bool.not_false, cT, if_pos rfl]
   | true =>
    rw [Bool.not_true, cF, if_neg (by decide)]
    by_cases h4 : s.fMade = 1099511627776
    ·rw [decide_eq_true h4, cT, if_pos h4]
    ·have hf := hg.few
     rw [decide_eq_false h4, cF, if_neg h4, need_t (inR_mk.2 ⟨by omega, by omega⟩), Phys_run (by omega) (by omega), bnd, need_t (by omega), need_t (by rw [List.length_take]; omega)]
     have e : s.fL.take (((s.fL.length : Nat) : Int)).toNat = s.fL := by rw [Int.toNat_natCast, List.take_length]
     rw [e]
  ·rw [decide_eq_false h2, Bool.not_false, cT, if_pos h2]
 ·rw [decide_eq_false h1, cF, bnd, decide_eq_false h1, Bool.not_false, cT, if_pos h1, checkS_two h1]
theorem bad_run {n : Nat} {kn : Bool} {d : Int × Int} (x : TF0) {props : List TE0} (hk : kn = knownV props) (hd : d = differV x.fType x.fProps props) :
  (bif !kn then (some ((true))) else bif (!(decide (d.2 = 0))) then (some ((true))) else some ((decide (d.1 = 3))) : Option Bool) = some (badU x props) := by
 subst hk; subst hd
 unfold badU
 cases knownV props <;> cases decide ((differV x.fType x.fProps props).2 = 0) <;> rfl
theorem Update_run {n : Nat} (hn : 6000 < n) {s : TB0} (hg : GoodL s.fL) (phys : List UInt8) {props : List TE0} (hp : GoodP props) : store_Update n s phys props = some (updateS s phys props) := by
 unfold store_Update updateS
 have hf := hg.few
 rw [evS, Check_run hn hg, bnd]
 by_cases h1 : checkS s.fL s.fMade = 0
 ·obtain ⟨last, hs, hl0, hl1, hl2⟩ := checkS_zero h1
  rw [decide_eq_true h1, Bool.not_true, cF, at_run hn hf, bnd, if_neg (fun h => h h1)]
  cases hfd : findT s.fL phys with
  | none => rw [(findT_none hfd).1]; rfl
  | some x =>
   obtain ⟨hm, hph, k, hk, hx⟩ := findT_some hfd
   have hkl := placeT_lt hk
   have gx := hg.each _ hm
   rw [hk]
   dsimp only
   rw [decide_eq_false (by omega), cF, getI_at z_TF0 hkl, bnd, hx, schemaCheck_run hn _ hp.few hp.fine, bnd]
   by_cases h2 : checkG x.fType props = 0
   ·rw [decide_eq_true h2, Bool.not_true, cF, if_neg (fun h => h h2), Differ_run hn _ gx.few hp.few gx.fine hp.fine, bnd, known_run hn hp.few, bnd, bad_run (n := n) x rfl rfl, bnd]
    cases badU x props with
    | true => rw [cT, if_pos rfl]
    | false =>
     have e1 : ((k : Nat) : Int).toNat = k := Int.toNat_natCast k
     have e2 : (((k : Nat) : Int) + 1).toNat = k + 1 := by omega
     obtain ⟨pu, _⟩ := place_upd (props := props) (scanS_nodup hs) hk
     rw [hx] at pu
     rw [cF, if_neg (by decide), e1, e2, need_t ⟨by omega, by omega⟩, need_i (by omega) (by omega), need_t ⟨by omega, by omega⟩, need_t (by rw [List.length_take]; omega), need_t (by simp only [List.length_append, List.length_take, List.length_cons, List.length_nil, List.length_drop]; omega), pu, bnd]
   ·rw [decide_eq_false h2, Bool.not_false, cT, if_pos h2]
 ·rw [decide_eq_false h1, Bool.not_false, cT, if_pos h1]
theorem Delete_run {n : Nat} (hn : 6000 < n) {s : TB0} (hg : GoodL s.fL) (phys : List UInt8) : store_Delete n s phys = some (deleteS s phys) := by
 unfold store_Delete deleteS
 have hf := hg.few
 rw [evS, Check_run hn hg, bnd]
 by_cases h1 : checkS s.fL s.fMade = 0
 ·obtain ⟨last, hs, hl0, hl1, hl2⟩ := checkS_zero h1
  rw [decide_eq_true h1, Bool.not_true, cF, at_run hn hf, bnd, if_neg (fun h => h h1)]
  cases hfd : findT s.fL phys with
  | none => rw [(findT_none hfd).1]; rfl
  | some x =>
   obtain ⟨hm, hph, k, hk, hx⟩ := findT_some hfd
   have hkl := placeT_lt hk
   rw [hk]
   dsimp only
   have e1 : ((k : Nat) : Int).toNat = k := Int.toNat_natCast k
   have e2 : (((k : Nat) : Int) + 1).toNat = k + 1 := by omega
   obtain ⟨_, pd⟩ := place_upd (props := []) (scanS_nodup hs) hk
   rw [decide_eq_false (by omega), cF, e1, e2, need_t ⟨by omega, by omega⟩, need_i (by omega) (by omega), need_t ⟨by omega, by omega⟩, need_t (by simp only [List.length_take, List.length_drop]; omega), pd]
 ·rw [decide_eq_false h1, Bool.not_false, cT, if_pos h1]
theorem good_z : GoodL z_TB0.fL := ⟨by decide, fun x hx => by cases hx⟩
theorem good_create {s : TB0} (hg : GoodL s.fL) (hl : s.fL.length < 200) (kind : List UInt8) {props : List TE0} (hp : GoodP props) : GoodL (createS s kind props).1.fL := by
 unfold createS
 by_cases h1 : checkS s.fL s.fMade = 0
 ·obtain ⟨last, hs, hl0, hl1, hl2⟩ := checkS_zero h1
  rw [if_neg (fun h => h h1)]
  split
  ·exact good_z
  ·split
   ·exact good_z
   ·split
    ·exact good_z
    ·refine ⟨by simp only [List.length_append, List.length_cons, List.length_nil]; omega, fun x hx => ?_⟩
     rcases List.mem_append.1 hx with h | h
     ·exact hg.each x h
     ·rw [List.mem_singleton.1 h]
      exact ⟨hp.few, hp.fine, by have := phys_len (m := s.fMade + 1) (by omega) (by omega); show (physV (s.fMade + 1)).length ≤ 1000; omega⟩
 ·rw [if_pos h1]; exact good_z
theorem good_upd {L : List TF0} (hg : GoodL L) (phys : List UInt8) {props : List TE0} (hp : GoodP props) : GoodL (updT L phys props) := by
 refine ⟨by unfold updT; rw [List.length_map]; exact hg.few, fun x hx => ?_⟩
 unfold updT at hx
 obtain ⟨y, hy, rfl⟩ := List.mem_map.1 hx
 have gy := hg.each y hy
 split
 ·exact ⟨hp.few, hp.fine, gy.short⟩
 ·exact gy
theorem good_del {L : List TF0} (hg : GoodL L) (phys : List UInt8) : GoodL (delT L phys) := by
 unfold delT
 refine ⟨by have := List.length_filter_le (fun y : TF0 => !decide (y.fPhys = phys)) L; have := hg.few; omega, fun x hx => hg.each x (List.mem_filter.1 hx).1⟩
theorem good_update {s : TB0} (hg : GoodL s.fL) (phys : List UInt8) {props : List TE0} (hp : GoodP props) : GoodL (updateS s phys props).1.fL := by
 unfold updateS
 split
 ·exact good_z
 ·split
  ·exact good_z
  ·split
   ·exact good_z
   ·split
    ·exact good_z
    ·exact good_upd hg phys hp
theorem good_delete {s : TB0} (hg : GoodL s.fL) (phys : List UInt8) : GoodL (deleteS s phys).1.fL := by
 unfold deleteS
 split
 ·exact good_z
 ·split
  ·exact good_z
  ·exact good_del hg phys
end Go.Proofs.YtocefedhenhbfaaDoor
end
