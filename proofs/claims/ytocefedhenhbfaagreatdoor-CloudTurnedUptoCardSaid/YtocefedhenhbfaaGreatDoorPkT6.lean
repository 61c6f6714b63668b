/-
  Texts of this claim, packed (what nothing names is left out): C2, CloudP1, CloudP3, LTurned, StoreP3, CloudLTurned, Vo2, Op. Own work, partly printed by own programs. No condition.
-/
import Derived.Test.YtocefedhenhbfaaGreatDoorPkT4
import Derived.Test.YtocefedhenhbfaaGreatDoorPkT5
import Derived.Test.YtocefedhenhbfaaGreatDoorPkT1
import Derived.Test.YtocefedhenhbfaaGreatDoorPkT2
import Derived.Test.YtocefedhenhbfaaGreatDoorRows
set_option linter.unusedVariables false
set_option linter.unusedSimpArgs false
set_option maxHeartbeats 2000000
section
namespace Go.Proofs.YtocefedhenhbfaaGreatDoor
open Go Go.Vc Go.RowKit
def ref11_SameThings_s1 (n : Nat) (d0 : List TD0) (d1 : List TD0) (K1 : Int) : Option (Lp Int (Sum Unit Unit)) :=
    bif (decide (K1 < ((d0.length : Nat) : Int))) then
      ((getI d0 K1).bind fun X1 =>
      (getI d1 K1).bind fun X2 =>
      bif (!(decide (X1.fPhys = X2.fPhys))) then
        (some (.br (.inl ())))
      else
        (getI d0 K1).bind fun X3 =>
        (getI d1 K1).bind fun X4 =>
        bif (!(decide (X3.fType = X4.fType))) then
          (some (.br (.inl ())))
        else
          (getI d0 K1).bind fun X5 =>
          (getI d1 K1).bind fun X6 =>
          (ref09_Same n X5.fProps X6.fProps).bind fun X7 =>
          bif !X7 then
            (some (.br (.inl ())))
          else
            need (inR .i64 (K1 + 1)) <|
            some (.nx (K1 + 1)))
    else
      some (.br (.inr ()))
def ref11_SameThings (n : Nat) (d0 : List TD0) (d1 : List TD0) : Option Bool :=
  bif (!(decide (((d0.length : Nat) : Int) = ((d1.length : Nat) : Int)))) then
    (some ((false)))
  else
    (loopF (ref11_SameThings_s1 n d0 d1) n (0 : Int)).bind fun Q1 =>
    (match Q1 with 
    | .inl G1 => some ((false)) 
    | .inr G2 => some ((true)))
set_option maxRecDepth 20000 in
theorem ref11_SameThings_ok (n : Nat) (M : Mem) (hG : GL M) (A0 : Option Addr) (cap0 : Nat) (d0 : List TD0) (h0 : Sli M 3 emb_TD0 A0 cap0 d0) (A1 : Option Addr) (cap1 : Nat) (d1 : List TD0) (h1 : Sli M 3 emb_TD0 A1 cap1 d1) (r : Bool) (hF : ref11_SameThings n d0 d1 = some r) : Ok Tryz.prog M 23 [.slice A0 d0.length cap0, .slice A1 d1.length cap1] (fun _ v => v = .bool r) := by
 unfold ref11_SameThings at hF
 intro M1 hM0 w0 H w p0
 replace hG := GL.mono hM0 hG
 replace h0 := h0.mono hM0
 replace h1 := h1.mono hM0
 refine R_enter 55 Tryz.func23 rfl rfl (by simp) fun a0 f0 => RR (Y f0 1 fun _ f => eT (R_seq (RR (Y f 5 fun _ f => eT (RcF f hF (fun B1 F1 => ?_) fun B1 F2 => ?_)))))
 ·have U1 : ¬ (((d0.length : Nat) : Int) = ((d1.length : Nat) : Int)) := (not_iff dI).1 B1
  refine RR (Y f 1 fun _ f => eT (wp_ret (T_r (E_ret1 f rfl (by kernel_rfl : Vc.look _ 4 = some (.bool false)) ?_))))
  obtain rfl := sI F1
  exact ⟨_, rfl, M1, (mR _), p0, rfl⟩
 ·have U2 : ¬ (¬ (((d0.length : Nat) : Int) = ((d1.length : Nat) : Int))) := iff_f (not_iff dI) B1
  refine wp_skip (T_n (R_seq (RR (Y f 1 fun _ f => eT (wp_block ?_)))))
  obtain ⟨Q1, hL_1, F3⟩ := bS F2
  refine wp_mono (Q := fun e a w => (e = .ret ∧ (∃ G1 : Unit, Q1 = .inl G1 ∧ ∃ V2 : Mem, M1.le V2 ∧ Frm 55 [(4, .bool false)] a ∧ Hp w0 V2 (H) w)) ∨ (e = .exit 0 ∧ (∃ G2 : Unit, Q1 = .inr G2 ∧ ∃ V3 : Mem, M1.le V3 ∧ Frm 55 [] a ∧ Hp w0 V3 (H) w))) (R_loop (n := 55) (w0 := w0) (M := M1) (fun (x : Nat × Int) => match x with | (I1, K1) => [(0, .slice A0 d0.length cap0), (1, .slice A1 d1.length cap1), (5, .int .i64 K1)]) (fun (x : Nat × Int) => match x with | (I1, K1) => (H)) (fun (x : Nat × Int) (MM : Mem) => match x with | (I1, K1) => loopF (ref11_SameThings_s1 n d0 d1) I1 K1 = some Q1) (fun (x : Nat × Int) => match x with | (I1, K1) => I1) (n, (0 : Int)) (f.kp) p0 hL_1 ?_) ?_
  ·rintro ⟨I1, K1⟩ V1 _ W1 J1 I_1 f N1
   have I_1L := I_1
   obtain ⟨I2, r_1, rfl, hs_1, T1⟩ := loop_step I_1L
   unfold ref11_SameThings_s1 at hs_1
   refine R_seq (RR (Y f 4 fun _ f => eT (RcF f hs_1 (fun B2 F4 => ?_) fun B2 F19 => ?_)))
   ·have U3 := dI.1 B2
    refine wp_skip (T_n (R_seq (wp_block (R_seq (R_draw N1 (by kernel_rfl) (by kernel_rfl) (Y5 default f 2 fun _ f => ?_))))))
    obtain ⟨X1, S1, F5⟩ := bS F4
    obtain ⟨C1, c_1, e_1, -, D1, R1⟩ := Sli.at_ (h0.mono J1) S1
    obtain ⟨Z1, P1, rfl, B3⟩ := TD0.opn D1
    refine Y2 (v := .pointer (some (C1.add (K1.toNat * 3)))) f (fun _ pq => Y32 e_1 rfl (len := d0.length) (cap := cap0) (k := .i64) (i := K1) (e := 54) (sz := 3) (getI_nn S1) (getI_lt S1)) fun _ f => Y5 default f 1 fun _ f => Y4 f R1 0 rfl fun _ f => Y5 default f 2 fun _ f => ?_
    obtain ⟨X2, S2, F6⟩ := bS F5
    obtain ⟨C2, c_2, e_2, -, D2, R2⟩ := Sli.at_ (h1.mono J1) S2
    obtain ⟨Z2, P2, rfl, B4⟩ := TD0.opn D2
    refine Y2 (v := .pointer (some (C2.add (K1.toNat * 3)))) f (fun _ pq => Y32 e_2 rfl (len := d1.length) (cap := cap1) (k := .i64) (i := K1) (e := 54) (sz := 3) (getI_nn S2) (getI_lt S2)) fun _ f => Y5 default f 1 fun _ f => Y4 f R2 0 rfl fun _ f => Y2 (v := .bool (!(decide (X1.fPhys = X2.fPhys)))) f (fun _ pq => Y41 rfl (l := X1.fPhys) (m := X2.fPhys)) fun _ f => Y5 default f 1 fun _ f => ?_
    rcases cE F6 with ⟨B5, F7⟩ | ⟨B5, F8⟩
    ·have U4 : ¬ (X1.fPhys = X2.fPhys) := (not_iff dI).1 B5
     have f := f.st 28 (cB B5)
     refine Y5 default f 26 fun _ f => Q_end rfl ?_
     intro W2 N2
     refine T_n (Y8 f (RR (Y f 1 fun _ f => eT (wp_ret (B_r (T_r (T_r ?_)))))))
     obtain rfl := sI F7
     exact .inl ⟨rfl, (), (sI T1).symm, V1, J1, f.kp, N2⟩
    ·have U5 : ¬ (¬ (X1.fPhys = X2.fPhys)) := iff_f (not_iff dI) B5
     have f := f.st 28 (cB B5)
     refine Y5 default f 2 fun _ f => ?_
     obtain ⟨X3, S3, F9⟩ := bS F8
     obtain ⟨C3, c_3, e_3, -, D3, R3⟩ := Sli.at_ (h0.mono J1) S3
     obtain ⟨Z3, P3, rfl, B6⟩ := TD0.opn D3
     refine Y2 (v := .pointer (some (C3.add (K1.toNat * 3)))) f (fun _ pq => Y32 e_3 rfl (len := d0.length) (cap := cap0) (k := .i64) (i := K1) (e := 54) (sz := 3) (getI_nn S3) (getI_lt S3)) fun _ f => Y5 default f 1 fun _ f => Y4 f R3 1 rfl fun _ f => Y5 default f 2 fun _ f => ?_
     obtain ⟨X4, S4, F10⟩ := bS F9
     obtain ⟨C4, c_4, e_4, -, D4, R4⟩ := Sli.at_ (h1.mono J1) S4
     obtain ⟨Z4, P4, rfl, B7⟩ := TD0.opn D4
     refine Y2 (v := .pointer (some (C4.add (K1.toNat * 3)))) f (fun _ pq => Y32 e_4 rfl (len := d1.length) (cap := cap1) (k := .i64) (i := K1) (e := 54) (sz := 3) (getI_nn S4) (getI_lt S4)) fun _ f => Y5 default f 1 fun _ f => Y4 f R4 1 rfl fun _ f => Y2 (v := .bool (!(decide (X3.fType = X4.fType)))) f (fun _ pq => Y41 rfl (l := X3.fType) (m := X4.fType)) fun _ f => Y5 default f 2 fun _ f => ?_
     rcases cE F10 with ⟨B8, F11⟩ | ⟨B8, F12⟩
     ·have U6 : ¬ (X3.fType = X4.fType) := (not_iff dI).1 B8
      have f := f.st 41 (cB B8)
      refine Y5 default f 13 fun _ f => Q_end rfl ?_
      intro W3 N3
      refine T_n (Y8 f (RR (Y f 1 fun _ f => eT (wp_ret (B_r (T_r (T_r ?_)))))))
      obtain rfl := sI F11
      exact .inl ⟨rfl, (), (sI T1).symm, V1, J1, f.kp, N3⟩
     ·have U7 : ¬ (¬ (X3.fType = X4.fType)) := iff_f (not_iff dI) B8
      have f := f.st 41 (cB B8)
      refine Y5 default f 2 fun _ f => ?_
      obtain ⟨X5, S5, F13⟩ := bS F12
      obtain ⟨C5, c_5, e_5, -, D5, R5⟩ := Sli.at_ (h0.mono J1) S5
      obtain ⟨Z5, P5, rfl, B9⟩ := TD0.opn D5
      refine Y2 (v := .pointer (some (C5.add (K1.toNat * 3)))) f (fun _ pq => Y32 e_5 rfl (len := d0.length) (cap := cap0) (k := .i64) (i := K1) (e := 54) (sz := 3) (getI_nn S5) (getI_lt S5)) fun _ f => Y5 default f 1 fun _ f => Y4 f R5 2 rfl fun _ f => Y5 default f 2 fun _ f => ?_
      obtain ⟨X6, S6, F14⟩ := bS F13
      obtain ⟨C6, c_6, e_6, -, D6, R6⟩ := Sli.at_ (h1.mono J1) S6
      obtain ⟨Z6, P6, rfl, B10⟩ := TD0.opn D6
      refine Y2 (v := .pointer (some (C6.add (K1.toNat * 3)))) f (fun _ pq => Y32 e_6 rfl (len := d1.length) (cap := cap1) (k := .i64) (i := K1) (e := 54) (sz := 3) (getI_nn S6) (getI_lt S6)) fun _ f => Y5 default f 1 fun _ f => Y4 f R6 2 rfl fun _ f => ?_
      obtain ⟨X7, S7, F15⟩ := bS F14
      refine Y3 f (ref09_Same_ok n _ (GL.mono J1 hG) Z5 P5 X5.fProps B9 Z6 P6 X6.fProps B10 X7 S7) fun _ f => Y5 default f 2 fun _ f => Q_end rfl ?_
      intro W5 N5
      refine T_n (RcF f F15 (fun B11 F16 => ?_) fun B11 F17 => ?_)
      ·have U8 : (X7) = false := by simpa using B11
       refine RR (Y f 1 fun _ f => eT (wp_ret (B_r (T_r (T_r ?_)))))
       obtain rfl := sI F16
       exact .inl ⟨rfl, (), (sI T1).symm, V1, J1, f.kp, N5⟩
      ·have U9 : (X7) = true := by simpa using B11
       refine wp_skip (B_n (T_n (R_reg (Y f 1 fun _ f => ?_))))
       obtain ⟨O1, F18⟩ := nS F17
       refine Y f 1 fun _ f => ?_
       have f := f.st 16 (iW O1)
       refine Y f 1 fun _ f => eT ?_
       obtain rfl := sI F18
       exact ⟨⟨I2, K1 + 1⟩, Nat.lt_succ_self _, V1, J1, T1, f.kp, N5⟩
   ·have U10 := iff_f dI B2
    refine wp_exit (T_x (T_x ?_))
    obtain rfl := sI F19
    exact .inr ⟨rfl, (), (sI T1).symm, V1, J1, f.kp, N1⟩
  ·rintro _ _ W8 (⟨rfl, G1, rfl, V2, J2, f, N6⟩ | ⟨rfl, G2, rfl, V3, J3, f, N7⟩)
   ·refine B_r (T_r (E_ret1 f rfl (by kernel_rfl : Vc.look _ 4 = some (.bool false)) ?_))
    obtain rfl := sI F3
    exact ⟨_, rfl, V2, J2, N6, rfl⟩
   ·refine B_x (T_n (RR (Y f 1 fun _ f => eT (wp_ret (E_ret1 f rfl (by kernel_rfl : Vc.look _ 4 = some (.bool true)) ?_)))))
    obtain rfl := sI F3
    exact ⟨_, rfl, V3, J3, N7, rfl⟩
structure CS where
  L : List TD0
  made : Int
  calls : List TF0
  ans : List (Int × TB0)
  inn : List TF0
  good : Int
def new11 : CS := ⟨[], 0, [], [], [], 0⟩
def CS.tup (c : CS) : List TD0 × Int × List TF0 × List (Int × TB0) × List TF0 × Int := (c.L, c.made, c.calls, c.ans, c.inn, c.good)
set_option maxRecDepth 100000 in
theorem wakes11 : law11_wakes 10000 = some true := by decide +kernel
theorem wakes11b : ((law11_wakes 10000).bind fun x => some x) = some true := by rw [wakes11, bnd]
theorem unknown11 {n : Nat} {l : List TC0} (hl : l.length < n) (h6 : l.length ≤ 6000) : slices_ContainsFuncapi_Given_api_Given_2 n l = some (!knownV l) := by
 unfold slices_ContainsFuncapi_Given_api_Given_2 slices_IndexFuncapi_Given_api_Given_2 knownV
 obtain ⟨b, hb, hp⟩ := loop_inv (step := slices_IndexFuncapi_Given_api_Given_2_s1 n l) (n := n) (s0 := (0 : Int)) (fun k s => s = (k : Int) ∧ ∀ x ∈ l.take k, x.fUnknown = false)
  (fun b => match b with | .inl i => 0 ≤ i ∧ l.any (·.fUnknown) = true | .inr _ => l.any (·.fUnknown) = false) l.length ⟨rfl, by simp⟩
  (fun k s hk hI => by
   obtain ⟨rfl, hf⟩ := hI
   have hx : l[k]? = some l[k] := List.getElem?_eq_getElem hk
   have hg : l.getD k z_TC0 = l[k] := by simp [List.getD, hk]
   unfold slices_IndexFuncapi_Given_api_Given_2_s1 cloud_check_1
   rw [decide_eq_true (by omega), cT, getI_at z_TC0 hk, bnd, bnd, hg]
   cases hv : l[k].fUnknown with
   | true => exact .inr ⟨_, rfl, by omega, List.any_eq_true.2 ⟨_, List.getElem_mem hk, hv⟩⟩
   | false =>
    rw [cF, need_i (by omega) (by omega)]
    refine .inl ⟨_, rfl, rfl, fun y hy => ?_⟩
    rcases (mem_take_succ hx y).1 hy with h | h
    ·exact hf y h
    ·rw [h]; exact hv)
  (fun s hI => by
   obtain ⟨rfl, hf⟩ := hI
   rw [List.take_length] at hf
   unfold slices_IndexFuncapi_Given_api_Given_2_s1
   rw [decide_eq_false (by omega), cF]
   refine ⟨_, rfl, ?_⟩
   show l.any (·.fUnknown) = false
   rw [List.any_eq_false]
   intro x hx
   rw [hf x hx]; decide) hl
 rw [hb, bnd]
 cases b with
 | inl i =>
  rw [bnd, Bool.not_not, hp.2, decide_eq_true hp.1]
 | inr u =>
  have hp : l.any (·.fUnknown) = false := hp
  rw [bnd, Bool.not_not, hp]; rfl
def badC (x : TF0) : Bool := decide (x.fToken < 1) || (decide (x.fKind < 0) || (decide ((2 : Int) < x.fKind) || !(decide (x.fKind = 0) == decide (x.fPhys = []))))
def badD (x : TF0) : Bool := (decide (x.fKind = 2) && decide ((0 : Int) < ((x.fProps.length : Nat) : Int))) || (decide (x.fKind = 1) && decide (x.fType = []))
def checkC (x : TF0) : Int := bif badC x then 2 else bif badD x then 2 else bif decide (x.fKind = 2) then 0 else bif !knownV x.fProps then 2 else checkG x.fType x.fProps
theorem checkC_run {n : Nat} (hn : 6000 < n) {x : TF0} (hp : GoodP x.fProps) : cloud_check n x.fToken x.fKind x.fPhys x.fType x.fProps = some (checkC x, x.fToken, x.fKind, x.fPhys, x.fType, x.fProps) := by
 have e4 : ∀ a b c d : Bool, (bif a then some a else bif b then some b else bif c then some c else some d : Option Bool) = some (a || (b || (c || d))) := by intro a b c d; cases a <;> cases b <;> cases c <;> rfl
 have e2 : ∀ a b : Bool, (bif a then some b else some false : Option Bool) = some (a && b) := by intro a b; cases a <;> rfl
 have e3 : ∀ a b c : Bool, (bif a then some a else bif b then some c else some false : Option Bool) = some (a || (b && c)) := by intro a b c; cases a <;> cases b <;> rfl
 have h6 := hp.few
 unfold cloud_check checkC
 rw [e4, bnd, e2, bnd, e3, bnd, unknown11 (by omega) (by omega), bnd, schemaCheck_run hn x.fType hp.few hp.fine]
 show ((bif badC x then _ else bif badD x then _ else bif decide (x.fKind = 2) then _ else bif !knownV x.fProps then _ else _ : Option (Lp Unit _))).bind _ = _
 cases badC x <;> cases badD x <;> cases decide (x.fKind = 2) <;> cases knownV x.fProps <;> rfl
def submitC (c : CS) (x : TF0) : Int × CS :=
  if checkC x ≠ 0 then (checkC x, c) else if (mget c.ans x.fToken).isSome = true then (0, c)
  else (0, ⟨c.L, c.made, c.calls ++ [x], mput c.ans x.fToken z_TB0, c.inn ++ [x], c.good⟩)
theorem submit_run {n : Nat} (hn : 6000 < n) {c : CS} {x : TF0} (hp : GoodP x.fProps) (hc : c.calls.length ≤ 1000) (hi : c.inn.length ≤ 1000) :
  cloud_Cloud_Submit n c.L c.made c.calls c.ans c.inn c.good x = some ((submitC c x).1, (submitC c x).2.tup) := by
 have h6 := hp.few
 unfold cloud_Cloud_Submit submitC slices_Cloneapi_Given_api_Given
 rw [checkC_run hn hp, bnd]
 by_cases h0 : checkC x = 0
 ·rw [decide_eq_true h0, Bool.not_true, cF, if_neg (fun h => h h0)]
  cases hm : (mget c.ans x.fToken).isSome with
  | true => rw [Bool.not_true, cF, if_pos rfl]; rfl
  | false =>
   rw [Bool.not_false, cT, if_neg (by decide), need_t (by dsimp only; omega), bnd, need_t (by omega), bnd, need_t (by omega), bnd]
   rfl
 ·rw [decide_eq_false h0, Bool.not_false, cT, if_pos h0]; rfl
def bad11 : TB0 := ⟨true, false, []⟩
def effC (c : CS) (x : TF0) : TB0 × CS :=
  if x.fKind = 0 then if (createS ⟨c.L, c.made⟩ x.fType x.fProps).2.2 = 0 then (⟨true, true, (createS ⟨c.L, c.made⟩ x.fType x.fProps).2.1⟩, ⟨(createS ⟨c.L, c.made⟩ x.fType x.fProps).1.fL, (createS ⟨c.L, c.made⟩ x.fType x.fProps).1.fMade, c.calls, c.ans, c.inn, c.good + 1⟩) else (bad11, c)
  else if x.fKind = 1 then if (updateS ⟨c.L, c.made⟩ x.fPhys x.fProps).2 = 0 then (⟨true, true, []⟩, ⟨(updateS ⟨c.L, c.made⟩ x.fPhys x.fProps).1.fL, (updateS ⟨c.L, c.made⟩ x.fPhys x.fProps).1.fMade, c.calls, c.ans, c.inn, c.good⟩) else (bad11, c)
  else if x.fKind = 2 then if (deleteS ⟨c.L, c.made⟩ x.fPhys).2 = 0 then (⟨true, true, []⟩, ⟨(deleteS ⟨c.L, c.made⟩ x.fPhys).1.fL, (deleteS ⟨c.L, c.made⟩ x.fPhys).1.fMade, c.calls, c.ans, c.inn, c.good⟩) else (bad11, c)
  else (⟨true, true, []⟩, c)
theorem effect_run {n : Nat} (hn : 6000 < n) {c : CS} {x : TF0} (hp : GoodP x.fProps) (hg : GoodL c.L) (h0 : 0 ≤ c.good) (h1 : c.good ≤ 1000) :
  cloud_Cloud_effect n c.L c.made c.calls c.ans c.inn c.good x.fToken x.fKind x.fPhys x.fType x.fProps = some ((effC c x).1, (effC c x).2.L, (effC c x).2.made, (effC c x).2.calls, (effC c x).2.ans, (effC c x).2.inn, (effC c x).2.good, x.fToken, x.fKind, x.fPhys, x.fType, x.fProps) := by
 unfold cloud_Cloud_effect effC
 have hgs : GoodL (⟨c.L, c.made⟩ : TA0).fL := hg
 rw [Create_run hn hgs x.fType hp, bnd, Update_run hn hgs x.fPhys hp, bnd, Delete_run hn hgs x.fPhys, bnd]
 by_cases k0 : x.fKind = 0
 ·rw [decide_eq_true k0, cT, bnd, if_pos k0]
  dsimp only
  by_cases e0 : (createS ⟨c.L, c.made⟩ x.fType x.fProps).2.2 = 0
  ·rw [decide_eq_true e0, Bool.not_true, cF, if_pos e0, cT, need_i (by omega) (by omega)]
  ·rw [decide_eq_false e0, Bool.not_false, cT, if_neg e0]; rfl
 ·rw [decide_eq_false k0, cF, if_neg k0]
  by_cases k1 : x.fKind = 1
  ·rw [decide_eq_true k1, cT, bnd, if_pos k1]
   dsimp only
   by_cases e0 : (updateS ⟨c.L, c.made⟩ x.fPhys x.fProps).2 = 0
   ·rw [decide_eq_true e0, Bool.not_true, cF, if_pos e0, cF]
   ·rw [decide_eq_false e0, Bool.not_false, cT, if_neg e0]; rfl
  ·rw [decide_eq_false k1, cF, if_neg k1]
   by_cases k2 : x.fKind = 2
   ·rw [decide_eq_true k2, cT, bnd, if_pos k2]
    dsimp only
    by_cases e0 : (deleteS ⟨c.L, c.made⟩ x.fPhys).2 = 0
    ·rw [decide_eq_true e0, Bool.not_true, cF, if_pos e0, cF]
    ·rw [decide_eq_false e0, Bool.not_false, cT, if_neg e0]; rfl
   ·rw [decide_eq_false k2, cF, bnd, if_neg k2]
    dsimp only
    rw [decide_eq_true rfl, Bool.not_true, cF, cF]
def cutC (c : CS) (k : Nat) : CS := ⟨c.L, c.made, c.calls, c.ans, c.inn.take k ++ c.inn.drop (k + 1), c.good⟩
def outC (c : CS) (k : Nat) (well : Bool) : TB0 × CS := bif well then effC (cutC c k) (c.inn.getD k z_TF0) else (bad11, cutC c k)
def tellC (r : TB0 × CS) (t : Int) : CS := ⟨r.2.L, r.2.made, r.2.calls, mput r.2.ans t r.1, r.2.inn, r.2.good⟩
def endC (c : CS) (k : Int) (well : Bool) : Int × TB0 × Int × CS :=
  if 0 ≤ k ∧ k < c.inn.length then ((c.inn.getD k.toNat z_TF0).fToken, (outC c k.toNat well).1, 0, tellC (outC c k.toNat well) (c.inn.getD k.toNat z_TF0).fToken) else (0, z_TB0, 4, c)
theorem getD_memC {l : List TF0} {k : Nat} (hk : k < l.length) : l.getD k z_TF0 ∈ l := by simp [List.getD, hk]
theorem end_run {n : Nat} (hn : 6000 < n) {c : CS} (k : Int) (well : Bool) (hp : ∀ x ∈ c.inn, GoodP x.fProps) (hg : GoodL c.L) (hi : c.inn.length ≤ 1000) (h0 : 0 ≤ c.good) (h1 : c.good ≤ 1000) :
  cloud_Cloud_End n c.L c.made c.calls c.ans c.inn c.good k well = some ((endC c k well).1, (endC c k well).2.1, (endC c k well).2.2.1, (endC c k well).2.2.2.tup) := by
 unfold cloud_Cloud_End endC
 by_cases hk : 0 ≤ k ∧ k < c.inn.length
 ·obtain ⟨m, rfl⟩ := Int.eq_ofNat_of_zero_le hk.1
  have hm : m < c.inn.length := by omega
  have em : (m : Int).toNat = m := by omega
  rw [decide_eq_false (by omega), cF, decide_eq_false (by omega), bnd, cF, if_pos hk, getI_at z_TF0 hm, bnd, need_i (by omega) (by omega), need_t (by omega), need_t (by omega), need_t (by omega), need_t (by omega), bnd, em]
  cases well with
  | false => rw [cF, bnd]; rfl
  | true =>
   have := effect_run hn (c := cutC c m) (x := c.inn.getD m z_TF0) (hp _ (getD_memC hm)) hg h0 h1
   rw [cT]
   unfold cutC at this
   dsimp only at this
   rw [this, bnd, bnd]
   rfl
 ·rw [if_neg hk]
  have e : (bif decide (k < 0) then some true else some (decide (((c.inn.length : Nat) : Int) ≤ k)) : Option Bool) = some true := by
   by_cases h : k < 0
   ·rw [decide_eq_true h, cT]
   ·rw [decide_eq_false h, cF, decide_eq_true (by omega)]
  rw [e, bnd, cT]
  rfl
theorem clone11 {n : Nat} {L : List TD0} (hl : L.length ≤ 1000) : slices_Cloneapi_Thing_api_Thing n L = some L := by
 unfold slices_Cloneapi_Thing_api_Thing
 rw [need_t (by omega)]
theorem things_run {n : Nat} {c : CS} (hg : GoodL c.L) : cloud_Cloud_Things n c.L c.made c.calls c.ans c.inn c.good = some (c.L, c.tup) := by
 have := hg.few
 unfold cloud_Cloud_Things
 rw [clone11 (by omega), bnd]; rfl
structure OkC (m : Nat) (c : CS) : Prop where
  good : GoodL c.L
  few : c.L.length ≤ m
  calls : c.calls.length ≤ m
  inn : c.inn.length ≤ m
  props : ∀ x ∈ c.inn, GoodP x.fProps
  g0 : 0 ≤ c.good
  g1 : c.good ≤ m
theorem OkC.new : OkC 0 new11 := ⟨⟨by decide, fun x hx => (by cases hx)⟩, by decide, by decide, by decide, fun x hx => (by cases hx), by decide, by decide⟩
theorem OkC.le {m k : Nat} {c : CS} (h : OkC m c) (hmk : m ≤ k) : OkC k c := ⟨h.good, Nat.le_trans h.few hmk, Nat.le_trans h.calls hmk, Nat.le_trans h.inn hmk, h.props, h.g0, by have := h.g1; omega⟩
theorem OkC.submit {m : Nat} {c : CS} (h : OkC m c) {x : TF0} (hp : GoodP x.fProps) : OkC (m + 1) (submitC c x).2 := by
 unfold submitC
 split
 ·exact h.le (by omega)
 ·split
  ·exact h.le (by omega)
  ·refine ⟨h.good, by have := h.few; show c.L.length ≤ m + 1; omega, by have := h.calls; show (c.calls ++ [x]).length ≤ m + 1; simp; omega, by have := h.inn; show (c.inn ++ [x]).length ≤ m + 1; simp; omega, fun y hy => ?_, h.g0, by have := h.g1; show c.good ≤ ((m + 1 : Nat) : Int); omega⟩
   rcases List.mem_append.1 hy with hy | hy
   ·exact h.props y hy
   ·rw [List.mem_singleton.1 hy]; exact hp
theorem create_len {s : TA0} {kind : List UInt8} {props : List TC0} : (createS s kind props).1.fL.length ≤ s.fL.length + 1 := by
 unfold createS
 split
 ·exact Nat.zero_le _
 ·split
  ·exact Nat.zero_le _
  ·split
   ·exact Nat.zero_le _
   ·split
    ·exact Nat.zero_le _
    ·simp
theorem update_len {s : TA0} {phys : List UInt8} {props : List TC0} : (updateS s phys props).1.fL.length ≤ s.fL.length := by
 unfold updateS
 split
 ·exact Nat.zero_le _
 ·split
  ·exact Nat.zero_le _
  ·split
   ·exact Nat.zero_le _
   ·split
    ·exact Nat.zero_le _
    ·unfold updT; simp
theorem delete_len {s : TA0} {phys : List UInt8} : (deleteS s phys).1.fL.length ≤ s.fL.length := by
 unfold deleteS
 split
 ·exact Nat.zero_le _
 ·split
  ·exact Nat.zero_le _
  ·exact List.length_filter_le _ _
theorem OkC.eff {m : Nat} {c : CS} (h : OkC m c) (hm : m < 200) {x : TF0} (hp : GoodP x.fProps) : OkC (m + 1) (effC c x).2 := by
 have hf := h.few
 have hg := h.g1
 have hg0 := h.g0
 have hi := h.inn
 have hc := h.calls
 have key : ∀ (s : TA0) (g : Int), GoodL s.fL → s.fL.length ≤ m + 1 → 0 ≤ g → g ≤ ((m + 1 : Nat) : Int) → OkC (m + 1) ⟨s.fL, s.fMade, c.calls, c.ans, c.inn, g⟩ := fun s g a b d e => ⟨a, b, Nat.le_trans hc (by omega), Nat.le_trans hi (by omega), h.props, d, e⟩
 unfold effC
 split
 ·split
  ·have := create_len (s := ⟨c.L, c.made⟩) (kind := x.fType) (props := x.fProps)
   exact key _ _ (good_create (s := ⟨c.L, c.made⟩) h.good (by show c.L.length < 200; omega) _ hp) (by have e : (⟨c.L, c.made⟩ : TA0).fL = c.L := rfl; rw [e] at this; omega) (by omega) (by omega)
  ·exact h.le (by omega)
 ·split
  ·split
   ·have := update_len (s := ⟨c.L, c.made⟩) (phys := x.fPhys) (props := x.fProps)
    exact key _ _ (good_update (s := ⟨c.L, c.made⟩) h.good _ hp) (by have e : (⟨c.L, c.made⟩ : TA0).fL = c.L := rfl; rw [e] at this; omega) (by omega) (by omega)
   ·exact h.le (by omega)
  ·split
   ·split
    ·have := delete_len (s := ⟨c.L, c.made⟩) (phys := x.fPhys)
     exact key _ _ (good_delete (s := ⟨c.L, c.made⟩) h.good _) (by have e : (⟨c.L, c.made⟩ : TA0).fL = c.L := rfl; rw [e] at this; omega) (by omega) (by omega)
    ·exact h.le (by omega)
   ·exact h.le (by omega)
theorem mem_cut {α : Type} {l : List α} {k : Nat} {x : α} (h : x ∈ l.take k ++ l.drop (k + 1)) : x ∈ l := by
 rcases List.mem_append.1 h with h | h
 ·exact List.mem_of_mem_take h
 ·exact List.mem_of_mem_drop h
theorem OkC.cut {m : Nat} {c : CS} (h : OkC m c) (k : Nat) : OkC m (cutC c k) := ⟨h.good, h.few, h.calls, by have := h.inn; show (c.inn.take k ++ c.inn.drop (k + 1)).length ≤ m; simp; omega, fun x hx => h.props x (mem_cut hx), h.g0, h.g1⟩
theorem OkC.end_ {m : Nat} {c : CS} (h : OkC m c) (hm : m < 200) (k : Int) (well : Bool) : OkC (m + 1) (endC c k well).2.2.2 := by
 unfold endC
 split
 ·rename_i hk
  have hb : OkC (m + 1) (outC c k.toNat well).2 := by
   unfold outC
   cases well with
   | false => exact (h.cut _).le (by omega)
   | true => exact (h.cut _).eff hm (h.props _ (getD_memC (by omega)))
  exact ⟨hb.good, hb.few, hb.calls, hb.inn, hb.props, hb.g0, hb.g1⟩
 ·exact h.le (by omega)
theorem sameT_self {n : Nat} (hn : 6000 < n) {L : List TD0} (hg : GoodL L) : ref11_SameThings n L L = some true := by
 have hl := hg.few
 unfold ref11_SameThings
 rw [decide_eq_true rfl, Bool.not_true, cF]
 have l1 := loop_all (step := ref11_SameThings_s1 n L L) (n := n) (fun k => (k : Int)) L.length (.inr ()) (fun k hk => by
  unfold ref11_SameThings_s1
  rw [decide_eq_true (by omega), cT, getI_at z_TD0 hk, bnd, bnd, decide_eq_true rfl, Bool.not_true, cF, bnd, bnd, decide_eq_true rfl, Bool.not_true, cF, bnd, bnd, SameR_self hn ((hg.each _ (by simp [List.getD, hk])).props), bnd, Bool.not_true, cF, need_i (by omega) (by omega)]
  rfl) (by
  unfold ref11_SameThings_s1
  rw [decide_eq_false (by omega), cF]) (by omega)
 have e0 : ((0 : Nat) : Int) = 0 := rfl
 simp only [e0] at l1
 rw [l1, bnd]
def tokens (l : List TF0) : List Int := l.map (·.fToken)
theorem eff_keep (c : CS) (x : TF0) : (effC c x).2.calls = c.calls ∧ (effC c x).2.ans = c.ans ∧ (effC c x).2.inn = c.inn ∧ (effC c x).1.fEnded = true := by
 unfold effC bad11
 split
 ·split <;> exact ⟨rfl, rfl, rfl, rfl⟩
 ·split
  ·split <;> exact ⟨rfl, rfl, rfl, rfl⟩
  ·split
   ·split <;> exact ⟨rfl, rfl, rfl, rfl⟩
   ·exact ⟨rfl, rfl, rfl, rfl⟩
theorem eff_core {c d : CS} (h1 : c.L = d.L) (h2 : c.made = d.made) (h3 : c.good = d.good) (x : TF0) : (effC c x).1 = (effC d x).1 ∧ (effC c x).2.L = (effC d x).2.L ∧ (effC c x).2.made = (effC d x).2.made ∧ (effC c x).2.good = (effC d x).2.good := by
 unfold effC
 rw [h1, h2, h3]
 split
 ·split
  ·exact ⟨rfl, rfl, rfl, rfl⟩
  ·exact ⟨rfl, h1, h2, h3⟩
 ·split
  ·split
   ·exact ⟨rfl, rfl, rfl, rfl⟩
   ·exact ⟨rfl, h1, h2, h3⟩
  ·split
   ·split
    ·exact ⟨rfl, rfl, rfl, rfl⟩
    ·exact ⟨rfl, h1, h2, h3⟩
   ·exact ⟨rfl, h1, h2, h3⟩
theorem submit_fresh {c : CS} {x : TF0} (h0 : checkC x = 0) (hf : mget c.ans x.fToken = none) : submitC c x = (0, ⟨c.L, c.made, c.calls ++ [x], mput c.ans x.fToken z_TB0, c.inn ++ [x], c.good⟩) := by
 unfold submitC
 rw [if_neg (fun h => h h0), hf, if_neg (by decide)]
theorem end_one {c : CS} {x : TF0} (hi : c.inn = [x]) (well : Bool) :
  endC c 0 well = (x.fToken, (bif well then effC ⟨c.L, c.made, c.calls, c.ans, [], c.good⟩ x else (bad11, ⟨c.L, c.made, c.calls, c.ans, [], c.good⟩)).1, 0, tellC (bif well then effC ⟨c.L, c.made, c.calls, c.ans, [], c.good⟩ x else (bad11, ⟨c.L, c.made, c.calls, c.ans, [], c.good⟩)) x.fToken) := by
 unfold endC outC cutC
 rw [hi, if_pos ⟨by omega, by simp⟩]
 rfl
def cloud_Cloud_Flight_s1 (n : Nat) (d0_4 : List TF0) (K1 : List Int × Int) : Option (Lp (List Int × Int) (List Int)) :=
    bif (decide (K1.2 < ((d0_4.length : Nat) : Int))) then
      ((getI d0_4 K1.2).bind fun X1 =>
      need ((K1.1.length + 1) * 8 ≤ 140737488355328) <|
      need (inR .i64 (K1.2 + 1)) <|
      some (.nx (K1.1 ++ [X1.fToken], K1.2 + 1)))
    else
      some (.br K1.1)
def cloud_Cloud_Flight (n : Nat) (d0_0 : List TD0) (d0_1 : Int) (d0_2 : List TF0) (d0_3 : List (Int × TB0)) (d0_4 : List TF0) (d0_5 : Int) : Option (List Int × List TD0 × Int × List TF0 × (List (Int × TB0)) × List TF0 × Int) :=
  (loopF (cloud_Cloud_Flight_s1 n d0_4) n (([] : List Int), (0 : Int))).bind fun G1 =>
  some ((G1, d0_0, d0_1, d0_2, d0_3, d0_4, d0_5))
theorem cloud_Cloud_Flight_ok (n : Nat) (M : Mem) (hG : GL M) (b0 : Nat) (d0_0 : List TD0) (Z1 : Option Addr) (P1 : Nat) (B1 : Sli M 3 emb_TD0 Z1 P1 d0_0) (d0_1 : Int) (d0_2 : List TF0) (Z2 : Option Addr) (P2 : Nat) (L1 : List Value) (D1 : RepSeq M (d0_2.map emb_TF0) L1) (m0_3 : Nat) (d0_3 : List (Int × TB0)) (d0_4 : List TF0) (Z3 : Option Addr) (P3 : Nat) (L2 : List Value) (D2 : RepSeq M (d0_4.map emb_TF0) L2) (d0_5 : Int) (r : List Int × List TD0 × Int × List TF0 × (List (Int × TB0)) × List TF0 × Int) (hF : cloud_Cloud_Flight n d0_0 d0_1 d0_2 d0_3 d0_4 d0_5 = some r) : OkH Tryz.prog M [Ent.obj b0 (.cells #[.slice Z1 d0_0.length P1, .int .i64 d0_1, .slice Z2 d0_2.length P2, .map (some m0_3), .slice Z3 d0_4.length P3, .int .i64 d0_5] 82 (0, 0)), Ent.row 42 5 (.slice Z2 d0_2.length P2) d0_2.length L1, Ent.obj m0_3 (mapO (Value.int .i64) (fun x : TB0 => Value.agg #[.bool x.fEnded, .bool x.fOk, S x.fPhys]) d0_3), Ent.row 42 5 (.slice Z3 d0_4.length P3) d0_4.length L2] 25 [.pointer (some (⟨b0, 0, none⟩))] (fun M' E' v => ∃ (A0 : Option Addr) (k0 : Nat) (s0 : List Value) (Z9 : Option Addr) (P10 : Nat) (Z10 : Option Addr) (P11 : Nat) (L6 : List Value) (Z11 : Option Addr) (P12 : Nat) (L7 : List Value), v = .slice A0 r.1.length k0 ∧ E' = [.row 3 1 (.slice A0 r.1.length k0) r.1.length s0, Ent.obj b0 (.cells #[.slice Z9 r.2.1.length P10, .int .i64 r.2.2.1, .slice Z10 r.2.2.2.1.length P11, .map (some m0_3), .slice Z11 r.2.2.2.2.2.1.length P12, .int .i64 r.2.2.2.2.2.2] 82 (0, 0)), Ent.row 42 5 (.slice Z10 r.2.2.2.1.length P11) r.2.2.2.1.length L6, Ent.obj m0_3 (mapO (Value.int .i64) (fun x : TB0 => Value.agg #[.bool x.fEnded, .bool x.fOk, S x.fPhys]) r.2.2.2.2.1), Ent.row 42 5 (.slice Z11 r.2.2.2.2.2.1.length P12) r.2.2.2.2.2.1.length L7] ∧ RepSeq M' (r.1.map (Dat.int .i64)) s0 ∧ Sli M' 3 emb_TD0 Z9 P10 r.2.1 ∧ RepSeq M' (r.2.2.2.1.map emb_TF0) L6 ∧ RepSeq M' (r.2.2.2.2.2.1.map emb_TF0) L7) := by
 unfold cloud_Cloud_Flight at hF
 intro M1 hM0 w0 H w p0
 replace hG := GL.mono hM0 hG
 replace B1 := B1.mono hM0
 replace D1 := RepSeq.mono hM0 _ _ D1
 replace D2 := RepSeq.mono hM0 _ _ D2
 refine R_enter 23 Tryz.func25 rfl rfl (by simp) fun a0 f0 => RR (Y f0 1 fun _ f => eT (R_seq (RR (Y f 1 fun _ f => Z (v := .bool false) f (X_ptrNil (q := some (⟨b0, 0, none⟩)) (e := 82) rfl (by kernel_rfl) (by kernel_rfl) (by kernel_rfl) _) fun _ f => eT (Y7 f (wp_skip (T_n (R_seq (RR (Y f 3 fun _ f => Z f (Y33 (v := .slice Z3 d0_4.length P3) rfl (ad := ⟨b0, 4, none⟩) (p0.ownCell 0 rfl 4)) fun _ f => Y f 2 fun _ f => eT (wp_block ?_)))))))))))
 obtain ⟨Z4, P4, H1⟩ : ∃ A cap, Value.slice none 0 0 = .slice A ([] : List Int).length cap := ⟨none, 0, rfl⟩
 have N1 : Hp w0 M1 ((Ent.row 3 1 (.slice Z4 ([] : List Int).length P4) ([] : List Int).length []) :: (Ent.obj b0 (.cells #[.slice Z1 d0_0.length P1, .int .i64 d0_1, .slice Z2 d0_2.length P2, .map (some m0_3), .slice Z3 d0_4.length P3, .int .i64 d0_5] 82 (0, 0))) :: (Ent.row 42 5 (.slice Z2 d0_2.length P2) d0_2.length L1) :: (Ent.obj m0_3 (mapO (Value.int .i64) (fun x : TB0 => Value.agg #[.bool x.fEnded, .bool x.fOk, S x.fPhys]) d0_3)) :: (Ent.row 42 5 (.slice Z3 d0_4.length P3) d0_4.length L2) :: H) w := by rw [← H1]; exact p0.nilRow 3 1
 have f := f.st 2 (H1)
 have D3 : RepSeq M1 (([] : List Int).map (Dat.int .i64)) [] := rfl
 obtain ⟨Q1, hL_1, F1⟩ := bS hF
 refine wp_mono (Q := fun e a w => (e = .exit 0 ∧ (∃ G1 : List Int, Q1 = G1 ∧ ∃ V2 : Mem, M1.le V2 ∧ ∃ (Z8 : Option Addr), ∃ (P9 : Nat), ∃ (L5 : List Value), RepSeq V2 (G1.map (Dat.int .i64)) L5 ∧ Frm 23 [(2, .slice Z8 G1.length P9)] a ∧ Hp w0 V2 ((Ent.row 3 1 (.slice Z8 G1.length P9) G1.length L5) :: (Ent.obj b0 (.cells #[.slice Z1 d0_0.length P1, .int .i64 d0_1, .slice Z2 d0_2.length P2, .map (some m0_3), .slice Z3 d0_4.length P3, .int .i64 d0_5] 82 (0, 0))) :: (Ent.row 42 5 (.slice Z2 d0_2.length P2) d0_2.length L1) :: (Ent.obj m0_3 (mapO (Value.int .i64) (fun x : TB0 => Value.agg #[.bool x.fEnded, .bool x.fOk, S x.fPhys]) d0_3)) :: (Ent.row 42 5 (.slice Z3 d0_4.length P3) d0_4.length L2) :: H) w))) (R_loop (n := 23) (w0 := w0) (M := M1) (fun (x : Nat × (List Int × Int) × (Option Addr) × Nat × (List Value)) => match x with | (I1, K1, Z5, P5, L3) => [(2, .slice Z5 K1.1.length P5), (10, .slice Z3 d0_4.length P3), (11, .int .i64 ((d0_4.length : Nat) : Int)), (12, .int .i64 K1.2)]) (fun (x : Nat × (List Int × Int) × (Option Addr) × Nat × (List Value)) => match x with | (I1, K1, Z5, P5, L3) => ((Ent.row 3 1 (.slice Z5 K1.1.length P5) K1.1.length L3) :: (Ent.obj b0 (.cells #[.slice Z1 d0_0.length P1, .int .i64 d0_1, .slice Z2 d0_2.length P2, .map (some m0_3), .slice Z3 d0_4.length P3, .int .i64 d0_5] 82 (0, 0))) :: (Ent.row 42 5 (.slice Z2 d0_2.length P2) d0_2.length L1) :: (Ent.obj m0_3 (mapO (Value.int .i64) (fun x : TB0 => Value.agg #[.bool x.fEnded, .bool x.fOk, S x.fPhys]) d0_3)) :: (Ent.row 42 5 (.slice Z3 d0_4.length P3) d0_4.length L2) :: H)) (fun (x : Nat × (List Int × Int) × (Option Addr) × Nat × (List Value)) (MM : Mem) => match x with | (I1, K1, Z5, P5, L3) => loopF (cloud_Cloud_Flight_s1 n d0_4) I1 K1 = some Q1 ∧ RepSeq MM (K1.1.map (Dat.int .i64)) L3) (fun (x : Nat × (List Int × Int) × (Option Addr) × Nat × (List Value)) => match x with | (I1, K1, Z5, P5, L3) => I1) (n, (([] : List Int), (0 : Int)), Z4, P4, []) (f.kp) N1 ⟨hL_1, D3⟩ ?_) ?_
 ·rintro ⟨I1, K1, Z5, P5, L3⟩ V1 _ W1 J1 I_1 f N2
  obtain ⟨I_1L, D4⟩ := I_1
  obtain ⟨I2, r_1, rfl, hs_1, T1⟩ := loop_step I_1L
  unfold cloud_Cloud_Flight_s1 at hs_1
  refine RR (Y f 1 fun _ f => eT (R_seq (RcF f hs_1 (fun B2 F2 => ?_) fun B2 F6 => ?_)))
  ·have U1 := dI.1 B2
   refine wp_skip (T_n (R_seq (wp_block (RR ?_))))
   obtain ⟨X1, S1, F3⟩ := bS F2
   obtain ⟨Q2, P6, H2, hcap_1⟩ := N2.rowAddr 4 rfl (getI_pos S1)
   have f := f.st 10 (H2)
   refine Z f (Y31 rfl (ad := ⟨Q2, 0, none⟩) (len := d0_4.length) (cap := P6) (k := .i64) (i := K1.2) (e := 42) (sz := 5) (getI_nn S1) (getI_lt S1)) fun _ f => ?_
   have f := f.st 10 (H2.symm)
   obtain ⟨c_1, -, D5, R1⟩ := RepSeq.get K1.2.toNat (szd_all szd_TF0) (RepSeq.mono J1 _ _ D2) (getI_map S1)
   obtain ⟨Z6, P7, rfl, B3⟩ := TF0.opn D5
   refine Z (v := .agg #[.int .i64 X1.fToken, .int .i8 X1.fKind, S X1.fPhys, S X1.fType, .slice Z6 X1.fProps.length P7]) f (Y34 (cs := [.int .i64 X1.fToken, .int .i8 X1.fKind, S X1.fPhys, S X1.fType, .slice Z6 X1.fProps.length P7]) rfl (ad := (⟨Q2, 0, none⟩ : Addr).add (K1.2.toNat * 5)) (fun j v h => row_at (N2.rowCell 4 rfl H2) R1 j v h)) fun _ f => Y12 f N2 (.cells #[.int .i64 0, .int .i8 0, S [], S [], .slice none 0 0] 42 (0, 0)) fun Q3 W2 N3 _ f => Y28 (vs := [.int .i64 X1.fToken, .int .i8 X1.fKind, S X1.fPhys, S X1.fType, .slice Z6 X1.fProps.length P7]) (j := 0) f N3 rfl rfl (by simp [Value.oneCell', S]) (by simp) (by decide) (cs' := #[.int .i64 X1.fToken, .int .i8 X1.fKind, S X1.fPhys, S X1.fType, .slice Z6 X1.fProps.length P7]) (by kernel_rfl) fun W3 N4 _ f => eT (R_reg (Y f 2 fun _ f => Z f (Y33 (v := .int .i64 X1.fToken) rfl (ad := ⟨Q3, 0, none⟩) (N4.ownCell 0 rfl 0)) fun _ f => V_allocS (k := 1) (c := 1) f N4 (.cells #[.int .i64 X1.fToken] 3 (0, 0)) (by kernel_rfl) (fun _ => by kernel_rfl) fun Q4 W4 N5 _ f => ?_))
   have N6 := N5.pl [2]
   obtain ⟨O1, F4⟩ := nS F3
   refine Y22 (z := .int .i64 0) (f := (Dat.int .i64)) (xs := K1.1) (ys := [X1.fToken]) (news := [.int .i64 X1.fToken]) (ad := ⟨Q4, 0, none⟩) (m := 1) (c := 1) f N6 D4 (by exact ⟨_, _, rfl, rfl, rfl⟩) rfl rfl rfl rfl (own_cells (N6.ownCell 1 rfl) 0 rfl) (by exact O1) (by have hg_ := O1; first | omega | (simp only [List.length_cons, List.length_nil] at *; omega)) fun Z7 P8 L4 W5 N7 D6 _ f => ?_
   have N8 := N7.pl [1]
   have N9 := N8.drop
   refine Y f 1 fun _ f => W_end rfl (B_n (T_n (R_reg ?_)))
   obtain ⟨O2, F5⟩ := nS F4
   refine Y f 1 fun _ f => ?_
   have f := f.st 21 (iW O2)
   refine Y f 1 fun _ f => W_end rfl ?_
   have N16 := N9.pl [5, 5, 5, 5, 4, 5]
   refine T_n ?_
   obtain rfl := sI F5
   exact ⟨⟨I2, (K1.1 ++ [X1.fToken], K1.2 + 1), Z7, P8, L4⟩, Nat.lt_succ_self _, V1, J1, ⟨T1, D6⟩, f.kp, (N16.dropN 1)⟩
  ·have U2 := iff_f dI B2
   refine wp_exit (T_x (T_x ?_))
   obtain rfl := sI F6
   exact ⟨rfl, K1.1, (sI T1).symm, V1, J1, Z5, P5, L3, D4, f.kp, N2⟩
 ·rintro _ _ W7 ⟨rfl, G1, hq_, V2, J2, Z8, P9, L5, D7, f, N10⟩
  subst Q1
  refine B_x (T_n (RR (Y f 2 fun _ f => eT (wp_ret (E_ret1 f rfl (by kernel_rfl : Vc.look _ 2 = some (.slice Z8 G1.length P9)) ?_)))))
  obtain rfl := sI F1
  exact ⟨_, rfl, V2, _, J2, N10, ⟨Z8, P9, L5, Z1, P1, Z2, P2, L1, Z3, P3, L2, rfl, rfl, D7, (B1.mono J2), (RepSeq.mono J2 _ _ D1), (RepSeq.mono J2 _ _ D2)⟩⟩
def law11_CloudTurned_s1 (n : Nat) (d0 : List (List TC0)) (K1 : Int × Int × List TD0 × Int × List TF0 × List TF0 × Int × (List (Int × TB0)) × List TD0 × Int × List TF0 × List TF0 × Int × (List (Int × TB0))) : Option (Lp (Int × Int × List TD0 × Int × List TF0 × List TF0 × Int × (List (Int × TB0)) × List TD0 × Int × List TF0 × List TF0 × Int × (List (Int × TB0))) (Sum (Bool × List TD0 × Int × List TF0 × List TF0 × Int × List TD0 × Int × List TF0 × List TF0 × Int × (List (Int × TB0)) × (List (Int × TB0))) (Int × List TD0 × Int × List TF0 × List TF0 × Int × List TD0 × Int × List TF0 × List TF0 × Int × (List (Int × TB0)) × (List (Int × TB0))))) :=
    bif (decide (K1.2.1 < ((d0.length : Nat) : Int))) then
      ((getI d0 K1.2.1).bind fun X4 =>
      (ref09_Great n X4).bind fun X5 =>
      bif X5 then
        ((law11_wakes n).bind fun X6 =>
        some (.br (.inl ((X6), K1.2.2.2.2.2.2.2.2.1, K1.2.2.2.2.2.2.2.2.2.1, K1.2.2.2.2.2.2.2.2.2.2.1, K1.2.2.2.2.2.2.2.2.2.2.2.1, K1.2.2.2.2.2.2.2.2.2.2.2.2.1, K1.2.2.1, K1.2.2.2.1, K1.2.2.2.2.1, K1.2.2.2.2.2.1, K1.2.2.2.2.2.2.1, K1.2.2.2.2.2.2.2.1, K1.2.2.2.2.2.2.2.2.2.2.2.2.2))))
      else
        need (inR .i64 (K1.2.1 + 1)) <|
        (cloud_Cloud_Submit n K1.2.2.1 K1.2.2.2.1 K1.2.2.2.2.1 K1.2.2.2.2.2.2.2.1 K1.2.2.2.2.2.1 K1.2.2.2.2.2.2.1 (⟨K1.2.1 + 1, (0 : Int), ([] : List UInt8), [68, 105, 115, 107], X4⟩ : TF0)).bind fun X7 =>
        bif (!(decide (X7.1 = 0))) then
          (need (inR .i64 (K1.2.1 + 1)) <|
          some (.nx (K1.1, K1.2.1 + 1, X7.2.1, X7.2.2.1, X7.2.2.2.1, X7.2.2.2.2.2.1, X7.2.2.2.2.2.2, X7.2.2.2.2.1, K1.2.2.2.2.2.2.2.2.1, K1.2.2.2.2.2.2.2.2.2.1, K1.2.2.2.2.2.2.2.2.2.2.1, K1.2.2.2.2.2.2.2.2.2.2.2.1, K1.2.2.2.2.2.2.2.2.2.2.2.2.1, K1.2.2.2.2.2.2.2.2.2.2.2.2.2)))
        else
          (cloud_Cloud_Submit n K1.2.2.2.2.2.2.2.2.1 K1.2.2.2.2.2.2.2.2.2.1 K1.2.2.2.2.2.2.2.2.2.2.1 K1.2.2.2.2.2.2.2.2.2.2.2.2.2 K1.2.2.2.2.2.2.2.2.2.2.2.1 K1.2.2.2.2.2.2.2.2.2.2.2.2.1 (⟨K1.2.1 + 1, (0 : Int), ([] : List UInt8), [68, 105, 115, 107], X4⟩ : TF0)).bind fun X8 =>
          (cloud_Cloud_End n X7.2.1 X7.2.2.1 X7.2.2.2.1 X7.2.2.2.2.1 X7.2.2.2.2.2.1 X7.2.2.2.2.2.2 (0 : Int) (true)).bind fun X9 =>
          (cloud_Cloud_End n X8.2.1 X8.2.2.1 X8.2.2.2.1 X8.2.2.2.2.1 X8.2.2.2.2.2.1 X8.2.2.2.2.2.2 (0 : Int) (true)).bind fun X10 =>
          need (inR .i64 (K1.1 + 1)) <|
          need (inR .i64 (K1.2.1 + 1)) <|
          some (.nx (K1.1 + 1, K1.2.1 + 1, X9.2.2.2.1, X9.2.2.2.2.1, X9.2.2.2.2.2.1, X9.2.2.2.2.2.2.2.1, X9.2.2.2.2.2.2.2.2, X9.2.2.2.2.2.2.1, X10.2.2.2.1, X10.2.2.2.2.1, X10.2.2.2.2.2.1, X10.2.2.2.2.2.2.2.1, X10.2.2.2.2.2.2.2.2, X10.2.2.2.2.2.2.1)))
    else
      some (.br (.inr (K1.1, K1.2.2.2.2.2.2.2.2.1, K1.2.2.2.2.2.2.2.2.2.1, K1.2.2.2.2.2.2.2.2.2.2.1, K1.2.2.2.2.2.2.2.2.2.2.2.1, K1.2.2.2.2.2.2.2.2.2.2.2.2.1, K1.2.2.1, K1.2.2.2.1, K1.2.2.2.2.1, K1.2.2.2.2.2.1, K1.2.2.2.2.2.2.1, K1.2.2.2.2.2.2.2.1, K1.2.2.2.2.2.2.2.2.2.2.2.2.2)))
def law11_CloudTurned_s2 (n : Nat) (d1 : List (List TC0)) (X11 : List TD0 × List TD0 × Int × List TF0 × (List (Int × TB0)) × List TF0 × Int) (K2 : Int × Int × List TD0 × Int × List TF0 × List TF0 × Int × (List (Int × TB0)) × List TD0 × Int × List TF0 × List TF0 × Int × (List (Int × TB0))) : Option (Lp (Int × Int × List TD0 × Int × List TF0 × List TF0 × Int × (List (Int × TB0)) × List TD0 × Int × List TF0 × List TF0 × Int × (List (Int × TB0))) (Sum (Int × List TD0 × Int × List TF0 × List TF0 × Int × List TD0 × Int × List TF0 × List TF0 × Int × (List (Int × TB0)) × (List (Int × TB0))) (List TD0 × Int × List TF0 × List TF0 × Int × List TD0 × Int × List TF0 × List TF0 × Int × (List (Int × TB0)) × (List (Int × TB0))))) :=
    bif (decide (K2.2.1 < ((X11.1.length : Nat) : Int))) then
      ((getI X11.1 K2.2.1).bind fun X12 =>
      ((bif (decide (((d1.length : Nat) : Int) ≤ K2.2.1)) then
          (some ((true)))
        else
          (getI d1 K2.2.1).bind fun X13 =>
          (ref09_Great n X13).bind fun X14 =>
          some ((X14)) : Option Bool)).bind fun G4 =>
      bif G4 then
        (some (.br (.inl (K2.1, K2.2.2.1, K2.2.2.2.1, K2.2.2.2.2.1, K2.2.2.2.2.2.1, K2.2.2.2.2.2.2.1, K2.2.2.2.2.2.2.2.2.1, K2.2.2.2.2.2.2.2.2.2.1, K2.2.2.2.2.2.2.2.2.2.2.1, K2.2.2.2.2.2.2.2.2.2.2.2.1, K2.2.2.2.2.2.2.2.2.2.2.2.2.1, K2.2.2.2.2.2.2.2.1, K2.2.2.2.2.2.2.2.2.2.2.2.2.2))))
      else
        need (inR .i64 ((100 : Int) + K2.2.1)) <|
        (getI d1 K2.2.1).bind fun X15 =>
        (cloud_Cloud_Submit n K2.2.2.1 K2.2.2.2.1 K2.2.2.2.2.1 K2.2.2.2.2.2.2.2.1 K2.2.2.2.2.2.1 K2.2.2.2.2.2.2.1 (⟨(100 : Int) + K2.2.1, (1 : Int), X12.fPhys, [68, 105, 115, 107], X15⟩ : TF0)).bind fun X16 =>
        (cloud_Cloud_Submit n K2.2.2.2.2.2.2.2.2.1 K2.2.2.2.2.2.2.2.2.2.1 K2.2.2.2.2.2.2.2.2.2.2.1 K2.2.2.2.2.2.2.2.2.2.2.2.2.2 K2.2.2.2.2.2.2.2.2.2.2.2.1 K2.2.2.2.2.2.2.2.2.2.2.2.2.1 (⟨(100 : Int) + K2.2.1, (1 : Int), X12.fPhys, [68, 105, 115, 107], X15⟩ : TF0)).bind fun X17 =>
        bif (!(decide (X16.1 = X17.1))) then
          (some (.br (.inr (X17.2.1, X17.2.2.1, X17.2.2.2.1, X17.2.2.2.2.2.1, X17.2.2.2.2.2.2, X16.2.1, X16.2.2.1, X16.2.2.2.1, X16.2.2.2.2.2.1, X16.2.2.2.2.2.2, X17.2.2.2.2.1, X16.2.2.2.2.1))))
        else
          (cloud_Cloud_Flight n X16.2.1 X16.2.2.1 X16.2.2.2.1 X16.2.2.2.2.1 X16.2.2.2.2.2.1 X16.2.2.2.2.2.2).bind fun X18 =>
          need (inR .i64 (K2.2.1 + 1)) <|
          some (.nx (((X18.1.length : Nat) : Int), K2.2.1 + 1, X18.2.1, X18.2.2.1, X18.2.2.2.1, X18.2.2.2.2.2.1, X18.2.2.2.2.2.2, X18.2.2.2.2.1, X17.2.1, X17.2.2.1, X17.2.2.2.1, X17.2.2.2.2.2.1, X17.2.2.2.2.2.2, X17.2.2.2.2.1)))
    else
      some (.br (.inl (K2.1, K2.2.2.1, K2.2.2.2.1, K2.2.2.2.2.1, K2.2.2.2.2.2.1, K2.2.2.2.2.2.2.1, K2.2.2.2.2.2.2.2.2.1, K2.2.2.2.2.2.2.2.2.2.1, K2.2.2.2.2.2.2.2.2.2.2.1, K2.2.2.2.2.2.2.2.2.2.2.2.1, K2.2.2.2.2.2.2.2.2.2.2.2.2.1, K2.2.2.2.2.2.2.2.1, K2.2.2.2.2.2.2.2.2.2.2.2.2.2)))
def law11_CloudTurned_s3 (n : Nat) (K3 : Int × List TD0 × Int × List TF0 × List TF0 × Int × (List (Int × TB0)) × List TD0 × Int × List TF0 × List TF0 × Int × (List (Int × TB0))) : Option (Lp (Int × List TD0 × Int × List TF0 × List TF0 × Int × (List (Int × TB0)) × List TD0 × Int × List TF0 × List TF0 × Int × (List (Int × TB0))) (List TD0 × Int × List TF0 × List TF0 × Int × List TD0 × Int × List TF0 × List TF0 × Int × (List (Int × TB0)) × (List (Int × TB0)))) :=
    bif (decide ((0 : Int) ≤ K3.1)) then
      ((cloud_Cloud_End n K3.2.1 K3.2.2.1 K3.2.2.2.1 K3.2.2.2.2.2.2.1 K3.2.2.2.2.1 K3.2.2.2.2.2.1 (0 : Int) (true)).bind fun X19 =>
      (cloud_Cloud_End n K3.2.2.2.2.2.2.2.1 K3.2.2.2.2.2.2.2.2.1 K3.2.2.2.2.2.2.2.2.2.1 K3.2.2.2.2.2.2.2.2.2.2.2.2 K3.2.2.2.2.2.2.2.2.2.2.1 K3.2.2.2.2.2.2.2.2.2.2.2.1 K3.1 (true)).bind fun X20 =>
      need (inR .i64 (K3.1 - 1)) <|
      some (.nx (K3.1 - 1, X19.2.2.2.1, X19.2.2.2.2.1, X19.2.2.2.2.2.1, X19.2.2.2.2.2.2.2.1, X19.2.2.2.2.2.2.2.2, X19.2.2.2.2.2.2.1, X20.2.2.2.1, X20.2.2.2.2.1, X20.2.2.2.2.2.1, X20.2.2.2.2.2.2.2.1, X20.2.2.2.2.2.2.2.2, X20.2.2.2.2.2.2.1)))
    else
      some (.br (K3.2.1, K3.2.2.1, K3.2.2.2.1, K3.2.2.2.2.1, K3.2.2.2.2.2.1, K3.2.2.2.2.2.2.2.1, K3.2.2.2.2.2.2.2.2.1, K3.2.2.2.2.2.2.2.2.2.1, K3.2.2.2.2.2.2.2.2.2.2.1, K3.2.2.2.2.2.2.2.2.2.2.2.1, K3.2.2.2.2.2.2.1, K3.2.2.2.2.2.2.2.2.2.2.2.2))
def law11_CloudTurned (n : Nat) (d0 : List (List TC0)) (d1 : List (List TC0)) : Option Bool :=
  ((bif (decide ((12 : Int) < ((d0.length : Nat) : Int))) then
      (some ((true)))
    else
      some ((decide ((12 : Int) < ((d1.length : Nat) : Int)))) : Option Bool)).bind fun G1 =>
  bif G1 then
    ((law11_wakes n).bind fun X1 =>
    some ((X1)))
  else
    (cloud_New n).bind fun X2 =>
    (cloud_New n).bind fun X3 =>
    (loopF (law11_CloudTurned_s1 n d0) n ((0 : Int), (0 : Int), ([] : List TD0), (0 : Int), ([] : List TF0), ([] : List TF0), (0 : Int), ([] : List (Int × TB0)), ([] : List TD0), (0 : Int), ([] : List TF0), ([] : List TF0), (0 : Int), ([] : List (Int × TB0)))).bind fun Q1 =>
    (match Q1 with 
    | .inl G2 => some ((G2.1)) 
    | .inr G3 => (cloud_Cloud_Things n G3.2.2.2.2.2.2.1 G3.2.2.2.2.2.2.2.1 G3.2.2.2.2.2.2.2.2.1 G3.2.2.2.2.2.2.2.2.2.2.2.1 G3.2.2.2.2.2.2.2.2.2.1 G3.2.2.2.2.2.2.2.2.2.2.1).bind fun X11 =>
      (loopF (law11_CloudTurned_s2 n d1 X11) n ((0 : Int), (0 : Int), X11.2.1, X11.2.2.1, X11.2.2.2.1, X11.2.2.2.2.2.1, X11.2.2.2.2.2.2, X11.2.2.2.2.1, G3.2.1, G3.2.2.1, G3.2.2.2.1, G3.2.2.2.2.1, G3.2.2.2.2.2.1, G3.2.2.2.2.2.2.2.2.2.2.2.2)).bind fun Q3 =>
      (match Q3 with 
      | .inl G5 => need (inR .i64 (G5.1 - 1)) <|
        (loopF (law11_CloudTurned_s3 n) n (G5.1 - 1, G5.2.1, G5.2.2.1, G5.2.2.2.1, G5.2.2.2.2.1, G5.2.2.2.2.2.1, G5.2.2.2.2.2.2.2.2.2.2.2.1, G5.2.2.2.2.2.2.1, G5.2.2.2.2.2.2.2.1, G5.2.2.2.2.2.2.2.2.1, G5.2.2.2.2.2.2.2.2.2.1, G5.2.2.2.2.2.2.2.2.2.2.1, G5.2.2.2.2.2.2.2.2.2.2.2.2)).bind fun G7 =>
        (cloud_Cloud_Things n G7.1 G7.2.1 G7.2.2.1 G7.2.2.2.2.2.2.2.2.2.2.1 G7.2.2.2.1 G7.2.2.2.2.1).bind fun X21 =>
        bif (decide (((X21.1.length : Nat) : Int) = G3.1)) then
          ((cloud_Cloud_Flight n X21.2.1 X21.2.2.1 X21.2.2.2.1 X21.2.2.2.2.1 X21.2.2.2.2.2.1 X21.2.2.2.2.2.2).bind fun X22 =>
          (cloud_Cloud_Flight n G7.2.2.2.2.2.1 G7.2.2.2.2.2.2.1 G7.2.2.2.2.2.2.2.1 G7.2.2.2.2.2.2.2.2.2.2.2 G7.2.2.2.2.2.2.2.2.1 G7.2.2.2.2.2.2.2.2.2.1).bind fun X23 =>
          need (inR .i64 (((X22.1.length : Nat) : Int) + ((X23.1.length : Nat) : Int))) <|
          bif (decide ((((X22.1.length : Nat) : Int) + ((X23.1.length : Nat) : Int)) = 0)) then
            ((cloud_Cloud_Things n X22.2.1 X22.2.2.1 X22.2.2.2.1 X22.2.2.2.2.1 X22.2.2.2.2.2.1 X22.2.2.2.2.2.2).bind fun X24 =>
            (cloud_Cloud_Things n X23.2.1 X23.2.2.1 X23.2.2.2.1 X23.2.2.2.2.1 X23.2.2.2.2.2.1 X23.2.2.2.2.2.2).bind fun X25 =>
            (ref11_SameThings n X24.1 X25.1).bind fun X26 =>
            bif X26 then
              ((law11_wakes n).bind fun X27 =>
              some ((X27)))
            else
              some ((false)))
          else
            some ((false)))
        else
          some ((false)) 
      | .inr G6 => some ((false))))
set_option maxRecDepth 20000 in
theorem law11_CloudTurned_ok (n : Nat) (M : Mem) (hG : GL M) (A0 : Option Addr) (cap0 : Nat) (d0 : List (List TC0)) (h0 : Sli M 1 (eL 8 emb_TC0) A0 cap0 d0) (A1 : Option Addr) (cap1 : Nat) (d1 : List (List TC0)) (h1 : Sli M 1 (eL 8 emb_TC0) A1 cap1 d1) (r : Bool) (hF : law11_CloudTurned n d0 d1 = some r) : Ok Tryz.prog M 5 [.slice A0 d0.length cap0, .slice A1 d1.length cap1] (fun _ v => v = .bool r) := by
 unfold law11_CloudTurned at hF
 intro M1 hM0 w0 H w p0
 replace hG := GL.mono hM0 hG
 replace h0 := h0.mono hM0
 replace h1 := h1.mono hM0
 refine R_enter 130 Tryz.func5 rfl rfl (by simp) fun a0 f0 => RR (Y f0 1 fun _ f => eT (R_seq (R_seq ?_)))
 obtain ⟨j_1, hj_1, F1⟩ := bS hF
 refine R_mid (fun a_5 W1 => ∃ G1 : Bool, j_1 = G1 ∧ ∃ V1 : Mem, M1.le V1 ∧ Frm 130 [(0, .slice A0 d0.length cap0), (1, .slice A1 d1.length cap1), (23, .bool G1)] a_5 ∧ Hp w0 V1 (H) W1) ?_ ?_
 ·refine R_reg (Y f 4 fun _ f => ?_)
  rcases cE hj_1 with ⟨B1, F2⟩ | ⟨B1, F3⟩
  ·have U1 := dI.1 B1
   have f := f.st 19 (cB B1)
   refine Y f 4 fun _ f => eT ?_
   exact ⟨(true), (sI F2).symm, M1, (mR _), f.kp, p0⟩
  ·have U2 := iff_f dI B1
   have f := f.st 19 (cB B1)
   refine Y f 4 fun _ f => eT ?_
   exact ⟨(decide ((12 : Int) < ((d1.length : Nat) : Int))), (sI F3).symm, M1, (mR _), f.kp, p0⟩
 ·rintro a_5 W1 ⟨G1, hq_1, V1, J1, f, N1⟩
  subst j_1
  refine T_n (RcF f F1 (fun B2 F4 => ?_) fun B2 F6 => ?_)
  ·refine RR ?_
   obtain ⟨X1, S1, F5⟩ := bS F4
   refine Y18 f N1 (law11_wakes_ok n _ (GL.mono J1 hG) X1 S1) fun W2 N2 _ f => Y f 1 fun _ f => eT (wp_ret (T_r (E_ret1 f rfl (by kernel_rfl : Vc.look _ 4 = some (.bool X1)) ?_)))
   obtain rfl := sI F5
   exact ⟨_, rfl, V1, J1, N2, rfl⟩
  ·refine wp_skip (T_n (RR ?_))
   obtain ⟨X2, S2, F7⟩ := bS F6
   refine Y17 (E := []) (H := (H)) f N1 (cloud_New_ok n _ (GL.mono J1 hG) X2 S2) fun _ V2 E_1 W3 J2 N3 q_1 _ f => ?_
   obtain ⟨y1, nb_1m0, rfl, rfl⟩ := q_1
   obtain ⟨X3, S3, F8⟩ := bS F7
   refine Y17 (E := []) (H := ((Ent.obj y1 (.cells #[.slice none 0 0, .int .i64 0, .slice none 0 0, .map (some nb_1m0), .slice none 0 0, .int .i64 0] 82 (0, 0))) :: (Ent.obj nb_1m0 (mapO (Value.int .i64) (fun x : TB0 => Value.agg #[.bool x.fEnded, .bool x.fOk, S x.fPhys]) ([] : List (Int × TB0)))) :: H)) f N3 (cloud_New_ok n _ (GL.mono (J1.trans J2) hG) X3 S3) fun _ V3 E_2 W4 J3 N4 q_2 _ f => ?_
   obtain ⟨y2, nb_2m0, rfl, rfl⟩ := q_2
   refine Y f 2 fun _ f => eT (RR (Y f 1 fun _ f => eT (R_seq (RR (Y f 3 fun _ f => eT (wp_block ?_))))))
   obtain ⟨Z1, P1, H1⟩ : ∃ A cap, Value.slice none 0 0 = .slice A ([] : List TF0).length cap := ⟨none, 0, rfl⟩
   have N5 : Hp w0 V3 ((Ent.row 42 5 (.slice Z1 ([] : List TF0).length P1) ([] : List TF0).length []) :: (Ent.obj y2 (.cells #[.slice none 0 0, .int .i64 0, .slice none 0 0, .map (some nb_2m0), .slice none 0 0, .int .i64 0] 82 (0, 0))) :: (Ent.obj nb_2m0 (mapO (Value.int .i64) (fun x : TB0 => Value.agg #[.bool x.fEnded, .bool x.fOk, S x.fPhys]) ([] : List (Int × TB0)))) :: (Ent.obj y1 (.cells #[.slice none 0 0, .int .i64 0, .slice Z1 ([] : List TF0).length P1, .map (some nb_1m0), .slice none 0 0, .int .i64 0] 82 (0, 0))) :: (Ent.obj nb_1m0 (mapO (Value.int .i64) (fun x : TB0 => Value.agg #[.bool x.fEnded, .bool x.fOk, S x.fPhys]) ([] : List (Int × TB0)))) :: H) W4 := by rw [← H1]; exact N4.nilRow 42 5
   have D1 : RepSeq V3 (([] : List TF0).map emb_TF0) [] := rfl
   obtain ⟨Z2, P2, H2⟩ : ∃ A cap, Value.slice none 0 0 = .slice A ([] : List TF0).length cap := ⟨none, 0, rfl⟩
   have N6 : Hp w0 V3 ((Ent.row 42 5 (.slice Z2 ([] : List TF0).length P2) ([] : List TF0).length []) :: (Ent.row 42 5 (.slice Z1 ([] : List TF0).length P1) ([] : List TF0).length []) :: (Ent.obj y2 (.cells #[.slice none 0 0, .int .i64 0, .slice none 0 0, .map (some nb_2m0), .slice none 0 0, .int .i64 0] 82 (0, 0))) :: (Ent.obj nb_2m0 (mapO (Value.int .i64) (fun x : TB0 => Value.agg #[.bool x.fEnded, .bool x.fOk, S x.fPhys]) ([] : List (Int × TB0)))) :: (Ent.obj y1 (.cells #[.slice none 0 0, .int .i64 0, .slice Z1 ([] : List TF0).length P1, .map (some nb_1m0), .slice Z2 ([] : List TF0).length P2, .int .i64 0] 82 (0, 0))) :: (Ent.obj nb_1m0 (mapO (Value.int .i64) (fun x : TB0 => Value.agg #[.bool x.fEnded, .bool x.fOk, S x.fPhys]) ([] : List (Int × TB0)))) :: H) W4 := by rw [← H2]; exact N5.nilRow 42 5
   have D2 : RepSeq V3 (([] : List TF0).map emb_TF0) [] := rfl
   obtain ⟨Z3, P3, H3⟩ : ∃ A cap, Value.slice none 0 0 = .slice A ([] : List TF0).length cap := ⟨none, 0, rfl⟩
   have N7 : Hp w0 V3 ((Ent.row 42 5 (.slice Z3 ([] : List TF0).length P3) ([] : List TF0).length []) :: (Ent.row 42 5 (.slice Z2 ([] : List TF0).length P2) ([] : List TF0).length []) :: (Ent.row 42 5 (.slice Z1 ([] : List TF0).length P1) ([] : List TF0).length []) :: (Ent.obj y2 (.cells #[.slice none 0 0, .int .i64 0, .slice Z3 ([] : List TF0).length P3, .map (some nb_2m0), .slice none 0 0, .int .i64 0] 82 (0, 0))) :: (Ent.obj nb_2m0 (mapO (Value.int .i64) (fun x : TB0 => Value.agg #[.bool x.fEnded, .bool x.fOk, S x.fPhys]) ([] : List (Int × TB0)))) :: (Ent.obj y1 (.cells #[.slice none 0 0, .int .i64 0, .slice Z1 ([] : List TF0).length P1, .map (some nb_1m0), .slice Z2 ([] : List TF0).length P2, .int .i64 0] 82 (0, 0))) :: (Ent.obj nb_1m0 (mapO (Value.int .i64) (fun x : TB0 => Value.agg #[.bool x.fEnded, .bool x.fOk, S x.fPhys]) ([] : List (Int × TB0)))) :: H) W4 := by rw [← H3]; exact N6.nilRow 42 5
   have D3 : RepSeq V3 (([] : List TF0).map emb_TF0) [] := rfl
   obtain ⟨Z4, P4, H4⟩ : ∃ A cap, Value.slice none 0 0 = .slice A ([] : List TF0).length cap := ⟨none, 0, rfl⟩
   have N8 : Hp w0 V3 ((Ent.row 42 5 (.slice Z4 ([] : List TF0).length P4) ([] : List TF0).length []) :: (Ent.row 42 5 (.slice Z3 ([] : List TF0).length P3) ([] : List TF0).length []) :: (Ent.row 42 5 (.slice Z2 ([] : List TF0).length P2) ([] : List TF0).length []) :: (Ent.row 42 5 (.slice Z1 ([] : List TF0).length P1) ([] : List TF0).length []) :: (Ent.obj y2 (.cells #[.slice none 0 0, .int .i64 0, .slice Z3 ([] : List TF0).length P3, .map (some nb_2m0), .slice Z4 ([] : List TF0).length P4, .int .i64 0] 82 (0, 0))) :: (Ent.obj nb_2m0 (mapO (Value.int .i64) (fun x : TB0 => Value.agg #[.bool x.fEnded, .bool x.fOk, S x.fPhys]) ([] : List (Int × TB0)))) :: (Ent.obj y1 (.cells #[.slice none 0 0, .int .i64 0, .slice Z1 ([] : List TF0).length P1, .map (some nb_1m0), .slice Z2 ([] : List TF0).length P2, .int .i64 0] 82 (0, 0))) :: (Ent.obj nb_1m0 (mapO (Value.int .i64) (fun x : TB0 => Value.agg #[.bool x.fEnded, .bool x.fOk, S x.fPhys]) ([] : List (Int × TB0)))) :: H) W4 := by rw [← H4]; exact N7.nilRow 42 5
   have D4 : RepSeq V3 (([] : List TF0).map emb_TF0) [] := rfl
   have N16 := N8.pl [6, 5, 6, 3, 4, 7, 6, 7]
   obtain ⟨Q1, hL_1, F9⟩ := bS F8
   refine wp_mono (Q := fun e a w => (e = .ret ∧ (∃ G2 : Bool × List TD0 × Int × List TF0 × List TF0 × Int × List TD0 × Int × List TF0 × List TF0 × Int × (List (Int × TB0)) × (List (Int × TB0)), Q1 = .inl G2 ∧ ∃ V9 : Mem, V3.le V9 ∧ ∃ (Z24 : Option Addr), ∃ (P24 : Nat), ∃ (Z25 : Option Addr), ∃ (P25 : Nat), ∃ (L13 : List Value), ∃ (Z26 : Option Addr), ∃ (P26 : Nat), ∃ (L14 : List Value), ∃ (Z27 : Option Addr), ∃ (P27 : Nat), ∃ (Z28 : Option Addr), ∃ (P28 : Nat), ∃ (L15 : List Value), ∃ (Z29 : Option Addr), ∃ (P29 : Nat), ∃ (L16 : List Value), Sli V9 3 emb_TD0 Z24 P24 G2.2.1 ∧ RepSeq V9 (G2.2.2.2.1.map emb_TF0) L13 ∧ RepSeq V9 (G2.2.2.2.2.1.map emb_TF0) L14 ∧ Sli V9 3 emb_TD0 Z27 P27 G2.2.2.2.2.2.2.1 ∧ RepSeq V9 (G2.2.2.2.2.2.2.2.2.1.map emb_TF0) L15 ∧ RepSeq V9 (G2.2.2.2.2.2.2.2.2.2.1.map emb_TF0) L16 ∧ Frm 130 [(4, .bool G2.1)] a ∧ Hp w0 V9 ((Ent.row 42 5 (.slice Z25 G2.2.2.2.1.length P25) G2.2.2.2.1.length L13) :: (Ent.row 42 5 (.slice Z26 G2.2.2.2.2.1.length P26) G2.2.2.2.2.1.length L14) :: (Ent.row 42 5 (.slice Z28 G2.2.2.2.2.2.2.2.2.1.length P28) G2.2.2.2.2.2.2.2.2.1.length L15) :: (Ent.row 42 5 (.slice Z29 G2.2.2.2.2.2.2.2.2.2.1.length P29) G2.2.2.2.2.2.2.2.2.2.1.length L16) :: (Ent.obj nb_1m0 (mapO (Value.int .i64) (fun x : TB0 => Value.agg #[.bool x.fEnded, .bool x.fOk, S x.fPhys]) G2.2.2.2.2.2.2.2.2.2.2.2.1)) :: (Ent.obj nb_2m0 (mapO (Value.int .i64) (fun x : TB0 => Value.agg #[.bool x.fEnded, .bool x.fOk, S x.fPhys]) G2.2.2.2.2.2.2.2.2.2.2.2.2)) :: (Ent.obj y2 (.cells #[.slice Z24 G2.2.1.length P24, .int .i64 G2.2.2.1, .slice Z25 G2.2.2.2.1.length P25, .map (some nb_2m0), .slice Z26 G2.2.2.2.2.1.length P26, .int .i64 G2.2.2.2.2.2.1] 82 (0, 0))) :: (Ent.obj y1 (.cells #[.slice Z27 G2.2.2.2.2.2.2.1.length P27, .int .i64 G2.2.2.2.2.2.2.2.1, .slice Z28 G2.2.2.2.2.2.2.2.2.1.length P28, .map (some nb_1m0), .slice Z29 G2.2.2.2.2.2.2.2.2.2.1.length P29, .int .i64 G2.2.2.2.2.2.2.2.2.2.2.1] 82 (0, 0))) :: H) w)) ∨ (e = .exit 0 ∧ (∃ G3 : Int × List TD0 × Int × List TF0 × List TF0 × Int × List TD0 × Int × List TF0 × List TF0 × Int × (List (Int × TB0)) × (List (Int × TB0)), Q1 = .inr G3 ∧ ∃ V10 : Mem, V3.le V10 ∧ ∃ (Z30 : Option Addr), ∃ (P30 : Nat), ∃ (Z31 : Option Addr), ∃ (P31 : Nat), ∃ (L17 : List Value), ∃ (Z32 : Option Addr), ∃ (P32 : Nat), ∃ (L18 : List Value), ∃ (Z33 : Option Addr), ∃ (P33 : Nat), ∃ (Z34 : Option Addr), ∃ (P34 : Nat), ∃ (L19 : List Value), ∃ (Z35 : Option Addr), ∃ (P35 : Nat), ∃ (L20 : List Value), Sli V10 3 emb_TD0 Z30 P30 G3.2.1 ∧ RepSeq V10 (G3.2.2.2.1.map emb_TF0) L17 ∧ RepSeq V10 (G3.2.2.2.2.1.map emb_TF0) L18 ∧ Sli V10 3 emb_TD0 Z33 P33 G3.2.2.2.2.2.2.1 ∧ RepSeq V10 (G3.2.2.2.2.2.2.2.2.1.map emb_TF0) L19 ∧ RepSeq V10 (G3.2.2.2.2.2.2.2.2.2.1.map emb_TF0) L20 ∧ Frm 130 [(1, .slice A1 d1.length cap1), (5, .pointer (some (⟨y1, 0, none⟩))), (6, .pointer (some (⟨y2, 0, none⟩))), (7, .int .i64 G3.1)] a ∧ Hp w0 V10 ((Ent.row 42 5 (.slice Z31 G3.2.2.2.1.length P31) G3.2.2.2.1.length L17) :: (Ent.row 42 5 (.slice Z32 G3.2.2.2.2.1.length P32) G3.2.2.2.2.1.length L18) :: (Ent.row 42 5 (.slice Z34 G3.2.2.2.2.2.2.2.2.1.length P34) G3.2.2.2.2.2.2.2.2.1.length L19) :: (Ent.row 42 5 (.slice Z35 G3.2.2.2.2.2.2.2.2.2.1.length P35) G3.2.2.2.2.2.2.2.2.2.1.length L20) :: (Ent.obj nb_1m0 (mapO (Value.int .i64) (fun x : TB0 => Value.agg #[.bool x.fEnded, .bool x.fOk, S x.fPhys]) G3.2.2.2.2.2.2.2.2.2.2.2.1)) :: (Ent.obj nb_2m0 (mapO (Value.int .i64) (fun x : TB0 => Value.agg #[.bool x.fEnded, .bool x.fOk, S x.fPhys]) G3.2.2.2.2.2.2.2.2.2.2.2.2)) :: (Ent.obj y2 (.cells #[.slice Z30 G3.2.1.length P30, .int .i64 G3.2.2.1, .slice Z31 G3.2.2.2.1.length P31, .map (some nb_2m0), .slice Z32 G3.2.2.2.2.1.length P32, .int .i64 G3.2.2.2.2.2.1] 82 (0, 0))) :: (Ent.obj y1 (.cells #[.slice Z33 G3.2.2.2.2.2.2.1.length P33, .int .i64 G3.2.2.2.2.2.2.2.1, .slice Z34 G3.2.2.2.2.2.2.2.2.1.length P34, .map (some nb_1m0), .slice Z35 G3.2.2.2.2.2.2.2.2.2.1.length P35, .int .i64 G3.2.2.2.2.2.2.2.2.2.2.1] 82 (0, 0))) :: H) w))) (R_loop (n := 130) (w0 := w0) (M := V3) (fun (x : Nat × (Int × Int × List TD0 × Int × List TF0 × List TF0 × Int × (List (Int × TB0)) × List TD0 × Int × List TF0 × List TF0 × Int × (List (Int × TB0))) × (Option Addr) × Nat × (Option Addr) × Nat × (List Value) × (Option Addr) × Nat × (List Value) × (Option Addr) × Nat × (Option Addr) × Nat × (List Value) × (Option Addr) × Nat × (List Value)) => match x with | (I1, K1, Z5, P5, Z6, P6, L1, Z7, P7, L2, Z8, P8, Z9, P9, L3, Z10, P10, L4) => [(1, .slice A1 d1.length cap1), (5, .pointer (some (⟨y1, 0, none⟩))), (6, .pointer (some (⟨y2, 0, none⟩))), (7, .int .i64 K1.1), (27, .slice A0 d0.length cap0), (28, .int .i64 ((d0.length : Nat) : Int)), (29, .int .i64 K1.2.1)]) (fun (x : Nat × (Int × Int × List TD0 × Int × List TF0 × List TF0 × Int × (List (Int × TB0)) × List TD0 × Int × List TF0 × List TF0 × Int × (List (Int × TB0))) × (Option Addr) × Nat × (Option Addr) × Nat × (List Value) × (Option Addr) × Nat × (List Value) × (Option Addr) × Nat × (Option Addr) × Nat × (List Value) × (Option Addr) × Nat × (List Value)) => match x with | (I1, K1, Z5, P5, Z6, P6, L1, Z7, P7, L2, Z8, P8, Z9, P9, L3, Z10, P10, L4) => ((Ent.row 42 5 (.slice Z6 K1.2.2.2.2.1.length P6) K1.2.2.2.2.1.length L1) :: (Ent.row 42 5 (.slice Z7 K1.2.2.2.2.2.1.length P7) K1.2.2.2.2.2.1.length L2) :: (Ent.obj nb_1m0 (mapO (Value.int .i64) (fun x : TB0 => Value.agg #[.bool x.fEnded, .bool x.fOk, S x.fPhys]) K1.2.2.2.2.2.2.2.1)) :: (Ent.row 42 5 (.slice Z9 K1.2.2.2.2.2.2.2.2.2.2.1.length P9) K1.2.2.2.2.2.2.2.2.2.2.1.length L3) :: (Ent.row 42 5 (.slice Z10 K1.2.2.2.2.2.2.2.2.2.2.2.1.length P10) K1.2.2.2.2.2.2.2.2.2.2.2.1.length L4) :: (Ent.obj nb_2m0 (mapO (Value.int .i64) (fun x : TB0 => Value.agg #[.bool x.fEnded, .bool x.fOk, S x.fPhys]) K1.2.2.2.2.2.2.2.2.2.2.2.2.2)) :: (Ent.obj y2 (.cells #[.slice Z8 K1.2.2.2.2.2.2.2.2.1.length P8, .int .i64 K1.2.2.2.2.2.2.2.2.2.1, .slice Z9 K1.2.2.2.2.2.2.2.2.2.2.1.length P9, .map (some nb_2m0), .slice Z10 K1.2.2.2.2.2.2.2.2.2.2.2.1.length P10, .int .i64 K1.2.2.2.2.2.2.2.2.2.2.2.2.1] 82 (0, 0))) :: (Ent.obj y1 (.cells #[.slice Z5 K1.2.2.1.length P5, .int .i64 K1.2.2.2.1, .slice Z6 K1.2.2.2.2.1.length P6, .map (some nb_1m0), .slice Z7 K1.2.2.2.2.2.1.length P7, .int .i64 K1.2.2.2.2.2.2.1] 82 (0, 0))) :: H)) (fun (x : Nat × (Int × Int × List TD0 × Int × List TF0 × List TF0 × Int × (List (Int × TB0)) × List TD0 × Int × List TF0 × List TF0 × Int × (List (Int × TB0))) × (Option Addr) × Nat × (Option Addr) × Nat × (List Value) × (Option Addr) × Nat × (List Value) × (Option Addr) × Nat × (Option Addr) × Nat × (List Value) × (Option Addr) × Nat × (List Value)) (MM : Mem) => match x with | (I1, K1, Z5, P5, Z6, P6, L1, Z7, P7, L2, Z8, P8, Z9, P9, L3, Z10, P10, L4) => loopF (law11_CloudTurned_s1 n d0) I1 K1 = some Q1 ∧ Sli MM 3 emb_TD0 Z5 P5 K1.2.2.1 ∧ RepSeq MM (K1.2.2.2.2.1.map emb_TF0) L1 ∧ RepSeq MM (K1.2.2.2.2.2.1.map emb_TF0) L2 ∧ Sli MM 3 emb_TD0 Z8 P8 K1.2.2.2.2.2.2.2.2.1 ∧ RepSeq MM (K1.2.2.2.2.2.2.2.2.2.2.1.map emb_TF0) L3 ∧ RepSeq MM (K1.2.2.2.2.2.2.2.2.2.2.2.1.map emb_TF0) L4) (fun (x : Nat × (Int × Int × List TD0 × Int × List TF0 × List TF0 × Int × (List (Int × TB0)) × List TD0 × Int × List TF0 × List TF0 × Int × (List (Int × TB0))) × (Option Addr) × Nat × (Option Addr) × Nat × (List Value) × (Option Addr) × Nat × (List Value) × (Option Addr) × Nat × (Option Addr) × Nat × (List Value) × (Option Addr) × Nat × (List Value)) => match x with | (I1, K1, Z5, P5, Z6, P6, L1, Z7, P7, L2, Z8, P8, Z9, P9, L3, Z10, P10, L4) => I1) (n, ((0 : Int), (0 : Int), ([] : List TD0), (0 : Int), ([] : List TF0), ([] : List TF0), (0 : Int), ([] : List (Int × TB0)), ([] : List TD0), (0 : Int), ([] : List TF0), ([] : List TF0), (0 : Int), ([] : List (Int × TB0))), none, 0, Z1, P1, [], Z2, P2, [], none, 0, Z3, P3, [], Z4, P4, []) (f.kp) N16 ⟨hL_1, Sli.nil, D1, D2, Sli.nil, D3, D4⟩ ?_) ?_
   ·rintro ⟨I1, K1, Z5, P5, Z6, P6, L1, Z7, P7, L2, Z8, P8, Z9, P9, L3, Z10, P10, L4⟩ V4 _ W5 J4 I_1 f N17
    obtain ⟨I_1L, B3, D5, D6, B4, D7, D8⟩ := I_1
    obtain ⟨I2, r_1, rfl, hs_1, T1⟩ := loop_step I_1L
    unfold law11_CloudTurned_s1 at hs_1
    refine RR (Y f 1 fun _ f => eT (R_seq (RcF f hs_1 (fun B5 F10 => ?_) fun B5 F26 => ?_)))
    ·have U5 := dI.1 B5
     refine wp_skip (T_n (R_seq (wp_block (RR (Y f 1 fun _ f => ?_)))))
     obtain ⟨X4, S4, F11⟩ := bS F10
     obtain ⟨C1, c_1, e_1, -, D9, R1⟩ := Sli.at_ (h0.mono (((J1.trans J2).trans J3).trans J4)) S4
     obtain ⟨Z11, P11, rfl, B6⟩ := Rep.sli D9
     refine Z f (Y32 e_1 rfl (len := d0.length) (cap := cap0) (k := .i64) (i := K1.2.1) (e := 37) (sz := 1) (getI_nn S4) (getI_lt S4)) fun _ f => Y15 f N17 R1 0 rfl fun _ f => Y f 2 fun _ f => eT (R_seq (RR (Y f 1 fun _ f => ?_)))
     obtain ⟨X5, S5, F12⟩ := bS F11
     refine Y18 f N17 (ref09_Great_ok n _ (GL.mono (((J1.trans J2).trans J3).trans J4) hG) Z11 P11 X4 B6 X5 S5) fun W6 N18 _ f => eT (RcF f F12 (fun B7 F13 => ?_) fun B7 F15 => ?_)
     ·refine RR ?_
      obtain ⟨X6, S6, F14⟩ := bS F13
      refine Y18 f N18 (law11_wakes_ok n _ (GL.mono (((J1.trans J2).trans J3).trans J4) hG) X6 S6) fun W7 N19 _ f => Y f 1 fun _ f => eT (wp_ret (T_r (B_r (T_r ?_))))
      have N51 := N19.pl [7, 7, 7, 5, 5, 5, 7, 7]
      refine T_r ?_
      obtain rfl := sI F14
      exact .inl ⟨rfl, ((X6), K1.2.2.2.2.2.2.2.2.1, K1.2.2.2.2.2.2.2.2.2.1, K1.2.2.2.2.2.2.2.2.2.2.1, K1.2.2.2.2.2.2.2.2.2.2.2.1, K1.2.2.2.2.2.2.2.2.2.2.2.2.1, K1.2.2.1, K1.2.2.2.1, K1.2.2.2.2.1, K1.2.2.2.2.2.1, K1.2.2.2.2.2.2.1, K1.2.2.2.2.2.2.2.1, K1.2.2.2.2.2.2.2.2.2.2.2.2.2), (sI T1).symm, V4, J4, Z8, P8, Z9, P9, L3, Z10, P10, L4, Z5, P5, Z6, P6, L1, Z7, P7, L2, B4, D7, D8, B3, D5, D6, f.kp, N51⟩
     ·refine wp_skip (T_n (RR (Y f 1 fun _ f => ?_)))
      obtain ⟨O1, F16⟩ := nS F15
      refine Y f 1 fun _ f => ?_
      have f := f.st 38 (iW O1)
      refine Y f 2 fun _ f => Y12 f N18 (.cells #[.int .i64 0, .int .i8 0, S [], S [], .slice none 0 0] 42 (0, 0)) fun Q2 W8 N20 _ f => Y28 (vs := [.int .i64 (K1.2.1 + 1), .int .i8 0, S [], S [68, 105, 115, 107], .slice Z11 X4.length P11]) (j := 0) f N20 rfl rfl (by simp [Value.oneCell', S]) (by simp) (by decide) (cs' := #[.int .i64 (K1.2.1 + 1), .int .i8 0, S [], S [68, 105, 115, 107], .slice Z11 X4.length P11]) (by kernel_rfl) fun W9 N21 _ f => eT (R_seq (RR (Y f 1 fun _ f => Z (v := .agg #[.int .i64 (K1.2.1 + 1), .int .i8 0, S [], S [68, 105, 115, 107], .slice Z11 X4.length P11]) f (Y34 (cs := [.int .i64 (K1.2.1 + 1), .int .i8 0, S [], S [68, 105, 115, 107], .slice Z11 X4.length P11]) rfl (ad := ⟨Q2, 0, none⟩) (own_cells (N21.ownCell 0 rfl) 0 rfl)) fun _ f => ?_)))
      obtain ⟨X7, S7, F17⟩ := bS F16
      have N26 := N21.pl [2, 3, 3, 8]
      refine Y17 (E := [Ent.obj y1 (.cells #[.slice Z5 K1.2.2.1.length P5, .int .i64 K1.2.2.2.1, .slice Z6 K1.2.2.2.2.1.length P6, .map (some nb_1m0), .slice Z7 K1.2.2.2.2.2.1.length P7, .int .i64 K1.2.2.2.2.2.2.1] 82 (0, 0)), Ent.row 42 5 (.slice Z6 K1.2.2.2.2.1.length P6) K1.2.2.2.2.1.length L1, Ent.obj nb_1m0 (mapO (Value.int .i64) (fun x : TB0 => Value.agg #[.bool x.fEnded, .bool x.fOk, S x.fPhys]) K1.2.2.2.2.2.2.2.1), Ent.row 42 5 (.slice Z7 K1.2.2.2.2.2.1.length P7) K1.2.2.2.2.2.1.length L2]) (H := ((Ent.obj Q2 (.cells #[.int .i64 (K1.2.1 + 1), .int .i8 0, S [], S [68, 105, 115, 107], .slice Z11 X4.length P11] 42 (0, 0))) :: (Ent.row 42 5 (.slice Z9 K1.2.2.2.2.2.2.2.2.2.2.1.length P9) K1.2.2.2.2.2.2.2.2.2.2.1.length L3) :: (Ent.row 42 5 (.slice Z10 K1.2.2.2.2.2.2.2.2.2.2.2.1.length P10) K1.2.2.2.2.2.2.2.2.2.2.2.1.length L4) :: (Ent.obj nb_2m0 (mapO (Value.int .i64) (fun x : TB0 => Value.agg #[.bool x.fEnded, .bool x.fOk, S x.fPhys]) K1.2.2.2.2.2.2.2.2.2.2.2.2.2)) :: (Ent.obj y2 (.cells #[.slice Z8 K1.2.2.2.2.2.2.2.2.1.length P8, .int .i64 K1.2.2.2.2.2.2.2.2.2.1, .slice Z9 K1.2.2.2.2.2.2.2.2.2.2.1.length P9, .map (some nb_2m0), .slice Z10 K1.2.2.2.2.2.2.2.2.2.2.2.1.length P10, .int .i64 K1.2.2.2.2.2.2.2.2.2.2.2.2.1] 82 (0, 0))) :: H)) f N26 (cloud_Cloud_Submit_ok n _ (GL.mono (((J1.trans J2).trans J3).trans J4) hG) y1 K1.2.2.1 Z5 P5 B3 K1.2.2.2.1 K1.2.2.2.2.1 Z6 P6 L1 D5 nb_1m0 K1.2.2.2.2.2.2.2.1 K1.2.2.2.2.2.1 Z7 P7 L2 D6 K1.2.2.2.2.2.2.1 _ (⟨K1.2.1 + 1, (0 : Int), ([] : List UInt8), [68, 105, 115, 107], X4⟩ : TF0) (TF0.shut B6) X7 S7) fun _ V5 E_3 W10 J5 N22 q_3 _ f => ?_
      obtain ⟨Z12, P12, Z13, P13, L5, Z14, P14, L6, rfl, rfl, B8, D10, D11⟩ := q_3
      refine Y f 1 fun _ f => eT (RcF f F17 (fun B9 F18 => ?_) fun B9 F20 => ?_)
      ·have U8 : ¬ (X7.1 = 0) := (not_iff dI).1 B9
       refine wp_exit (T_x (B_x (T_n (R_reg ?_))))
       obtain ⟨O2, F19⟩ := nS F18
       refine Y f 1 fun _ f => ?_
       have f := f.st 54 (iW O2)
       refine Y f 1 fun _ f => W_end rfl ?_
       have N59 := N22.pl [8, 8, 8, 8, 6, 7, 7, 8]
       refine T_n ?_
       obtain rfl := sI F19
       exact ⟨⟨I2, (K1.1, K1.2.1 + 1, X7.2.1, X7.2.2.1, X7.2.2.2.1, X7.2.2.2.2.2.1, X7.2.2.2.2.2.2, X7.2.2.2.2.1, K1.2.2.2.2.2.2.2.2.1, K1.2.2.2.2.2.2.2.2.2.1, K1.2.2.2.2.2.2.2.2.2.2.1, K1.2.2.2.2.2.2.2.2.2.2.2.1, K1.2.2.2.2.2.2.2.2.2.2.2.2.1, K1.2.2.2.2.2.2.2.2.2.2.2.2.2), Z12, P12, Z13, P13, L5, Z14, P14, L6, Z8, P8, Z9, P9, L3, Z10, P10, L4⟩, Nat.lt_succ_self _, V5, (J4.trans J5), ⟨T1, B8, D10, D11, (B4.mono J5), (RepSeq.mono J5 _ _ D7), (RepSeq.mono J5 _ _ D8)⟩, f.kp, (N59.dropN 1)⟩
      ·have U9 : ¬ (¬ (X7.1 = 0)) := iff_f (not_iff dI) B9
       refine wp_skip (T_n (RR (Y f 1 fun _ f => Z (v := .agg #[.int .i64 (K1.2.1 + 1), .int .i8 0, S [], S [68, 105, 115, 107], .slice Z11 X4.length P11]) f (Y34 (cs := [.int .i64 (K1.2.1 + 1), .int .i8 0, S [], S [68, 105, 115, 107], .slice Z11 X4.length P11]) rfl (ad := ⟨Q2, 0, none⟩) (own_cells (N22.ownCell 4 rfl) 0 rfl)) fun _ f => ?_)))
       obtain ⟨X8, S8, F21⟩ := bS F20
       have N31 := N22.pl [6, 7, 7, 8]
       refine Y17 (E := [Ent.obj y2 (.cells #[.slice Z8 K1.2.2.2.2.2.2.2.2.1.length P8, .int .i64 K1.2.2.2.2.2.2.2.2.2.1, .slice Z9 K1.2.2.2.2.2.2.2.2.2.2.1.length P9, .map (some nb_2m0), .slice Z10 K1.2.2.2.2.2.2.2.2.2.2.2.1.length P10, .int .i64 K1.2.2.2.2.2.2.2.2.2.2.2.2.1] 82 (0, 0)), Ent.row 42 5 (.slice Z9 K1.2.2.2.2.2.2.2.2.2.2.1.length P9) K1.2.2.2.2.2.2.2.2.2.2.1.length L3, Ent.obj nb_2m0 (mapO (Value.int .i64) (fun x : TB0 => Value.agg #[.bool x.fEnded, .bool x.fOk, S x.fPhys]) K1.2.2.2.2.2.2.2.2.2.2.2.2.2), Ent.row 42 5 (.slice Z10 K1.2.2.2.2.2.2.2.2.2.2.2.1.length P10) K1.2.2.2.2.2.2.2.2.2.2.2.1.length L4]) (H := ((Ent.obj y1 (.cells #[.slice Z12 X7.2.1.length P12, .int .i64 X7.2.2.1, .slice Z13 X7.2.2.2.1.length P13, .map (some nb_1m0), .slice Z14 X7.2.2.2.2.2.1.length P14, .int .i64 X7.2.2.2.2.2.2] 82 (0, 0))) :: (Ent.row 42 5 (.slice Z13 X7.2.2.2.1.length P13) X7.2.2.2.1.length L5) :: (Ent.obj nb_1m0 (mapO (Value.int .i64) (fun x : TB0 => Value.agg #[.bool x.fEnded, .bool x.fOk, S x.fPhys]) X7.2.2.2.2.1)) :: (Ent.row 42 5 (.slice Z14 X7.2.2.2.2.2.1.length P14) X7.2.2.2.2.2.1.length L6) :: (Ent.obj Q2 (.cells #[.int .i64 (K1.2.1 + 1), .int .i8 0, S [], S [68, 105, 115, 107], .slice Z11 X4.length P11] 42 (0, 0))) :: H)) f N31 (cloud_Cloud_Submit_ok n _ (GL.mono ((((J1.trans J2).trans J3).trans J4).trans J5) hG) y2 K1.2.2.2.2.2.2.2.2.1 Z8 P8 (B4.mono J5) K1.2.2.2.2.2.2.2.2.2.1 K1.2.2.2.2.2.2.2.2.2.2.1 Z9 P9 L3 (RepSeq.mono J5 _ _ D7) nb_2m0 K1.2.2.2.2.2.2.2.2.2.2.2.2.2 K1.2.2.2.2.2.2.2.2.2.2.2.1 Z10 P10 L4 (RepSeq.mono J5 _ _ D8) K1.2.2.2.2.2.2.2.2.2.2.2.2.1 _ (⟨K1.2.1 + 1, (0 : Int), ([] : List UInt8), [68, 105, 115, 107], X4⟩ : TF0) (TF0.shut (B6.mono J5)) X8 S8) fun _ V6 E_4 W11 J6 N27 q_4 _ f => ?_
       obtain ⟨Z15, P15, Z16, P16, L7, Z17, P17, L8, rfl, rfl, B10, D12, D13⟩ := q_4
       refine eT (RR (Y f 1 fun _ f => ?_))
       obtain ⟨X9, S9, F22⟩ := bS F21
       have N36 := N27.pl [7, 7, 7, 7]
       refine Y17 (E := [Ent.obj y1 (.cells #[.slice Z12 X7.2.1.length P12, .int .i64 X7.2.2.1, .slice Z13 X7.2.2.2.1.length P13, .map (some nb_1m0), .slice Z14 X7.2.2.2.2.2.1.length P14, .int .i64 X7.2.2.2.2.2.2] 82 (0, 0)), Ent.row 42 5 (.slice Z13 X7.2.2.2.1.length P13) X7.2.2.2.1.length L5, Ent.obj nb_1m0 (mapO (Value.int .i64) (fun x : TB0 => Value.agg #[.bool x.fEnded, .bool x.fOk, S x.fPhys]) X7.2.2.2.2.1), Ent.row 42 5 (.slice Z14 X7.2.2.2.2.2.1.length P14) X7.2.2.2.2.2.1.length L6]) (H := ((Ent.obj y2 (.cells #[.slice Z15 X8.2.1.length P15, .int .i64 X8.2.2.1, .slice Z16 X8.2.2.2.1.length P16, .map (some nb_2m0), .slice Z17 X8.2.2.2.2.2.1.length P17, .int .i64 X8.2.2.2.2.2.2] 82 (0, 0))) :: (Ent.row 42 5 (.slice Z16 X8.2.2.2.1.length P16) X8.2.2.2.1.length L7) :: (Ent.obj nb_2m0 (mapO (Value.int .i64) (fun x : TB0 => Value.agg #[.bool x.fEnded, .bool x.fOk, S x.fPhys]) X8.2.2.2.2.1)) :: (Ent.row 42 5 (.slice Z17 X8.2.2.2.2.2.1.length P17) X8.2.2.2.2.2.1.length L8) :: (Ent.obj Q2 (.cells #[.int .i64 (K1.2.1 + 1), .int .i8 0, S [], S [68, 105, 115, 107], .slice Z11 X4.length P11] 42 (0, 0))) :: H)) f N36 (cloud_Cloud_End_ok n _ (GL.mono (((((J1.trans J2).trans J3).trans J4).trans J5).trans J6) hG) y1 X7.2.1 Z12 P12 (B8.mono J6) X7.2.2.1 X7.2.2.2.1 Z13 P13 L5 (RepSeq.mono J6 _ _ D10) nb_1m0 X7.2.2.2.2.1 X7.2.2.2.2.2.1 Z14 P14 L6 (RepSeq.mono J6 _ _ D11) X7.2.2.2.2.2.2 (0 : Int) (true) X9 S9) fun _ V7 E_5 W12 J7 N32 q_5 _ f => ?_
       obtain ⟨c_2, Z18, P18, Z19, P19, L9, Z20, P20, L10, rfl, rfl, D14, B11, D15, D16⟩ := q_5
       obtain rfl := TB0.opn D14
       refine eT (RR (Y f 1 fun _ f => ?_))
       obtain ⟨X10, S10, F23⟩ := bS F22
       have N41 := N32.pl [7, 7, 7, 7]
       refine Y17 (E := [Ent.obj y2 (.cells #[.slice Z15 X8.2.1.length P15, .int .i64 X8.2.2.1, .slice Z16 X8.2.2.2.1.length P16, .map (some nb_2m0), .slice Z17 X8.2.2.2.2.2.1.length P17, .int .i64 X8.2.2.2.2.2.2] 82 (0, 0)), Ent.row 42 5 (.slice Z16 X8.2.2.2.1.length P16) X8.2.2.2.1.length L7, Ent.obj nb_2m0 (mapO (Value.int .i64) (fun x : TB0 => Value.agg #[.bool x.fEnded, .bool x.fOk, S x.fPhys]) X8.2.2.2.2.1), Ent.row 42 5 (.slice Z17 X8.2.2.2.2.2.1.length P17) X8.2.2.2.2.2.1.length L8]) (H := ((Ent.obj y1 (.cells #[.slice Z18 X9.2.2.2.1.length P18, .int .i64 X9.2.2.2.2.1, .slice Z19 X9.2.2.2.2.2.1.length P19, .map (some nb_1m0), .slice Z20 X9.2.2.2.2.2.2.2.1.length P20, .int .i64 X9.2.2.2.2.2.2.2.2] 82 (0, 0))) :: (Ent.row 42 5 (.slice Z19 X9.2.2.2.2.2.1.length P19) X9.2.2.2.2.2.1.length L9) :: (Ent.obj nb_1m0 (mapO (Value.int .i64) (fun x : TB0 => Value.agg #[.bool x.fEnded, .bool x.fOk, S x.fPhys]) X9.2.2.2.2.2.2.1)) :: (Ent.row 42 5 (.slice Z20 X9.2.2.2.2.2.2.2.1.length P20) X9.2.2.2.2.2.2.2.1.length L10) :: (Ent.obj Q2 (.cells #[.int .i64 (K1.2.1 + 1), .int .i8 0, S [], S [68, 105, 115, 107], .slice Z11 X4.length P11] 42 (0, 0))) :: H)) f N41 (cloud_Cloud_End_ok n _ (GL.mono ((((((J1.trans J2).trans J3).trans J4).trans J5).trans J6).trans J7) hG) y2 X8.2.1 Z15 P15 (B10.mono J7) X8.2.2.1 X8.2.2.2.1 Z16 P16 L7 (RepSeq.mono J7 _ _ D12) nb_2m0 X8.2.2.2.2.1 X8.2.2.2.2.2.1 Z17 P17 L8 (RepSeq.mono J7 _ _ D13) X8.2.2.2.2.2.2 (0 : Int) (true) X10 S10) fun _ V8 E_6 W13 J8 N37 q_6 _ f => ?_
       obtain ⟨c_3, Z21, P21, Z22, P22, L11, Z23, P23, L12, rfl, rfl, D17, B12, D18, D19⟩ := q_6
       obtain rfl := TB0.opn D17
       refine eT (R_reg (Y f 1 fun _ f => ?_))
       obtain ⟨O3, F24⟩ := nS F23
       refine Y f 1 fun _ f => ?_
       have f := f.st 53 (iW O3)
       refine Y f 1 fun _ f => W_end rfl (B_n (T_n (R_reg ?_)))
       obtain ⟨O4, F25⟩ := nS F24
       refine Y f 1 fun _ f => ?_
       have f := f.st 54 (iW O4)
       refine Y f 1 fun _ f => W_end rfl ?_
       have N68 := N37.pl [4, 1, 3, 4, 4, 6, 7, 7, 8]
       refine T_n ?_
       obtain rfl := sI F25
       exact ⟨⟨I2, (K1.1 + 1, K1.2.1 + 1, X9.2.2.2.1, X9.2.2.2.2.1, X9.2.2.2.2.2.1, X9.2.2.2.2.2.2.2.1, X9.2.2.2.2.2.2.2.2, X9.2.2.2.2.2.2.1, X10.2.2.2.1, X10.2.2.2.2.1, X10.2.2.2.2.2.1, X10.2.2.2.2.2.2.2.1, X10.2.2.2.2.2.2.2.2, X10.2.2.2.2.2.2.1), Z18, P18, Z19, P19, L9, Z20, P20, L10, Z21, P21, Z22, P22, L11, Z23, P23, L12⟩, Nat.lt_succ_self _, V8, ((((J4.trans J5).trans J6).trans J7).trans J8), ⟨T1, (B11.mono J8), (RepSeq.mono J8 _ _ D15), (RepSeq.mono J8 _ _ D16), B12, D18, D19⟩, f.kp, (N68.dropN 1)⟩
    ·have U10 := iff_f dI B5
     refine wp_exit (T_x ?_)
     have N76 := N17.pl [7, 7, 7, 5, 5, 5, 7, 7]
     refine T_x ?_
     obtain rfl := sI F26
     exact .inr ⟨rfl, (K1.1, K1.2.2.2.2.2.2.2.2.1, K1.2.2.2.2.2.2.2.2.2.1, K1.2.2.2.2.2.2.2.2.2.2.1, K1.2.2.2.2.2.2.2.2.2.2.2.1, K1.2.2.2.2.2.2.2.2.2.2.2.2.1, K1.2.2.1, K1.2.2.2.1, K1.2.2.2.2.1, K1.2.2.2.2.2.1, K1.2.2.2.2.2.2.1, K1.2.2.2.2.2.2.2.1, K1.2.2.2.2.2.2.2.2.2.2.2.2.2), (sI T1).symm, V4, J4, Z8, P8, Z9, P9, L3, Z10, P10, L4, Z5, P5, Z6, P6, L1, Z7, P7, L2, B4, D7, D8, B3, D5, D6, f.kp, N76⟩
   ·rintro _ _ W16 (⟨rfl, G2, rfl, V9, J9, Z24, P24, Z25, P25, L13, Z26, P26, L14, Z27, P27, Z28, P28, L15, Z29, P29, L16, B13, D20, D21, B14, D22, D23, f, N42⟩ | ⟨rfl, G3, rfl, V10, J10, Z30, P30, Z31, P31, L17, Z32, P32, L18, Z33, P33, Z34, P34, L19, Z35, P35, L20, B15, D24, D25, B16, D26, D27, f, N43⟩)
    ·refine B_r (T_r (E_ret1 f rfl (by kernel_rfl : Vc.look _ 4 = some (.bool G2.1)) ?_))
     obtain rfl := sI F9
     exact ⟨_, rfl, V9, (((J1.trans J2).trans J3).trans J9), (N42.dropN 8), rfl⟩
    ·refine B_x (T_n (RR (Y f 1 fun _ f => eT (R_seq (RR (Y f 1 fun _ f => ?_))))))
     obtain ⟨X11, S11, F27⟩ := bS F9
     have N81 := N43.pl [3, 4, 4, 7]
     refine Y17 (E := [Ent.obj y1 (.cells #[.slice Z33 G3.2.2.2.2.2.2.1.length P33, .int .i64 G3.2.2.2.2.2.2.2.1, .slice Z34 G3.2.2.2.2.2.2.2.2.1.length P34, .map (some nb_1m0), .slice Z35 G3.2.2.2.2.2.2.2.2.2.1.length P35, .int .i64 G3.2.2.2.2.2.2.2.2.2.2.1] 82 (0, 0)), Ent.row 42 5 (.slice Z34 G3.2.2.2.2.2.2.2.2.1.length P34) G3.2.2.2.2.2.2.2.2.1.length L19, Ent.obj nb_1m0 (mapO (Value.int .i64) (fun x : TB0 => Value.agg #[.bool x.fEnded, .bool x.fOk, S x.fPhys]) G3.2.2.2.2.2.2.2.2.2.2.2.1), Ent.row 42 5 (.slice Z35 G3.2.2.2.2.2.2.2.2.2.1.length P35) G3.2.2.2.2.2.2.2.2.2.1.length L20]) (H := ((Ent.row 42 5 (.slice Z31 G3.2.2.2.1.length P31) G3.2.2.2.1.length L17) :: (Ent.row 42 5 (.slice Z32 G3.2.2.2.2.1.length P32) G3.2.2.2.2.1.length L18) :: (Ent.obj nb_2m0 (mapO (Value.int .i64) (fun x : TB0 => Value.agg #[.bool x.fEnded, .bool x.fOk, S x.fPhys]) G3.2.2.2.2.2.2.2.2.2.2.2.2)) :: (Ent.obj y2 (.cells #[.slice Z30 G3.2.1.length P30, .int .i64 G3.2.2.1, .slice Z31 G3.2.2.2.1.length P31, .map (some nb_2m0), .slice Z32 G3.2.2.2.2.1.length P32, .int .i64 G3.2.2.2.2.2.1] 82 (0, 0))) :: H)) f N81 (cloud_Cloud_Things_ok n _ (GL.mono (((J1.trans J2).trans J3).trans J10) hG) y1 G3.2.2.2.2.2.2.1 Z33 P33 B16 G3.2.2.2.2.2.2.2.1 G3.2.2.2.2.2.2.2.2.1 Z34 P34 L19 D26 nb_1m0 G3.2.2.2.2.2.2.2.2.2.2.2.1 G3.2.2.2.2.2.2.2.2.2.1 Z35 P35 L20 D27 G3.2.2.2.2.2.2.2.2.2.2.1 X11 S11) fun _ V11 E_7 W17 J11 N77 q_7 _ f => ?_
     obtain ⟨Z36, P36, L21, Z37, P37, Z38, P38, L22, Z39, P39, L23, rfl, rfl, D28, B17, D29, D30⟩ := q_7
     refine Y f 2 fun _ f => eT (wp_block ?_)
     have N90 := N77.pl [8, 2, 2, 8, 8, 8, 7, 8, 8]
     obtain ⟨Q3, hL_2, F28⟩ := bS F27
     refine wp_mono (Q := fun e a w => (e = .exit 2 ∧ (∃ G5 : Int × List TD0 × Int × List TF0 × List TF0 × Int × List TD0 × Int × List TF0 × List TF0 × Int × (List (Int × TB0)) × (List (Int × TB0)), Q3 = .inl G5 ∧ ∃ V17 : Mem, V11.le V17 ∧ ∃ (Z59 : Option Addr), ∃ (P60 : Nat), ∃ (Z60 : Option Addr), ∃ (P61 : Nat), ∃ (L35 : List Value), ∃ (Z61 : Option Addr), ∃ (P62 : Nat), ∃ (L36 : List Value), ∃ (Z62 : Option Addr), ∃ (P63 : Nat), ∃ (Z63 : Option Addr), ∃ (P64 : Nat), ∃ (L37 : List Value), ∃ (Z64 : Option Addr), ∃ (P65 : Nat), ∃ (L38 : List Value), Sli V17 3 emb_TD0 Z59 P60 G5.2.1 ∧ RepSeq V17 (G5.2.2.2.1.map emb_TF0) L35 ∧ RepSeq V17 (G5.2.2.2.2.1.map emb_TF0) L36 ∧ Sli V17 3 emb_TD0 Z62 P63 G5.2.2.2.2.2.2.1 ∧ RepSeq V17 (G5.2.2.2.2.2.2.2.2.1.map emb_TF0) L37 ∧ RepSeq V17 (G5.2.2.2.2.2.2.2.2.2.1.map emb_TF0) L38 ∧ Frm 130 [(5, .pointer (some (⟨y1, 0, none⟩))), (6, .pointer (some (⟨y2, 0, none⟩))), (7, .int .i64 G3.1), (11, .int .i64 G5.1)] a ∧ Hp w0 V17 ((Ent.row 42 5 (.slice Z60 G5.2.2.2.1.length P61) G5.2.2.2.1.length L35) :: (Ent.row 42 5 (.slice Z61 G5.2.2.2.2.1.length P62) G5.2.2.2.2.1.length L36) :: (Ent.row 42 5 (.slice Z63 G5.2.2.2.2.2.2.2.2.1.length P64) G5.2.2.2.2.2.2.2.2.1.length L37) :: (Ent.row 42 5 (.slice Z64 G5.2.2.2.2.2.2.2.2.2.1.length P65) G5.2.2.2.2.2.2.2.2.2.1.length L38) :: (Ent.obj nb_1m0 (mapO (Value.int .i64) (fun x : TB0 => Value.agg #[.bool x.fEnded, .bool x.fOk, S x.fPhys]) G5.2.2.2.2.2.2.2.2.2.2.2.1)) :: (Ent.obj nb_2m0 (mapO (Value.int .i64) (fun x : TB0 => Value.agg #[.bool x.fEnded, .bool x.fOk, S x.fPhys]) G5.2.2.2.2.2.2.2.2.2.2.2.2)) :: (Ent.row 54 3 (.slice Z36 X11.1.length P36) X11.1.length L21) :: (Ent.obj y1 (.cells #[.slice Z59 G5.2.1.length P60, .int .i64 G5.2.2.1, .slice Z60 G5.2.2.2.1.length P61, .map (some nb_1m0), .slice Z61 G5.2.2.2.2.1.length P62, .int .i64 G5.2.2.2.2.2.1] 82 (0, 0))) :: (Ent.obj y2 (.cells #[.slice Z62 G5.2.2.2.2.2.2.1.length P63, .int .i64 G5.2.2.2.2.2.2.2.1, .slice Z63 G5.2.2.2.2.2.2.2.2.1.length P64, .map (some nb_2m0), .slice Z64 G5.2.2.2.2.2.2.2.2.2.1.length P65, .int .i64 G5.2.2.2.2.2.2.2.2.2.2.1] 82 (0, 0))) :: H) w)) ∨ (e = .ret ∧ (∃ G6 : List TD0 × Int × List TF0 × List TF0 × Int × List TD0 × Int × List TF0 × List TF0 × Int × (List (Int × TB0)) × (List (Int × TB0)), Q3 = .inr G6 ∧ ∃ V18 : Mem, V11.le V18 ∧ ∃ (Z65 : Option Addr), ∃ (P66 : Nat), ∃ (Z66 : Option Addr), ∃ (P67 : Nat), ∃ (L39 : List Value), ∃ (Z67 : Option Addr), ∃ (P68 : Nat), ∃ (L40 : List Value), ∃ (Z68 : Option Addr), ∃ (P69 : Nat), ∃ (Z69 : Option Addr), ∃ (P70 : Nat), ∃ (L41 : List Value), ∃ (Z70 : Option Addr), ∃ (P71 : Nat), ∃ (L42 : List Value), Sli V18 3 emb_TD0 Z65 P66 G6.1 ∧ RepSeq V18 (G6.2.2.1.map emb_TF0) L39 ∧ RepSeq V18 (G6.2.2.2.1.map emb_TF0) L40 ∧ Sli V18 3 emb_TD0 Z68 P69 G6.2.2.2.2.2.1 ∧ RepSeq V18 (G6.2.2.2.2.2.2.2.1.map emb_TF0) L41 ∧ RepSeq V18 (G6.2.2.2.2.2.2.2.2.1.map emb_TF0) L42 ∧ Frm 130 [(4, .bool false)] a ∧ Hp w0 V18 ((Ent.row 42 5 (.slice Z66 G6.2.2.1.length P67) G6.2.2.1.length L39) :: (Ent.row 42 5 (.slice Z67 G6.2.2.2.1.length P68) G6.2.2.2.1.length L40) :: (Ent.row 42 5 (.slice Z69 G6.2.2.2.2.2.2.2.1.length P70) G6.2.2.2.2.2.2.2.1.length L41) :: (Ent.row 42 5 (.slice Z70 G6.2.2.2.2.2.2.2.2.1.length P71) G6.2.2.2.2.2.2.2.2.1.length L42) :: (Ent.obj nb_2m0 (mapO (Value.int .i64) (fun x : TB0 => Value.agg #[.bool x.fEnded, .bool x.fOk, S x.fPhys]) G6.2.2.2.2.2.2.2.2.2.2.1)) :: (Ent.obj nb_1m0 (mapO (Value.int .i64) (fun x : TB0 => Value.agg #[.bool x.fEnded, .bool x.fOk, S x.fPhys]) G6.2.2.2.2.2.2.2.2.2.2.2)) :: (Ent.obj y2 (.cells #[.slice Z65 G6.1.length P66, .int .i64 G6.2.1, .slice Z66 G6.2.2.1.length P67, .map (some nb_2m0), .slice Z67 G6.2.2.2.1.length P68, .int .i64 G6.2.2.2.2.1] 82 (0, 0))) :: (Ent.obj y1 (.cells #[.slice Z68 G6.2.2.2.2.2.1.length P69, .int .i64 G6.2.2.2.2.2.2.1, .slice Z69 G6.2.2.2.2.2.2.2.1.length P70, .map (some nb_1m0), .slice Z70 G6.2.2.2.2.2.2.2.2.1.length P71, .int .i64 G6.2.2.2.2.2.2.2.2.2.1] 82 (0, 0))) :: (Ent.row 54 3 (.slice Z36 X11.1.length P36) X11.1.length L21) :: H) w))) (R_loop (n := 130) (w0 := w0) (M := V11) (fun (x : Nat × (Int × Int × List TD0 × Int × List TF0 × List TF0 × Int × (List (Int × TB0)) × List TD0 × Int × List TF0 × List TF0 × Int × (List (Int × TB0))) × (Option Addr) × Nat × (Option Addr) × Nat × (List Value) × (Option Addr) × Nat × (List Value) × (Option Addr) × Nat × (Option Addr) × Nat × (List Value) × (Option Addr) × Nat × (List Value)) => match x with | (I3, K2, Z40, P40, Z41, P41, L24, Z42, P42, L25, Z43, P43, Z44, P44, L26, Z45, P45, L27) => [(1, .slice A1 d1.length cap1), (5, .pointer (some (⟨y1, 0, none⟩))), (6, .pointer (some (⟨y2, 0, none⟩))), (7, .int .i64 G3.1), (11, .int .i64 K2.1), (56, .slice Z36 X11.1.length P36), (57, .int .i64 ((X11.1.length : Nat) : Int)), (58, .int .i64 K2.2.1)]) (fun (x : Nat × (Int × Int × List TD0 × Int × List TF0 × List TF0 × Int × (List (Int × TB0)) × List TD0 × Int × List TF0 × List TF0 × Int × (List (Int × TB0))) × (Option Addr) × Nat × (Option Addr) × Nat × (List Value) × (Option Addr) × Nat × (List Value) × (Option Addr) × Nat × (Option Addr) × Nat × (List Value) × (Option Addr) × Nat × (List Value)) => match x with | (I3, K2, Z40, P40, Z41, P41, L24, Z42, P42, L25, Z43, P43, Z44, P44, L26, Z45, P45, L27) => ((Ent.row 42 5 (.slice Z41 K2.2.2.2.2.1.length P41) K2.2.2.2.2.1.length L24) :: (Ent.row 42 5 (.slice Z42 K2.2.2.2.2.2.1.length P42) K2.2.2.2.2.2.1.length L25) :: (Ent.obj nb_1m0 (mapO (Value.int .i64) (fun x : TB0 => Value.agg #[.bool x.fEnded, .bool x.fOk, S x.fPhys]) K2.2.2.2.2.2.2.2.1)) :: (Ent.row 42 5 (.slice Z44 K2.2.2.2.2.2.2.2.2.2.2.1.length P44) K2.2.2.2.2.2.2.2.2.2.2.1.length L26) :: (Ent.row 42 5 (.slice Z45 K2.2.2.2.2.2.2.2.2.2.2.2.1.length P45) K2.2.2.2.2.2.2.2.2.2.2.2.1.length L27) :: (Ent.obj nb_2m0 (mapO (Value.int .i64) (fun x : TB0 => Value.agg #[.bool x.fEnded, .bool x.fOk, S x.fPhys]) K2.2.2.2.2.2.2.2.2.2.2.2.2.2)) :: (Ent.row 54 3 (.slice Z36 X11.1.length P36) X11.1.length L21) :: (Ent.obj y1 (.cells #[.slice Z40 K2.2.2.1.length P40, .int .i64 K2.2.2.2.1, .slice Z41 K2.2.2.2.2.1.length P41, .map (some nb_1m0), .slice Z42 K2.2.2.2.2.2.1.length P42, .int .i64 K2.2.2.2.2.2.2.1] 82 (0, 0))) :: (Ent.obj y2 (.cells #[.slice Z43 K2.2.2.2.2.2.2.2.2.1.length P43, .int .i64 K2.2.2.2.2.2.2.2.2.2.1, .slice Z44 K2.2.2.2.2.2.2.2.2.2.2.1.length P44, .map (some nb_2m0), .slice Z45 K2.2.2.2.2.2.2.2.2.2.2.2.1.length P45, .int .i64 K2.2.2.2.2.2.2.2.2.2.2.2.2.1] 82 (0, 0))) :: H)) (fun (x : Nat × (Int × Int × List TD0 × Int × List TF0 × List TF0 × Int × (List (Int × TB0)) × List TD0 × Int × List TF0 × List TF0 × Int × (List (Int × TB0))) × (Option Addr) × Nat × (Option Addr) × Nat × (List Value) × (Option Addr) × Nat × (List Value) × (Option Addr) × Nat × (Option Addr) × Nat × (List Value) × (Option Addr) × Nat × (List Value)) (MM : Mem) => match x with | (I3, K2, Z40, P40, Z41, P41, L24, Z42, P42, L25, Z43, P43, Z44, P44, L26, Z45, P45, L27) => loopF (law11_CloudTurned_s2 n d1 X11) I3 K2 = some Q3 ∧ Sli MM 3 emb_TD0 Z40 P40 K2.2.2.1 ∧ RepSeq MM (K2.2.2.2.2.1.map emb_TF0) L24 ∧ RepSeq MM (K2.2.2.2.2.2.1.map emb_TF0) L25 ∧ Sli MM 3 emb_TD0 Z43 P43 K2.2.2.2.2.2.2.2.2.1 ∧ RepSeq MM (K2.2.2.2.2.2.2.2.2.2.2.1.map emb_TF0) L26 ∧ RepSeq MM (K2.2.2.2.2.2.2.2.2.2.2.2.1.map emb_TF0) L27) (fun (x : Nat × (Int × Int × List TD0 × Int × List TF0 × List TF0 × Int × (List (Int × TB0)) × List TD0 × Int × List TF0 × List TF0 × Int × (List (Int × TB0))) × (Option Addr) × Nat × (Option Addr) × Nat × (List Value) × (Option Addr) × Nat × (List Value) × (Option Addr) × Nat × (Option Addr) × Nat × (List Value) × (Option Addr) × Nat × (List Value)) => match x with | (I3, K2, Z40, P40, Z41, P41, L24, Z42, P42, L25, Z43, P43, Z44, P44, L26, Z45, P45, L27) => I3) (n, ((0 : Int), (0 : Int), X11.2.1, X11.2.2.1, X11.2.2.2.1, X11.2.2.2.2.2.1, X11.2.2.2.2.2.2, X11.2.2.2.2.1, G3.2.1, G3.2.2.1, G3.2.2.2.1, G3.2.2.2.2.1, G3.2.2.2.2.2.1, G3.2.2.2.2.2.2.2.2.2.2.2.2), Z37, P37, Z38, P38, L22, Z39, P39, L23, Z30, P30, Z31, P31, L17, Z32, P32, L18) (f.kp) N90 ⟨hL_2, B17, D29, D30, (B15.mono J11), (RepSeq.mono J11 _ _ D24), (RepSeq.mono J11 _ _ D25)⟩ ?_) ?_
     ·rintro ⟨I3, K2, Z40, P40, Z41, P41, L24, Z42, P42, L25, Z43, P43, Z44, P44, L26, Z45, P45, L27⟩ V12 _ W18 J12 I_2 f N91
      obtain ⟨I_2L, B18, D31, D32, B19, D33, D34⟩ := I_2
      obtain ⟨I4, r_2, rfl, hs_2, T2⟩ := loop_step I_2L
      unfold law11_CloudTurned_s2 at hs_2
      refine RR (Y f 1 fun _ f => eT (R_seq (RcF f hs_2 (fun B20 F29 => ?_) fun B20 F46 => ?_)))
      ·have U11 := dI.1 B20
       refine wp_skip (T_n (R_seq (wp_block (RR (Y f 1 fun _ f => ?_)))))
       obtain ⟨X12, S12, F30⟩ := bS F29
       obtain ⟨Q4, P46, H5, hcap_1⟩ := N91.rowAddr 6 rfl (getI_pos S12)
       have f := f.st 56 (H5)
       refine Z f (Y31 rfl (ad := ⟨Q4, 0, none⟩) (len := X11.1.length) (cap := P46) (k := .i64) (i := K2.2.1) (e := 54) (sz := 3) (getI_nn S12) (getI_lt S12)) fun _ f => ?_
       have f := f.st 56 (H5.symm)
       obtain ⟨c_4, -, D35, R2⟩ := RepSeq.get K2.2.1.toNat (szd_all szd_TD0) (RepSeq.mono J12 _ _ D28) (getI_map S12)
       obtain ⟨Z46, P47, rfl, B21⟩ := TD0.opn D35
       refine Z (v := .agg #[S X12.fPhys, S X12.fType, .slice Z46 X12.fProps.length P47]) f (Y34 (cs := [S X12.fPhys, S X12.fType, .slice Z46 X12.fProps.length P47]) rfl (ad := (⟨Q4, 0, none⟩ : Addr).add (K2.2.1.toNat * 3)) (fun j v h => row_at (N91.rowCell 6 rfl H5) R2 j v h)) fun _ f => Y12 f N91 (.cells #[S [], S [], .slice none 0 0] 54 (0, 0)) fun Q5 W19 N92 _ f => Y f 1 fun _ f => Y28 (vs := [S X12.fPhys, S X12.fType, .slice Z46 X12.fProps.length P47]) (j := 0) f N92 rfl rfl (by simp [Value.oneCell', S]) (by simp) (by decide) (cs' := #[S X12.fPhys, S X12.fType, .slice Z46 X12.fProps.length P47]) (by kernel_rfl) fun W20 N93 _ f => eT (R_seq (R_seq ?_))
       obtain ⟨j_2, hj_2, F31⟩ := bS F30
       refine R_mid (fun a_68 W22 => ∃ G4 : Bool, j_2 = G4 ∧ ∃ V13 : Mem, V12.le V13 ∧ Frm 130 [(1, .slice A1 d1.length cap1), (5, .pointer (some (⟨y1, 0, none⟩))), (6, .pointer (some (⟨y2, 0, none⟩))), (7, .int .i64 G3.1), (11, .int .i64 K2.1), (12, .int .i64 K2.2.1), (13, .pointer (some (⟨Q5, 0, none⟩))), (56, .slice Z36 X11.1.length P36), (57, .int .i64 ((X11.1.length : Nat) : Int)), (58, .int .i64 K2.2.1), (73, .bool G4)] a_68 ∧ Hp w0 V13 ((Ent.obj Q5 (.cells #[S X12.fPhys, S X12.fType, .slice Z46 X12.fProps.length P47] 54 (0, 0))) :: (Ent.row 42 5 (.slice Z41 K2.2.2.2.2.1.length P41) K2.2.2.2.2.1.length L24) :: (Ent.row 42 5 (.slice Z42 K2.2.2.2.2.2.1.length P42) K2.2.2.2.2.2.1.length L25) :: (Ent.obj nb_1m0 (mapO (Value.int .i64) (fun x : TB0 => Value.agg #[.bool x.fEnded, .bool x.fOk, S x.fPhys]) K2.2.2.2.2.2.2.2.1)) :: (Ent.row 42 5 (.slice Z44 K2.2.2.2.2.2.2.2.2.2.2.1.length P44) K2.2.2.2.2.2.2.2.2.2.2.1.length L26) :: (Ent.row 42 5 (.slice Z45 K2.2.2.2.2.2.2.2.2.2.2.2.1.length P45) K2.2.2.2.2.2.2.2.2.2.2.2.1.length L27) :: (Ent.obj nb_2m0 (mapO (Value.int .i64) (fun x : TB0 => Value.agg #[.bool x.fEnded, .bool x.fOk, S x.fPhys]) K2.2.2.2.2.2.2.2.2.2.2.2.2.2)) :: (Ent.row 54 3 (.slice Z36 X11.1.length P36) X11.1.length L21) :: (Ent.obj y1 (.cells #[.slice Z40 K2.2.2.1.length P40, .int .i64 K2.2.2.2.1, .slice Z41 K2.2.2.2.2.1.length P41, .map (some nb_1m0), .slice Z42 K2.2.2.2.2.2.1.length P42, .int .i64 K2.2.2.2.2.2.2.1] 82 (0, 0))) :: (Ent.obj y2 (.cells #[.slice Z43 K2.2.2.2.2.2.2.2.2.1.length P43, .int .i64 K2.2.2.2.2.2.2.2.2.2.1, .slice Z44 K2.2.2.2.2.2.2.2.2.2.2.1.length P44, .map (some nb_2m0), .slice Z45 K2.2.2.2.2.2.2.2.2.2.2.2.1.length P45, .int .i64 K2.2.2.2.2.2.2.2.2.2.2.2.2.1] 82 (0, 0))) :: H) W22) ?_ ?_
       ·refine R_reg (Y f 5 fun _ f => ?_)
        rcases cE hj_2 with ⟨B22, F32⟩ | ⟨B22, F33⟩
        ·have U12 := dI.1 B22
         have f := f.st 67 (cB B22)
         refine Y f 6 fun _ f => eT ?_
         exact ⟨(true), (sI F32).symm, V12, (mR _), f.kp, N93⟩
        ·have U13 := iff_f dI B22
         have f := f.st 67 (cB B22)
         refine Y f 2 fun _ f => ?_
         obtain ⟨X13, S13, F34⟩ := bS F33
         obtain ⟨C2, c_5, e_2, -, D36, R3⟩ := Sli.at_ (h1.mono (((((J1.trans J2).trans J3).trans J10).trans J11).trans J12)) S13
         obtain ⟨Z47, P48, rfl, B23⟩ := Rep.sli D36
         refine Z f (Y32 e_2 rfl (len := d1.length) (cap := cap1) (k := .i64) (i := K2.2.1) (e := 37) (sz := 1) (getI_nn S13) (getI_lt S13)) fun _ f => Y15 f N93 R3 0 rfl fun _ f => ?_
         obtain ⟨X14, S14, F35⟩ := bS F34
         refine Y18 f N93 (ref09_Great_ok n _ (GL.mono (((((J1.trans J2).trans J3).trans J10).trans J11).trans J12) hG) Z47 P48 X13 B23 X14 S14) fun W21 N94 _ f => Y f 1 fun _ f => eT ?_
         exact ⟨(X14), (sI F35).symm, V12, (mR _), f.kp, N94⟩
       ·rintro a_68 W22 ⟨G4, hq_2, V13, J13, f, N95⟩
        subst j_2
        refine T_n (RcF f F31 (fun B24 F36 => ?_) fun B24 F37 => ?_)
        ·refine wp_exit (T_x (B_o rfl (T_x ?_)))
         have N141 := N95.pl [9, 9, 9, 9, 7, 9, 9, 9, 9, 9]
         refine T_x ?_
         obtain rfl := sI F36
         exact .inl ⟨rfl, (K2.1, K2.2.2.1, K2.2.2.2.1, K2.2.2.2.2.1, K2.2.2.2.2.2.1, K2.2.2.2.2.2.2.1, K2.2.2.2.2.2.2.2.2.1, K2.2.2.2.2.2.2.2.2.2.1, K2.2.2.2.2.2.2.2.2.2.2.1, K2.2.2.2.2.2.2.2.2.2.2.2.1, K2.2.2.2.2.2.2.2.2.2.2.2.2.1, K2.2.2.2.2.2.2.2.1, K2.2.2.2.2.2.2.2.2.2.2.2.2.2), (sI T2).symm, V13, (J12.trans J13), Z40, P40, Z41, P41, L24, Z42, P42, L25, Z43, P43, Z44, P44, L26, Z45, P45, L27, (B18.mono J13), (RepSeq.mono J13 _ _ D31), (RepSeq.mono J13 _ _ D32), (B19.mono J13), (RepSeq.mono J13 _ _ D33), (RepSeq.mono J13 _ _ D34), f.kp, (N141.dropN 1)⟩
        ·refine wp_skip (T_n (R_seq (R_mix (E := []) (Hr := ((Ent.obj Q5 (.cells #[S X12.fPhys, S X12.fType, .slice Z46 X12.fProps.length P47] 54 (0, 0))) :: (Ent.row 42 5 (.slice Z41 K2.2.2.2.2.1.length P41) K2.2.2.2.2.1.length L24) :: (Ent.row 42 5 (.slice Z42 K2.2.2.2.2.2.1.length P42) K2.2.2.2.2.2.1.length L25) :: (Ent.obj nb_1m0 (mapO (Value.int .i64) (fun x : TB0 => Value.agg #[.bool x.fEnded, .bool x.fOk, S x.fPhys]) K2.2.2.2.2.2.2.2.1)) :: (Ent.row 42 5 (.slice Z44 K2.2.2.2.2.2.2.2.2.2.2.1.length P44) K2.2.2.2.2.2.2.2.2.2.2.1.length L26) :: (Ent.row 42 5 (.slice Z45 K2.2.2.2.2.2.2.2.2.2.2.2.1.length P45) K2.2.2.2.2.2.2.2.2.2.2.2.1.length L27) :: (Ent.obj nb_2m0 (mapO (Value.int .i64) (fun x : TB0 => Value.agg #[.bool x.fEnded, .bool x.fOk, S x.fPhys]) K2.2.2.2.2.2.2.2.2.2.2.2.2.2)) :: (Ent.row 54 3 (.slice Z36 X11.1.length P36) X11.1.length L21) :: (Ent.obj y1 (.cells #[.slice Z40 K2.2.2.1.length P40, .int .i64 K2.2.2.2.1, .slice Z41 K2.2.2.2.2.1.length P41, .map (some nb_1m0), .slice Z42 K2.2.2.2.2.2.1.length P42, .int .i64 K2.2.2.2.2.2.2.1] 82 (0, 0))) :: (Ent.obj y2 (.cells #[.slice Z43 K2.2.2.2.2.2.2.2.2.1.length P43, .int .i64 K2.2.2.2.2.2.2.2.2.2.1, .slice Z44 K2.2.2.2.2.2.2.2.2.2.2.1.length P44, .map (some nb_2m0), .slice Z45 K2.2.2.2.2.2.2.2.2.2.2.2.1.length P45, .int .i64 K2.2.2.2.2.2.2.2.2.2.2.2.2.1] 82 (0, 0))) :: H)) [(0, true), (1, true), (2, true), (3, true), (4, true), (5, true), (6, true), (7, true), (8, true), (9, false), (10, false)] N95 (by kernel_rfl) (by kernel_rfl) rfl (by kernel_rfl) (Y0 default f 1 fun _ f => ?_))))
         obtain ⟨O5, F38⟩ := nS F37
         refine M_eq (v := .int .i64 (IntKind.wrap .i64 ((100 : Int) + K2.2.1))) f (by kernel_rfl) (by kernel_rfl) rfl rfl (fun _ pq => by kernel_rfl) fun _ f => ?_
         have f := f.st 75 (iW O5)
         refine Y0 default f 1 fun _ f => M_eq (v := S X12.fPhys) f (by kernel_rfl) (by kernel_rfl) rfl rfl (fun _ pq => Y33 (v := S X12.fPhys) rfl (ad := ⟨Q5, 0, none⟩) (pq.ownCell 0 rfl 0)) fun _ f => Y0 default f 2 fun _ f => ?_
         obtain ⟨X15, S15, F39⟩ := bS F38
         obtain ⟨C3, c_6, e_3, -, D37, R4⟩ := Sli.at_ (h1.mono ((((((J1.trans J2).trans J3).trans J10).trans J11).trans J12).trans J13)) S15
         obtain ⟨Z48, P49, rfl, B25⟩ := Rep.sli D37
         refine M_eq (v := .pointer (some (C3.add (K2.2.1.toNat * 1)))) f (by kernel_rfl) (by kernel_rfl) rfl rfl (fun _ pq => Y32 e_3 rfl (len := d1.length) (cap := cap1) (k := .i64) (i := K2.2.1) (e := 37) (sz := 1) (getI_nn S15) (getI_lt S15)) fun _ f => M_eq (v := .slice Z48 X15.length P49) f (by kernel_rfl) (by kernel_rfl) rfl rfl (fun _ pq => Y33 (v := .slice Z48 X15.length P49) rfl (ad := C3.add (K2.2.1.toNat * 1)) (pq.cell (R4 0 _ rfl))) fun _ f => Y0 default f 1 fun _ f => M_fix (E := []) fun W23 N96 => Y12 f N96 (.cells #[.int .i64 0, .int .i8 0, S [], S [], .slice none 0 0] 42 (0, 0)) fun Q6 W24 N97 _ f => W_end rfl (M_go (M1 := V13) (E := [Ent.obj Q6 (.cells #[.int .i64 0, .int .i8 0, S [], S [], .slice none 0 0] 42 (0, 0))]) (mR _) N97 (M_fix (E := [Ent.obj Q6 (.cells #[.int .i64 0, .int .i8 0, S [], S [], .slice none 0 0] 42 (0, 0))]) fun W25 N98 => Y28 (vs := [.int .i64 ((100 : Int) + K2.2.1), .int .i8 1, S X12.fPhys, S [68, 105, 115, 107], .slice Z48 X15.length P49]) (j := 0) f N98 rfl rfl (by simp [Value.oneCell', S]) (by simp) (by decide) (cs' := #[.int .i64 ((100 : Int) + K2.2.1), .int .i8 1, S X12.fPhys, S [68, 105, 115, 107], .slice Z48 X15.length P49]) (by kernel_rfl) fun W26 N99 _ f => W_end rfl (M_go (M1 := V13) (E := [Ent.obj Q6 (.cells #[.int .i64 ((100 : Int) + K2.2.1), .int .i8 1, S X12.fPhys, S [68, 105, 115, 107], .slice Z48 X15.length P49] 42 (0, 0))]) (mR _) N99 (M_end rfl fun W27 N100 => T_n (R_seq (R_seq ?_))))))
         have N111 := N100.pl [8, 2, 2, 10, 10, 10, 10, 10, 10, 10, 10]
         refine R_mix (E := [Ent.row 42 5 (.slice Z41 K2.2.2.2.2.1.length P41) K2.2.2.2.2.1.length L24, Ent.row 42 5 (.slice Z42 K2.2.2.2.2.2.1.length P42) K2.2.2.2.2.2.1.length L25, Ent.obj nb_1m0 (mapO (Value.int .i64) (fun x : TB0 => Value.agg #[.bool x.fEnded, .bool x.fOk, S x.fPhys]) K2.2.2.2.2.2.2.2.1), Ent.row 42 5 (.slice Z44 K2.2.2.2.2.2.2.2.2.2.2.1.length P44) K2.2.2.2.2.2.2.2.2.2.2.1.length L26, Ent.row 42 5 (.slice Z45 K2.2.2.2.2.2.2.2.2.2.2.2.1.length P45) K2.2.2.2.2.2.2.2.2.2.2.2.1.length L27, Ent.obj nb_2m0 (mapO (Value.int .i64) (fun x : TB0 => Value.agg #[.bool x.fEnded, .bool x.fOk, S x.fPhys]) K2.2.2.2.2.2.2.2.2.2.2.2.2.2), Ent.obj y1 (.cells #[.slice Z40 K2.2.2.1.length P40, .int .i64 K2.2.2.2.1, .slice Z41 K2.2.2.2.2.1.length P41, .map (some nb_1m0), .slice Z42 K2.2.2.2.2.2.1.length P42, .int .i64 K2.2.2.2.2.2.2.1] 82 (0, 0)), Ent.obj y2 (.cells #[.slice Z43 K2.2.2.2.2.2.2.2.2.1.length P43, .int .i64 K2.2.2.2.2.2.2.2.2.2.1, .slice Z44 K2.2.2.2.2.2.2.2.2.2.2.1.length P44, .map (some nb_2m0), .slice Z45 K2.2.2.2.2.2.2.2.2.2.2.2.1.length P45, .int .i64 K2.2.2.2.2.2.2.2.2.2.2.2.2.1] 82 (0, 0))]) (Hr := ((Ent.obj Q6 (.cells #[.int .i64 ((100 : Int) + K2.2.1), .int .i8 1, S X12.fPhys, S [68, 105, 115, 107], .slice Z48 X15.length P49] 42 (0, 0))) :: (Ent.obj Q5 (.cells #[S X12.fPhys, S X12.fType, .slice Z46 X12.fProps.length P47] 54 (0, 0))) :: (Ent.row 54 3 (.slice Z36 X11.1.length P36) X11.1.length L21) :: H)) [(0, true), (1, true), (3, true), (4, true), (2, false), (5, false), (6, true)] N111 (by kernel_rfl) (by kernel_rfl) rfl (by kernel_rfl) (Y0 default f 1 fun _ f => M_eq (v := .agg #[.int .i64 ((100 : Int) + K2.2.1), .int .i8 1, S X12.fPhys, S [68, 105, 115, 107], .slice Z48 X15.length P49]) f (by kernel_rfl) (by kernel_rfl) rfl rfl (fun _ pq => Y34 (cs := [.int .i64 ((100 : Int) + K2.2.1), .int .i8 1, S X12.fPhys, S [68, 105, 115, 107], .slice Z48 X15.length P49]) rfl (ad := ⟨Q6, 0, none⟩) (own_cells (pq.ownCell 0 rfl) 0 rfl)) fun _ f => Y0 default f 1 fun _ f => M_eq (v := .agg #[.int .i64 ((100 : Int) + K2.2.1), .int .i8 1, S X12.fPhys, S [68, 105, 115, 107], .slice Z48 X15.length P49]) f (by kernel_rfl) (by kernel_rfl) rfl rfl (fun _ pq => Y34 (cs := [.int .i64 ((100 : Int) + K2.2.1), .int .i8 1, S X12.fPhys, S [68, 105, 115, 107], .slice Z48 X15.length P49]) rfl (ad := ⟨Q6, 0, none⟩) (own_cells (pq.ownCell 0 rfl) 0 rfl)) fun _ f => M_fix (E := [Ent.row 42 5 (.slice Z41 K2.2.2.2.2.1.length P41) K2.2.2.2.2.1.length L24, Ent.row 42 5 (.slice Z42 K2.2.2.2.2.2.1.length P42) K2.2.2.2.2.2.1.length L25, Ent.obj nb_1m0 (mapO (Value.int .i64) (fun x : TB0 => Value.agg #[.bool x.fEnded, .bool x.fOk, S x.fPhys]) K2.2.2.2.2.2.2.2.1), Ent.row 42 5 (.slice Z44 K2.2.2.2.2.2.2.2.2.2.2.1.length P44) K2.2.2.2.2.2.2.2.2.2.2.1.length L26, Ent.row 42 5 (.slice Z45 K2.2.2.2.2.2.2.2.2.2.2.2.1.length P45) K2.2.2.2.2.2.2.2.2.2.2.2.1.length L27, Ent.obj nb_2m0 (mapO (Value.int .i64) (fun x : TB0 => Value.agg #[.bool x.fEnded, .bool x.fOk, S x.fPhys]) K2.2.2.2.2.2.2.2.2.2.2.2.2.2), Ent.obj y1 (.cells #[.slice Z40 K2.2.2.1.length P40, .int .i64 K2.2.2.2.1, .slice Z41 K2.2.2.2.2.1.length P41, .map (some nb_1m0), .slice Z42 K2.2.2.2.2.2.1.length P42, .int .i64 K2.2.2.2.2.2.2.1] 82 (0, 0)), Ent.obj y2 (.cells #[.slice Z43 K2.2.2.2.2.2.2.2.2.1.length P43, .int .i64 K2.2.2.2.2.2.2.2.2.2.1, .slice Z44 K2.2.2.2.2.2.2.2.2.2.2.1.length P44, .map (some nb_2m0), .slice Z45 K2.2.2.2.2.2.2.2.2.2.2.2.1.length P45, .int .i64 K2.2.2.2.2.2.2.2.2.2.2.2.2.1] 82 (0, 0))]) fun W28 N112 => ?_)
         obtain ⟨X16, S16, F40⟩ := bS F39
         have N117 := N112.pl [1, 2, 2, 6]
         refine Y17 (E := [Ent.obj y1 (.cells #[.slice Z40 K2.2.2.1.length P40, .int .i64 K2.2.2.2.1, .slice Z41 K2.2.2.2.2.1.length P41, .map (some nb_1m0), .slice Z42 K2.2.2.2.2.2.1.length P42, .int .i64 K2.2.2.2.2.2.2.1] 82 (0, 0)), Ent.row 42 5 (.slice Z41 K2.2.2.2.2.1.length P41) K2.2.2.2.2.1.length L24, Ent.obj nb_1m0 (mapO (Value.int .i64) (fun x : TB0 => Value.agg #[.bool x.fEnded, .bool x.fOk, S x.fPhys]) K2.2.2.2.2.2.2.2.1), Ent.row 42 5 (.slice Z42 K2.2.2.2.2.2.1.length P42) K2.2.2.2.2.2.1.length L25]) (H := ((Ent.row 42 5 (.slice Z44 K2.2.2.2.2.2.2.2.2.2.2.1.length P44) K2.2.2.2.2.2.2.2.2.2.2.1.length L26) :: (Ent.row 42 5 (.slice Z45 K2.2.2.2.2.2.2.2.2.2.2.2.1.length P45) K2.2.2.2.2.2.2.2.2.2.2.2.1.length L27) :: (Ent.obj nb_2m0 (mapO (Value.int .i64) (fun x : TB0 => Value.agg #[.bool x.fEnded, .bool x.fOk, S x.fPhys]) K2.2.2.2.2.2.2.2.2.2.2.2.2.2)) :: (Ent.obj y2 (.cells #[.slice Z43 K2.2.2.2.2.2.2.2.2.1.length P43, .int .i64 K2.2.2.2.2.2.2.2.2.2.1, .slice Z44 K2.2.2.2.2.2.2.2.2.2.2.1.length P44, .map (some nb_2m0), .slice Z45 K2.2.2.2.2.2.2.2.2.2.2.2.1.length P45, .int .i64 K2.2.2.2.2.2.2.2.2.2.2.2.2.1] 82 (0, 0))) :: (Ent.obj Q6 (.cells #[.int .i64 ((100 : Int) + K2.2.1), .int .i8 1, S X12.fPhys, S [68, 105, 115, 107], .slice Z48 X15.length P49] 42 (0, 0))) :: (Ent.obj Q5 (.cells #[S X12.fPhys, S X12.fType, .slice Z46 X12.fProps.length P47] 54 (0, 0))) :: (Ent.row 54 3 (.slice Z36 X11.1.length P36) X11.1.length L21) :: H)) f N117 (cloud_Cloud_Submit_ok n _ (GL.mono ((((((J1.trans J2).trans J3).trans J10).trans J11).trans J12).trans J13) hG) y1 K2.2.2.1 Z40 P40 (B18.mono J13) K2.2.2.2.1 K2.2.2.2.2.1 Z41 P41 L24 (RepSeq.mono J13 _ _ D31) nb_1m0 K2.2.2.2.2.2.2.2.1 K2.2.2.2.2.2.1 Z42 P42 L25 (RepSeq.mono J13 _ _ D32) K2.2.2.2.2.2.2.1 _ (⟨(100 : Int) + K2.2.1, (1 : Int), X12.fPhys, [68, 105, 115, 107], X15⟩ : TF0) (TF0.shut B25) X16 S16) fun _ V14 E_8 W29 J14 N113 q_8 _ f => ?_
         obtain ⟨Z49, P50, Z50, P51, L28, Z51, P52, L29, rfl, rfl, B26, D38, D39⟩ := q_8
         refine W_end rfl (M_go (M1 := V14) (E := [Ent.obj y1 (.cells #[.slice Z49 X16.2.1.length P50, .int .i64 X16.2.2.1, .slice Z50 X16.2.2.2.1.length P51, .map (some nb_1m0), .slice Z51 X16.2.2.2.2.2.1.length P52, .int .i64 X16.2.2.2.2.2.2] 82 (0, 0)), Ent.row 42 5 (.slice Z50 X16.2.2.2.1.length P51) X16.2.2.2.1.length L28, Ent.obj nb_1m0 (mapO (Value.int .i64) (fun x : TB0 => Value.agg #[.bool x.fEnded, .bool x.fOk, S x.fPhys]) X16.2.2.2.2.1), Ent.row 42 5 (.slice Z51 X16.2.2.2.2.2.1.length P52) X16.2.2.2.2.2.1.length L29, Ent.row 42 5 (.slice Z44 K2.2.2.2.2.2.2.2.2.2.2.1.length P44) K2.2.2.2.2.2.2.2.2.2.2.1.length L26, Ent.row 42 5 (.slice Z45 K2.2.2.2.2.2.2.2.2.2.2.2.1.length P45) K2.2.2.2.2.2.2.2.2.2.2.2.1.length L27, Ent.obj nb_2m0 (mapO (Value.int .i64) (fun x : TB0 => Value.agg #[.bool x.fEnded, .bool x.fOk, S x.fPhys]) K2.2.2.2.2.2.2.2.2.2.2.2.2.2), Ent.obj y2 (.cells #[.slice Z43 K2.2.2.2.2.2.2.2.2.1.length P43, .int .i64 K2.2.2.2.2.2.2.2.2.2.1, .slice Z44 K2.2.2.2.2.2.2.2.2.2.2.1.length P44, .map (some nb_2m0), .slice Z45 K2.2.2.2.2.2.2.2.2.2.2.2.1.length P45, .int .i64 K2.2.2.2.2.2.2.2.2.2.2.2.2.1] 82 (0, 0))]) J14 N113 (M_fix (E := [Ent.obj y1 (.cells #[.slice Z49 X16.2.1.length P50, .int .i64 X16.2.2.1, .slice Z50 X16.2.2.2.1.length P51, .map (some nb_1m0), .slice Z51 X16.2.2.2.2.2.1.length P52, .int .i64 X16.2.2.2.2.2.2] 82 (0, 0)), Ent.row 42 5 (.slice Z50 X16.2.2.2.1.length P51) X16.2.2.2.1.length L28, Ent.obj nb_1m0 (mapO (Value.int .i64) (fun x : TB0 => Value.agg #[.bool x.fEnded, .bool x.fOk, S x.fPhys]) X16.2.2.2.2.1), Ent.row 42 5 (.slice Z51 X16.2.2.2.2.2.1.length P52) X16.2.2.2.2.2.1.length L29, Ent.row 42 5 (.slice Z44 K2.2.2.2.2.2.2.2.2.2.2.1.length P44) K2.2.2.2.2.2.2.2.2.2.2.1.length L26, Ent.row 42 5 (.slice Z45 K2.2.2.2.2.2.2.2.2.2.2.2.1.length P45) K2.2.2.2.2.2.2.2.2.2.2.2.1.length L27, Ent.obj nb_2m0 (mapO (Value.int .i64) (fun x : TB0 => Value.agg #[.bool x.fEnded, .bool x.fOk, S x.fPhys]) K2.2.2.2.2.2.2.2.2.2.2.2.2.2), Ent.obj y2 (.cells #[.slice Z43 K2.2.2.2.2.2.2.2.2.1.length P43, .int .i64 K2.2.2.2.2.2.2.2.2.2.1, .slice Z44 K2.2.2.2.2.2.2.2.2.2.2.1.length P44, .map (some nb_2m0), .slice Z45 K2.2.2.2.2.2.2.2.2.2.2.2.1.length P45, .int .i64 K2.2.2.2.2.2.2.2.2.2.2.2.2.1] 82 (0, 0))]) fun W30 N118 => ?_))
         obtain ⟨X17, S17, F41⟩ := bS F40
         have N123 := N118.pl [5, 6, 6, 7]
         refine Y17 (E := [Ent.obj y2 (.cells #[.slice Z43 K2.2.2.2.2.2.2.2.2.1.length P43, .int .i64 K2.2.2.2.2.2.2.2.2.2.1, .slice Z44 K2.2.2.2.2.2.2.2.2.2.2.1.length P44, .map (some nb_2m0), .slice Z45 K2.2.2.2.2.2.2.2.2.2.2.2.1.length P45, .int .i64 K2.2.2.2.2.2.2.2.2.2.2.2.2.1] 82 (0, 0)), Ent.row 42 5 (.slice Z44 K2.2.2.2.2.2.2.2.2.2.2.1.length P44) K2.2.2.2.2.2.2.2.2.2.2.1.length L26, Ent.obj nb_2m0 (mapO (Value.int .i64) (fun x : TB0 => Value.agg #[.bool x.fEnded, .bool x.fOk, S x.fPhys]) K2.2.2.2.2.2.2.2.2.2.2.2.2.2), Ent.row 42 5 (.slice Z45 K2.2.2.2.2.2.2.2.2.2.2.2.1.length P45) K2.2.2.2.2.2.2.2.2.2.2.2.1.length L27]) (H := ((Ent.obj y1 (.cells #[.slice Z49 X16.2.1.length P50, .int .i64 X16.2.2.1, .slice Z50 X16.2.2.2.1.length P51, .map (some nb_1m0), .slice Z51 X16.2.2.2.2.2.1.length P52, .int .i64 X16.2.2.2.2.2.2] 82 (0, 0))) :: (Ent.row 42 5 (.slice Z50 X16.2.2.2.1.length P51) X16.2.2.2.1.length L28) :: (Ent.obj nb_1m0 (mapO (Value.int .i64) (fun x : TB0 => Value.agg #[.bool x.fEnded, .bool x.fOk, S x.fPhys]) X16.2.2.2.2.1)) :: (Ent.row 42 5 (.slice Z51 X16.2.2.2.2.2.1.length P52) X16.2.2.2.2.2.1.length L29) :: (Ent.obj Q6 (.cells #[.int .i64 ((100 : Int) + K2.2.1), .int .i8 1, S X12.fPhys, S [68, 105, 115, 107], .slice Z48 X15.length P49] 42 (0, 0))) :: (Ent.obj Q5 (.cells #[S X12.fPhys, S X12.fType, .slice Z46 X12.fProps.length P47] 54 (0, 0))) :: (Ent.row 54 3 (.slice Z36 X11.1.length P36) X11.1.length L21) :: H)) f N123 (cloud_Cloud_Submit_ok n _ (GL.mono (((((((J1.trans J2).trans J3).trans J10).trans J11).trans J12).trans J13).trans J14) hG) y2 K2.2.2.2.2.2.2.2.2.1 Z43 P43 (B19.mono (J13.trans J14)) K2.2.2.2.2.2.2.2.2.2.1 K2.2.2.2.2.2.2.2.2.2.2.1 Z44 P44 L26 (RepSeq.mono (J13.trans J14) _ _ D33) nb_2m0 K2.2.2.2.2.2.2.2.2.2.2.2.2.2 K2.2.2.2.2.2.2.2.2.2.2.2.1 Z45 P45 L27 (RepSeq.mono (J13.trans J14) _ _ D34) K2.2.2.2.2.2.2.2.2.2.2.2.2.1 _ (⟨(100 : Int) + K2.2.1, (1 : Int), X12.fPhys, [68, 105, 115, 107], X15⟩ : TF0) (TF0.shut (B25.mono J14)) X17 S17) fun _ V15 E_9 W31 J15 N119 q_9 _ f => ?_
         obtain ⟨Z52, P53, Z53, P54, L30, Z54, P55, L31, rfl, rfl, B27, D40, D41⟩ := q_9
         refine W_end rfl (M_go (M1 := V15) (E := [Ent.obj y2 (.cells #[.slice Z52 X17.2.1.length P53, .int .i64 X17.2.2.1, .slice Z53 X17.2.2.2.1.length P54, .map (some nb_2m0), .slice Z54 X17.2.2.2.2.2.1.length P55, .int .i64 X17.2.2.2.2.2.2] 82 (0, 0)), Ent.row 42 5 (.slice Z53 X17.2.2.2.1.length P54) X17.2.2.2.1.length L30, Ent.obj nb_2m0 (mapO (Value.int .i64) (fun x : TB0 => Value.agg #[.bool x.fEnded, .bool x.fOk, S x.fPhys]) X17.2.2.2.2.1), Ent.row 42 5 (.slice Z54 X17.2.2.2.2.2.1.length P55) X17.2.2.2.2.2.1.length L31, Ent.obj y1 (.cells #[.slice Z49 X16.2.1.length P50, .int .i64 X16.2.2.1, .slice Z50 X16.2.2.2.1.length P51, .map (some nb_1m0), .slice Z51 X16.2.2.2.2.2.1.length P52, .int .i64 X16.2.2.2.2.2.2] 82 (0, 0)), Ent.row 42 5 (.slice Z50 X16.2.2.2.1.length P51) X16.2.2.2.1.length L28, Ent.obj nb_1m0 (mapO (Value.int .i64) (fun x : TB0 => Value.agg #[.bool x.fEnded, .bool x.fOk, S x.fPhys]) X16.2.2.2.2.1), Ent.row 42 5 (.slice Z51 X16.2.2.2.2.2.1.length P52) X16.2.2.2.2.2.1.length L29]) (J14.trans J15) N119 (Y0 default f 1 fun _ f => M_end rfl fun W32 N124 => T_n (RcF f F41 (fun B28 F42 => ?_) fun B28 F43 => ?_)))
         ·have U16 : ¬ (X16.1 = X17.1) := (not_iff dI).1 B28
          refine RR (Y f 1 fun _ f => eT (wp_ret (T_r (B_r (T_r ?_)))))
          have N152 := N124.pl [10, 5, 2, 7, 5, 8, 8, 8, 8, 10, 10]
          refine T_r ?_
          obtain rfl := sI F42
          exact .inr ⟨rfl, (X17.2.1, X17.2.2.1, X17.2.2.2.1, X17.2.2.2.2.2.1, X17.2.2.2.2.2.2, X16.2.1, X16.2.2.1, X16.2.2.2.1, X16.2.2.2.2.2.1, X16.2.2.2.2.2.2, X17.2.2.2.2.1, X16.2.2.2.2.1), (sI T2).symm, V15, (((J12.trans J13).trans J14).trans J15), Z52, P53, Z53, P54, L30, Z54, P55, L31, Z49, P50, Z50, P51, L28, Z51, P52, L29, B27, D40, D41, (B26.mono J15), (RepSeq.mono J15 _ _ D38), (RepSeq.mono J15 _ _ D39), f.kp, (N152.dropN 2)⟩
         ·have U17 : ¬ (¬ (X16.1 = X17.1)) := iff_f (not_iff dI) B28
          refine wp_skip (T_n (R_reg (Y f 1 fun _ f => ?_)))
          obtain ⟨X18, S18, F44⟩ := bS F43
          have N129 := N124.pl [7, 7, 7, 7]
          refine Y17 (E := [Ent.obj y1 (.cells #[.slice Z49 X16.2.1.length P50, .int .i64 X16.2.2.1, .slice Z50 X16.2.2.2.1.length P51, .map (some nb_1m0), .slice Z51 X16.2.2.2.2.2.1.length P52, .int .i64 X16.2.2.2.2.2.2] 82 (0, 0)), Ent.row 42 5 (.slice Z50 X16.2.2.2.1.length P51) X16.2.2.2.1.length L28, Ent.obj nb_1m0 (mapO (Value.int .i64) (fun x : TB0 => Value.agg #[.bool x.fEnded, .bool x.fOk, S x.fPhys]) X16.2.2.2.2.1), Ent.row 42 5 (.slice Z51 X16.2.2.2.2.2.1.length P52) X16.2.2.2.2.2.1.length L29]) (H := ((Ent.obj y2 (.cells #[.slice Z52 X17.2.1.length P53, .int .i64 X17.2.2.1, .slice Z53 X17.2.2.2.1.length P54, .map (some nb_2m0), .slice Z54 X17.2.2.2.2.2.1.length P55, .int .i64 X17.2.2.2.2.2.2] 82 (0, 0))) :: (Ent.row 42 5 (.slice Z53 X17.2.2.2.1.length P54) X17.2.2.2.1.length L30) :: (Ent.obj nb_2m0 (mapO (Value.int .i64) (fun x : TB0 => Value.agg #[.bool x.fEnded, .bool x.fOk, S x.fPhys]) X17.2.2.2.2.1)) :: (Ent.row 42 5 (.slice Z54 X17.2.2.2.2.2.1.length P55) X17.2.2.2.2.2.1.length L31) :: (Ent.obj Q6 (.cells #[.int .i64 ((100 : Int) + K2.2.1), .int .i8 1, S X12.fPhys, S [68, 105, 115, 107], .slice Z48 X15.length P49] 42 (0, 0))) :: (Ent.obj Q5 (.cells #[S X12.fPhys, S X12.fType, .slice Z46 X12.fProps.length P47] 54 (0, 0))) :: (Ent.row 54 3 (.slice Z36 X11.1.length P36) X11.1.length L21) :: H)) f N129 (cloud_Cloud_Flight_ok n _ (GL.mono ((((((((J1.trans J2).trans J3).trans J10).trans J11).trans J12).trans J13).trans J14).trans J15) hG) y1 X16.2.1 Z49 P50 (B26.mono J15) X16.2.2.1 X16.2.2.2.1 Z50 P51 L28 (RepSeq.mono J15 _ _ D38) nb_1m0 X16.2.2.2.2.1 X16.2.2.2.2.2.1 Z51 P52 L29 (RepSeq.mono J15 _ _ D39) X16.2.2.2.2.2.2 X18 S18) fun _ V16 E_10 W33 J16 N125 q_10 _ f => ?_
          obtain ⟨Z55, P56, L32, Z56, P57, Z57, P58, L33, Z58, P59, L34, rfl, rfl, D42, B29, D43, D44⟩ := q_10
          refine Y f 2 fun _ f => W_end rfl (B_n (T_n (R_reg ?_)))
          obtain ⟨O6, F45⟩ := nS F44
          refine Y f 1 fun _ f => ?_
          have f := f.st 93 (iW O6)
          refine Y f 1 fun _ f => W_end rfl ?_
          have N164 := N125.pl [5, 2, 11, 8, 9, 9, 8, 9, 9, 11, 11, 11]
          refine T_n ?_
          obtain rfl := sI F45
          exact ⟨⟨I4, (((X18.1.length : Nat) : Int), K2.2.1 + 1, X18.2.1, X18.2.2.1, X18.2.2.2.1, X18.2.2.2.2.2.1, X18.2.2.2.2.2.2, X18.2.2.2.2.1, X17.2.1, X17.2.2.1, X17.2.2.2.1, X17.2.2.2.2.2.1, X17.2.2.2.2.2.2, X17.2.2.2.2.1), Z56, P57, Z57, P58, L33, Z58, P59, L34, Z52, P53, Z53, P54, L30, Z54, P55, L31⟩, Nat.lt_succ_self _, V16, ((((J12.trans J13).trans J14).trans J15).trans J16), ⟨T2, B29, D43, D44, (B27.mono J16), (RepSeq.mono J16 _ _ D40), (RepSeq.mono J16 _ _ D41)⟩, f.kp, (N164.dropN 3)⟩
      ·have U18 := iff_f dI B20
       refine wp_exit (T_x ?_)
       have N173 := N91.pl [8, 8, 8, 8, 6, 8, 8, 8, 8]
       refine T_x ?_
       obtain rfl := sI F46
       exact .inl ⟨rfl, (K2.1, K2.2.2.1, K2.2.2.2.1, K2.2.2.2.2.1, K2.2.2.2.2.2.1, K2.2.2.2.2.2.2.1, K2.2.2.2.2.2.2.2.2.1, K2.2.2.2.2.2.2.2.2.2.1, K2.2.2.2.2.2.2.2.2.2.2.1, K2.2.2.2.2.2.2.2.2.2.2.2.1, K2.2.2.2.2.2.2.2.2.2.2.2.2.1, K2.2.2.2.2.2.2.2.1, K2.2.2.2.2.2.2.2.2.2.2.2.2.2), (sI T2).symm, V12, J12, Z40, P40, Z41, P41, L24, Z42, P42, L25, Z43, P43, Z44, P44, L26, Z45, P45, L27, B18, D31, D32, B19, D33, D34, f.kp, N173⟩
     ·rintro _ _ W36 (⟨rfl, G5, rfl, V17, J17, Z59, P60, Z60, P61, L35, Z61, P62, L36, Z62, P63, Z63, P64, L37, Z64, P65, L38, B30, D45, D46, B31, D47, D48, f, N130⟩ | ⟨rfl, G6, rfl, V18, J18, Z65, P66, Z66, P67, L39, Z67, P68, L40, Z68, P69, Z69, P70, L41, Z70, P71, L42, B32, D49, D50, B33, D51, D52, f, N131⟩)
      ·refine B_x (T_n (R_seq (RR (Y f 1 fun _ f => ?_))))
       obtain ⟨O7, F47⟩ := nS F28
       refine Y f 1 fun _ f => ?_
       have f := f.st 95 (iW O7)
       refine Y f 1 fun _ f => eT (wp_block ?_)
       have N182 := N130.pl [8, 8, 8, 8, 7, 7, 8, 8, 8]
       obtain ⟨Q7, hL_3, F48⟩ := bS F47
       refine wp_mono (Q := fun e a w => (e = .exit 4 ∧ (∃ G7 : List TD0 × Int × List TF0 × List TF0 × Int × List TD0 × Int × List TF0 × List TF0 × Int × (List (Int × TB0)) × (List (Int × TB0)), Q7 = G7 ∧ ∃ V22 : Mem, V17.le V22 ∧ ∃ (Z83 : Option Addr), ∃ (P84 : Nat), ∃ (Z84 : Option Addr), ∃ (P85 : Nat), ∃ (L51 : List Value), ∃ (Z85 : Option Addr), ∃ (P86 : Nat), ∃ (L52 : List Value), ∃ (Z86 : Option Addr), ∃ (P87 : Nat), ∃ (Z87 : Option Addr), ∃ (P88 : Nat), ∃ (L53 : List Value), ∃ (Z88 : Option Addr), ∃ (P89 : Nat), ∃ (L54 : List Value), Sli V22 3 emb_TD0 Z83 P84 G7.1 ∧ RepSeq V22 (G7.2.2.1.map emb_TF0) L51 ∧ RepSeq V22 (G7.2.2.2.1.map emb_TF0) L52 ∧ Sli V22 3 emb_TD0 Z86 P87 G7.2.2.2.2.2.1 ∧ RepSeq V22 (G7.2.2.2.2.2.2.2.1.map emb_TF0) L53 ∧ RepSeq V22 (G7.2.2.2.2.2.2.2.2.1.map emb_TF0) L54 ∧ Frm 130 [(5, .pointer (some (⟨y1, 0, none⟩))), (6, .pointer (some (⟨y2, 0, none⟩))), (7, .int .i64 G3.1)] a ∧ Hp w0 V22 ((Ent.row 42 5 (.slice Z84 G7.2.2.1.length P85) G7.2.2.1.length L51) :: (Ent.row 42 5 (.slice Z85 G7.2.2.2.1.length P86) G7.2.2.2.1.length L52) :: (Ent.row 42 5 (.slice Z87 G7.2.2.2.2.2.2.2.1.length P88) G7.2.2.2.2.2.2.2.1.length L53) :: (Ent.row 42 5 (.slice Z88 G7.2.2.2.2.2.2.2.2.1.length P89) G7.2.2.2.2.2.2.2.2.1.length L54) :: (Ent.obj nb_1m0 (mapO (Value.int .i64) (fun x : TB0 => Value.agg #[.bool x.fEnded, .bool x.fOk, S x.fPhys]) G7.2.2.2.2.2.2.2.2.2.2.1)) :: (Ent.obj nb_2m0 (mapO (Value.int .i64) (fun x : TB0 => Value.agg #[.bool x.fEnded, .bool x.fOk, S x.fPhys]) G7.2.2.2.2.2.2.2.2.2.2.2)) :: (Ent.row 54 3 (.slice Z36 X11.1.length P36) X11.1.length L21) :: (Ent.obj y1 (.cells #[.slice Z83 G7.1.length P84, .int .i64 G7.2.1, .slice Z84 G7.2.2.1.length P85, .map (some nb_1m0), .slice Z85 G7.2.2.2.1.length P86, .int .i64 G7.2.2.2.2.1] 82 (0, 0))) :: (Ent.obj y2 (.cells #[.slice Z86 G7.2.2.2.2.2.1.length P87, .int .i64 G7.2.2.2.2.2.2.1, .slice Z87 G7.2.2.2.2.2.2.2.1.length P88, .map (some nb_2m0), .slice Z88 G7.2.2.2.2.2.2.2.2.1.length P89, .int .i64 G7.2.2.2.2.2.2.2.2.2.1] 82 (0, 0))) :: H) w))) (R_loop (n := 130) (w0 := w0) (M := V17) (fun (x : Nat × (Int × List TD0 × Int × List TF0 × List TF0 × Int × (List (Int × TB0)) × List TD0 × Int × List TF0 × List TF0 × Int × (List (Int × TB0))) × (Option Addr) × Nat × (Option Addr) × Nat × (List Value) × (Option Addr) × Nat × (List Value) × (Option Addr) × Nat × (Option Addr) × Nat × (List Value) × (Option Addr) × Nat × (List Value)) => match x with | (I5, K3, Z71, P72, Z72, P73, L43, Z73, P74, L44, Z74, P75, Z75, P76, L45, Z76, P77, L46) => [(5, .pointer (some (⟨y1, 0, none⟩))), (6, .pointer (some (⟨y2, 0, none⟩))), (7, .int .i64 G3.1), (15, .int .i64 K3.1)]) (fun (x : Nat × (Int × List TD0 × Int × List TF0 × List TF0 × Int × (List (Int × TB0)) × List TD0 × Int × List TF0 × List TF0 × Int × (List (Int × TB0))) × (Option Addr) × Nat × (Option Addr) × Nat × (List Value) × (Option Addr) × Nat × (List Value) × (Option Addr) × Nat × (Option Addr) × Nat × (List Value) × (Option Addr) × Nat × (List Value)) => match x with | (I5, K3, Z71, P72, Z72, P73, L43, Z73, P74, L44, Z74, P75, Z75, P76, L45, Z76, P77, L46) => ((Ent.row 42 5 (.slice Z72 K3.2.2.2.1.length P73) K3.2.2.2.1.length L43) :: (Ent.row 42 5 (.slice Z73 K3.2.2.2.2.1.length P74) K3.2.2.2.2.1.length L44) :: (Ent.obj nb_1m0 (mapO (Value.int .i64) (fun x : TB0 => Value.agg #[.bool x.fEnded, .bool x.fOk, S x.fPhys]) K3.2.2.2.2.2.2.1)) :: (Ent.row 42 5 (.slice Z75 K3.2.2.2.2.2.2.2.2.2.1.length P76) K3.2.2.2.2.2.2.2.2.2.1.length L45) :: (Ent.row 42 5 (.slice Z76 K3.2.2.2.2.2.2.2.2.2.2.1.length P77) K3.2.2.2.2.2.2.2.2.2.2.1.length L46) :: (Ent.obj nb_2m0 (mapO (Value.int .i64) (fun x : TB0 => Value.agg #[.bool x.fEnded, .bool x.fOk, S x.fPhys]) K3.2.2.2.2.2.2.2.2.2.2.2.2)) :: (Ent.row 54 3 (.slice Z36 X11.1.length P36) X11.1.length L21) :: (Ent.obj y1 (.cells #[.slice Z71 K3.2.1.length P72, .int .i64 K3.2.2.1, .slice Z72 K3.2.2.2.1.length P73, .map (some nb_1m0), .slice Z73 K3.2.2.2.2.1.length P74, .int .i64 K3.2.2.2.2.2.1] 82 (0, 0))) :: (Ent.obj y2 (.cells #[.slice Z74 K3.2.2.2.2.2.2.2.1.length P75, .int .i64 K3.2.2.2.2.2.2.2.2.1, .slice Z75 K3.2.2.2.2.2.2.2.2.2.1.length P76, .map (some nb_2m0), .slice Z76 K3.2.2.2.2.2.2.2.2.2.2.1.length P77, .int .i64 K3.2.2.2.2.2.2.2.2.2.2.2.1] 82 (0, 0))) :: H)) (fun (x : Nat × (Int × List TD0 × Int × List TF0 × List TF0 × Int × (List (Int × TB0)) × List TD0 × Int × List TF0 × List TF0 × Int × (List (Int × TB0))) × (Option Addr) × Nat × (Option Addr) × Nat × (List Value) × (Option Addr) × Nat × (List Value) × (Option Addr) × Nat × (Option Addr) × Nat × (List Value) × (Option Addr) × Nat × (List Value)) (MM : Mem) => match x with | (I5, K3, Z71, P72, Z72, P73, L43, Z73, P74, L44, Z74, P75, Z75, P76, L45, Z76, P77, L46) => loopF (law11_CloudTurned_s3 n) I5 K3 = some Q7 ∧ Sli MM 3 emb_TD0 Z71 P72 K3.2.1 ∧ RepSeq MM (K3.2.2.2.1.map emb_TF0) L43 ∧ RepSeq MM (K3.2.2.2.2.1.map emb_TF0) L44 ∧ Sli MM 3 emb_TD0 Z74 P75 K3.2.2.2.2.2.2.2.1 ∧ RepSeq MM (K3.2.2.2.2.2.2.2.2.2.1.map emb_TF0) L45 ∧ RepSeq MM (K3.2.2.2.2.2.2.2.2.2.2.1.map emb_TF0) L46) (fun (x : Nat × (Int × List TD0 × Int × List TF0 × List TF0 × Int × (List (Int × TB0)) × List TD0 × Int × List TF0 × List TF0 × Int × (List (Int × TB0))) × (Option Addr) × Nat × (Option Addr) × Nat × (List Value) × (Option Addr) × Nat × (List Value) × (Option Addr) × Nat × (Option Addr) × Nat × (List Value) × (Option Addr) × Nat × (List Value)) => match x with | (I5, K3, Z71, P72, Z72, P73, L43, Z73, P74, L44, Z74, P75, Z75, P76, L45, Z76, P77, L46) => I5) (n, (G5.1 - 1, G5.2.1, G5.2.2.1, G5.2.2.2.1, G5.2.2.2.2.1, G5.2.2.2.2.2.1, G5.2.2.2.2.2.2.2.2.2.2.2.1, G5.2.2.2.2.2.2.1, G5.2.2.2.2.2.2.2.1, G5.2.2.2.2.2.2.2.2.1, G5.2.2.2.2.2.2.2.2.2.1, G5.2.2.2.2.2.2.2.2.2.2.1, G5.2.2.2.2.2.2.2.2.2.2.2.2), Z59, P60, Z60, P61, L35, Z61, P62, L36, Z62, P63, Z63, P64, L37, Z64, P65, L38) (f.kp) N182 ⟨hL_3, B30, D45, D46, B31, D47, D48⟩ ?_) ?_
       ·rintro ⟨I5, K3, Z71, P72, Z72, P73, L43, Z73, P74, L44, Z74, P75, Z75, P76, L45, Z76, P77, L46⟩ V19 _ W37 J19 I_3 f N183
        obtain ⟨I_3L, B34, D53, D54, B35, D55, D56⟩ := I_3
        obtain ⟨I6, r_3, rfl, hs_3, T3⟩ := loop_step I_3L
        unfold law11_CloudTurned_s3 at hs_3
        refine R_seq (RR (Y f 2 fun _ f => eT (RcF f hs_3 (fun B36 F49 => ?_) fun B36 F53 => ?_)))
        ·have U19 := dI.1 B36
         refine wp_skip (T_n (R_seq (wp_block (RR (Y f 1 fun _ f => ?_)))))
         obtain ⟨X19, S19, F50⟩ := bS F49
         have N188 := N183.pl [1, 2, 2, 7]
         refine Y17 (E := [Ent.obj y1 (.cells #[.slice Z71 K3.2.1.length P72, .int .i64 K3.2.2.1, .slice Z72 K3.2.2.2.1.length P73, .map (some nb_1m0), .slice Z73 K3.2.2.2.2.1.length P74, .int .i64 K3.2.2.2.2.2.1] 82 (0, 0)), Ent.row 42 5 (.slice Z72 K3.2.2.2.1.length P73) K3.2.2.2.1.length L43, Ent.obj nb_1m0 (mapO (Value.int .i64) (fun x : TB0 => Value.agg #[.bool x.fEnded, .bool x.fOk, S x.fPhys]) K3.2.2.2.2.2.2.1), Ent.row 42 5 (.slice Z73 K3.2.2.2.2.1.length P74) K3.2.2.2.2.1.length L44]) (H := ((Ent.row 42 5 (.slice Z75 K3.2.2.2.2.2.2.2.2.2.1.length P76) K3.2.2.2.2.2.2.2.2.2.1.length L45) :: (Ent.row 42 5 (.slice Z76 K3.2.2.2.2.2.2.2.2.2.2.1.length P77) K3.2.2.2.2.2.2.2.2.2.2.1.length L46) :: (Ent.obj nb_2m0 (mapO (Value.int .i64) (fun x : TB0 => Value.agg #[.bool x.fEnded, .bool x.fOk, S x.fPhys]) K3.2.2.2.2.2.2.2.2.2.2.2.2)) :: (Ent.row 54 3 (.slice Z36 X11.1.length P36) X11.1.length L21) :: (Ent.obj y2 (.cells #[.slice Z74 K3.2.2.2.2.2.2.2.1.length P75, .int .i64 K3.2.2.2.2.2.2.2.2.1, .slice Z75 K3.2.2.2.2.2.2.2.2.2.1.length P76, .map (some nb_2m0), .slice Z76 K3.2.2.2.2.2.2.2.2.2.2.1.length P77, .int .i64 K3.2.2.2.2.2.2.2.2.2.2.2.1] 82 (0, 0))) :: H)) f N188 (cloud_Cloud_End_ok n _ (GL.mono ((((((J1.trans J2).trans J3).trans J10).trans J11).trans J17).trans J19) hG) y1 K3.2.1 Z71 P72 B34 K3.2.2.1 K3.2.2.2.1 Z72 P73 L43 D53 nb_1m0 K3.2.2.2.2.2.2.1 K3.2.2.2.2.1 Z73 P74 L44 D54 K3.2.2.2.2.2.1 (0 : Int) (true) X19 S19) fun _ V20 E_11 W38 J20 N184 q_11 _ f => ?_
         obtain ⟨c_7, Z77, P78, Z78, P79, L47, Z79, P80, L48, rfl, rfl, D57, B37, D58, D59⟩ := q_11
         obtain rfl := TB0.opn D57
         refine eT (R_reg (Y f 2 fun _ f => ?_))
         obtain ⟨X20, S20, F51⟩ := bS F50
         have N193 := N184.pl [5, 6, 6, 8]
         refine Y17 (E := [Ent.obj y2 (.cells #[.slice Z74 K3.2.2.2.2.2.2.2.1.length P75, .int .i64 K3.2.2.2.2.2.2.2.2.1, .slice Z75 K3.2.2.2.2.2.2.2.2.2.1.length P76, .map (some nb_2m0), .slice Z76 K3.2.2.2.2.2.2.2.2.2.2.1.length P77, .int .i64 K3.2.2.2.2.2.2.2.2.2.2.2.1] 82 (0, 0)), Ent.row 42 5 (.slice Z75 K3.2.2.2.2.2.2.2.2.2.1.length P76) K3.2.2.2.2.2.2.2.2.2.1.length L45, Ent.obj nb_2m0 (mapO (Value.int .i64) (fun x : TB0 => Value.agg #[.bool x.fEnded, .bool x.fOk, S x.fPhys]) K3.2.2.2.2.2.2.2.2.2.2.2.2), Ent.row 42 5 (.slice Z76 K3.2.2.2.2.2.2.2.2.2.2.1.length P77) K3.2.2.2.2.2.2.2.2.2.2.1.length L46]) (H := ((Ent.obj y1 (.cells #[.slice Z77 X19.2.2.2.1.length P78, .int .i64 X19.2.2.2.2.1, .slice Z78 X19.2.2.2.2.2.1.length P79, .map (some nb_1m0), .slice Z79 X19.2.2.2.2.2.2.2.1.length P80, .int .i64 X19.2.2.2.2.2.2.2.2] 82 (0, 0))) :: (Ent.row 42 5 (.slice Z78 X19.2.2.2.2.2.1.length P79) X19.2.2.2.2.2.1.length L47) :: (Ent.obj nb_1m0 (mapO (Value.int .i64) (fun x : TB0 => Value.agg #[.bool x.fEnded, .bool x.fOk, S x.fPhys]) X19.2.2.2.2.2.2.1)) :: (Ent.row 42 5 (.slice Z79 X19.2.2.2.2.2.2.2.1.length P80) X19.2.2.2.2.2.2.2.1.length L48) :: (Ent.row 54 3 (.slice Z36 X11.1.length P36) X11.1.length L21) :: H)) f N193 (cloud_Cloud_End_ok n _ (GL.mono (((((((J1.trans J2).trans J3).trans J10).trans J11).trans J17).trans J19).trans J20) hG) y2 K3.2.2.2.2.2.2.2.1 Z74 P75 (B35.mono J20) K3.2.2.2.2.2.2.2.2.1 K3.2.2.2.2.2.2.2.2.2.1 Z75 P76 L45 (RepSeq.mono J20 _ _ D55) nb_2m0 K3.2.2.2.2.2.2.2.2.2.2.2.2 K3.2.2.2.2.2.2.2.2.2.2.1 Z76 P77 L46 (RepSeq.mono J20 _ _ D56) K3.2.2.2.2.2.2.2.2.2.2.2.1 K3.1 (true) X20 S20) fun _ V21 E_12 W39 J21 N189 q_12 _ f => ?_
         obtain ⟨c_8, Z80, P81, Z81, P82, L49, Z82, P83, L50, rfl, rfl, D60, B38, D61, D62⟩ := q_12
         obtain rfl := TB0.opn D60
         refine W_end rfl (B_n (T_n (R_reg (Y f 1 fun _ f => ?_))))
         obtain ⟨O8, F52⟩ := nS F51
         refine Y f 1 fun _ f => ?_
         have f := f.st 99 (iW O8)
         refine Y f 1 fun _ f => W_end rfl ?_
         have N202 := N189.pl [4, 8, 4, 5, 5, 7, 8, 8]
         refine T_n ?_
         obtain rfl := sI F52
         exact ⟨⟨I6, (K3.1 - 1, X19.2.2.2.1, X19.2.2.2.2.1, X19.2.2.2.2.2.1, X19.2.2.2.2.2.2.2.1, X19.2.2.2.2.2.2.2.2, X19.2.2.2.2.2.2.1, X20.2.2.2.1, X20.2.2.2.2.1, X20.2.2.2.2.2.1, X20.2.2.2.2.2.2.2.1, X20.2.2.2.2.2.2.2.2, X20.2.2.2.2.2.2.1), Z77, P78, Z78, P79, L47, Z79, P80, L48, Z80, P81, Z81, P82, L49, Z82, P83, L50⟩, Nat.lt_succ_self _, V21, ((J19.trans J20).trans J21), ⟨T3, (B37.mono J21), (RepSeq.mono J21 _ _ D58), (RepSeq.mono J21 _ _ D59), B38, D61, D62⟩, f.kp, N202⟩
        ·have U20 := iff_f dI B36
         refine wp_exit (T_x ?_)
         have N211 := N183.pl [8, 8, 8, 8, 6, 8, 8, 8, 8]
         refine T_x ?_
         obtain rfl := sI F53
         exact ⟨rfl, (K3.2.1, K3.2.2.1, K3.2.2.2.1, K3.2.2.2.2.1, K3.2.2.2.2.2.1, K3.2.2.2.2.2.2.2.1, K3.2.2.2.2.2.2.2.2.1, K3.2.2.2.2.2.2.2.2.2.1, K3.2.2.2.2.2.2.2.2.2.2.1, K3.2.2.2.2.2.2.2.2.2.2.2.1, K3.2.2.2.2.2.2.1, K3.2.2.2.2.2.2.2.2.2.2.2.2), (sI T3).symm, V19, J19, Z71, P72, Z72, P73, L43, Z73, P74, L44, Z74, P75, Z75, P76, L45, Z76, P77, L46, B34, D53, D54, B35, D55, D56, f.kp, N211⟩
       ·rintro _ _ W41 ⟨rfl, G7, hq_, V22, J22, Z83, P84, Z84, P85, L51, Z85, P86, L52, Z86, P87, Z87, P88, L53, Z88, P89, L54, B39, D63, D64, B40, D65, D66, f, N194⟩
        subst Q7
        refine B_x (T_n (RR (Y f 1 fun _ f => ?_)))
        obtain ⟨X21, S21, F54⟩ := bS F48
        have N216 := N194.pl [1, 4, 2, 7]
        refine Y17 (E := [Ent.obj y1 (.cells #[.slice Z83 G7.1.length P84, .int .i64 G7.2.1, .slice Z84 G7.2.2.1.length P85, .map (some nb_1m0), .slice Z85 G7.2.2.2.1.length P86, .int .i64 G7.2.2.2.2.1] 82 (0, 0)), Ent.row 42 5 (.slice Z84 G7.2.2.1.length P85) G7.2.2.1.length L51, Ent.obj nb_1m0 (mapO (Value.int .i64) (fun x : TB0 => Value.agg #[.bool x.fEnded, .bool x.fOk, S x.fPhys]) G7.2.2.2.2.2.2.2.2.2.2.1), Ent.row 42 5 (.slice Z85 G7.2.2.2.1.length P86) G7.2.2.2.1.length L52]) (H := ((Ent.row 42 5 (.slice Z87 G7.2.2.2.2.2.2.2.1.length P88) G7.2.2.2.2.2.2.2.1.length L53) :: (Ent.row 42 5 (.slice Z88 G7.2.2.2.2.2.2.2.2.1.length P89) G7.2.2.2.2.2.2.2.2.1.length L54) :: (Ent.obj nb_2m0 (mapO (Value.int .i64) (fun x : TB0 => Value.agg #[.bool x.fEnded, .bool x.fOk, S x.fPhys]) G7.2.2.2.2.2.2.2.2.2.2.2)) :: (Ent.row 54 3 (.slice Z36 X11.1.length P36) X11.1.length L21) :: (Ent.obj y2 (.cells #[.slice Z86 G7.2.2.2.2.2.1.length P87, .int .i64 G7.2.2.2.2.2.2.1, .slice Z87 G7.2.2.2.2.2.2.2.1.length P88, .map (some nb_2m0), .slice Z88 G7.2.2.2.2.2.2.2.2.1.length P89, .int .i64 G7.2.2.2.2.2.2.2.2.2.1] 82 (0, 0))) :: H)) f N216 (cloud_Cloud_Things_ok n _ (GL.mono ((((((J1.trans J2).trans J3).trans J10).trans J11).trans J17).trans J22) hG) y1 G7.1 Z83 P84 B39 G7.2.1 G7.2.2.1 Z84 P85 L51 D63 nb_1m0 G7.2.2.2.2.2.2.2.2.2.2.1 G7.2.2.2.1 Z85 P86 L52 D64 G7.2.2.2.2.1 X21 S21) fun _ V23 E_13 W42 J23 N212 q_13 _ f => ?_
        obtain ⟨Z89, P90, L55, Z90, P91, Z91, P92, L56, Z92, P93, L57, rfl, rfl, D67, B41, D68, D69⟩ := q_13
        refine Y f 4 fun _ f => ?_
        rcases cE F54 with ⟨B42, F55⟩ | ⟨B42, F67⟩
        ·have U21 := dI.1 B42
         have f := f.st 110 (cB B42)
         refine Y f 1 fun _ f => ?_
         obtain ⟨X22, S22, F56⟩ := bS F55
         have N221 := N212.pl [4, 4, 4, 4]
         refine Y17 (E := [Ent.obj y1 (.cells #[.slice Z90 X21.2.1.length P91, .int .i64 X21.2.2.1, .slice Z91 X21.2.2.2.1.length P92, .map (some nb_1m0), .slice Z92 X21.2.2.2.2.2.1.length P93, .int .i64 X21.2.2.2.2.2.2] 82 (0, 0)), Ent.row 42 5 (.slice Z91 X21.2.2.2.1.length P92) X21.2.2.2.1.length L56, Ent.obj nb_1m0 (mapO (Value.int .i64) (fun x : TB0 => Value.agg #[.bool x.fEnded, .bool x.fOk, S x.fPhys]) X21.2.2.2.2.1), Ent.row 42 5 (.slice Z92 X21.2.2.2.2.2.1.length P93) X21.2.2.2.2.2.1.length L57]) (H := ((Ent.row 54 3 (.slice Z89 X21.1.length P90) X21.1.length L55) :: (Ent.row 42 5 (.slice Z87 G7.2.2.2.2.2.2.2.1.length P88) G7.2.2.2.2.2.2.2.1.length L53) :: (Ent.row 42 5 (.slice Z88 G7.2.2.2.2.2.2.2.2.1.length P89) G7.2.2.2.2.2.2.2.2.1.length L54) :: (Ent.obj nb_2m0 (mapO (Value.int .i64) (fun x : TB0 => Value.agg #[.bool x.fEnded, .bool x.fOk, S x.fPhys]) G7.2.2.2.2.2.2.2.2.2.2.2)) :: (Ent.row 54 3 (.slice Z36 X11.1.length P36) X11.1.length L21) :: (Ent.obj y2 (.cells #[.slice Z86 G7.2.2.2.2.2.1.length P87, .int .i64 G7.2.2.2.2.2.2.1, .slice Z87 G7.2.2.2.2.2.2.2.1.length P88, .map (some nb_2m0), .slice Z88 G7.2.2.2.2.2.2.2.2.1.length P89, .int .i64 G7.2.2.2.2.2.2.2.2.2.1] 82 (0, 0))) :: H)) f N221 (cloud_Cloud_Flight_ok n _ (GL.mono (((((((J1.trans J2).trans J3).trans J10).trans J11).trans J17).trans J22).trans J23) hG) y1 X21.2.1 Z90 P91 B41 X21.2.2.1 X21.2.2.2.1 Z91 P92 L56 D68 nb_1m0 X21.2.2.2.2.1 X21.2.2.2.2.2.1 Z92 P93 L57 D69 X21.2.2.2.2.2.2 X22 S22) fun _ V24 E_14 W43 J24 N217 q_14 _ f => ?_
         obtain ⟨Z93, P94, L58, Z94, P95, Z95, P96, L59, Z96, P97, L60, rfl, rfl, D70, B43, D71, D72⟩ := q_14
         refine Y f 2 fun _ f => ?_
         obtain ⟨X23, S23, F57⟩ := bS F56
         have N226 := N217.pl [7, 8, 8, 10]
         refine Y17 (E := [Ent.obj y2 (.cells #[.slice Z86 G7.2.2.2.2.2.1.length P87, .int .i64 G7.2.2.2.2.2.2.1, .slice Z87 G7.2.2.2.2.2.2.2.1.length P88, .map (some nb_2m0), .slice Z88 G7.2.2.2.2.2.2.2.2.1.length P89, .int .i64 G7.2.2.2.2.2.2.2.2.2.1] 82 (0, 0)), Ent.row 42 5 (.slice Z87 G7.2.2.2.2.2.2.2.1.length P88) G7.2.2.2.2.2.2.2.1.length L53, Ent.obj nb_2m0 (mapO (Value.int .i64) (fun x : TB0 => Value.agg #[.bool x.fEnded, .bool x.fOk, S x.fPhys]) G7.2.2.2.2.2.2.2.2.2.2.2), Ent.row 42 5 (.slice Z88 G7.2.2.2.2.2.2.2.2.1.length P89) G7.2.2.2.2.2.2.2.2.1.length L54]) (H := ((Ent.row 3 1 (.slice Z93 X22.1.length P94) X22.1.length L58) :: (Ent.obj y1 (.cells #[.slice Z94 X22.2.1.length P95, .int .i64 X22.2.2.1, .slice Z95 X22.2.2.2.1.length P96, .map (some nb_1m0), .slice Z96 X22.2.2.2.2.2.1.length P97, .int .i64 X22.2.2.2.2.2.2] 82 (0, 0))) :: (Ent.row 42 5 (.slice Z95 X22.2.2.2.1.length P96) X22.2.2.2.1.length L59) :: (Ent.obj nb_1m0 (mapO (Value.int .i64) (fun x : TB0 => Value.agg #[.bool x.fEnded, .bool x.fOk, S x.fPhys]) X22.2.2.2.2.1)) :: (Ent.row 42 5 (.slice Z96 X22.2.2.2.2.2.1.length P97) X22.2.2.2.2.2.1.length L60) :: (Ent.row 54 3 (.slice Z89 X21.1.length P90) X21.1.length L55) :: (Ent.row 54 3 (.slice Z36 X11.1.length P36) X11.1.length L21) :: H)) f N226 (cloud_Cloud_Flight_ok n _ (GL.mono ((((((((J1.trans J2).trans J3).trans J10).trans J11).trans J17).trans J22).trans J23).trans J24) hG) y2 G7.2.2.2.2.2.1 Z86 P87 (B40.mono (J23.trans J24)) G7.2.2.2.2.2.2.1 G7.2.2.2.2.2.2.2.1 Z87 P88 L53 (RepSeq.mono (J23.trans J24) _ _ D65) nb_2m0 G7.2.2.2.2.2.2.2.2.2.2.2 G7.2.2.2.2.2.2.2.2.1 Z88 P89 L54 (RepSeq.mono (J23.trans J24) _ _ D66) G7.2.2.2.2.2.2.2.2.2.1 X23 S23) fun _ V25 E_15 W44 J25 N222 q_15 _ f => ?_
         obtain ⟨Z97, P98, L61, Z98, P99, Z99, P100, L62, Z100, P101, L63, rfl, rfl, D73, B44, D74, D75⟩ := q_15
         refine Y f 1 fun _ f => ?_
         obtain ⟨O9, F58⟩ := nS F57
         refine Y f 1 fun _ f => ?_
         have f := f.st 117 (iW O9)
         refine Y f 3 fun _ f => ?_
         rcases cE F58 with ⟨B45, F59⟩ | ⟨B45, F66⟩
         ·have U22 := dI.1 B45
          have f := f.st 120 (cB B45)
          refine Y f 1 fun _ f => ?_
          obtain ⟨X24, S24, F60⟩ := bS F59
          have N231 := N222.pl [9, 9, 9, 9]
          refine Y17 (E := [Ent.obj y1 (.cells #[.slice Z94 X22.2.1.length P95, .int .i64 X22.2.2.1, .slice Z95 X22.2.2.2.1.length P96, .map (some nb_1m0), .slice Z96 X22.2.2.2.2.2.1.length P97, .int .i64 X22.2.2.2.2.2.2] 82 (0, 0)), Ent.row 42 5 (.slice Z95 X22.2.2.2.1.length P96) X22.2.2.2.1.length L59, Ent.obj nb_1m0 (mapO (Value.int .i64) (fun x : TB0 => Value.agg #[.bool x.fEnded, .bool x.fOk, S x.fPhys]) X22.2.2.2.2.1), Ent.row 42 5 (.slice Z96 X22.2.2.2.2.2.1.length P97) X22.2.2.2.2.2.1.length L60]) (H := ((Ent.row 3 1 (.slice Z97 X23.1.length P98) X23.1.length L61) :: (Ent.obj y2 (.cells #[.slice Z98 X23.2.1.length P99, .int .i64 X23.2.2.1, .slice Z99 X23.2.2.2.1.length P100, .map (some nb_2m0), .slice Z100 X23.2.2.2.2.2.1.length P101, .int .i64 X23.2.2.2.2.2.2] 82 (0, 0))) :: (Ent.row 42 5 (.slice Z99 X23.2.2.2.1.length P100) X23.2.2.2.1.length L62) :: (Ent.obj nb_2m0 (mapO (Value.int .i64) (fun x : TB0 => Value.agg #[.bool x.fEnded, .bool x.fOk, S x.fPhys]) X23.2.2.2.2.1)) :: (Ent.row 42 5 (.slice Z100 X23.2.2.2.2.2.1.length P101) X23.2.2.2.2.2.1.length L63) :: (Ent.row 3 1 (.slice Z93 X22.1.length P94) X22.1.length L58) :: (Ent.row 54 3 (.slice Z89 X21.1.length P90) X21.1.length L55) :: (Ent.row 54 3 (.slice Z36 X11.1.length P36) X11.1.length L21) :: H)) f N231 (cloud_Cloud_Things_ok n _ (GL.mono (((((((((J1.trans J2).trans J3).trans J10).trans J11).trans J17).trans J22).trans J23).trans J24).trans J25) hG) y1 X22.2.1 Z94 P95 (B43.mono J25) X22.2.2.1 X22.2.2.2.1 Z95 P96 L59 (RepSeq.mono J25 _ _ D71) nb_1m0 X22.2.2.2.2.1 X22.2.2.2.2.2.1 Z96 P97 L60 (RepSeq.mono J25 _ _ D72) X22.2.2.2.2.2.2 X24 S24) fun _ V26 E_16 W45 J26 N227 q_16 _ f => ?_
          obtain ⟨Z101, P102, L64, Z102, P103, Z103, P104, L65, Z104, P105, L66, rfl, rfl, D76, B46, D77, D78⟩ := q_16
          refine Y f 1 fun _ f => ?_
          obtain ⟨X25, S25, F61⟩ := bS F60
          have N236 := N227.pl [9, 9, 9, 9]
          refine Y17 (E := [Ent.obj y2 (.cells #[.slice Z98 X23.2.1.length P99, .int .i64 X23.2.2.1, .slice Z99 X23.2.2.2.1.length P100, .map (some nb_2m0), .slice Z100 X23.2.2.2.2.2.1.length P101, .int .i64 X23.2.2.2.2.2.2] 82 (0, 0)), Ent.row 42 5 (.slice Z99 X23.2.2.2.1.length P100) X23.2.2.2.1.length L62, Ent.obj nb_2m0 (mapO (Value.int .i64) (fun x : TB0 => Value.agg #[.bool x.fEnded, .bool x.fOk, S x.fPhys]) X23.2.2.2.2.1), Ent.row 42 5 (.slice Z100 X23.2.2.2.2.2.1.length P101) X23.2.2.2.2.2.1.length L63]) (H := ((Ent.row 54 3 (.slice Z101 X24.1.length P102) X24.1.length L64) :: (Ent.obj y1 (.cells #[.slice Z102 X24.2.1.length P103, .int .i64 X24.2.2.1, .slice Z103 X24.2.2.2.1.length P104, .map (some nb_1m0), .slice Z104 X24.2.2.2.2.2.1.length P105, .int .i64 X24.2.2.2.2.2.2] 82 (0, 0))) :: (Ent.row 42 5 (.slice Z103 X24.2.2.2.1.length P104) X24.2.2.2.1.length L65) :: (Ent.obj nb_1m0 (mapO (Value.int .i64) (fun x : TB0 => Value.agg #[.bool x.fEnded, .bool x.fOk, S x.fPhys]) X24.2.2.2.2.1)) :: (Ent.row 42 5 (.slice Z104 X24.2.2.2.2.2.1.length P105) X24.2.2.2.2.2.1.length L66) :: (Ent.row 3 1 (.slice Z97 X23.1.length P98) X23.1.length L61) :: (Ent.row 3 1 (.slice Z93 X22.1.length P94) X22.1.length L58) :: (Ent.row 54 3 (.slice Z89 X21.1.length P90) X21.1.length L55) :: (Ent.row 54 3 (.slice Z36 X11.1.length P36) X11.1.length L21) :: H)) f N236 (cloud_Cloud_Things_ok n _ (GL.mono ((((((((((J1.trans J2).trans J3).trans J10).trans J11).trans J17).trans J22).trans J23).trans J24).trans J25).trans J26) hG) y2 X23.2.1 Z98 P99 (B44.mono J26) X23.2.2.1 X23.2.2.2.1 Z99 P100 L62 (RepSeq.mono J26 _ _ D74) nb_2m0 X23.2.2.2.2.1 X23.2.2.2.2.2.1 Z100 P101 L63 (RepSeq.mono J26 _ _ D75) X23.2.2.2.2.2.2 X25 S25) fun _ V27 E_17 W46 J27 N232 q_17 _ f => ?_
          obtain ⟨Z105, P106, L67, Z106, P107, Z107, P108, L68, Z108, P109, L69, rfl, rfl, D79, B47, D80, D81⟩ := q_17
          have N237 := N232.pl [5]
          obtain ⟨V28, Z109, P110, J28, H6, N238, B48, hb_1⟩ := N237.lend (f := emb_TD0) (xs := X24.1) szd_TD0 (RepSeq.mono J27 _ _ D76)
          have f := f.st 122 (H6)
          obtain ⟨V29, Z110, P111, J29, H7, N239, B49, hb_2⟩ := N238.lend (f := emb_TD0) (xs := X25.1) szd_TD0 (RepSeq.mono J28 _ _ D79)
          have f := f.st 124 (H7)
          obtain ⟨X26, S26, F62⟩ := bS F61
          refine Y18 f N239 (ref11_SameThings_ok n _ (GL.mono (((((((((((((J1.trans J2).trans J3).trans J10).trans J11).trans J17).trans J22).trans J23).trans J24).trans J25).trans J26).trans J27).trans J28).trans J29) hG) Z109 P110 X24.1 (B48.mono J29) Z110 P111 X25.1 B49 X26 S26) fun W47 N240 _ f => ?_
          obtain ⟨V30, J30, N241⟩ := hb_2 _ _ _ (mR _) N240
          have f := f.st 124 (H7.symm)
          obtain ⟨V31, J31, N242⟩ := hb_1 _ _ _ J30 N241
          have f := f.st 122 (H6.symm)
          refine Y f 2 fun _ f => ?_
          rcases cE F62 with ⟨B50, F63⟩ | ⟨B50, F65⟩
          ·have f := f.st 127 (cB B50)
           obtain ⟨X27, S27, F64⟩ := bS F63
           refine Y18 f N242 (law11_wakes_ok n _ (GL.mono ((((((((((((J1.trans J2).trans J3).trans J10).trans J11).trans J17).trans J22).trans J23).trans J24).trans J25).trans J26).trans J27).trans J31) hG) X27 S27) fun W48 N243 _ f => Y f 2 fun _ f => eT (wp_ret (E_ret1 f rfl (by kernel_rfl : Vc.look _ 4 = some (.bool X27)) ?_))
           obtain rfl := sI F64
           exact ⟨_, rfl, V31, ((((((((((((J1.trans J2).trans J3).trans J10).trans J11).trans J17).trans J22).trans J23).trans J24).trans J25).trans J26).trans J27).trans J31), (N243.dropN 14), rfl⟩
          ·have f := f.st 127 (cB B50)
           refine Y f 3 fun _ f => eT (wp_ret (E_ret1 f rfl (by kernel_rfl : Vc.look _ 4 = some (.bool false)) ?_))
           obtain rfl := sI F65
           exact ⟨_, rfl, V31, ((((((((((((J1.trans J2).trans J3).trans J10).trans J11).trans J17).trans J22).trans J23).trans J24).trans J25).trans J26).trans J27).trans J31), (N242.dropN 14), rfl⟩
         ·have U25 := iff_f dI B45
          have f := f.st 120 (cB B45)
          refine Y f 10 fun _ f => eT (wp_ret (E_ret1 f rfl (by kernel_rfl : Vc.look _ 4 = some (.bool false)) ?_))
          obtain rfl := sI F66
          exact ⟨_, rfl, V25, (((((((((J1.trans J2).trans J3).trans J10).trans J11).trans J17).trans J22).trans J23).trans J24).trans J25), (N222.dropN 12), rfl⟩
        ·have U26 := iff_f dI B42
         have f := f.st 110 (cB B42)
         refine Y f 20 fun _ f => eT (wp_ret (E_ret1 f rfl (by kernel_rfl : Vc.look _ 4 = some (.bool false)) ?_))
         obtain rfl := sI F67
         exact ⟨_, rfl, V23, (((((((J1.trans J2).trans J3).trans J10).trans J11).trans J17).trans J22).trans J23), (N212.dropN 10), rfl⟩
      ·refine B_r (T_r (E_ret1 f rfl (by kernel_rfl : Vc.look _ 4 = some (.bool false)) ?_))
       obtain rfl := sI F28
       exact ⟨_, rfl, V18, (((((J1.trans J2).trans J3).trans J10).trans J11).trans J18), (N131.dropN 9), rfl⟩
theorem scan_new11 {L : List TD0} {last made : Int} {kind : List UInt8} {props : List TC0} (hs : scanS L 0 = some last) (hl : last ≤ made) (h0 : 0 ≤ last) (hm : made + 1 ≤ 1099511627776) (hc : checkG kind props = 0) (hk : knownV props = true) :
  scanS (L ++ [⟨physV (made + 1), kind, props⟩]) 0 = some (made + 1) := by
 have hn := num_phys (m := made + 1) (by omega) hm
 rw [scanS_app, hs, bnd, scanS]
 have : okT ⟨physV (made + 1), kind, props⟩ last = true := by
  unfold okT
  dsimp only
  rw [hn, hc, hk, decide_eq_true (show last < made + 1 by omega), decide_eq_true rfl]; rfl
 rw [this, cT]
 dsimp only
 rw [hn]; rfl
theorem update_ok11 {s : TA0} {phys : List UInt8} {props : List TC0} (h : (updateS s phys props).2 = 0) :
  ∃ last x, scanS s.fL 0 = some last ∧ 0 ≤ last ∧ last ≤ s.fMade ∧ s.fMade ≤ 1099511627776 ∧ findT s.fL phys = some x ∧ checkG x.fType props = 0 ∧ badU x props = false ∧ updateS s phys props = (⟨updT s.fL phys props, s.fMade⟩, 0) := by
 unfold updateS at h ⊢
 by_cases h1 : checkS s.fL s.fMade = 0
 ·obtain ⟨last, hs, hl0, hl1, hl2⟩ := checkS_zero h1
  rw [if_neg (fun h => h h1)] at h ⊢
  cases hf : findT s.fL phys with
  | none => rw [hf] at h; cases h
  | some x =>
   rw [hf] at h
   dsimp only at h ⊢
   by_cases h2 : checkG x.fType props = 0
   ·rw [if_neg (fun h => h h2)] at h ⊢
    by_cases h3 : badU x props = true
    ·rw [if_pos h3] at h; cases h
    ·rw [if_neg h3]
     exact ⟨last, x, hs, hl0, hl1, hl2, rfl, h2, by simpa using h3, rfl⟩
   ·rw [if_pos h2] at h; exact absurd h h2
 ·rw [if_pos h1] at h; cases h
theorem scan_upd11 {phys : List UInt8} {props : List TC0} (hk : knownV props = true) : ∀ {L : List TD0} {z y : Int}, scanS L z = some y → (∀ x ∈ L, x.fPhys = phys → checkG x.fType props = 0) → scanS (updT L phys props) z = some y
 | [], z, y, h, _ => h
 | x :: L, z, y, h, hc => by
  rw [scanS] at h
  cases hok : okT x z with
  | false => rw [hok] at h; cases h
  | true =>
   rw [hok, cT] at h
   have ih := scan_upd11 hk h fun w hw => hc w (List.mem_cons_of_mem _ hw)
   have e : updT (x :: L) phys props = (if x.fPhys = phys then ⟨x.fPhys, x.fType, props⟩ else x) :: updT L phys props := rfl
   rw [e]
   by_cases hx : x.fPhys = phys
   ·have hcx := hc x List.mem_cons_self hx
    obtain ⟨h1, h2, h3, h4⟩ := okT_spec hok
    rw [if_pos hx, scanS]
    have : okT ⟨x.fPhys, x.fType, props⟩ z = true := by
     unfold okT
     dsimp only
     rw [h1, hcx, hk, decide_eq_true h2, decide_eq_true rfl]; rfl
    rw [this, cT]; exact ih
   ·rw [if_neg hx, scanS, hok, cT]; exact ih
theorem flight_runT {n : Nat} (hn : 6000 < n) {c : CS} (hi : c.inn.length ≤ 1000) : cloud_Cloud_Flight n c.L c.made c.calls c.ans c.inn c.good = some (tokens c.inn, c.tup) := by
 unfold cloud_Cloud_Flight
 have l1 := loop_all (step := cloud_Cloud_Flight_s1 n c.inn) (n := n) (fun k => (tokens (c.inn.take k), (k : Int))) c.inn.length (tokens c.inn) (fun k hk => by
  unfold cloud_Cloud_Flight_s1
  dsimp only
  have hl : (tokens (c.inn.take k)).length ≤ 1000 := by unfold tokens; simp; omega
  have e : c.inn.getD k z_TF0 = c.inn[k] := by simp [List.getD, hk]
  rw [decide_eq_true (by omega), cT, getI_at z_TF0 hk, bnd, need_t (by omega), need_i (by omega) (by omega), e]
  unfold tokens
  rw [List.take_add_one, List.getElem?_eq_getElem hk, List.map_append]
  rfl) (by
  unfold cloud_Cloud_Flight_s1
  dsimp only
  rw [decide_eq_false (by omega), cF, List.take_length]) (by omega)
 have e0 : ((0 : Nat) : Int) = 0 := rfl
 simp only [e0, List.take_zero] at l1
 have e1 : tokens [] = [] := rfl
 rw [e1] at l1
 rw [l1, bnd]; rfl
theorem tupT {c : CS} : c.tup = (c.L, c.made, c.calls, c.ans, c.inn, c.good) := rfl
theorem check_known {x : TF0} (h0 : checkC x = 0) (hk : x.fKind = 0) : checkG x.fType x.fProps = 0 ∧ knownV x.fProps = true := by
 unfold checkC at h0
 cases h1 : badC x with
 | true => rw [h1, cT] at h0; exact absurd h0 (by decide)
 | false =>
  cases h2 : badD x with
  | true => rw [h1, h2, cF, cT] at h0; exact absurd h0 (by decide)
  | false =>
   rw [h1, h2, decide_eq_false (by omega), cF, cF, cF] at h0
   cases h3 : knownV x.fProps with
   | true => rw [h3] at h0; exact ⟨h0, rfl⟩
   | false => rw [h3, Bool.not_false, cT] at h0; exact absurd h0 (by decide)
theorem eff_new {c : CS} (h : checkS c.L c.made = 0) {x : TF0} (hk : x.fKind = 0) (h0 : checkC x = 0) (hm : c.made < 1000) : (effC c x).2.L.length = c.L.length + 1 ∧ (effC c x).2.made = c.made + 1 ∧ checkS (effC c x).2.L (effC c x).2.made = 0 := by
 obtain ⟨c1, c2⟩ := check_known h0 hk
 obtain ⟨last, hs, l0, l1, l2⟩ := checkS_zero h
 have e : createS ⟨c.L, c.made⟩ x.fType x.fProps = (⟨c.L ++ [⟨physV (c.made + 1), x.fType, x.fProps⟩], c.made + 1⟩, physV (c.made + 1), 0) := by
  unfold createS
  dsimp only
  rw [if_neg (fun e => e h), if_neg (fun e => e c1), if_neg (by rw [c2]; decide), if_neg (by omega)]
 unfold effC
 rw [if_pos hk, e, if_pos rfl]
 exact ⟨by simp, rfl, checkS_of (scan_new11 hs l1 l0 (by omega) c1 c2) (Int.le_refl _) (by dsimp only; omega)⟩
def setT (t : TD0) (x : TF0) : TD0 := if t.fPhys = x.fPhys ∧ checkG t.fType x.fProps = 0 ∧ badU t x.fProps = false then ⟨t.fPhys, t.fType, x.fProps⟩ else t
theorem setT_phys (t : TD0) (x : TF0) : (setT t x).fPhys = t.fPhys := by unfold setT; split <;> rfl
theorem setT_other {t : TD0} {x : TF0} (h : ¬ t.fPhys = x.fPhys) : setT t x = t := by unfold setT; rw [if_neg (fun e => h e.1)]
theorem setT_comm {t : TD0} {x y : TF0} (h : ¬ x.fPhys = y.fPhys) : setT (setT t x) y = setT (setT t y) x := by
 by_cases h1 : t.fPhys = x.fPhys
 ·have h2 : ¬ t.fPhys = y.fPhys := fun e => h (h1.symm.trans e)
  rw [setT_other (t := t) (x := y) h2, setT_other (by rw [setT_phys]; exact h2)]
 ·rw [setT_other (t := t) (x := x) h1, setT_other (t := setT t y) (by rw [setT_phys]; exact h1)]
theorem eff_upd {c : CS} (h : checkS c.L c.made = 0) {x : TF0} (hk : x.fKind = 1) : (effC c x).2.L = c.L.map (fun t => setT t x) ∧ (effC c x).2.made = c.made ∧ checkS (effC c x).2.L (effC c x).2.made = 0 := by
 obtain ⟨last, hs, l0, l1, l2⟩ := checkS_zero h
 have hd := scanS_nodup hs
 have stay : (∀ t ∈ c.L, setT t x = t) → c.L = c.L.map (fun t => setT t x) := fun hst => by
  have : c.L.map (fun t => setT t x) = c.L.map id := List.map_congr_left fun t ht => hst t ht
  rw [this, List.map_id]
 unfold effC
 rw [if_neg (by omega), if_pos hk]
 by_cases e0 : (updateS ⟨c.L, c.made⟩ x.fPhys x.fProps).2 = 0
 ·rw [if_pos e0]
  obtain ⟨last', t, hs', _, _, _, h3, h4, h5, hc⟩ := update_ok11 e0
  dsimp only at h3
  have hu : knownV x.fProps = true := by
   unfold badU at h5
   simp only [Bool.or_eq_false_iff] at h5
   revert h5
   cases knownV x.fProps <;> simp
  have same : ∀ w ∈ c.L, w.fPhys = x.fPhys → t = w := fun w hw he => by
   have := find_of_mem hd hw
   rw [he, h3] at this
   exact Option.some.inj this
  rw [hc]
  dsimp only
  refine ⟨?_, rfl, checkS_of (scan_upd11 hu hs (fun w hw he => by rw [← same w hw he]; exact h4)) l1 l2⟩
  unfold updT
  refine List.map_congr_left fun w hw => ?_
  by_cases he : w.fPhys = x.fPhys
  ·rw [if_pos he]
   unfold setT
   rw [if_pos ⟨he, by rw [← same w hw he]; exact h4, by rw [← same w hw he]; exact h5⟩]
  ·rw [if_neg he, setT_other he]
 ·rw [if_neg e0]
  refine ⟨stay fun w hw => ?_, rfl, h⟩
  unfold setT
  rw [if_neg]
  rintro ⟨he, a1, a2⟩
  have hf := find_of_mem hd hw
  rw [he] at hf
  apply e0
  unfold updateS
  dsimp only
  rw [if_neg (fun e => e h), hf]
  dsimp only
  rw [if_neg (fun e => e a1), if_neg (by rw [a2]; decide)]
theorem nodup_eq : ∀ {l : List TF0} {x y : TF0}, (l.map (·.fPhys)).Nodup → x ∈ l → y ∈ l → x.fPhys = y.fPhys → x = y
 | [], _, _, _, hx, _, _ => by cases hx
 | a :: l, x, y, h, hx, hy, e => by
  have hd : a.fPhys ∉ l.map (·.fPhys) ∧ (l.map (·.fPhys)).Nodup := List.nodup_cons.1 h
  by_cases h1 : x = a
  ·by_cases h2 : y = a
   ·rw [h1, h2]
   ·exact absurd (List.mem_map.2 ⟨y, (List.mem_cons.1 hy).resolve_left h2, by rw [← e, h1]⟩) hd.1
  ·by_cases h2 : y = a
   ·exact absurd (List.mem_map.2 ⟨x, (List.mem_cons.1 hx).resolve_left h1, by rw [e, h2]⟩) hd.1
   ·exact nodup_eq hd.2 ((List.mem_cons.1 hx).resolve_left h1) ((List.mem_cons.1 hy).resolve_left h2) e
def setA (L : List TD0) (l : List TF0) : List TD0 := L.map fun t => l.foldl setT t
theorem setA_snoc (L : List TD0) (l : List TF0) (x : TF0) : setA L (l ++ [x]) = (setA L l).map fun t => setT t x := by
 unfold setA
 rw [List.map_map]
 exact List.map_congr_left fun t _ => by rw [List.foldl_append]; rfl
theorem setA_rev {L : List TD0} {l : List TF0} (h : (l.map (·.fPhys)).Nodup) : setA L l.reverse = setA L l := by
 unfold setA
 refine List.map_congr_left fun t _ => List.Perm.foldl_eq' (List.reverse_perm l) (fun x hx y hy z => ?_) t
 by_cases e : x = y
 ·rw [e]
 ·exact setT_comm fun e2 => e (nodup_eq h (List.mem_reverse.1 hx) (List.mem_reverse.1 hy) e2)
theorem one_ended {k : Nat} {c : CS} (hk : k < 100) (ok : OkC k c) (hi : c.inn = []) (hf : ∀ t : Int, (k : Int) < t → mget c.ans t = none) {x : TF0} (htk : x.fToken = (k : Int) + 1) (hp : GoodP x.fProps) (h0 : checkC x = 0) (well : Bool) :
  submitC c x = (0, (submitC c x).2) ∧ OkC (k + 1) (submitC c x).2 ∧ OkC (k + 1) (endC (submitC c x).2 0 well).2.2.2 ∧ (endC (submitC c x).2 0 well).2.2.2.inn = [] ∧ (∀ t : Int, ((k + 1 : Nat) : Int) < t → mget (endC (submitC c x).2 0 well).2.2.2.ans t = none) ∧
   (endC (submitC c x).2 0 well).2.2.2.L = (bif well then (effC c x).2.L else c.L) ∧ (endC (submitC c x).2 0 well).2.2.2.made = (bif well then (effC c x).2.made else c.made) ∧ (endC (submitC c x).2 0 well).2.2.2.good = (bif well then (effC c x).2.good else c.good) := by
 have hs := submit_fresh (c := c) (x := x) h0 (hf _ (by omega))
 have hok := ok.submit (x := x) hp
 refine ⟨by rw [hs], hok, ?_⟩
 have hin : (submitC c x).2.inn = [x] := by rw [hs]; show c.inn ++ [x] = _; rw [hi]; rfl
 have he := end_one hin well
 have hpl : (submitC c x).2.L = c.L ∧ (submitC c x).2.made = c.made ∧ (submitC c x).2.good = c.good ∧ (submitC c x).2.ans = mput c.ans x.fToken z_TB0 ∧ (submitC c x).2.calls = c.calls ++ [x] := by rw [hs]; exact ⟨rfl, rfl, rfl, rfl, rfl⟩
 generalize (submitC c x).2 = c1 at *
 obtain ⟨e1, e2, e3, e4, e5⟩ := hpl
 rw [he]
 have hok1 : OkC (k + 1) ⟨c1.L, c1.made, c1.calls, c1.ans, [], c1.good⟩ := ⟨hok.good, hok.few, hok.calls, Nat.zero_le _, fun y hy => (by cases hy), hok.g0, hok.g1⟩
 have hfr : ∀ t : Int, ((k + 1 : Nat) : Int) < t → ∀ a, mget (mput c1.ans x.fToken a) t = none := fun t ht a => by
  rw [e4, mget_mput, mget_mput, if_neg (by omega), if_neg (by omega)]
  exact hf t (by omega)
 cases well with
 | false =>
  refine ⟨⟨hok1.good, hok1.few, hok1.calls, hok1.inn, hok1.props, hok1.g0, hok1.g1⟩, rfl, fun t ht => hfr t ht _, e1, e2, e3⟩
 | true =>
  obtain ⟨k1, k2, k3, k4⟩ := eff_keep ⟨c1.L, c1.made, c1.calls, c1.ans, [], c1.good⟩ x
  obtain ⟨q1, q2, q3, q4⟩ := eff_core (c := ⟨c1.L, c1.made, c1.calls, c1.ans, [], c1.good⟩) (d := c) e1 e2 e3 x
  have hlen : c.L.length ≤ k ∧ c.calls.length ≤ k ∧ 0 ≤ c.good ∧ c.good ≤ k := ⟨ok.few, ok.calls, ok.g0, ok.g1⟩
  have hok2 := ok.eff (by omega) (x := x) hp
  refine ⟨⟨?_, ?_, ?_, ?_, ?_, ?_, ?_⟩, k3, fun t ht => ?_, q2, q3, q4⟩
  ·show GoodL (effC _ _).2.L; rw [q2]; exact hok2.good
  ·show (effC _ _).2.L.length ≤ _; rw [q2]; exact hok2.few
  ·show (effC _ _).2.calls.length ≤ _; rw [k1]; show c1.calls.length ≤ _; exact hok.calls
  ·show (effC _ _).2.inn.length ≤ _; rw [k3]; exact Nat.zero_le _
  ·intro y hy
   have hy : y ∈ (effC ⟨c1.L, c1.made, c1.calls, c1.ans, [], c1.good⟩ x).2.inn := hy
   rw [k3] at hy; cases hy
  ·show 0 ≤ (effC _ _).2.good; rw [q4]; exact hok2.g0
  ·show (effC _ _).2.good ≤ _; rw [q4]; exact hok2.g1
  ·show mget (mput (effC _ _).2.ans _ _) t = none
   rw [k2]; exact hfr t ht _
structure InvT (k : Nat) (m : Int) (c : CS) : Prop where
  ok : OkC k c
  inn : c.inn = []
  chk : checkS c.L c.made = 0
  cnt : m = c.L.length
  low : c.made ≤ k
  fr : ∀ t : Int, (k : Int) < t → mget c.ans t = none
theorem turn_new {l : List (List TC0)} (hl : l.length ≤ 12) : ∃ b, loopF (law11_CloudTurned_s1 10000 l) 10000 ((0 : Int), (0 : Int), ([] : List TD0), (0 : Int), ([] : List TF0), ([] : List TF0), (0 : Int), ([] : List (Int × TB0)), ([] : List TD0), (0 : Int), ([] : List TF0), ([] : List TF0), (0 : Int), ([] : List (Int × TB0))) = some b ∧
  (match b with | .inl v => v.1 = true | .inr y => ∃ m c, y = (m, c.L, c.made, c.calls, c.inn, c.good, c.L, c.made, c.calls, c.inn, c.good, c.ans, c.ans) ∧ InvT l.length m c) := by
 refine loop_inv (step := law11_CloudTurned_s1 10000 l) (n := 10000) (fun k s => ∃ m c, s = (m, (k : Int), c.L, c.made, c.calls, c.inn, c.good, c.ans, c.L, c.made, c.calls, c.inn, c.good, c.ans) ∧ InvT k m c) _ l.length
  ⟨0, new11, rfl, OkC.new, rfl, by decide +kernel, rfl, by decide, fun t _ => rfl⟩ (fun k s hk hI => ?_) (fun s hI => ?_) (by omega)
 ·obtain ⟨m, c, rfl, r⟩ := hI
  have hg : l.getD k [] = l[k] := by simp [List.getD, hk]
  unfold law11_CloudTurned_s1
  dsimp only
  rw [decide_eq_true (by omega), cT, getI_at [] hk, bnd, hg]
  generalize l[k] = x
  obtain ⟨g, hgr, hgf⟩ := great9 (n := 10000) (by omega) x
  rw [hgr, bnd]
  cases g with
  | true => rw [cT, wakes11, bnd]; exact .inr ⟨_, rfl, rfl⟩
  | false =>
   have hp : GoodP x := ⟨(hgf rfl).1, fun z hz => ((hgf rfl).2 z hz).2⟩
   have b1 := r.ok.calls
   have b2 := r.ok.inn
   have b3 := r.ok.few
   have hcnt := r.cnt
   have hmk := r.low
   rw [cF, need_i (by omega) (by omega)]
   generalize hcall : (⟨(k : Int) + 1, 0, [], [68, 105, 115, 107], x⟩ : TF0) = y
   have hpy : GoodP y.fProps := by rw [← hcall]; exact hp
   have hty : y.fToken = (k : Int) + 1 := by rw [← hcall]
   have hky : y.fKind = 0 := by rw [← hcall]
   rw [submit_run (by omega) (x := y) hpy (by omega) (by omega), bnd]
   by_cases h0 : checkC y = 0
   ·obtain ⟨s1, o1, o2, i1, a1, l1, m1, g1⟩ := one_ended (by omega) r.ok r.inn r.fr hty hpy h0 true
    obtain ⟨n1, n2, n3⟩ := eff_new r.chk hky h0 (by omega)
    have h01 : (submitC c y).1 = 0 := by rw [s1]
    have gb := o1.g1
    have ib := o1.inn
    rw [decide_eq_true h01, Bool.not_true, cF, bnd]
    dsimp only [CS.tup]
    rw [end_run (by omega) 0 true o1.props o1.good (by omega) o1.g0 (by omega), bnd, bnd, need_i (by omega) (by omega), need_i (by omega) (by omega)]
    rw [cT] at l1 m1 g1
    refine .inl ⟨_, rfl, m + 1, (endC (submitC c y).2 0 true).2.2.2, rfl, o2, i1, ?_, ?_, ?_, a1⟩
    ·rw [l1, m1]; exact n3
    ·rw [l1, n1, hcnt]; omega
    ·rw [m1, n2]; omega
   ·have hs : submitC c y = (checkC y, c) := by unfold submitC; rw [if_pos h0]
    rw [hs, decide_eq_false h0, Bool.not_false, cT, need_i (by omega) (by omega)]
    exact .inl ⟨_, rfl, m, c, rfl, r.ok.le (by omega), r.inn, r.chk, r.cnt, by omega, fun t ht => r.fr t (by omega)⟩
 ·obtain ⟨m, c, rfl, r⟩ := hI
  unfold law11_CloudTurned_s1
  dsimp only
  rw [decide_eq_false (by omega), cF]
  exact ⟨_, rfl, m, c, rfl, r⟩
structure InvU (c0 : CS) (k m : Nat) (c : CS) : Prop where
  ok : OkC (m + k) c
  hL : c.L = c0.L
  hm : c.made = c0.made
  sub : List.Sublist (c.inn.map (·.fPhys)) ((c0.L.take k).map (·.fPhys))
  kind : ∀ x ∈ c.inn, x.fKind = 1
theorem turn_ask {c0 : CS} {m : Nat} (hm : m ≤ 12) (ok0 : OkC m c0) (hi : c0.inn = []) (w : List (List TC0)) : ∃ b, loopF (law11_CloudTurned_s2 10000 w (c0.L, c0.L, c0.made, c0.calls, c0.ans, c0.inn, c0.good)) 10000 ((0 : Int), (0 : Int), c0.L, c0.made, c0.calls, c0.inn, c0.good, c0.ans, c0.L, c0.made, c0.calls, c0.inn, c0.good, c0.ans) = some b ∧
  (match b with | .inl y => ∃ c k, y = ((c.inn.length : Int), c.L, c.made, c.calls, c.inn, c.good, c.L, c.made, c.calls, c.inn, c.good, c.ans, c.ans) ∧ k ≤ c0.L.length ∧ InvU c0 k m c | .inr _ => False) := by
 have f0 := ok0.few
 refine loop_inv (step := law11_CloudTurned_s2 10000 w (c0.L, c0.L, c0.made, c0.calls, c0.ans, c0.inn, c0.good)) (n := 10000) (fun k s => ∃ c, s = ((c.inn.length : Int), (k : Int), c.L, c.made, c.calls, c.inn, c.good, c.ans, c.L, c.made, c.calls, c.inn, c.good, c.ans) ∧ InvU c0 k m c) _ c0.L.length
  ⟨c0, by rw [hi]; rfl, ok0, rfl, rfl, by rw [hi]; exact List.Sublist.slnil, fun x hx => by rw [hi] at hx; cases hx⟩ (fun k s hk hI => ?_) (fun s hI => ?_) (by omega)
 ·obtain ⟨c, rfl, r⟩ := hI
  have hg := getT hk
  have b1 := r.ok.calls
  have b2 := r.ok.inn
  unfold law11_CloudTurned_s2
  dsimp only
  rw [decide_eq_true (by omega), cT, getI_at z_TD0 hk, bnd, hg]
  have hy : ∃ g, (bif decide (((w.length : Nat) : Int) ≤ (k : Int)) then some true else (getI w (k : Int)).bind fun x_13 => (ref09_Great 10000 x_13).bind fun x_14 => some x_14 : Option Bool) = some g ∧ (g = false → k < w.length ∧ GoodP (w.getD k [])) := by
   by_cases hw : k < w.length
   ·obtain ⟨g, hgr, hgf⟩ := great9 (n := 10000) (by omega) (w.getD k [])
    exact ⟨g, by rw [decide_eq_false (by omega), cF, getI_at [] hw, bnd, hgr, bnd], fun e => ⟨hw, ⟨(hgf e).1, fun z hz => ((hgf e).2 z hz).2⟩⟩⟩
   ·exact ⟨true, by rw [decide_eq_true (by omega), cT], fun e => by cases e⟩
  obtain ⟨g, hgr, hgf⟩ := hy
  rw [hgr, bnd]
  cases g with
  | true => rw [cT]; exact .inr ⟨_, rfl, c, k, rfl, by omega, r⟩
  | false =>
   obtain ⟨hw, hp⟩ := hgf rfl
   rw [cF, need_i (by omega) (by omega), getI_at [] hw, bnd]
   generalize w.getD k [] = x at hp
   generalize hcall : (⟨(100 : Int) + (k : Int), 1, (c0.L[k]).fPhys, [68, 105, 115, 107], x⟩ : TF0) = y
   have hpy : GoodP y.fProps := by rw [← hcall]; exact hp
   have hfy : y.fPhys = (c0.L[k]).fPhys := by rw [← hcall]
   have hky : y.fKind = 1 := by rw [← hcall]
   have o1 := r.ok.submit hpy
   have c2 := o1.inn
   rw [submit_run (by omega) (x := y) hpy (by omega) (by omega), bnd, bnd, decide_eq_true rfl, Bool.not_true, cF]
   dsimp only [tupT]
   rw [flight_runT (by omega) (by omega), bnd]
   dsimp only [tupT]
   have htl : (tokens (submitC c y).2.inn).length = (submitC c y).2.inn.length := by unfold tokens; simp
   rw [need_i (by omega) (by omega), htl]
   have htk : (c0.L.take (k + 1)).map (·.fPhys) = (c0.L.take k).map (·.fPhys) ++ [y.fPhys] := by
    rw [List.take_add_one, List.getElem?_eq_getElem hk, List.map_append, hfy]; rfl
   refine .inl ⟨_, rfl, (submitC c y).2, rfl, o1, ?_, ?_, ?_, ?_⟩
   ·rw [← r.hL]; unfold submitC; split; rfl; split <;> rfl
   ·rw [← r.hm]; unfold submitC; split; rfl; split <;> rfl
   ·rw [htk]
    unfold submitC
    split
    ·exact r.sub.trans (List.sublist_append_left _ _)
    ·split
     ·exact r.sub.trans (List.sublist_append_left _ _)
     ·show List.Sublist ((c.inn ++ [y]).map (·.fPhys)) _
      rw [List.map_append]
      exact List.Sublist.append r.sub (List.Sublist.refl _)
   ·unfold submitC
    split
    ·exact r.kind
    ·split
     ·exact r.kind
     ·intro z hz
      rcases List.mem_append.1 hz with hz | hz
      ·exact r.kind z hz
      ·rw [List.mem_singleton.1 hz]; exact hky
 ·obtain ⟨c, rfl, r⟩ := hI
  unfold law11_CloudTurned_s2
  dsimp only
  rw [decide_eq_false (by omega), cF]
  exact ⟨_, rfl, c, c0.L.length, rfl, by omega, r⟩
structure InvE (c : CS) (m : Nat) (l done : List TF0) (a : CS) : Prop where
  ok : OkC m a
  inn : a.inn = l
  chk : checkS a.L a.made = 0
  hL : a.L = setA c.L done
theorem end_upd {c : CS} {m : Nat} (hm : m < 199) {l done : List TF0} {a : CS} (r : InvE c m l done a) (j : Nat) (hj : j < l.length) (hk : ∀ x ∈ l, x.fKind = 1) : InvE c (m + 1) (l.take j ++ l.drop (j + 1)) (done ++ [l[j]]) (endC a (j : Int) true).2.2.2 := by
 have o := r.ok.end_ (by omega) (j : Int) true
 have hin := r.inn
 subst hin
 have e : endC a (j : Int) true = ((a.inn.getD j z_TF0).fToken, (outC a j true).1, 0, tellC (outC a j true) (a.inn.getD j z_TF0).fToken) := by
  unfold endC
  rw [if_pos ⟨by omega, by omega⟩]
  rfl
 have hg : a.inn.getD j z_TF0 = a.inn[j] := by simp [List.getD, hj]
 have hout : outC a j true = effC (cutC a j) a.inn[j] := by unfold outC; rw [cT, hg]
 obtain ⟨k1, k2, k3, k4⟩ := eff_keep (cutC a j) a.inn[j]
 obtain ⟨u1, u2, u3⟩ := eff_upd (c := cutC a j) r.chk (hk _ (List.getElem_mem hj))
 refine ⟨o, ?_, ?_, ?_⟩
 ·rw [e]
  show (outC a j true).2.inn = _
  rw [hout, k3]; rfl
 ·rw [e]
  show checkS (outC a j true).2.L (outC a j true).2.made = 0
  rw [hout]; exact u3
 ·rw [e]
  show (outC a j true).2.L = _
  rw [hout, u1, setA_snoc, ← r.hL]; rfl
theorem turn_end {c : CS} {m : Nat} (hm : m ≤ 100) (ok : OkC m c) (hc : checkS c.L c.made = 0) (hl : c.inn.length ≤ 12) (hk : ∀ x ∈ c.inn, x.fKind = 1) :
  ∃ a b, loopF (law11_CloudTurned_s3 10000) 10000 ((c.inn.length : Int) - 1, c.L, c.made, c.calls, c.inn, c.good, c.ans, c.L, c.made, c.calls, c.inn, c.good, c.ans) = some (a.L, a.made, a.calls, a.inn, a.good, b.L, b.made, b.calls, b.inn, b.good, a.ans, b.ans) ∧
   InvE c (m + c.inn.length) [] c.inn a ∧ InvE c (m + c.inn.length) [] c.inn.reverse b := by
 obtain ⟨v, hv, a, b, rfl, ha, hb⟩ := loop_inv (step := law11_CloudTurned_s3 10000) (n := 10000) (s0 := ((c.inn.length : Int) - 1, c.L, c.made, c.calls, c.inn, c.good, c.ans, c.L, c.made, c.calls, c.inn, c.good, c.ans))
  (fun k s => ∃ a b, s = ((c.inn.length : Int) - 1 - (k : Int), a.L, a.made, a.calls, a.inn, a.good, a.ans, b.L, b.made, b.calls, b.inn, b.good, b.ans) ∧ InvE c (m + k) (c.inn.drop k) (c.inn.take k) a ∧ InvE c (m + k) (c.inn.take (c.inn.length - k)) (c.inn.drop (c.inn.length - k)).reverse b)
  (fun v => ∃ a b, v = (a.L, a.made, a.calls, a.inn, a.good, b.L, b.made, b.calls, b.inn, b.good, a.ans, b.ans) ∧ InvE c (m + c.inn.length) [] c.inn a ∧ InvE c (m + c.inn.length) [] c.inn.reverse b) c.inn.length
  ⟨c, c, by simp, ⟨ok, by simp, hc, by simp [setA]⟩, ⟨ok, by simp, hc, by simp [setA]⟩⟩
  (fun k s hk2 hI => by
   obtain ⟨a, b, rfl, ra, rb⟩ := hI
   have ga := ra.ok.g1
   have gb := rb.ok.g1
   have ia := ra.ok.inn
   have ib := rb.ok.inn
   have hla : 0 < (c.inn.drop k).length := by rw [List.length_drop]; omega
   have hlb : c.inn.length - 1 - k < (c.inn.take (c.inn.length - k)).length := by rw [List.length_take]; omega
   have ea := end_upd (by omega) ra 0 hla (fun x hx => hk x (List.mem_of_mem_drop hx))
   have eb := end_upd (by omega) rb (c.inn.length - 1 - k) hlb (fun x hx => hk x (List.mem_of_mem_take hx))
   have en : (c.inn.length : Int) - 1 - (k : Int) = ((c.inn.length - 1 - k : Nat) : Int) := by omega
   unfold law11_CloudTurned_s3
   dsimp only
   rw [decide_eq_true (by omega), cT, end_run (by omega) _ _ ra.ok.props ra.ok.good (by omega) ra.ok.g0 (by omega), bnd, end_run (by omega) _ _ rb.ok.props rb.ok.good (by omega) rb.ok.g0 (by omega), bnd, need_i (by omega) (by omega)]
   refine .inl ⟨_, rfl, (endC a 0 true).2.2.2, (endC b ((c.inn.length : Int) - 1 - (k : Int)) true).2.2.2, ?_, ?_, ?_⟩
   ·have e1 : (c.inn.length : Int) - 1 - (k : Int) - 1 = (c.inn.length : Int) - 1 - ((k + 1 : Nat) : Int) := by omega
    rw [e1]; rfl
   ·have e1 : c.inn.take (k + 1) = c.inn.take k ++ [(c.inn.drop k)[0]] := by
     rw [List.take_add_one, List.getElem?_eq_getElem hk2, List.getElem_drop]; rfl
    have e2 : (c.inn.drop k).take 0 ++ (c.inn.drop k).drop (0 + 1) = c.inn.drop (k + 1) := by
     rw [List.take_zero, List.nil_append, List.drop_drop]
    rw [e1, ← e2]
    exact ea
   ·rw [en]
    have e2 : (c.inn.take (c.inn.length - k)).take (c.inn.length - 1 - k) ++ (c.inn.take (c.inn.length - k)).drop (c.inn.length - 1 - k + 1) = c.inn.take (c.inn.length - (k + 1)) := by
     rw [List.take_take, List.drop_eq_nil_of_le (by rw [List.length_take]; omega), List.append_nil]
     congr 1; omega
    have e1 : (c.inn.drop (c.inn.length - (k + 1))).reverse = (c.inn.drop (c.inn.length - k)).reverse ++ [(c.inn.take (c.inn.length - k))[c.inn.length - 1 - k]] := by
     have h1 : c.inn.length - (k + 1) < c.inn.length := by omega
     rw [List.drop_eq_getElem_cons h1, List.reverse_cons, List.getElem_take]
     have h2 : c.inn.length - (k + 1) + 1 = c.inn.length - k := by omega
     have h3 : c.inn.length - 1 - k = c.inn.length - (k + 1) := by omega
     rw [h2]
     simp only [h3]
    rw [e1, ← e2]
    exact eb)
  (fun s hI => by
   obtain ⟨a, b, rfl, ra, rb⟩ := hI
   unfold law11_CloudTurned_s3
   dsimp only
   rw [decide_eq_false (by omega), cF]
   rw [List.drop_length, List.take_length] at ra
   rw [Nat.sub_self, List.take_zero, List.drop_zero] at rb
   exact ⟨_, rfl, a, b, rfl, ra, rb⟩) (by omega)
 exact ⟨a, b, hv, ha, hb⟩
theorem cloudTurned_true (l w : List (List TC0)) : law11_CloudTurned 10000 l w = some true := by
 unfold law11_CloudTurned
 by_cases h1 : (12 : Int) < ((l.length : Nat) : Int)
 ·rw [decide_eq_true h1, cT, bnd, cT, wakes11b]
 by_cases h2 : (12 : Int) < ((w.length : Nat) : Int)
 ·rw [decide_eq_false h1, decide_eq_true h2, cF, bnd, cT, wakes11b]
 rw [decide_eq_false h1, decide_eq_false h2, cF, bnd, cF]
 unfold cloud_New
 rw [bnd, bnd]
 obtain ⟨b, hb, hp⟩ := turn_new (l := l) (by omega)
 rw [hb, bnd]
 cases b with
 | inl v => dsimp only; rw [hp]
 | inr y =>
  obtain ⟨m, c, rfl, r⟩ := hp
  have hcnt := r.cnt
  have f0 := r.ok.few
  dsimp only
  rw [things_run r.ok.good, bnd]
  dsimp only [tupT]
  obtain ⟨b2, hb2, hp2⟩ := turn_ask (m := l.length) (by omega) r.ok r.inn w
  rw [hb2, bnd]
  cases b2 with
  | inr v => exact hp2.elim
  | inl y2 =>
   obtain ⟨d, k, rfl, hkl, u⟩ := hp2
   obtain ⟨last, hs, _, _, _⟩ := checkS_zero r.chk
   have hd0 := scanS_nodup hs
   have hnd : (d.inn.map (·.fPhys)).Nodup := (hd0.sublist (List.Sublist.map _ (List.take_sublist _ _))).sublist u.sub
   have hlen := u.sub.length_le
   rw [List.length_map, List.length_map, List.length_take] at hlen
   dsimp only
   rw [need_i (by omega) (by omega)]
   obtain ⟨a, e, hrun, ra, re⟩ := turn_end (c := d) (m := l.length + k) (by omega) u.ok (by rw [u.hL, u.hm]; exact r.chk) (by omega) u.kind
   have hLL : e.L = a.L := by rw [ra.hL, re.hL, setA_rev hnd]
   have hal : a.L.length = c.L.length := by rw [ra.hL, ← u.hL]; unfold setA; rw [List.length_map]
   have ia := ra.inn
   have ie := re.inn
   rw [hrun, bnd]
   dsimp only
   rw [things_run ra.ok.good, bnd]
   dsimp only [tupT]
   rw [decide_eq_true (by omega), cT, flight_runT (by omega) (by rw [ia]; decide), bnd, flight_runT (by omega) (by rw [ie]; decide), bnd]
   dsimp only [tupT]
   have t1 : (tokens a.inn).length = 0 := by rw [ia]; rfl
   have t2 : (tokens e.inn).length = 0 := by rw [ie]; rfl
   rw [t1, t2, need_i (by omega) (by omega), decide_eq_true (by omega), cT, things_run ra.ok.good, bnd, things_run re.ok.good, bnd]
   dsimp only [tupT]
   rw [hLL, sameT_self (by omega) ra.ok.good, bnd, cT, wakes11b]
end Go.Proofs.YtocefedhenhbfaaGreatDoor
end

section
namespace Go.Vc
open Go
mutual
def dsz : Dat → Nat
  | .int _ _ => 1
  | .bool _ => 1
  | .str l => l.length + 1
  | .list _ ds => dszs ds + 1
  | .struct ds => dszs ds + 1
def dszs : List Dat → Nat
  | [] => 0
  | d :: ds => dsz d + dszs ds
end
theorem dszs_app : ∀ (a b : List Dat), dszs (a ++ b) = dszs a + dszs b
 | [], b => by simp [dszs]
 | d :: a, b => by simp only [List.cons_append, dszs, dszs_app a b]; omega
theorem le_sum : ∀ {l : List Nat} {x : Nat}, x ∈ l → x ≤ l.sum
 | y :: l, x, h => by
  rcases List.mem_cons.1 h with rfl | h
  ·simp
  ·have := le_sum h; simp only [List.sum_cons]; omega
section
variable {H : Type}
structure BulkOk (B : DataW H → Nat) : Prop where
  one : ∀ d, 1 ≤ B d
  str : ∀ l, B (.lit (.string l)) = l.length + 1
  slice : ∀ e s, (e.map B).sum + 1 ≤ B (.slice e s)
  agg : ∀ e, (e.map B).sum + 1 ≤ B (.agg e)
variable {enc : TypeId × Value → H} {P : Program} {w : World} {t : TypeId} {α : Type} {f : α → Dat} {m : Nat} {B : DataW H → Nat}
def OpnAt (enc : TypeId × Value → H) (P : Program) (w : World) (t : TypeId) {α : Type} (f : α → Dat) (B : DataW H → Nat) (m : Nat) : Prop :=
  ∀ cs x, DataW.trod enc P w 0 (fun _ => true) true m t cs = some x → ∃ a, Rep (Mem.of w) (f a) cs ∧ Vld (f a) ∧ dsz (f a) ≤ B x.1
theorem OpnAt.zero : OpnAt enc P w t f B 0 := fun cs x h => by simp [DataW.trod] at h
theorem opa_int {k : IntKind} (hB : BulkOk B) (ht : P.underlying t = some (.int k)) : OpnAt enc P w t (Dat.int k) B m := fun cs x h => by
 obtain ⟨a, rfl, _, hw⟩ := DataW.trod_int ht h
 exact ⟨a, rfl, hw, hB.one _⟩
theorem opa_bool (hB : BulkOk B) (ht : P.underlying t = some .bool) : OpnAt enc P w t Dat.bool B m := fun cs x h => by
 obtain ⟨a, rfl, _⟩ := DataW.trod_bool ht h
 exact ⟨a, rfl, trivial, hB.one _⟩
theorem opa_str (hB : BulkOk B) (ht : P.underlying t = some .string) : OpnAt enc P w t Dat.str B m := fun cs x h => by
 obtain ⟨s, rfl, hx, hw⟩ := DataW.trod_string ht h
 refine ⟨s.data.toList, (by show [Value.string s] = _; rw [S_eta]), by show s.data.toList.length ≤ maxLen; simpa using hw, ?_⟩
 rw [hx]
 show s.data.toList.length + 1 ≤ B (.lit (.string s.data.toList))
 rw [hB.str]
 exact Nat.le_refl _
theorem opa_slice {e : TypeId} {sz : Nat} (hB : BulkOk B) (ht : P.underlying t = some (.slice e)) (hsz : P.cellsOf e = sz) (h : OpnAt enc P w e f B m) : OpnAt enc P w t (eL sz f) B (m + 1) := fun cs x hx => by
 rcases DataW.trod_slice ht hx with ⟨rfl, hx⟩ | ⟨ad, len, cap, elems, rest, n', hn', rfl, hxe, _, hlc, hcm, hel, hat, _⟩
 ·refine ⟨[], Sli.rep (Sli.nil (sz := sz) (f := f)), by simp [Vld, eL, VldAll], ?_⟩
  have := hB.one x.1
  simpa [eL, dsz, dszs] using this
 ·obtain rfl : n' = m := by omega
  have key : ∀ k, k ≤ len → ∃ xs : List α, xs.length = k ∧ RepArr (Mem.of w) sz (xs.map f) ad ∧ (∀ x ∈ xs, Vld (f x)) ∧ dszs (xs.map f) ≤ ((elems.take k).map fun x => B x.1).sum := by
   intro k
   induction k with
   | zero => intro _; exact ⟨[], rfl, trivial, fun x hx => (by cases hx), by simp [dszs]⟩
   | succ k ih =>
    intro hk
    obtain ⟨xs, h1, h2, h3, h3b⟩ := ih (by omega)
    have hk' : k < elems.length := by omega
    have := hat k (by omega)
    rw [List.getElem?_eq_getElem hk'] at this
    obtain ⟨cs', g1, g2⟩ := Option.bind_eq_some_iff.1 this
    obtain ⟨a, g3, g4, g4b⟩ := h cs' _ g2
    obtain ⟨g5, g6⟩ := cells_of g1
    rw [hsz] at g5 g6
    refine ⟨xs ++ [a], by simp [h1], ?_, fun x hx => ?_, ?_⟩
    ·rw [List.map_append]
     have app : ∀ (ds : List Dat) (ad : Addr), RepArr (Mem.of w) sz ds ad → RepArr (Mem.of w) sz [f a] (ad.add (ds.length * sz)) → RepArr (Mem.of w) sz (ds ++ [f a]) ad := by
      intro ds
      induction ds with
      | nil => intro ad _ hh; simpa [Addr.add] using hh
      | cons d ds ih =>
       intro ad h1 h2
       refine ⟨h1.1, ih _ h1.2 ?_⟩
       rw [add_of_add]
       rw [List.length_cons, show (ds.length + 1) * sz = sz + ds.length * sz by rw [Nat.add_mul]; omega] at h2
       exact h2
     refine app _ _ h2 ⟨⟨cs', g5, g3, ?_⟩, trivial⟩
     rw [List.length_map, h1]
     exact g6
    ·rcases List.mem_append.1 hx with hx | hx
     ·exact h3 x hx
     ·simp at hx; subst hx; exact g4
    ·rw [List.map_append, dszs_app, List.take_add_one, List.getElem?_eq_getElem hk', List.map_append, List.sum_append]
     simp only [List.map_cons, List.map_nil, dszs, Option.toList_some, List.sum_cons, List.sum_nil]
     omega
  obtain ⟨xs, h1, h2, h3, h3b⟩ := key len (Nat.le_refl _)
  subst h1
  refine ⟨xs, Sli.rep ⟨hlc, fun e => (by cases e), .inr ⟨ad, rfl, h2⟩⟩, ?_, ?_⟩
  ·refine ⟨by rw [List.length_map]; omega, VldAll.mk fun d hd => ?_⟩
   obtain ⟨x, hx, rfl⟩ := List.mem_map.1 hd
   exact h3 x hx
  ·rw [hxe]
   show dszs (xs.map f) + 1 ≤ _
   have := hB.slice (elems.map (·.1)) (rest.map (·.1))
   rw [← hel, List.take_length] at h3b
   rw [List.map_map] at this
   have e : (elems.map (B ∘ fun x => x.1)) = elems.map fun x => B x.1 := rfl
   rw [e] at this
   show _ ≤ B (.slice (elems.map (·.1)) (rest.map (·.1)))
   omega
theorem opa_slice0 {e : TypeId} {sz : Nat} (hB : BulkOk B) (ht : P.underlying t = some (.slice e)) (hsz : P.cellsOf e = sz) (h : ∀ k, k < m → OpnAt enc P w e f B k) : OpnAt enc P w t (eL sz f) B m := by
 cases m with
 | zero => exact OpnAt.zero
 | succ m => exact opa_slice hB ht hsz (h m (Nat.lt_succ_self m))
theorem OpnAt.arg (h : ∀ n, OpnAt enc P w t f B n) {v : Value} {d : DataW H} {ps : List MemPlace} (ht : DataW.Trod enc P w 0 (fun _ => true) true t v d ps) : ∃ a, Rep (Mem.of w) (f a) v.cells.toList ∧ Vld (f a) ∧ dsz (f a) ≤ B d := by
 obtain ⟨fuel, hf⟩ := ht
 exact h fuel _ _ hf
theorem OpnAt.slice_arg {e : TypeId} {sz : Nat} (hB : BulkOk B) (hu : P.underlying t = some (.slice e)) (hsz : P.cellsOf e = sz) (h : ∀ n, OpnAt enc P w e f B n) {v : Value} {d : DataW H} {ps : List MemPlace} (hv : ∃ A len cap, v = .slice A len cap) (ht : DataW.Trod enc P w 0 (fun _ => true) true t v d ps) :
  ∃ A cap xs, v = .slice A xs.length cap ∧ Sli (Mem.of w) sz f A cap xs ∧ Vld (eL sz f xs) ∧ dsz (eL sz f xs) ≤ B d := by
 obtain ⟨A, len, cap, rfl⟩ := hv
 obtain ⟨xs, h1, h2⟩ := OpnAt.arg (f := eL sz f) (fun n => opa_slice0 hB hu hsz fun k _ => h k) ht
 obtain ⟨A', cap', e, hs⟩ := Rep.sli h1
 simp only [Value.cells] at e
 have e' : Value.slice A len cap = Value.slice A' xs.length cap' := by simpa using e
 cases e'
 exact ⟨A, cap, xs, rfl, hs, h2⟩
end
end Go.Vc
end

section
namespace Go.Proofs.YtocefedhenhbfaaGreatDoor
open Go Go.Vc Go.RowKit
theorem opa_TE0 {H : Type} {enc : TypeId × Value → H} {w : World} {B : DataW H → Nat} (hB : BulkOk B) : ∀ m, OpnAt enc Tryz.prog w 26 emb_TE0 B m := by
 intro m
 induction m using Nat.strongRecOn with
 | ind m ih =>
 intro cs x h
 obtain ⟨xs, n, rfl, rfl, hlen, hxl, hf⟩ := DataW.trod_struct Tryz.underlying26 h
 have hct : Tryz.prog.cellsOf 26 = 6 := by kernel_rfl
 rw [hct] at hlen
 obtain ⟨x0, x1, x2, x3, x4, x5, rfl⟩ : ∃ x0 x1 x2 x3 x4 x5, xs = [x0, x1, x2, x3, x4, x5] := by
  match xs, hxl with
  | [x0, x1, x2, x3, x4, x5], _ => exact ⟨x0, x1, x2, x3, x4, x5, rfl⟩
 have f0 : DataW.trod enc Tryz.prog w 0 (fun _ => true) true n 22 ((cs.drop 0).take (Tryz.prog.cellsOf 22)) = some x0 := hf 0 _ rfl
 rw [show Tryz.prog.cellsOf 22 = 1 by kernel_rfl] at f0
 obtain ⟨a0, r0, v0, b0⟩ := (fun _ => opa_int hB Tryz.underlying22) n _ _ f0
 have f1 : DataW.trod enc Tryz.prog w 0 (fun _ => true) true n 4 ((cs.drop 1).take (Tryz.prog.cellsOf 4)) = some x1 := hf 1 _ rfl
 rw [show Tryz.prog.cellsOf 4 = 1 by kernel_rfl] at f1
 obtain ⟨a1, r1, v1, b1⟩ := (fun _ => opa_bool hB Tryz.underlying4) n _ _ f1
 have f2 : DataW.trod enc Tryz.prog w 0 (fun _ => true) true n 3 ((cs.drop 2).take (Tryz.prog.cellsOf 3)) = some x2 := hf 2 _ rfl
 rw [show Tryz.prog.cellsOf 3 = 1 by kernel_rfl] at f2
 obtain ⟨a2, r2, v2, b2⟩ := (fun _ => opa_int hB Tryz.underlying3) n _ _ f2
 have f3 : DataW.trod enc Tryz.prog w 0 (fun _ => true) true n 9 ((cs.drop 3).take (Tryz.prog.cellsOf 9)) = some x3 := hf 3 _ rfl
 rw [show Tryz.prog.cellsOf 9 = 1 by kernel_rfl] at f3
 obtain ⟨a3, r3, v3, b3⟩ := (fun _ => opa_str hB Tryz.underlying9) n _ _ f3
 have f4 : DataW.trod enc Tryz.prog w 0 (fun _ => true) true n 23 ((cs.drop 4).take (Tryz.prog.cellsOf 23)) = some x4 := hf 4 _ rfl
 rw [show Tryz.prog.cellsOf 23 = 1 by kernel_rfl] at f4
 obtain ⟨a4, r4, v4, b4⟩ := (opa_slice0 (m := n) (e := 26) (sz := 6) hB Tryz.underlying23 (by kernel_rfl) (fun k hk => ih k (by omega))) _ _ f4
 have f5 : DataW.trod enc Tryz.prog w 0 (fun _ => true) true n 24 ((cs.drop 5).take (Tryz.prog.cellsOf 24)) = some x5 := hf 5 _ rfl
 rw [show Tryz.prog.cellsOf 24 = 1 by kernel_rfl] at f5
 obtain ⟨a5, r5, v5, b5⟩ := (opa_slice0 (m := n) (e := 9) (sz := 1) hB Tryz.underlying24 (by kernel_rfl) (fun k _ => (fun _ => opa_str hB Tryz.underlying9) k)) _ _ f5
 refine ⟨⟨a0, a1, a2, a3, a4, a5⟩, ?_, ?_, ?_⟩
 ·rw [emb_TE0_eq]
  have hcs : RepSeq (Mem.of w) _ (cs.drop 0) := (RepSeq.cut (k := 1) r0 (by rw [List.drop_drop]; exact (RepSeq.cut (k := 1) r1 (by rw [List.drop_drop]; exact (RepSeq.cut (k := 1) r2 (by rw [List.drop_drop]; exact (RepSeq.cut (k := 1) r3 (by rw [List.drop_drop]; exact (RepSeq.cut (k := 1) r4 (by rw [List.drop_drop]; exact (RepSeq.cut (k := 1) r5 (by rw [List.drop_drop]; exact (show RepSeq (Mem.of w) [] (cs.drop 6) from List.drop_eq_nil_of_le (by omega))))))))))))))
  exact hcs
 ·rw [emb_TE0_eq]; exact ⟨v0, ⟨v1, ⟨v2, ⟨v3, ⟨v4, ⟨v5, trivial⟩⟩⟩⟩⟩⟩
 ·rw [emb_TE0_eq]
  have := hB.agg ([x0, x1, x2, x3, x4, x5].map (·.1))
  simp only [List.map_cons, List.map_nil, List.sum_cons, List.sum_nil] at this ⊢
  simp only [dsz, dszs] at *
  omega
theorem opa_TC0 {H : Type} {enc : TypeId × Value → H} {w : World} {B : DataW H → Nat} (hB : BulkOk B) : ∀ m, OpnAt enc Tryz.prog w 77 emb_TC0 B m := by
 intro m
 induction m using Nat.strongRecOn with
 | ind m ih =>
 intro cs x h
 obtain ⟨xs, n, rfl, rfl, hlen, hxl, hf⟩ := DataW.trod_struct Tryz.underlying77 h
 have hct : Tryz.prog.cellsOf 77 = 8 := by kernel_rfl
 rw [hct] at hlen
 obtain ⟨x0, x1, x2, rfl⟩ : ∃ x0 x1 x2, xs = [x0, x1, x2] := by
  match xs, hxl with
  | [x0, x1, x2], _ => exact ⟨x0, x1, x2, rfl⟩
 have f0 : DataW.trod enc Tryz.prog w 0 (fun _ => true) true n 9 ((cs.drop 0).take (Tryz.prog.cellsOf 9)) = some x0 := hf 0 _ rfl
 rw [show Tryz.prog.cellsOf 9 = 1 by kernel_rfl] at f0
 obtain ⟨a0, r0, v0, b0⟩ := (fun _ => opa_str hB Tryz.underlying9) n _ _ f0
 have f1 : DataW.trod enc Tryz.prog w 0 (fun _ => true) true n 4 ((cs.drop 1).take (Tryz.prog.cellsOf 4)) = some x1 := hf 1 _ rfl
 rw [show Tryz.prog.cellsOf 4 = 1 by kernel_rfl] at f1
 obtain ⟨a1, r1, v1, b1⟩ := (fun _ => opa_bool hB Tryz.underlying4) n _ _ f1
 have f2 : DataW.trod enc Tryz.prog w 0 (fun _ => true) true n 26 ((cs.drop 2).take (Tryz.prog.cellsOf 26)) = some x2 := hf 2 _ rfl
 rw [show Tryz.prog.cellsOf 26 = 6 by kernel_rfl] at f2
 obtain ⟨a2, r2, v2, b2⟩ := (opa_TE0 hB) n _ _ f2
 refine ⟨⟨a0, a1, a2⟩, ?_, ?_, ?_⟩
 ·rw [emb_TC0_eq]
  have hcs : RepSeq (Mem.of w) _ (cs.drop 0) := (RepSeq.cut (k := 1) r0 (by rw [List.drop_drop]; exact (RepSeq.cut (k := 1) r1 (by rw [List.drop_drop]; exact (RepSeq.cut (k := 6) r2 (by rw [List.drop_drop]; exact (show RepSeq (Mem.of w) [] (cs.drop 8) from List.drop_eq_nil_of_le (by omega))))))))
  exact hcs
 ·rw [emb_TC0_eq]; exact ⟨v0, ⟨v1, ⟨v2, trivial⟩⟩⟩
 ·rw [emb_TC0_eq]
  have := hB.agg ([x0, x1, x2].map (·.1))
  simp only [List.map_cons, List.map_nil, List.sum_cons, List.sum_nil] at this ⊢
  simp only [dsz, dszs] at *
  omega
theorem bulk_all {H : Type} (l : List (DataW H)) : Rows.uptoBulkAll l = (l.map Rows.uptoBulk).sum := by
 induction l with
 | nil => simp [Rows.uptoBulkAll]
 | cons x l ih => simp only [Rows.uptoBulkAll, List.map_cons, List.sum_cons, ih]
theorem bulk_ok {H : Type} : BulkOk (H := H) Rows.uptoBulk where
 one d := by
  cases d with
  | lit l => cases l <;> simp [Rows.uptoBulk]
  | nil => simp [Rows.uptoBulk]
  | ptr d => simp [Rows.uptoBulk]
  | slice elems spare => simp [Rows.uptoBulk]
  | agg parts => simp [Rows.uptoBulk]
  | iface t d => simp [Rows.uptoBulk]
  | map entries => simp [Rows.uptoBulk]
  | held h => simp [Rows.uptoBulk]
 str l := by simp [Rows.uptoBulk]
 slice e s := by
  simp only [Rows.uptoBulk]
  rw [bulk_all e]
  omega
 agg e := by
  simp only [Rows.uptoBulk]
  rw [bulk_all e]
  exact Nat.le_refl _
theorem bulk_one {H : Type} {d : DataW H} {l : List (DataW H)} (h : Rows.uptoSmall H l = true) (hd : d ∈ l) : Rows.uptoBulk d ≤ 1048576 := by
 unfold Rows.uptoSmall at h
 have h := of_decide_eq_true h
 rw [bulk_all] at h
 have := le_sum (List.mem_map_of_mem (f := Rows.uptoBulk) hd)
 omega
end Go.Proofs.YtocefedhenhbfaaGreatDoor
end
