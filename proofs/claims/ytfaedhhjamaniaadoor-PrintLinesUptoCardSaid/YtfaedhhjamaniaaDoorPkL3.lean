/-
  Texts of this claim, packed (what nothing names is left out): Num, Num2, PrintP1, PrintP2, VkG, VkH, VkI, P0, NumC, TextC, NumH, HdP, P1, P2, P3, P4, PrintP3, PrintP4, LLines. Own work, partly printed by own programs. No condition.
-/
import GoSem.Op.String
import Derived.Test.YtfaedhhjamaniaaDoorPkL2
import Derived.Test.YtfaedhhjamaniaaDoorPkL1
import Derived.Laws.StructEq
import Derived.Test.YtfaedhhjamaniaaDoorRows
set_option linter.unusedVariables false
set_option linter.unusedSimpArgs false
set_option maxHeartbeats 2000000
section
namespace Go.Num
def dig (c : UInt8) : Bool := 48 ≤ c && c ≤ 57
def nd : List UInt8 → Nat → Nat
  | [], k => k
  | c :: r, k => if dig c then nd r (k + 1) else k
def vl : List UInt8 → Nat → Nat
  | [], v => v
  | c :: r, v => if dig c then vl r (10 * v + (c.toNat - 48)) else v
def neg (l : List UInt8) : Bool := decide (l.getD 0 0 = 45)
def fst (l : List UInt8) : Nat := if neg l then 1 else 0
def big : Nat := 9007199254740992
def scanL (l : List UInt8) (at_ : Int) : Int × Int × Int :=
  let f := fst l
  let k := nd (l.drop f) f
  let v := vl (l.drop f) 0
  if l.getD f 0 = 48 ∧ f + 2 ≤ k then (0, at_ + (f + 1), 20)
  else if k = f ∨ l.getD k 0 = 46 ∨ l.getD k 0 = 101 ∨ l.getD k 0 = 69 then (0, at_ + k, 20)
  else if big < v ∨ (neg l = true ∧ v = 0) then (0, at_, 20)
  else (if neg l then -(v : Int) else v, at_ + k, 0)
theorem dig_iff (c : UInt8) : dig c = true ↔ 48 ≤ c.toNat ∧ c.toNat ≤ 57 := by
 simp [dig, UInt8.le_iff_toNat_le]
theorem drop_cons (l : List UInt8) (k : Nat) (h : k < l.length) : l.drop k = l.getD k 0 :: l.drop (k + 1) := by
 rw [List.drop_eq_getElem_cons h]; simp [List.getD, h]
theorem nd_step (l : List UInt8) (k : Nat) (h : k < l.length) (hd : dig (l.getD k 0) = true) : nd (l.drop k) k = nd (l.drop (k + 1)) (k + 1) := by
 rw [drop_cons l k h]; simp only [nd, hd, if_true]
theorem nd_stop (l : List UInt8) (k : Nat) (hd : dig (l.getD k 0) = false) : nd (l.drop k) k = k := by
 by_cases h : k < l.length
 ·rw [drop_cons l k h]; simp only [nd, hd]; rfl
 ·rw [List.drop_eq_nil_of_le (by omega)]; rfl
theorem vl_step (l : List UInt8) (k v : Nat) (h : k < l.length) (hd : dig (l.getD k 0) = true) : vl (l.drop k) v = vl (l.drop (k + 1)) (10 * v + ((l.getD k 0).toNat - 48)) := by
 rw [drop_cons l k h]; simp only [vl, hd, if_true]
theorem vl_stop (l : List UInt8) (k v : Nat) (hd : dig (l.getD k 0) = false) : vl (l.drop k) v = v := by
 by_cases h : k < l.length
 ·rw [drop_cons l k h]; simp only [vl, hd]; rfl
 ·rw [List.drop_eq_nil_of_le (by omega)]; rfl
structure ScanI (l : List UInt8) (k : Nat) (v : Nat) : Prop where
  ge : fst l ≤ k
  le : k ≤ l.length
  nd : nd (l.drop k) k = nd (l.drop (fst l)) (fst l)
  vl : vl (l.drop k) v = vl (l.drop (fst l)) 0
  zero : fst l + 2 ≤ k → l.getD (fst l) 0 ≠ 48
  one : fst l + 1 ≤ k → dig (l.getD (fst l) 0) = true
theorem ScanI.step {l : List UInt8} {k v : Nat} (h : ScanI l k v) (hd : dig (l.getD k 0) = true) (hk : k < l.length) (hz : ¬ (k = fst l + 1 ∧ l.getD (fst l) 0 = 48)) : ScanI l (k + 1) (10 * v + ((l.getD k 0).toNat - 48)) := by
 refine ⟨by have := h.ge; omega, by omega, by rw [← nd_step l k hk hd]; exact h.nd, by rw [← vl_step l k v hk hd]; exact h.vl, fun hge h0 => ?_, fun hge => ?_⟩
 ·rcases Nat.lt_or_ge k (fst l + 2) with hlt | hge2
  ·exact hz ⟨by omega, h0⟩
  ·exact h.zero hge2 h0
 ·rcases Nat.lt_or_ge k (fst l + 1) with hlt | hge2
  ·have : k = fst l := by have := h.ge; omega
   subst this; exact hd
  ·exact h.one hge2
theorem ScanI.lt {l : List UInt8} {k v : Nat} (_ : ScanI l k v) (hd : dig (l.getD k 0) = true) : k < l.length := by
 rcases Nat.lt_or_ge k l.length with h | h
 ·exact h
 ·have : l.getD k 0 = 0 := by simp [List.getD, List.getElem?_eq_none h]
  rw [this] at hd; simp [dig] at hd
theorem ScanI.stop {l : List UInt8} {k v : Nat} (h : ScanI l k v) (at_ : Int) (hd : dig (l.getD k 0) = false) :
  scanL l at_ = if k = fst l ∨ l.getD k 0 = 46 ∨ l.getD k 0 = 101 ∨ l.getD k 0 = 69 then (0, at_ + k, 20)
   else if big < v ∨ (neg l = true ∧ v = 0) then (0, at_, 20)
   else (if neg l then -(v : Int) else v, at_ + k, 0) := by
 have h1 := h.nd
 rw [nd_stop l k hd] at h1
 have h2 := h.vl
 rw [vl_stop l k v hd] at h2
 unfold scanL
 simp only []
 rw [← h1, ← h2, if_neg]
 rintro ⟨h3, h4⟩
 exact h.zero h4 h3
theorem byte_of {c : UInt8} {n : Int} (d : UInt8) (h : ((c.toNat : Nat) : Int) = n) (hd : (d.toNat : Int) = n) : c = d := UInt8.toNat_inj.1 (by omega)
def KeepP (n : Int) (v : Nat) : Prop := 0 ≤ n ∧ n ≤ 90071992547409929 ∧ (v ≤ 9007199254740992 → n = v) ∧ (9007199254740992 < v → 9007199254740992 < n)
theorem KeepP.fits {n : Int} {v : Nat} (h : KeepP n v) : (decide (-9007199254740992 ≤ n) && decide (n ≤ 9007199254740992)) = decide (v ≤ 9007199254740992) := by
 obtain ⟨h1, h2, h3, h4⟩ := h
 rw [Bool.eq_iff_iff]
 simp only [Bool.and_eq_true, decide_eq_true_eq]
 constructor
 ·rintro ⟨_, h⟩
  rcases Nat.lt_or_ge 9007199254740992 v with h' | h'
  ·have := h4 h'; omega
  ·exact h'
 ·intro h; have := h3 h; omega
def fitsB (n : Int) : Bool := decide (-9007199254740992 ≤ n ∧ n ≤ 9007199254740992)
theorem fits_eq (n : Int) : (decide ((-9007199254740992 : Int) ≤ n) && decide (n ≤ 9007199254740992)) = fitsB n := by simp [fitsB]
theorem KeepP.fitsEq {n : Int} {v : Nat} (h : KeepP n v) : fitsB n = decide (v ≤ 9007199254740992) := by rw [← fits_eq]; exact h.fits
section
variable {l : List UInt8} {k v : Nat} {n at_ sl : Int} (I : ScanI l k v) (hd : dig (l.getD k 0) = false)
include I hd
theorem ScanI.e1 (h : (k : Int) = (fst l : Int) ∨ (at_ + (k : Int) < sl ∧ (((l.getD k 0).toNat : Int) = 46 ∨ (((l.getD k 0).toNat : Int) = 101 ∨ ((l.getD k 0).toNat : Int) = 69)))) : scanL l at_ = (0, at_ + k, 20) := by
 rw [I.stop at_ hd, if_pos]
 rcases h with h | ⟨_, h | h | h⟩
 ·exact .inl (by omega)
 ·exact .inr (.inl (byte_of 46 h rfl))
 ·exact .inr (.inr (.inl (byte_of 101 h rfl)))
 ·exact .inr (.inr (.inr (byte_of 69 h rfl)))
theorem ScanI.e2 (hno : ¬ (k = fst l ∨ l.getD k 0 = 46 ∨ l.getD k 0 = 101 ∨ l.getD k 0 = 69)) (h : 9007199254740992 < v ∨ (neg l = true ∧ v = 0)) : scanL l at_ = (0, at_, 20) := by
 rw [I.stop at_ hd, if_neg hno, if_pos (by unfold big; exact h)]
theorem ScanI.e3 (hno : ¬ (k = fst l ∨ l.getD k 0 = 46 ∨ l.getD k 0 = 101 ∨ l.getD k 0 = 69)) (h : ¬ (9007199254740992 < v ∨ (neg l = true ∧ v = 0))) : scanL l at_ = (if neg l then -(v : Int) else v, at_ + k, 0) := by
 rw [I.stop at_ hd, if_neg hno, if_neg (by unfold big; exact h)]
end
theorem KeepP.bad {l : List UInt8} {n : Int} {v : Nat} (K : KeepP n v) : (¬ (fitsB n = true) ∨ (neg l = true ∧ n = 0)) ↔ (9007199254740992 < v ∨ (neg l = true ∧ v = 0)) := by
 rw [K.fitsEq]
 obtain ⟨h1, h2, h3, h4⟩ := K
 simp only [decide_eq_true_eq]
 constructor
 ·rintro (h | ⟨a, h⟩)
  ·exact .inl (by omega)
  ·rcases Nat.lt_or_ge 9007199254740992 v with hv | hv
   ·exact .inl hv
   ·exact .inr ⟨a, by have := h3 hv; omega⟩
 ·rintro (h | ⟨a, h⟩)
  ·exact .inl (by omega)
  ·exact .inr ⟨a, by have := h3 (by omega); omega⟩
def KeepR (n : Int) (gr : Bool) (v : Nat) : Prop := 0 ≤ n ∧ n ≤ 9007199254740992 ∧ (v ≤ 9007199254740992 → n = v ∧ gr = false) ∧ (9007199254740992 < v → n = 9007199254740992 ∧ gr = true)
theorem KeepR.bad {l : List UInt8} {n : Int} {gr : Bool} {v : Nat} (K : KeepR n gr v) : (gr = true ∨ (neg l = true ∧ n = 0)) ↔ (9007199254740992 < v ∨ (neg l = true ∧ v = 0)) := by
 obtain ⟨h1, h2, h3, h4⟩ := K
 constructor
 ·rintro (h | ⟨a, h⟩)
  ·rcases Nat.lt_or_ge 9007199254740992 v with hv | hv
   ·exact .inl hv
   ·rw [(h3 hv).2] at h; cases h
  ·rcases Nat.lt_or_ge 9007199254740992 v with hv | hv
   ·exact .inl hv
   ·exact .inr ⟨a, by have := (h3 hv).1; omega⟩
 ·rintro (h | ⟨a, h⟩)
  ·exact .inl (h4 h).2
  ·exact .inr ⟨a, by have := (h3 (by omega)).1; omega⟩
def dch (n : Nat) : UInt8 := UInt8.ofNat (48 + n % 10)
def digsF : Nat → Nat → List UInt8
  | 0, _ => []
  | f + 1, n => if n < 10 then [dch n] else digsF f (n / 10) ++ [dch n]
def digs (n : Nat) : List UInt8 := digsF (n + 1) n
theorem digsF_more : ∀ (f g n : Nat), n < f → n < g → digsF f n = digsF g n
 | 0, _, n, h, _ => by omega
 | f + 1, 0, n, _, h => by omega
 | f + 1, g + 1, n, h1, h2 => by
  simp only [digsF]
  split
  ·rfl
  ·rw [digsF_more f g (n / 10) (by omega) (by omega)]
theorem digs_lt {n : Nat} (h : n < 10) : digs n = [dch n] := by unfold digs; simp only [digsF]; rw [if_pos h]
theorem digs_ge {n : Nat} (h : ¬ n < 10) : digs n = digs (n / 10) ++ [dch n] := by
 unfold digs
 rw [digsF, if_neg h, digsF_more n (n / 10 + 1) (n / 10) (by omega) (by omega)]
theorem dch_toNat (n : Nat) : (dch n).toNat = 48 + n % 10 := by
 unfold dch; rw [UInt8.toNat_ofNat']; omega
theorem dch_int (n : Nat) : (48 + (n : Int) % 10) % 256 = ((dch n).toNat : Int) := by rw [dch_toNat]; omega
theorem digs_len : ∀ (k n : Nat), n < 10 ^ (k + 1) → (digs n).length ≤ k + 1
 | 0, n, h => by rw [digs_lt (by omega)]; simp
 | k + 1, n, h => by
  by_cases h10 : n < 10
  ·rw [digs_lt h10]; simp
  ·rw [digs_ge h10]
   have := digs_len k (n / 10) (by rw [Nat.pow_succ] at h; omega)
   simp; omega
theorem digs_len16 {n : Nat} (h : n ≤ 9007199254740992) : (digs n).length ≤ 16 := digs_len 15 n (by omega)
def text (n : Int) : List UInt8 × Int := if fitsB n then (if n < 0 then 45 :: digs (-n).toNat else digs n.toNat, 0) else ([], 20)
theorem fitsB_iff {n : Int} : fitsB n = true ↔ -9007199254740992 ≤ n ∧ n ≤ 9007199254740992 := by simp [fitsB]
theorem text_no {n : Int} (h : fitsB n = false) : text n = ([], 20) := by simp [text, h]
theorem text_neg {n : Int} (h : fitsB n = true) (h0 : n < 0) : text n = (45 :: digs (-n).toNat, 0) := by simp [text, h, h0]
theorem text_pos {n : Int} (h : fitsB n = true) (h0 : ¬ n < 0) : text n = (digs n.toNat, 0) := by simp [text, h, h0]
end Go.Num
end

section
namespace Go.Num
open Go
end Go.Num
namespace Go.Num
open Go
theorem dig_dch (n : Nat) : dig (dch n) = true := by rw [dig_iff, dch_toNat]; omega
theorem digs_dig : ∀ (n : Nat), ∀ c ∈ digs n, dig c = true := by
 intro n
 induction n using Nat.strongRecOn with
 | _ n ih =>
  intro c hc
  by_cases h : n < 10
  ·rw [digs_lt h] at hc; simp only [List.mem_cons, List.not_mem_nil, or_false] at hc; rw [hc]; exact dig_dch n
  ·rw [digs_ge h] at hc
   rcases List.mem_append.1 hc with hc | hc
   ·exact ih (n / 10) (by omega) c hc
   ·simp only [List.mem_cons, List.not_mem_nil, or_false] at hc; rw [hc]; exact dig_dch n
theorem text_len {n : Int} (h : fitsB n = true) : (text n).1.length ≤ 17 := by
 have h2 := fitsB_iff.1 h
 by_cases h0 : n < 0
 ·rw [text_neg h h0]; have := digs_len16 (n := (-n).toNat) (by omega); simp; omega
 ·rw [text_pos h h0]; have := digs_len16 (n := n.toNat) (by omega); dsimp only; omega
end Go.Num
end

section
namespace Go.Proofs.YtfaedhhjamaniaaDoor
open Go Go.Vc
def hexB (n : Nat) : UInt8 := UInt8.ofNat (if n < 10 then 48 + n else 87 + n)
def qb (c : UInt8) : List UInt8 :=
  if c = 34 then [92, 34] else if c = 92 then [92, 92] else if c = 8 then [92, 98] else if c = 9 then [92, 116] else if c = 10 then [92, 110] else if c = 12 then [92, 102] else if c = 13 then [92, 114]
  else if c < 32 then [92, 117, 48, 48, UInt8.ofNat (48 + c.toNat / 16), hexB (c.toNat % 16)] else [c]
def quoteV (s : List UInt8) : List UInt8 := 34 :: (s.flatMap qb ++ [34])
def numB (x : Int) : List UInt8 := (Go.Num.text x).1
def lineV (br : Bool) (d : Nat) : List UInt8 := if br = true then 10 :: List.replicate (2 * d) 32 else []
def headV (br o : Bool) (k : List UInt8) : List UInt8 := if o = true then quoteV k ++ (58 :: (if br = true then [32] else [])) else []
mutual
def textV (br : Bool) (d : Nat) : TA0 → List UInt8
  | ⟨k, b, m, t, l, ks⟩ =>
    if k = 1 then (if b = true then [116, 114, 117, 101] else [102, 97, 108, 115, 101])
    else if k = 2 then numB m
    else if k = 3 then quoteV t
    else if k = 4 then 91 :: (partsV br (d + 1) false true ks l ++ (if l.length = 0 then [] else lineV br d) ++ [93])
    else if k = 5 then 123 :: (partsV br (d + 1) true true ks l ++ (if l.length = 0 then [] else lineV br d) ++ [125])
    else [110, 117, 108, 108]
def partsV (br : Bool) (d : Nat) (o first : Bool) (ks : List (List UInt8)) : List TA0 → List UInt8
  | [] => []
  | x :: r => (if first = true then [] else [44]) ++ lineV br d ++ headV br o (ks.headD []) ++ textV br d x ++ partsV br d o false ks.tail r
end
theorem textV_eq (br : Bool) (d : Nat) (v : TA0) : textV br d v =
  if v.fKind = 1 then (if v.fBool = true then [116, 114, 117, 101] else [102, 97, 108, 115, 101])
  else if v.fKind = 2 then numB v.fNum
  else if v.fKind = 3 then quoteV v.fText
  else if v.fKind = 4 then 91 :: (partsV br (d + 1) false true v.fKeys v.fList ++ (if v.fList.length = 0 then [] else lineV br d) ++ [93])
  else if v.fKind = 5 then 123 :: (partsV br (d + 1) true true v.fKeys v.fList ++ (if v.fList.length = 0 then [] else lineV br d) ++ [125])
  else [110, 117, 108, 108] := by cases v; rw [textV]
def leadV (br : Bool) (d : Nat) (o first : Bool) (k : List UInt8) : List UInt8 := (if first = true then [] else [44]) ++ lineV br d ++ headV br o k
theorem partsV_cons (br : Bool) (d : Nat) (o first : Bool) (ks : List (List UInt8)) (x : TA0) (r : List TA0) : partsV br d o first ks (x :: r) = leadV br d o first (ks.headD []) ++ (textV br d x ++ partsV br d o false ks.tail r) := by
 rw [partsV]
 unfold leadV
 simp only [List.append_assoc]
theorem partsV_nil (br : Bool) (d : Nat) (o first : Bool) (ks : List (List UInt8)) : partsV br d o first ks [] = [] := by rw [partsV]
theorem partsV_snoc (br : Bool) (d : Nat) (o : Bool) : ∀ (l : List TA0) (ks : List (List UInt8)) (first : Bool) (x : TA0), partsV br d o first ks (l ++ [x]) = partsV br d o first ks l ++ (leadV br d o (first && decide (l.length = 0)) (ks.getD l.length []) ++ textV br d x)
 | [], ks, first, x => by
  rw [List.nil_append, partsV_cons, partsV_nil, partsV_nil, List.append_nil, List.nil_append]
  cases ks <;> simp
 | y :: l, ks, first, x => by
  rw [List.cons_append, partsV_cons, partsV_cons, partsV_snoc br d o l ks.tail false x]
  have e1 : ks.tail.getD l.length [] = ks.getD (y :: l).length [] := by cases ks <;> simp
  have e2 : (first && decide ((y :: l).length = 0)) = false := by simp
  rw [e1, e2, Bool.false_and]
  simp only [List.append_assoc]
theorem partsV_take (br : Bool) (d : Nat) (o : Bool) {l : List TA0} (ks : List (List UInt8)) {i : Nat} {x : TA0} (h : l[i]? = some x) : partsV br d o true ks (l.take (i + 1)) = partsV br d o true ks (l.take i) ++ (leadV br d o (decide (i = 0)) (ks.getD i []) ++ textV br d x) := by
 have hi : i < l.length := (List.getElem?_eq_some_iff.1 h).1
 have hl : (l.take i).length = i := by rw [List.length_take]; omega
 rw [List.take_add_one, h]
 show partsV br d o true ks (l.take i ++ [x]) = _
 rw [partsV_snoc, hl, Bool.true_and]
theorem qb_len (c : UInt8) : (qb c).length ≤ 6 := by
 unfold qb
 repeat (first | split | simp)
theorem flat_len : ∀ s : List UInt8, (s.flatMap qb).length ≤ 6 * s.length
 | [] => by simp
 | c :: r => by
  have h1 := qb_len c
  have h2 := flat_len r
  rw [List.flatMap_cons, List.length_append, List.length_cons]
  omega
theorem quote_len (s : List UInt8) : (quoteV s).length ≤ 6 * s.length + 2 := by
 have := flat_len s
 unfold quoteV
 simp only [List.length_cons, List.length_append, List.length_nil]
 omega
theorem num_len (x : Int) : (numB x).length ≤ 17 := by
 unfold numB
 cases h : Go.Num.fitsB x with
 | true => exact Go.Num.text_len h
 | false => rw [Go.Num.text_no h]; simp
theorem line_len (br : Bool) (d : Nat) : (lineV br d).length ≤ 2 * d + 1 := by
 unfold lineV
 split
 ·simp
 ·simp
theorem lead_len (br : Bool) (d : Nat) (o first : Bool) {k : List UInt8} (hk : k.length ≤ 5000) (hd : d ≤ 100) : (leadV br d o first k).length ≤ 31000 := by
 have h1 := line_len br d
 have h2 := quote_len k
 unfold leadV headV
 simp only [List.length_append]
 have h3 : (if first = true then ([] : List UInt8) else [44]).length ≤ 1 := by split <;> simp
 have h4 : (if o = true then quoteV k ++ (58 :: (if br = true then [32] else [])) else []).length ≤ 30010 := by
  split
  ·simp only [List.length_append, List.length_cons]
   split
   ·simp only [List.length_cons, List.length_nil]; omega
   ·simp only [List.length_nil]; omega
  ·simp
 omega
theorem text_len_gen (br : Bool) : ∀ (m d : Nat) (v : TA0), Small m v → d + m ≤ 100 → (textV br d v).length ≤ 100000000 * (walkV v).length
 | 0, _, _, h, _ => h.elim
 | m + 1, d, v, h, hd => by
  have hw := h.wide
  have hl := line_len br d
  have hwv : (walkV v).length = (walkVs v.fList).length + 1 := by rw [walkV_eq, List.length_cons]
  have parts : ∀ (o : Bool) (l : List TA0) (ks : List (List UInt8)) (first : Bool), (∀ x ∈ l, Small m x) → (∀ k ∈ ks, k.length ≤ 5000) → (partsV br (d + 1) o first ks l).length ≤ 31000 * l.length + 100000000 * (walkVs l).length := by
   intro o l
   induction l with
   | nil => intro ks first _ _; rw [partsV_nil]; simp
   | cons x r ih =>
    intro ks first hs hk
    have h1 := text_len_gen br m (d + 1) x (hs x List.mem_cons_self) (by omega)
    have h2 := ih ks.tail false (fun y hy => hs y (List.mem_cons_of_mem _ hy)) (fun k hk' => hk k (List.mem_of_mem_tail hk'))
    have h3 : (ks.headD []).length ≤ 5000 := by
     cases ks with
     | nil => simp
     | cons k r => exact hk k List.mem_cons_self
    have h4 := lead_len br (d + 1) o first h3 (by omega)
    rw [partsV_cons, List.length_append, List.length_append, List.length_cons]
    have h5 : (walkVs (x :: r)).length = (walkV x).length + (walkVs r).length := by rw [walkVs, List.length_append]
    rw [h5]
    omega
  have p4 := parts false v.fList v.fKeys true h.2.2.2.2 hw.2.2.2
  have p5 := parts true v.fList v.fKeys true h.2.2.2.2 hw.2.2.2
  have hll := hw.1
  have hlast : (if v.fList.length = 0 then ([] : List UInt8) else lineV br d).length ≤ 2 * d + 1 := by
   split
   ·simp
   ·exact hl
  have hnum := num_len v.fNum
  have hq := quote_len v.fText
  have ht := hw.2.2.1
  rw [textV_eq, hwv]
  split
  ·split <;> simp <;> omega
  ·split
   ·omega
   ·split
    ·omega
    ·split
     ·simp only [List.length_cons, List.length_append, List.length_nil]; omega
     ·split
      ·simp only [List.length_cons, List.length_append, List.length_nil]; omega
      ·simp; omega
def Stop (r : List UInt8) : Prop := r = [] ∨ ∃ c t, r = c :: t ∧ (c = 44 ∨ c = 93 ∨ c = 125 ∨ c = 10)
end Go.Proofs.YtfaedhhjamaniaaDoor
end

section
namespace Go.Vc
open Go Go.RowKit
variable {dd : List Deferred}
def RepMap {κ δ : Type} (M : Mem) (emb : δ → Dat) : List (κ × δ) → List (κ × Value) → Prop
  | [], m => m = []
  | p :: r, m => ∃ cs m', m = (p.1, Value.agg cs.toArray) :: m' ∧ Rep M (emb p.2) cs ∧ RepMap M emb r m'
section
variable {κ δ : Type} {M M' : Mem} {emb : δ → Dat}
theorem RepMap.mono (h : M.le M') : ∀ {d : List (κ × δ)} {m : List (κ × Value)}, RepMap M emb d m → RepMap M' emb d m
 | [], _, hr => hr
 | p :: r, m, ⟨cs, m', h1, h2, h3⟩ => ⟨cs, m', h1, Rep.mono h _ _ h2, RepMap.mono h h3⟩
theorem RepMap.nil : RepMap M emb ([] : List (κ × δ)) [] := rfl
variable [DecidableEq κ]
theorem RepMap.put {k : κ} {x : δ} {cs : List Value} (hx : Rep M (emb x) cs) : ∀ {d : List (κ × δ)} {m : List (κ × Value)}, RepMap M emb d m → RepMap M emb (mput d k x) (mput m k (.agg cs.toArray))
 | [], m, h => by
  have : m = [] := h
  subst this
  exact ⟨cs, [], rfl, hx, rfl⟩
 | p :: r, m, ⟨c, m', h1, h2, h3⟩ => by
  subst h1
  unfold mput
  by_cases hk : p.1 = k
  ·rw [if_pos hk, if_pos hk]
   exact ⟨cs, m', rfl, hx, h3⟩
  ·rw [if_neg hk, if_neg hk]
   exact ⟨c, _, rfl, h2, RepMap.put hx h3⟩
end
theorem Hp.fzObj {w0 w : World} {M : Mem} {H : List Ent} {b : Nat} {o : Obj} (h : Hp w0 M (.obj b o :: H) w) : ∃ M', M.le M' ∧ Hp w0 M' H w ∧ M' b = some o :=
 ⟨_, h.freeze.1, h.freeze.2, by simp [Mem.add]⟩
section
variable {κ : Type} [DecidableEq κ] {P : Program} {ek : κ → Value} {w : World}
end
section
variable {α : Type}
end
section
variable {π σ β : Type}
variable {E : σ → Option (Lp σ β)} {Y : π → σ → Option (Lp σ β)} {m : List π} {seen : Array Nat} {s : σ} {b : β}
end
section
variable {κ V : Type} {ek : κ → Value} {ev : V → Value} {P : Program} {ops : Array Oper} {n : Nat} {Q : Exit → Act → World → Prop} {L : Fr} {a : Act} {w0 w : World} {M : Mem} {H : List Ent}
def KMapAt (M : Mem) (o : Option Nat) (ek : κ → Value) (ev : V → Value) (m : List (κ × V)) : Prop := (∃ b, o = some b ∧ M b = some (mapO ek ev m)) ∨ (o = none ∧ m = [])
theorem KMapAt.mono {M M' : Mem} (h : M.le M') {o : Option Nat} {m : List (κ × V)} : KMapAt M o ek ev m → KMapAt M' o ek ev m
 | .inl ⟨b, h1, h2⟩ => .inl ⟨b, h1, h _ _ h2⟩
 | .inr h1 => .inr h1
end
section
variable {P : Program} {w : World} {ρ : Operand → Value} {o : Oper}
end
section
variable {α : Type} {M : Mem} {sz : Nat} {f : α → Dat} {A : Option Addr} {cap : Nat} {xs : List α}
end
section
variable {α : Type} {P : Program} {ops : Array Oper} {n : Nat} {Q : Exit → Act → World → Prop} {L : Fr} {a : Act} {w0 w : World} {M : Mem} {H : List Ent} {sz : Nat} {f : α → Dat} {dd : List Deferred}
end
section
variable {P : Program} {w : World} {d : Nat} {xs ys : Array Value}
end
section
variable {κ V : Type} {P : Program} {w : World} {ek : κ → Value} {ev : V → Value}
end
section
variable {α : Type} {P : Program} {ops : Array Oper} {n : Nat} {Q : Exit → Act → World → Prop} {L : Fr} {a : Act} {w0 w : World} {M : Mem} {H : List Ent} {sz : Nat} {f : α → Dat} {dd : List Deferred}
end
end Go.Vc
end

section
namespace Go.Proofs.YtfaedhhjamaniaaDoor
open Go Go.Vc Go.RowKit
def runes_short (n : Nat) : Option (List (Int × Int)) :=
  some (mput (mput (mput (mput (mput (mput (mput ([] : List (Int × Int)) (34 : Int) (34 : Int)) (92 : Int) (92 : Int)) (8 : Int) (98 : Int)) (9 : Int) (116 : Int)) (10 : Int) (110 : Int)) (12 : Int) (102 : Int)) (13 : Int) (114 : Int))
theorem runes_short_ok (n : Nat) (M : Mem) (hG : GL M) (r : (List (Int × Int))) (hF : runes_short n = some r) : Ok Tryd.prog M 80 [] (fun M' v => ∃ (b0 : Nat), v = .map (some b0) ∧ M' b0 = some (mapO (Value.int .u8) (Value.int .u8) r)) := by
 unfold runes_short at hF
 intro M1 hM0 w0 H w p0
 replace hG := GL.mono hM0 hG
 refine R_enter 3 Tryd.func80 rfl rfl (by simp) fun a0 f0 => RR (Y f0 1 fun _ f => eT (RR (W_newmap (Value.int .u8) (Value.int .u8) f p0 (by kernel_rfl) (by kernel_rfl) rfl rfl rfl fun bm_1 w_1 p_1 _ f => Y21 (ek := (Value.int .u8)) (ev := (Value.int .u8)) (m := ([] : List (Int × Int))) (k := (34 : Int)) (v := (34 : Int)) (kt := 5) (et := 5) f p_1 rfl (.inr rfl) (intKey (by kernel_rfl)) fun w_2 p_2 _ f => Y21 (ek := (Value.int .u8)) (ev := (Value.int .u8)) (m := mput ([] : List (Int × Int)) (34 : Int) (34 : Int)) (k := (92 : Int)) (v := (92 : Int)) (kt := 5) (et := 5) f p_2 rfl (.inr rfl) (intKey (by kernel_rfl)) fun w_3 p_3 _ f => Y21 (ek := (Value.int .u8)) (ev := (Value.int .u8)) (m := mput (mput ([] : List (Int × Int)) (34 : Int) (34 : Int)) (92 : Int) (92 : Int)) (k := (8 : Int)) (v := (98 : Int)) (kt := 5) (et := 5) f p_3 rfl (.inr rfl) (intKey (by kernel_rfl)) fun w_4 p_4 _ f => Y21 (ek := (Value.int .u8)) (ev := (Value.int .u8)) (m := mput (mput (mput ([] : List (Int × Int)) (34 : Int) (34 : Int)) (92 : Int) (92 : Int)) (8 : Int) (98 : Int)) (k := (9 : Int)) (v := (116 : Int)) (kt := 5) (et := 5) f p_4 rfl (.inr rfl) (intKey (by kernel_rfl)) fun w_5 p_5 _ f => Y21 (ek := (Value.int .u8)) (ev := (Value.int .u8)) (m := mput (mput (mput (mput ([] : List (Int × Int)) (34 : Int) (34 : Int)) (92 : Int) (92 : Int)) (8 : Int) (98 : Int)) (9 : Int) (116 : Int)) (k := (10 : Int)) (v := (110 : Int)) (kt := 5) (et := 5) f p_5 rfl (.inr rfl) (intKey (by kernel_rfl)) fun w_6 p_6 _ f => Y21 (ek := (Value.int .u8)) (ev := (Value.int .u8)) (m := mput (mput (mput (mput (mput ([] : List (Int × Int)) (34 : Int) (34 : Int)) (92 : Int) (92 : Int)) (8 : Int) (98 : Int)) (9 : Int) (116 : Int)) (10 : Int) (110 : Int)) (k := (12 : Int)) (v := (102 : Int)) (kt := 5) (et := 5) f p_6 rfl (.inr rfl) (intKey (by kernel_rfl)) fun w_7 p_7 _ f => ?_)))
 refine Y21 (ek := (Value.int .u8)) (ev := (Value.int .u8)) (m := mput (mput (mput (mput (mput (mput ([] : List (Int × Int)) (34 : Int) (34 : Int)) (92 : Int) (92 : Int)) (8 : Int) (98 : Int)) (9 : Int) (116 : Int)) (10 : Int) (110 : Int)) (12 : Int) (102 : Int)) (k := (13 : Int)) (v := (114 : Int)) (kt := 5) (et := 5) f p_7 rfl (.inr rfl) (intKey (by kernel_rfl)) fun w_8 p_8 _ f => Y f 2 fun _ f => eT (wp_ret ?_)
 obtain ⟨M_1, hM_1, p_9, h_1⟩ := p_8.fzObj
 refine E_ret1 f rfl (by kernel_rfl : Vc.look _ 0 = some (.map (some bm_1))) ?_
 obtain rfl := sI hF
 exact ⟨_, rfl, M_1, hM_1, p_9, ⟨bm_1, rfl, h_1⟩⟩
def strings_Builder_copyCheck (n : Nat) (d0_1 : List UInt8) : Option (List UInt8) :=
  some (d0_1)
theorem strings_Builder_copyCheck_ok (n : Nat) (M : Mem) (hG : GL M) (b0 : Nat) (d0_1 : List UInt8) (A_1 : Option Addr) (cap_1 : Nat) (cs_1 : List Value) (hr_1 : RepSeq M (d0_1.map embB) cs_1) (r : List UInt8) (hF : strings_Builder_copyCheck n d0_1 = some r) : OkH Tryd.prog M [Ent.obj b0 (.cells #[.pointer none, .slice A_1 d0_1.length cap_1] 48 (0, 0)), Ent.row 5 1 (.slice A_1 d0_1.length cap_1) d0_1.length cs_1] 62 [.pointer (some (⟨b0, 0, none⟩))] (fun M' E' v => ∃ (A_2 : Option Addr) (A_3 : Option Addr) (cap_2 : Nat) (cs_2 : List Value), v = .tuple #[] ∧ E' = [Ent.obj b0 (.cells #[.pointer A_2, .slice A_3 r.length cap_2] 48 (0, 0)), Ent.row 5 1 (.slice A_3 r.length cap_2) r.length cs_2] ∧ (A_2 = none ∨ A_2 = some ⟨b0, 0, none⟩) ∧ RepSeq M' (r.map embB) cs_2) := by
 unfold strings_Builder_copyCheck at hF
 intro M1 hM0 w0 H w p0
 replace hG := GL.mono hM0 hG
 replace hr_1 := RepSeq.mono hM0 _ _ hr_1
 refine R_enter 20 Tryd.func62 rfl rfl (by simp) fun a0 f0 => RR (Y f0 3 fun _ f => Z f (Y27 (v := .pointer none) rfl (ad := ⟨b0, 0, none⟩) (p0.ownCell 0 rfl 0)) fun _ f => Z (v := .bool true) f (X_ptrNil (q := none) (e := 48) rfl (by kernel_rfl) (by kernel_rfl) (by kernel_rfl) _) fun _ f => eT (Y6 f (R_reg (Y f 2 fun _ f => Z (v := .pointer (some (⟨b0, 0, none⟩))) f (X_toUnsafe rfl (by kernel_rfl) (t := 48) (by kernel_rfl) (by kernel_rfl) (by kernel_rfl) p0 (i := 0) rfl (by simp)) fun _ f => Z (v := .pointer (some (⟨b0, 0, none⟩))) f (X_here (by kernel_rfl)) fun _ f => ?_))))
 refine Z (v := .pointer (some (⟨b0, 0, none⟩))) f (X_fromUnsafe rfl (by kernel_rfl) (u := 48) (by kernel_rfl) (by kernel_rfl) (by kernel_rfl) p0 (i := 0) rfl (by kernel_rfl)) fun _ f => Y f 2 fun _ f => Y23 f p0 0 rfl rfl (b := b0) (j := 0) (v := .pointer (some (⟨b0, 0, none⟩))) rfl (by exact rfl) (by simp) (by simp) ((Ent.obj b0 (.cells #[.pointer (some (⟨b0, 0, none⟩)), .slice A_1 d0_1.length cap_1] 48 (0, 0))) :: (Ent.row 5 1 (.slice A_1 d0_1.length cap_1) d0_1.length cs_1) :: H) rfl fun w_1 p_1 _ f => W_end rfl (E_end0 f rfl  ?_)
 obtain rfl := sI hF
 exact ⟨_, rfl, M1, _, (mR _), p_1, ⟨(some ⟨b0, 0, none⟩), A_1, cap_1, cs_1, rfl, rfl, (.inr rfl), hr_1⟩⟩
def strings_Builder_copyCheck_2 (n : Nat) (d0_1 : List UInt8) : Option (List UInt8) :=
  some (d0_1)
theorem strings_Builder_copyCheck_2_ok (n : Nat) (M : Mem) (hG : GL M) (b0 : Nat) (d0_1 : List UInt8) (A_1 : Option Addr) (cap_1 : Nat) (cs_1 : List Value) (hr_1 : RepSeq M (d0_1.map embB) cs_1) (r : List UInt8) (hF : strings_Builder_copyCheck_2 n d0_1 = some r) : OkH Tryd.prog M [Ent.obj b0 (.cells #[.pointer (some (⟨b0, 0, none⟩)), .slice A_1 d0_1.length cap_1] 48 (0, 0)), Ent.row 5 1 (.slice A_1 d0_1.length cap_1) d0_1.length cs_1] 62 [.pointer (some (⟨b0, 0, none⟩))] (fun M' E' v => ∃ (A_2 : Option Addr) (A_3 : Option Addr) (cap_2 : Nat) (cs_2 : List Value), v = .tuple #[] ∧ E' = [Ent.obj b0 (.cells #[.pointer A_2, .slice A_3 r.length cap_2] 48 (0, 0)), Ent.row 5 1 (.slice A_3 r.length cap_2) r.length cs_2] ∧ (A_2 = none ∨ A_2 = some ⟨b0, 0, none⟩) ∧ RepSeq M' (r.map embB) cs_2) := by
 unfold strings_Builder_copyCheck_2 at hF
 intro M1 hM0 w0 H w p0
 replace hG := GL.mono hM0 hG
 replace hr_1 := RepSeq.mono hM0 _ _ hr_1
 refine R_enter 20 Tryd.func62 rfl rfl (by simp) fun a0 f0 => RR (Y f0 3 fun _ f => Z f (Y27 (v := .pointer (some (⟨b0, 0, none⟩))) rfl (ad := ⟨b0, 0, none⟩) (p0.ownCell 0 rfl 0)) fun _ f => Z (v := .bool false) f (X_ptrNil (q := some (⟨b0, 0, none⟩)) (e := 48) rfl (by kernel_rfl) (by kernel_rfl) (by kernel_rfl) _) fun _ f => eT (Y5 f (RR (Y f 3 fun _ f => Z f (Y27 (v := .pointer (some (⟨b0, 0, none⟩))) rfl (ad := ⟨b0, 0, none⟩) (p0.ownCell 0 rfl 0)) fun _ f => Y f 1 fun _ f => ?_))))
 refine Z (v := .bool false) f (X_ptrNeSame (a := ⟨b0, 0, none⟩) (e := 48) rfl (by kernel_rfl) (by kernel_rfl) (by kernel_rfl) (by kernel_rfl) _) fun _ f => eT (Y5 f (wp_skip (E_end0 f rfl  ?_)))
 obtain rfl := sI hF
 exact ⟨_, rfl, M1, _, (mR _), p0, ⟨(some ⟨b0, 0, none⟩), A_1, cap_1, cs_1, rfl, rfl, (.inr rfl), hr_1⟩⟩
def strings_Builder_copyCheck_3 (n : Nat) (d0_1 : List UInt8) : Option (List UInt8) := strings_Builder_copyCheck n d0_1
theorem strings_Builder_copyCheck_3_ok (n : Nat) (M : Mem) (hG : GL M) (b0 : Nat) (A_1 : Option Addr) (hb_1 : (A_1 = none ∨ A_1 = some ⟨b0, 0, none⟩)) (d0_1 : List UInt8) (A_2 : Option Addr) (cap_1 : Nat) (cs_1 : List Value) (hr_1 : RepSeq M (d0_1.map embB) cs_1) (r : List UInt8) (hF : strings_Builder_copyCheck_3 n d0_1 = some r) : OkH Tryd.prog M [Ent.obj b0 (.cells #[.pointer A_1, .slice A_2 d0_1.length cap_1] 48 (0, 0)), Ent.row 5 1 (.slice A_2 d0_1.length cap_1) d0_1.length cs_1] 62 [.pointer (some (⟨b0, 0, none⟩))] (fun M' E' v => ∃ (A_3 : Option Addr) (A_4 : Option Addr) (cap_2 : Nat) (cs_2 : List Value), v = .tuple #[] ∧ E' = [Ent.obj b0 (.cells #[.pointer A_3, .slice A_4 r.length cap_2] 48 (0, 0)), Ent.row 5 1 (.slice A_4 r.length cap_2) r.length cs_2] ∧ (A_3 = none ∨ A_3 = some ⟨b0, 0, none⟩) ∧ RepSeq M' (r.map embB) cs_2) := by
 rcases hb_1 with rfl | rfl
 ·exact strings_Builder_copyCheck_ok n M hG b0 d0_1 A_2 cap_1 cs_1 hr_1 r hF
 ·exact strings_Builder_copyCheck_2_ok n M hG b0 d0_1 A_2 cap_1 cs_1 hr_1 r hF
def strings_Builder_WriteByte (n : Nat) (d0_1 : List UInt8) (d1 : Int) : Option (Unit × List UInt8) :=
  (strings_Builder_copyCheck_3 n d0_1).bind fun x_1 =>
  need (0 ≤ d1 ∧ d1 < 256) <|
  need ((x_1.length + 1) * 1 ≤ 140737488355328) <|
  some (((), x_1 ++ [UInt8.ofNat (d1).toNat]))
theorem strings_Builder_WriteByte_ok (n : Nat) (M : Mem) (hG : GL M) (b0 : Nat) (A_1 : Option Addr) (hb_1 : (A_1 = none ∨ A_1 = some ⟨b0, 0, none⟩)) (d0_1 : List UInt8) (A_2 : Option Addr) (cap_1 : Nat) (cs_1 : List Value) (hr_1 : RepSeq M (d0_1.map embB) cs_1) (d1 : Int) (r : Unit × List UInt8) (hF : strings_Builder_WriteByte n d0_1 d1 = some r) : OkH Tryd.prog M [Ent.obj b0 (.cells #[.pointer A_1, .slice A_2 d0_1.length cap_1] 48 (0, 0)), Ent.row 5 1 (.slice A_2 d0_1.length cap_1) d0_1.length cs_1] 55 [.pointer (some (⟨b0, 0, none⟩)), .int .u8 d1] (fun M' E' v => ∃ (A_6 : Option Addr) (A_7 : Option Addr) (cap_4 : Nat) (cs_4 : List Value), v = .nilIface ∧ E' = [Ent.obj b0 (.cells #[.pointer A_6, .slice A_7 r.2.length cap_4] 48 (0, 0)), Ent.row 5 1 (.slice A_7 r.2.length cap_4) r.2.length cs_4] ∧ (A_6 = none ∨ A_6 = some ⟨b0, 0, none⟩) ∧ RepSeq M' (r.2.map embB) cs_4) := by
 unfold strings_Builder_WriteByte at hF
 intro M1 hM0 w0 H w p0
 replace hG := GL.mono hM0 hG
 replace hr_1 := RepSeq.mono hM0 _ _ hr_1
 refine R_enter 17 Tryd.func55 rfl rfl (by simp) fun a0 f0 => RR (Y f0 1 fun _ f => eT (RR (Y f 1 fun _ f => ?_)))
 obtain ⟨x_1, hx_1, hF_1⟩ := bS hF
 refine Y14 (E := [Ent.obj b0 (.cells #[.pointer A_1, .slice A_2 d0_1.length cap_1] 48 (0, 0)), Ent.row 5 1 (.slice A_2 d0_1.length cap_1) d0_1.length cs_1]) (H := (H)) f p0 (strings_Builder_copyCheck_3_ok n _ hG b0 A_1 hb_1 d0_1 A_2 cap_1 cs_1 hr_1 x_1 hx_1) fun _ M_1 E_1 w_1 hM_1 p_1 q_1 _ f => ?_
 obtain ⟨A_3, A_4, cap_2, cs_2, rfl, rfl, hb_2, hr_2⟩ := q_1
 refine eT (RR (Y f 4 fun _ f => Z f (Y27 (v := .slice A_4 x_1.length cap_2) rfl (ad := ⟨b0, 1, none⟩) (p_1.ownCell 0 rfl 1)) fun _ f => Y f 1 fun _ f => V_allocS (k := 1) (c := 1) f p_1 (.cells #[.int .u8 d1] 5 (0, 0)) (by kernel_rfl) (fun _ => by kernel_rfl) fun b_1 w_2 p_2 _ f => ?_))
 obtain ⟨g_1, hF_2⟩ := nS hF_1
 have p_3 := p_2.pl [2]
 obtain ⟨g_2, hF_3⟩ := nS hF_2
 refine Y17 (z := .int .u8 0) (f := embB) (xs := x_1) (ys := [UInt8.ofNat (d1).toNat]) (news := [.int .u8 d1]) (ad := ⟨b_1, 0, none⟩) (m := 1) (c := 1) f p_3 hr_2 (by exact ⟨_, _, rfl, (embB_of (by omega)), rfl⟩) rfl rfl rfl rfl (own_cells (p_3.ownCell 1 rfl) 0 rfl) (by exact g_2) (by have hg_ := g_2; first | omega | (simp only [List.length_cons, List.length_nil] at *; omega)) fun A_5 cap_3 cs_3 w_3 p_4 hr_3 _ f => ?_
 have p_5 := p_4.pl [1]
 have p_6 := p_5.drop
 refine Y f 2 fun _ f => Y23 f p_6 1 rfl rfl (b := b0) (j := 1) (v := .slice A_5 (x_1 ++ [UInt8.ofNat (d1).toNat]).length cap_3) rfl (by exact rfl) (by simp) (by simp) ((Ent.row 5 1 (.slice A_5 (x_1 ++ [UInt8.ofNat (d1).toNat]).length cap_3) (x_1 ++ [UInt8.ofNat (d1).toNat]).length cs_3) :: (Ent.obj b0 (.cells #[.pointer A_3, .slice A_5 (x_1 ++ [UInt8.ofNat (d1).toNat]).length cap_3] 48 (0, 0))) :: H) rfl fun w_4 p_7 _ f => eT (RR (Y f 1 fun _ f => eT (wp_ret (E_ret1 f rfl (by kernel_rfl : Vc.look _ 4 = some (.nilIface)) ?_))))
 obtain rfl := sI hF_3
 have p_8 := p_7.pl [1]
 exact ⟨_, rfl, M_1, _, hM_1, p_8, ⟨A_3, A_5, cap_3, cs_3, rfl, rfl, hb_2, hr_3⟩⟩
def strings_Builder_WriteString (n : Nat) (d0_1 : List UInt8) (d1 : List UInt8) : Option (Int × Unit × List UInt8) :=
  (strings_Builder_copyCheck_3 n d0_1).bind fun x_1 =>
  need ((x_1.length + d1.length) * 1 ≤ 140737488355328) <|
  some (((d1.length : Int), (), x_1 ++ d1))
theorem strings_Builder_WriteString_ok (n : Nat) (M : Mem) (hG : GL M) (b0 : Nat) (A_1 : Option Addr) (hb_1 : (A_1 = none ∨ A_1 = some ⟨b0, 0, none⟩)) (d0_1 : List UInt8) (A_2 : Option Addr) (cap_1 : Nat) (cs_1 : List Value) (hr_1 : RepSeq M (d0_1.map embB) cs_1) (d1 : List UInt8) (r : Int × Unit × List UInt8) (hF : strings_Builder_WriteString n d0_1 d1 = some r) : OkH Tryd.prog M [Ent.obj b0 (.cells #[.pointer A_1, .slice A_2 d0_1.length cap_1] 48 (0, 0)), Ent.row 5 1 (.slice A_2 d0_1.length cap_1) d0_1.length cs_1] 49 [.pointer (some (⟨b0, 0, none⟩)), S d1] (fun M' E' v => ∃ (A_6 : Option Addr) (A_7 : Option Addr) (cap_4 : Nat) (cs_4 : List Value), v = .tuple #[.int .i64 r.1, .nilIface] ∧ E' = [Ent.obj b0 (.cells #[.pointer A_6, .slice A_7 r.2.2.length cap_4] 48 (0, 0)), Ent.row 5 1 (.slice A_7 r.2.2.length cap_4) r.2.2.length cs_4] ∧ (A_6 = none ∨ A_6 = some ⟨b0, 0, none⟩) ∧ RepSeq M' (r.2.2.map embB) cs_4) := by
 unfold strings_Builder_WriteString at hF
 intro M1 hM0 w0 H w p0
 replace hG := GL.mono hM0 hG
 replace hr_1 := RepSeq.mono hM0 _ _ hr_1
 refine R_enter 19 Tryd.func49 rfl rfl (by simp) fun a0 f0 => RR (Y f0 2 fun _ f => eT (RR (Y f 1 fun _ f => ?_)))
 obtain ⟨x_1, hx_1, hF_1⟩ := bS hF
 refine Y14 (E := [Ent.obj b0 (.cells #[.pointer A_1, .slice A_2 d0_1.length cap_1] 48 (0, 0)), Ent.row 5 1 (.slice A_2 d0_1.length cap_1) d0_1.length cs_1]) (H := (H)) f p0 (strings_Builder_copyCheck_3_ok n _ hG b0 A_1 hb_1 d0_1 A_2 cap_1 cs_1 hr_1 x_1 hx_1) fun _ M_1 E_1 w_1 hM_1 p_1 q_1 _ f => ?_
 obtain ⟨A_3, A_4, cap_2, cs_2, rfl, rfl, hb_2, hr_2⟩ := q_1
 refine eT (RR (Y f 4 fun _ f => Z f (Y27 (v := .slice A_4 x_1.length cap_2) rfl (ad := ⟨b0, 1, none⟩) (p_1.ownCell 0 rfl 1)) fun _ f => Y f 1 fun _ f => ?_))
 have p_2 := p_1.pl [1]
 obtain ⟨g_1, hF_2⟩ := nS hF_1
 refine Y19 (z := .int .u8 0) (xs := x_1) (l := d1) f p_2 hr_2 rfl rfl rfl g_1 (by omega) fun A_5 cap_3 cs_3 w_2 p_3 hr_3 _ f => Y f 2 fun _ f => Y23 f p_3 1 rfl rfl (b := b0) (j := 1) (v := .slice A_5 (x_1 ++ d1).length cap_3) rfl (by exact rfl) (by simp) (by simp) ((Ent.row 5 1 (.slice A_5 (x_1 ++ d1).length cap_3) (x_1 ++ d1).length cs_3) :: (Ent.obj b0 (.cells #[.pointer A_3, .slice A_5 (x_1 ++ d1).length cap_3] 48 (0, 0))) :: H) rfl fun w_3 p_4 _ f => eT (RR (Y f 4 fun _ f => eT (wp_ret (E_ret2 f rfl (by kernel_rfl : Vc.look _ 4 = some (.int .i64 (d1.length : Int))) (by kernel_rfl : Vc.look _ 5 = some (.nilIface)) ?_))))
 obtain rfl := sI hF_2
 have p_5 := p_4.pl [1]
 exact ⟨_, rfl, M_1, _, hM_1, p_5, ⟨A_3, A_5, cap_3, cs_3, rfl, rfl, hb_2, hr_3⟩⟩
def strings_Builder_String (n : Nat) (d0_1 : List UInt8) : Option (List UInt8 × List UInt8) :=
  some ((d0_1, d0_1))
theorem strings_Builder_String_ok (n : Nat) (M : Mem) (hG : GL M) (b0 : Nat) (A_1 : Option Addr) (hb_1 : (A_1 = none ∨ A_1 = some ⟨b0, 0, none⟩)) (d0_1 : List UInt8) (A_2 : Option Addr) (cap_1 : Nat) (cs_1 : List Value) (hr_1 : RepSeq M (d0_1.map embB) cs_1) (r : List UInt8 × List UInt8) (hF : strings_Builder_String n d0_1 = some r) : OkH Tryd.prog M [Ent.obj b0 (.cells #[.pointer A_1, .slice A_2 d0_1.length cap_1] 48 (0, 0)), Ent.row 5 1 (.slice A_2 d0_1.length cap_1) d0_1.length cs_1] 25 [.pointer (some (⟨b0, 0, none⟩))] (fun M' E' v => ∃ (A_3 : Option Addr) (A_4 : Option Addr) (cap_2 : Nat), v = S r.1 ∧ E' = [Ent.obj b0 (.cells #[.pointer A_3, .slice A_4 r.2.length cap_2] 48 (0, 0))] ∧ (A_3 = none ∨ A_3 = some ⟨b0, 0, none⟩) ∧ Sli M' 1 embB A_4 cap_2 r.2) := by
 unfold strings_Builder_String at hF
 intro M1 hM0 w0 H w p0
 replace hG := GL.mono hM0 hG
 replace hr_1 := RepSeq.mono hM0 _ _ hr_1
 refine R_enter 14 Tryd.func25 rfl rfl (by simp) fun a0 f0 => RR (Y f0 1 fun _ f => eT (R_seq ?_))
 have p_1 := p0.pl [1]
 refine R_mix (E := [Ent.row 5 1 (.slice A_2 d0_1.length cap_1) d0_1.length cs_1]) (Hr := ((Ent.obj b0 (.cells #[.pointer A_1, .slice A_2 d0_1.length cap_1] 48 (0, 0))) :: H)) [(0, true), (1, true), (2, true), (3, true), (5, true), (6, true), (7, true), (8, true), (9, true), (4, false), (10, false), (11, true)] p_1 (by kernel_rfl) (by kernel_rfl) rfl (by kernel_rfl) (Y0 default f 3 fun _ f => M_eq (v := .slice A_2 d0_1.length cap_1) f (by kernel_rfl) (by kernel_rfl) rfl rfl (fun _ pq => Y27 (v := .slice A_2 d0_1.length cap_1) rfl (ad := ⟨b0, 1, none⟩) (pq.ownCell 0 rfl 1)) fun _ f => Y0 default f 3 fun _ f => M_eq (v := .slice A_2 d0_1.length cap_1) f (by kernel_rfl) (by kernel_rfl) rfl rfl (fun _ pq => Y27 (v := .slice A_2 d0_1.length cap_1) rfl (ad := ⟨b0, 1, none⟩) (pq.ownCell 0 rfl 1)) fun _ f => Y0 default f 1 fun _ f => M_fix (E := [Ent.row 5 1 (.slice A_2 d0_1.length cap_1) d0_1.length cs_1]) fun w_1 p_2 => W_sliceData (v := .slice A_2 d0_1.length cap_1) f p_2 (by kernel_rfl) (by kernel_rfl) rfl rfl rfl (by kernel_rfl) (by kernel_rfl) fun q_1 w_2 p_3 hd_1 _ f => W_end rfl (M_go (M1 := M1) (E := [Ent.row 5 1 (.slice A_2 d0_1.length cap_1) d0_1.length cs_1]) (mR _) p_3 (M_fix (E := [Ent.row 5 1 (.slice A_2 d0_1.length cap_1) d0_1.length cs_1]) fun w_3 p_4 => ?_)))
 refine W_unsafeString (q := q_1) (v := .slice A_2 d0_1.length cap_1) (l := d0_1) (A := A_2) (cap := cap_1) rfl f p_4 hr_1 hd_1 (by kernel_rfl) (by kernel_rfl) rfl rfl rfl (by kernel_rfl) (by kernel_rfl) (by kernel_rfl) (by kernel_rfl) fun M_1 w_4 hM_1 p_5 h_1 _ f => W_end rfl (M_go (M1 := M_1) (E := []) hM_1 p_5 (Y0 default f 1 fun _ f => M_end rfl fun w_5 p_6 => T_n (wp_ret (E_ret1 f rfl (by kernel_rfl : Vc.look _ 2 = some (S d0_1)) ?_))))
 obtain rfl := sI hF
 exact ⟨_, rfl, M_1, _, hM_1, p_6, ⟨A_1, A_2, cap_1, rfl, rfl, hb_1, h_1⟩⟩
def runes_Quote_s1 (n : Nat) (d0 : List UInt8) (x_2 : (List (Int × Int))) (s_1 : Int × List UInt8) : Option (Lp (Int × List UInt8) (List UInt8)) :=
    bif (decide (s_1.1 < (d0.length : Int))) then
      ((getI d0 s_1.1).bind fun c_1 =>
      bif (mget x_2 ((c_1).toNat : Int)).isSome then
        ((strings_Builder_WriteByte n s_1.2 (92 : Int)).bind fun x_4 =>
        (strings_Builder_WriteByte n x_4.2 ((mget x_2 ((c_1).toNat : Int)).getD (0 : Int))).bind fun x_5 =>
        need (inR .i64 (s_1.1 + 1)) <|
        some (.nx (s_1.1 + 1, x_5.2)))
      else
        bif (decide (((c_1).toNat : Int) < 32)) then
          ((strings_Builder_WriteString n s_1.2 [92, 117, 48, 48]).bind fun x_6 =>
          need (inR .u8 ((48 : Int) + (bShr .u8 ((c_1).toNat : Int) (4 : Int)))) <|
          (strings_Builder_WriteByte n x_6.2.2 ((48 : Int) + (bShr .u8 ((c_1).toNat : Int) (4 : Int)))).bind fun x_7 =>
          (getI ([48, 49, 50, 51, 52, 53, 54, 55, 56, 57, 97, 98, 99, 100, 101, 102] : List UInt8) (bAnd .u8 ((c_1).toNat : Int) (15 : Int))).bind fun c_2 =>
          (strings_Builder_WriteByte n x_7.2 ((c_2).toNat : Int)).bind fun x_8 =>
          need (inR .i64 (s_1.1 + 1)) <|
          some (.nx (s_1.1 + 1, x_8.2)))
        else
          (strings_Builder_WriteByte n s_1.2 ((c_1).toNat : Int)).bind fun x_9 =>
          need (inR .i64 (s_1.1 + 1)) <|
          some (.nx (s_1.1 + 1, x_9.2)))
    else
      some (.br s_1.2)
def runes_Quote (n : Nat) (d0 : List UInt8) : Option (List UInt8 × Int) :=
  (runes_Valid n d0).bind fun x_1 =>
  bif !x_1 then
    (some ((([] : List UInt8), (10 : Int))))
  else
    (runes_short n).bind fun x_2 =>
    (strings_Builder_WriteByte n ([] : List UInt8) (34 : Int)).bind fun x_3 =>
    (loopF (runes_Quote_s1 n d0 x_2) n ((0 : Int), x_3.2)).bind fun y_1 =>
    (strings_Builder_WriteByte n y_1 (34 : Int)).bind fun x_10 =>
    (strings_Builder_String n x_10.2).bind fun x_11 =>
    some ((x_11.1, (0 : Int)))
set_option maxRecDepth 20000 in
theorem runes_Quote_ok (n : Nat) (M : Mem) (hG : GL M) (d0 : List UInt8) (r : List UInt8 × Int) (hF : runes_Quote n d0 = some r) : Ok Tryd.prog M 65 [S d0] (fun _ v => v = .tuple #[S r.1, .int .i64 r.2]) := by
 unfold runes_Quote at hF
 intro M1 hM0 w0 H w p0
 replace hG := GL.mono hM0 hG
 refine R_enter 49 Tryd.func65 rfl rfl (by simp) fun a0 f0 => RR (Y f0 2 fun _ f => eT (R_seq (RR (Y f 1 fun _ f => ?_))))
 obtain ⟨x_1, hx_1, hF_1⟩ := bS hF
 refine Y15 f p0 (runes_Valid_ok n _ hG d0 x_1 hx_1) fun w_1 p_1 _ f => Y f 1 fun _ f => eT (RcF f hF_1 (fun h_1 hF_2 => ?_) fun h_1 hF_3 => ?_)
 ·have k_1 : (x_1) = false := by simpa using h_1
  refine RR (Y f 2 fun _ f => eT (wp_ret (T_r (E_ret2 f rfl (by kernel_rfl : Vc.look _ 2 = some (S [])) (by kernel_rfl : Vc.look _ 3 = some (.int .i64 10)) ?_))))
  obtain rfl := sI hF_2
  exact ⟨_, rfl, M1, (mR _), p_1, rfl⟩
 ·have k_2 : (x_1) = true := by simpa using h_1
  refine wp_skip (T_n (RR ?_))
  obtain ⟨x_2, hx_2, hF_4⟩ := bS hF_3
  refine Y13 f p_1 (runes_short_ok n _ hG x_2 hx_2) fun _ M_1 w_2 hM_1 p_2 q_1 _ f => ?_
  obtain ⟨bk_1, rfl, h0_1⟩ := q_1
  refine Y f 1 fun _ f => eT (RR (Y9 f p_2 (.cells #[.pointer none, .slice none 0 0] 48 (0, 0)) fun b_1 w_3 p_3 _ f => eT (RR ?_)))
  obtain ⟨A_1, cap_1, hv_1⟩ : ∃ A cap, Value.slice none 0 0 = .slice A ([] : List UInt8).length cap := ⟨none, 0, rfl⟩
  have p_4 : Hp w0 M_1 ((Ent.row 5 1 (.slice A_1 ([] : List UInt8).length cap_1) ([] : List UInt8).length []) :: (Ent.obj b_1 (.cells #[.pointer none, .slice A_1 ([] : List UInt8).length cap_1] 48 (0, 0))) :: H) w_3 := by rw [← hv_1]; exact p_3.nilRow 5 1
  have hr_1 : RepSeq M_1 (([] : List UInt8).map embB) [] := rfl
  obtain ⟨x_3, hx_3, hF_5⟩ := bS hF_4
  have p_6 := p_4.pl [1]
  refine Y14 (E := [Ent.obj b_1 (.cells #[.pointer none, .slice A_1 ([] : List UInt8).length cap_1] 48 (0, 0)), Ent.row 5 1 (.slice A_1 ([] : List UInt8).length cap_1) ([] : List UInt8).length []]) (H := (H)) f p_6 (strings_Builder_WriteByte_ok n _ (GL.mono hM_1 hG) b_1 none (.inl rfl) ([] : List UInt8) A_1 cap_1 [] hr_1 (34 : Int) x_3 hx_3) fun _ M_2 E_1 w_4 hM_2 p_5 q_2 _ f => ?_
  obtain ⟨A_2, A_3, cap_2, cs_1, rfl, rfl, hb_1, hr_2⟩ := q_2
  refine eT (R_seq (RR (Y f 3 fun _ f => eT (wp_block ?_))))
  have p_7 := p_5.pl [1]
  obtain ⟨b_2, hL_1, hF_6⟩ := bS hF_5
  refine wp_mono (Q := fun e a w => (e = .exit 0 ∧ (∃ y_1 : List UInt8, b_2 = y_1 ∧ ∃ M_10 : Mem, M_2.le M_10 ∧ ∃ (A_18 : Option Addr), ∃ (A_19 : Option Addr), ∃ (cap_10 : Nat), ∃ (cs_9 : List Value), (A_18 = none ∨ A_18 = some ⟨b_1, 0, none⟩) ∧ RepSeq M_10 (y_1.map embB) cs_9 ∧ Frm 49 [(5, .pointer (some (⟨b_1, 0, none⟩)))] a ∧ Hp w0 M_10 ((Ent.row 5 1 (.slice A_19 y_1.length cap_10) y_1.length cs_9) :: (Ent.obj b_1 (.cells #[.pointer A_18, .slice A_19 y_1.length cap_10] 48 (0, 0))) :: H) w))) (R_loop (n := 49) (w0 := w0) (M := M_2) (fun (x : Nat × (Int × List UInt8) × (Option Addr) × (Option Addr) × Nat × (List Value)) => match x with | (m_2, s_1, A_4, A_5, cap_3, cs_2) => [(0, S d0), (4, .map (some bk_1)), (5, .pointer (some (⟨b_1, 0, none⟩))), (16, .int .i64 (d0.length : Int)), (17, .int .i64 s_1.1)]) (fun (x : Nat × (Int × List UInt8) × (Option Addr) × (Option Addr) × Nat × (List Value)) => match x with | (m_2, s_1, A_4, A_5, cap_3, cs_2) => ((Ent.row 5 1 (.slice A_5 s_1.2.length cap_3) s_1.2.length cs_2) :: (Ent.obj b_1 (.cells #[.pointer A_4, .slice A_5 s_1.2.length cap_3] 48 (0, 0))) :: H)) (fun (x : Nat × (Int × List UInt8) × (Option Addr) × (Option Addr) × Nat × (List Value)) (MM : Mem) => match x with | (m_2, s_1, A_4, A_5, cap_3, cs_2) => loopF (runes_Quote_s1 n d0 x_2) m_2 s_1 = some b_2 ∧ (A_4 = none ∨ A_4 = some ⟨b_1, 0, none⟩) ∧ RepSeq MM (s_1.2.map embB) cs_2) (fun (x : Nat × (Int × List UInt8) × (Option Addr) × (Option Addr) × Nat × (List Value)) => match x with | (m_2, s_1, A_4, A_5, cap_3, cs_2) => m_2) (n, ((0 : Int), x_3.2), A_2, A_3, cap_2, cs_1) (f.kp) p_7 ⟨hL_1, hb_1, hr_2⟩ ?_) ?_
  ·rintro ⟨m_2, s_1, A_4, A_5, cap_3, cs_2⟩ M_3 _ w_5 hM_3 I_1 f p_8
   obtain ⟨I_1L, hb_2, hr_3⟩ := I_1
   obtain ⟨m_3, r_1, rfl, hs_1, hn_1⟩ := loop_step I_1L
   unfold runes_Quote_s1 at hs_1
   refine RR (Y f 1 fun _ f => eT (R_seq (RcF f hs_1 (fun h_2 hF_7 => ?_) fun h_2 hF_24 => ?_)))
   ·have k_3 := dI.1 h_2
    refine wp_skip (T_n (R_seq (wp_block (RR (Y f 2 fun _ f => eT (RR (Y f 2 fun _ f => ?_)))))))
    obtain ⟨c_1, hx_4, hF_8⟩ := bS hF_7
    refine Z f (Y31 rfl (l := d0) (k := .i64) (i := s_1.1) (getI_nn hx_4) (getI_lt hx_4)) fun _ f => ?_
    have f := Frm.set f 22 (v := .int .u8 ((d0.getD s_1.1.toNat 0).toNat : Int)) (v' := .int .u8 ((c_1).toNat : Int)) (by kernel_rfl) (congrArg (fun c : UInt8 => Value.int .u8 ((c.toNat : Nat) : Int)) (getI_getD hx_4))
    refine Y f 1 fun _ f => eT (RR (Y f 2 fun _ f => Z (v := .tuple #[.int .u8 ((mget x_2 ((c_1).toNat : Int)).getD (0 : Int)), .bool (mget x_2 ((c_1).toNat : Int)).isSome]) f (Y30 (ek := (Value.int .u8)) (ev := (Value.int .u8)) (m := x_2) (k := ((c_1).toNat : Int)) (z := (0 : Int)) (kt := 5) (et := 5) rfl (intKey (by kernel_rfl)) (p_8.mem _ _ ((hM_2.trans hM_3) _ _ h0_1))) fun _ f => Y f 5 fun _ f => eT (RR (Y f 1 fun _ f => eT (RcF f hF_8 (fun h_3 hF_9 => ?_) fun h_3 hF_13 => ?_)))))
    ·refine RR ?_
     obtain ⟨x_4, hx_5, hF_10⟩ := bS hF_9
     have p_10 := p_8.pl [1]
     refine Y14 (E := [Ent.obj b_1 (.cells #[.pointer A_4, .slice A_5 s_1.2.length cap_3] 48 (0, 0)), Ent.row 5 1 (.slice A_5 s_1.2.length cap_3) s_1.2.length cs_2]) (H := (H)) f p_10 (strings_Builder_WriteByte_ok n _ (GL.mono ((hM_1.trans hM_2).trans hM_3) hG) b_1 A_4 hb_2 s_1.2 A_5 cap_3 cs_2 hr_3 (92 : Int) x_4 hx_5) fun _ M_4 E_2 w_6 hM_4 p_9 q_3 _ f => ?_
     obtain ⟨A_6, A_7, cap_4, cs_3, rfl, rfl, hb_3, hr_4⟩ := q_3
     refine eT (R_reg (Y f 1 fun _ f => ?_))
     obtain ⟨x_5, hx_6, hF_11⟩ := bS hF_10
     refine Y14 (E := [Ent.obj b_1 (.cells #[.pointer A_6, .slice A_7 x_4.2.length cap_4] 48 (0, 0)), Ent.row 5 1 (.slice A_7 x_4.2.length cap_4) x_4.2.length cs_3]) (H := (H)) f p_9 (strings_Builder_WriteByte_ok n _ (GL.mono (((hM_1.trans hM_2).trans hM_3).trans hM_4) hG) b_1 A_6 hb_3 x_4.2 A_7 cap_4 cs_3 hr_4 ((mget x_2 ((c_1).toNat : Int)).getD (0 : Int)) x_5 hx_6) fun _ M_5 E_3 w_7 hM_5 p_11 q_4 _ f => ?_
     obtain ⟨A_8, A_9, cap_5, cs_4, rfl, rfl, hb_4, hr_5⟩ := q_4
     refine W_end rfl (B_n (T_n (R_reg ?_)))
     obtain ⟨g_1, hF_12⟩ := nS hF_11
     refine Y f 1 fun _ f => ?_
     have f := f.st 46 (congrArg (Value.int .i64) (inR_wrap g_1))
     refine Y f 1 fun _ f => W_end rfl ?_
     have p_19 := p_11.pl [1]
     refine T_n ?_
     obtain rfl := sI hF_12
     exact ⟨⟨m_3, (s_1.1 + 1, x_5.2), A_8, A_9, cap_5, cs_4⟩, Nat.lt_succ_self _, M_5, ((hM_3.trans hM_4).trans hM_5), ⟨hn_1, hb_4, hr_5⟩, f.kp, p_19⟩
    ·refine RR (Y f 2 fun _ f => eT (RcF f hF_13 (fun h_4 hF_14 => ?_) fun h_4 hF_21 => ?_))
     ·have k_6 := dI.1 h_4
      refine RR ?_
      obtain ⟨x_6, hx_7, hF_15⟩ := bS hF_14
      have p_13 := p_8.pl [1]
      refine Y14 (E := [Ent.obj b_1 (.cells #[.pointer A_4, .slice A_5 s_1.2.length cap_3] 48 (0, 0)), Ent.row 5 1 (.slice A_5 s_1.2.length cap_3) s_1.2.length cs_2]) (H := (H)) f p_13 (strings_Builder_WriteString_ok n _ (GL.mono ((hM_1.trans hM_2).trans hM_3) hG) b_1 A_4 hb_2 s_1.2 A_5 cap_3 cs_2 hr_3 [92, 117, 48, 48] x_6 hx_7) fun _ M_6 E_4 w_8 hM_6 p_12 q_5 _ f => ?_
      obtain ⟨A_10, A_11, cap_6, cs_5, rfl, rfl, hb_5, hr_6⟩ := q_5
      refine eT (RR (Y f 2 fun _ f => ?_))
      obtain ⟨g_2, hF_16⟩ := nS hF_15
      refine Y f 1 fun _ f => ?_
      have f := f.st 38 (congrArg (Value.int .u8) (inR_wrap g_2))
      obtain ⟨x_7, hx_8, hF_17⟩ := bS hF_16
      refine Y14 (E := [Ent.obj b_1 (.cells #[.pointer A_10, .slice A_11 x_6.2.2.length cap_6] 48 (0, 0)), Ent.row 5 1 (.slice A_11 x_6.2.2.length cap_6) x_6.2.2.length cs_5]) (H := (H)) f p_12 (strings_Builder_WriteByte_ok n _ (GL.mono (((hM_1.trans hM_2).trans hM_3).trans hM_6) hG) b_1 A_10 hb_5 x_6.2.2 A_11 cap_6 cs_5 hr_6 ((48 : Int) + (bShr .u8 ((c_1).toNat : Int) (4 : Int))) x_7 hx_8) fun _ M_7 E_5 w_9 hM_7 p_14 q_6 _ f => ?_
      obtain ⟨A_12, A_13, cap_7, cs_6, rfl, rfl, hb_6, hr_7⟩ := q_6
      refine eT (R_reg (Y f 2 fun _ f => ?_))
      obtain ⟨c_2, hx_9, hF_18⟩ := bS hF_17
      refine Z f (Y31 rfl (l := [48, 49, 50, 51, 52, 53, 54, 55, 56, 57, 97, 98, 99, 100, 101, 102]) (k := .u8) (i := bAnd .u8 ((c_1).toNat : Int) (15 : Int)) (getI_nn hx_9) (getI_lt hx_9)) fun _ f => ?_
      have f := Frm.set f 42 (v := .int .u8 ((([48, 49, 50, 51, 52, 53, 54, 55, 56, 57, 97, 98, 99, 100, 101, 102] : List UInt8).getD (bAnd .u8 ((c_1).toNat : Int) (15 : Int)).toNat 0).toNat : Int)) (v' := .int .u8 ((c_2).toNat : Int)) (by kernel_rfl) (congrArg (fun c : UInt8 => Value.int .u8 ((c.toNat : Nat) : Int)) (getI_getD hx_9))
      obtain ⟨x_8, hx_10, hF_19⟩ := bS hF_18
      refine Y14 (E := [Ent.obj b_1 (.cells #[.pointer A_12, .slice A_13 x_7.2.length cap_7] 48 (0, 0)), Ent.row 5 1 (.slice A_13 x_7.2.length cap_7) x_7.2.length cs_6]) (H := (H)) f p_14 (strings_Builder_WriteByte_ok n _ (GL.mono ((((hM_1.trans hM_2).trans hM_3).trans hM_6).trans hM_7) hG) b_1 A_12 hb_6 x_7.2 A_13 cap_7 cs_6 hr_7 ((c_2).toNat : Int) x_8 hx_10) fun _ M_8 E_6 w_10 hM_8 p_15 q_7 _ f => ?_
      obtain ⟨A_14, A_15, cap_8, cs_7, rfl, rfl, hb_7, hr_8⟩ := q_7
      refine W_end rfl (B_n (T_n (R_reg ?_)))
      obtain ⟨g_3, hF_20⟩ := nS hF_19
      refine Y f 1 fun _ f => ?_
      have f := f.st 46 (congrArg (Value.int .i64) (inR_wrap g_3))
      refine Y f 1 fun _ f => W_end rfl ?_
      have p_20 := p_15.pl [1]
      refine T_n ?_
      obtain rfl := sI hF_20
      exact ⟨⟨m_3, (s_1.1 + 1, x_8.2), A_14, A_15, cap_8, cs_7⟩, Nat.lt_succ_self _, M_8, (((hM_3.trans hM_6).trans hM_7).trans hM_8), ⟨hn_1, hb_7, hr_8⟩, f.kp, p_20⟩
     ·have k_7 := iff_f dI h_4
      refine R_reg (Y f 1 fun _ f => ?_)
      obtain ⟨x_9, hx_11, hF_22⟩ := bS hF_21
      have p_17 := p_8.pl [1]
      refine Y14 (E := [Ent.obj b_1 (.cells #[.pointer A_4, .slice A_5 s_1.2.length cap_3] 48 (0, 0)), Ent.row 5 1 (.slice A_5 s_1.2.length cap_3) s_1.2.length cs_2]) (H := (H)) f p_17 (strings_Builder_WriteByte_ok n _ (GL.mono ((hM_1.trans hM_2).trans hM_3) hG) b_1 A_4 hb_2 s_1.2 A_5 cap_3 cs_2 hr_3 ((c_1).toNat : Int) x_9 hx_11) fun _ M_9 E_7 w_11 hM_9 p_16 q_8 _ f => ?_
      obtain ⟨A_16, A_17, cap_9, cs_8, rfl, rfl, hb_8, hr_9⟩ := q_8
      refine W_end rfl (B_n (T_n (R_reg ?_)))
      obtain ⟨g_4, hF_23⟩ := nS hF_22
      refine Y f 1 fun _ f => ?_
      have f := f.st 46 (congrArg (Value.int .i64) (inR_wrap g_4))
      refine Y f 1 fun _ f => W_end rfl ?_
      have p_21 := p_16.pl [1]
      refine T_n ?_
      obtain rfl := sI hF_23
      exact ⟨⟨m_3, (s_1.1 + 1, x_9.2), A_16, A_17, cap_9, cs_8⟩, Nat.lt_succ_self _, M_9, (hM_3.trans hM_9), ⟨hn_1, hb_8, hr_9⟩, f.kp, p_21⟩
   ·have k_8 := iff_f dI h_2
    refine wp_exit (T_x (T_x ?_))
    obtain rfl := sI hF_24
    exact ⟨rfl, s_1.2, (sI hn_1).symm, M_3, hM_3, A_4, A_5, cap_3, cs_2, hb_2, hr_3, f.kp, p_8⟩
  ·rintro _ _ w_13 ⟨rfl, y_1, hq_, M_10, hM_10, A_18, A_19, cap_10, cs_9, hb_9, hr_10, f, p_18⟩
   subst b_2
   refine B_x (T_n (RR ?_))
   obtain ⟨x_10, hx_12, hF_25⟩ := bS hF_6
   have p_23 := p_18.pl [1]
   refine Y14 (E := [Ent.obj b_1 (.cells #[.pointer A_18, .slice A_19 y_1.length cap_10] 48 (0, 0)), Ent.row 5 1 (.slice A_19 y_1.length cap_10) y_1.length cs_9]) (H := (H)) f p_23 (strings_Builder_WriteByte_ok n _ (GL.mono ((hM_1.trans hM_2).trans hM_10) hG) b_1 A_18 hb_9 y_1 A_19 cap_10 cs_9 hr_10 (34 : Int) x_10 hx_12) fun _ M_11 E_8 w_14 hM_11 p_22 q_9 _ f => ?_
   obtain ⟨A_20, A_21, cap_11, cs_10, rfl, rfl, hb_10, hr_11⟩ := q_9
   refine eT (RR ?_)
   obtain ⟨x_11, hx_13, hF_26⟩ := bS hF_25
   refine Y14 (E := [Ent.obj b_1 (.cells #[.pointer A_20, .slice A_21 x_10.2.length cap_11] 48 (0, 0)), Ent.row 5 1 (.slice A_21 x_10.2.length cap_11) x_10.2.length cs_10]) (H := (H)) f p_22 (strings_Builder_String_ok n _ (GL.mono (((hM_1.trans hM_2).trans hM_10).trans hM_11) hG) b_1 A_20 hb_10 x_10.2 A_21 cap_11 cs_10 hr_11 x_11 hx_13) fun _ M_12 E_9 w_15 hM_12 p_24 q_10 _ f => ?_
   obtain ⟨A_22, A_23, cap_12, rfl, rfl, hb_11, h_5⟩ := q_10
   refine Y f 2 fun _ f => eT (wp_ret (E_ret2 f rfl (by kernel_rfl : Vc.look _ 2 = some (S x_11.1)) (by kernel_rfl : Vc.look _ 3 = some (.int .i64 0)) ?_))
   obtain rfl := sI hF_26
   exact ⟨_, rfl, M_12, ((((hM_1.trans hM_2).trans hM_10).trans hM_11).trans hM_12), (p_24.dropN 1), rfl⟩
end Go.Proofs.YtfaedhhjamaniaaDoor
end

section
namespace Go.Proofs.YtfaedhhjamaniaaDoor
open Go Go.Vc Go.RowKit Go.Num
theorem fits_ok (M : Mem) (n : Int) : Ok Tryd.prog M 63 [.int .i64 n] (fun _ v => v = .bool (fitsB n)) := by
 intro M hM0 w0 H w p0
 refine R_enter 9 Tryd.func63 rfl rfl (by simp) fun a0 f0 => RR (Y f0 1 fun _ f => eT (R_seq (R_mid (fun a_2 w_1 => Frm 9 [(2, .bool ((decide ((-9007199254740992 : Int) ≤ n)) && (decide (n ≤ 9007199254740992))))] a_2 ∧ Hp w0 M (H) w_1) ?_ ?_)))
 ·refine R_reg (Y f 3 fun _ f => ?_)
  rcases bE (decide ((-9007199254740992 : Int) ≤ n)) with h_1 | h_1
  ·have k_1 := dI.1 h_1
   have f := f.st 5 (cB h_1)
   refine Y f 4 fun _ f => eT ?_
   have f := Frm.set f 2 (v := .bool (decide (n ≤ 9007199254740992))) (v' := .bool ((decide ((-9007199254740992 : Int) ≤ n)) && (decide (n ≤ 9007199254740992)))) (by kernel_rfl) (by simp only [h_1, Bool.and_true, Bool.true_and, Bool.false_and, Bool.and_false, Bool.or_true, Bool.true_or, Bool.or_false, Bool.false_or, Bool.not_true, Bool.not_false, cond_true, cond_false])
   exact ⟨f.kp, p0⟩
  ·have k_2 := iff_f dI h_1
   have f := f.st 5 (cB h_1)
   refine Y f 4 fun _ f => eT ?_
   have f := Frm.set f 2 (v := .bool false) (v' := .bool ((decide ((-9007199254740992 : Int) ≤ n)) && (decide (n ≤ 9007199254740992)))) (by kernel_rfl) (by simp only [h_1, Bool.and_true, Bool.true_and, Bool.false_and, Bool.and_false, Bool.or_true, Bool.true_or, Bool.or_false, Bool.false_or, Bool.not_true, Bool.not_false, cond_true, cond_false])
   exact ⟨f.kp, p0⟩
 ·rintro a_2 w_1 ⟨f, p_1⟩
  refine T_n (wp_ret (E_ret1 f rfl (by kernel_rfl : Vc.look _ 2 = some (.bool ((decide ((-9007199254740992 : Int) ≤ n)) && (decide (n ≤ 9007199254740992))))) (⟨_, rfl, M, (mR _), p_1, ?_⟩)))
  exact cB (fits_eq _)
theorem textIn_ok (M : Mem) (bp bo n : Nat) : ∀ (hn : n ≤ 9007199254740992) (v : Value) (k : Nat) (xs : List Value) (hk : k ≤ 1000), OkH Tryd.prog M [Ent.obj bp (.cells #[.func (.func 64) #[] #[.pointer (some (⟨bp, 0, none⟩)), .pointer (some (⟨bo, 0, none⟩))]] 79 (0, 0)), Ent.obj bo (.cells #[v] 35 (0, 0)), Ent.row 5 1 v k xs] 64 [.int .i64 (n : Int), .pointer (some (⟨bp, 0, none⟩)), .pointer (some (⟨bo, 0, none⟩))] (fun _ E2 r => r = .tuple #[] ∧ ∃ v2, E2 = [Ent.obj bp (.cells #[.func (.func 64) #[] #[.pointer (some (⟨bp, 0, none⟩)), .pointer (some (⟨bo, 0, none⟩))]] 79 (0, 0)), Ent.obj bo (.cells #[v2] 35 (0, 0)), Ent.row 5 1 v2 (k + (digs n).length) (xs ++ byteCs (digs n))]) := by
 induction n using Nat.strongRecOn generalizing M
 rename_i n ih
 intro hn v k xs hk
 have hl1 := digs_len16 hn
 have hl2 := digs_len16 (n := n / 10) (by omega)
 intro M hM0 w0 H w p0
 refine R_enter 17 Tryd.func64 rfl rfl (by simp) fun a0 f0 => R_seq (RR (Y f0 2 fun _ f => eT (Y4 f (b := decide ((9 : Int) < (n : Int))) (fun h_1 => ?_) fun h_1 => ?_)))
 ·have k_1 := dI.1 h_1
  refine R_reg (Z f (Y27 (v := .func (.func 64) #[] #[.pointer (some (⟨bp, 0, none⟩)), .pointer (some (⟨bo, 0, none⟩))]) rfl (ad := ⟨bp, 0, none⟩) (p0.ownCell 0 rfl 0)) fun _ f => Y f 1 fun _ f => Y f 1 fun _ f => ?_)
  have f := Frm.set f 8 (v := .int .i64 (IntKind.wrap .i64 ((n : Int).tdiv 10))) (v' := .int .i64 ((n : Int) / 10)) (by kernel_rfl) (congrArg (Value.int .i64) (quo_i64 (by omega) (by decide) (by omega)))
  have f := Frm.set f 8 (v := .int .i64 ((n : Int) / 10)) (v' := .int .i64 ((n / 10 : Nat) : Int)) (by kernel_rfl) (congrArg (Value.int .i64) (by omega))
  refine Y14 (E := [Ent.obj bp (.cells #[.func (.func 64) #[] #[.pointer (some (⟨bp, 0, none⟩)), .pointer (some (⟨bo, 0, none⟩))]] 79 (0, 0)), Ent.obj bo (.cells #[v] 35 (0, 0)), Ent.row 5 1 v k xs]) (H := (H)) f p0 (ih (n / 10) (by omega) _ (by omega) v k xs hk) fun v_1 M_1 E_1 w_1 hM_1 p_1 q_1 _ f => ?_
  obtain ⟨rfl, v2, rfl⟩ := q_1
  have p_2 : Hp w0 M ((Ent.obj bp (.cells #[.func (.func 64) #[] #[.pointer (some (⟨bp, 0, none⟩)), .pointer (some (⟨bo, 0, none⟩))]] 79 (0, 0))) :: (Ent.obj bo (.cells #[v2] 35 (0, 0))) :: (Ent.row 5 1 v2 (k + (digs (n / 10)).length) (xs ++ byteCs (digs (n / 10)))) :: H) w_1 := p_1.less hM_1
  refine eT (R_reg (Z f (Y27 (v := v2) rfl (ad := ⟨bo, 0, none⟩) (p_2.ownCell 1 rfl 0)) fun _ f => Y f 1 fun _ f => Y f 1 fun _ f => ?_))
  have f := Frm.set f 12 (v := .int .i64 ((n : Int).tmod 10)) (v' := .int .i64 ((n : Int) % 10)) (by kernel_rfl) (congrArg (Value.int .i64) (rem_nn (by omega)))
  refine Y f 1 fun _ f => ?_
  have f := Frm.set f 13 (v := .int .i64 (IntKind.wrap .i64 ((48 : Int) + ((n : Int) % 10)))) (v' := .int .i64 ((48 : Int) + ((n : Int) % 10))) (by kernel_rfl) (congrArg (Value.int .i64) (IntWalk.i64_in _ (by omega)))
  refine Y f 1 fun _ f => ?_
  have f := Frm.set f 14 (v := .int .u8 (IntKind.wrap .u8 ((48 : Int) + ((n : Int) % 10)))) (v' := .int .u8 (((48 : Int) + ((n : Int) % 10)) % 256)) (by kernel_rfl) (congrArg (Value.int .u8) (IntKind.wrap_u8 _))
  have f := Frm.set f 14 (v := .int .u8 (((48 : Int) + ((n : Int) % 10)) % 256)) (v' := .int .u8 ((dch n).toNat : Int)) (by kernel_rfl) (congrArg (Value.int .u8) (dch_int n))
  refine V_allocS (k := 1) (c := 1) f p_2 (.cells #[.int .u8 ((dch n).toNat : Int)] 5 (0, 0)) (by kernel_rfl) (fun _ => by kernel_rfl) fun b_1 w_2 p_3 _ f => ?_
  have p_4 := p_3.pl [3]
  refine W_append (d := 16) (t := 35) (e := 5) (z := .int .u8 0) (v := v2) (size := 1) (bytes := 1) (k := k + (digs (n / 10)).length) (m := 1) (c := 1) (xs := xs ++ byteCs (digs (n / 10))) (news := [.int .u8 ((dch n).toNat : Int)]) (ad := ⟨b_1, 0, none⟩) f p_4 (by kernel_rfl) (by kernel_rfl) rfl rfl rfl (by kernel_rfl) (by kernel_rfl) (by kernel_rfl) (by kernel_rfl) (rfl) (own_cells (p_4.ownCell 1 rfl) 0 rfl) (all_one (by kernel_rfl)) (by omega) (by omega) fun v_2 w_3 p_5 _ f => ?_
  have p_6 := p_5.pl [1]
  have p_7 := p_6.drop
  refine Y23 f p_7 2 rfl rfl (b := bo) (j := 0) (v := v_2) (row_one (p_7.rowAt 0 rfl)) (by exact rfl) (by simp) (by simp) ((Ent.row 5 1 v_2 ((k + (digs (n / 10)).length) + 1) ((xs ++ byteCs (digs (n / 10))) ++ [.int .u8 ((dch n).toNat : Int)])) :: (Ent.obj bp (.cells #[.func (.func 64) #[] #[.pointer (some (⟨bp, 0, none⟩)), .pointer (some (⟨bo, 0, none⟩))]] 79 (0, 0))) :: (Ent.obj bo (.cells #[v_2] 35 (0, 0))) :: H) rfl fun w_4 p_8 _ f => W_end rfl (E_end0 f rfl  ?_)
  have p_9 : Hp w0 M ((Ent.row 5 1 v_2 (k + (digs n).length) (xs ++ byteCs (digs n))) :: (Ent.obj bp (.cells #[.func (.func 64) #[] #[.pointer (some (⟨bp, 0, none⟩)), .pointer (some (⟨bo, 0, none⟩))]] 79 (0, 0))) :: (Ent.obj bo (.cells #[v_2] 35 (0, 0))) :: H) w_4 := p_8.rowEq (by rw [digs_ge (n := n) (by omega)]; simp; omega) (by rw [digs_ge (n := n) (by omega), byteCs_append, List.append_assoc]; rfl)
  have p_11 := p_9.pl [2, 2]
  exact ⟨_, rfl, M, [Ent.obj bp (.cells #[.func (.func 64) #[] #[.pointer (some (⟨bp, 0, none⟩)), .pointer (some (⟨bo, 0, none⟩))]] 79 (0, 0)), Ent.obj bo (.cells #[v_2] 35 (0, 0)), Ent.row 5 1 v_2 (k + (digs n).length) (xs ++ byteCs (digs n))], mR _, p_11, rfl, v_2, rfl⟩
 ·have k_2 := iff_f dI h_1
  refine wp_skip (T_n (R_reg (Z f (Y27 (v := v) rfl (ad := ⟨bo, 0, none⟩) (p0.ownCell 1 rfl 0)) fun _ f => Y f 1 fun _ f => Y f 1 fun _ f => ?_)))
  have f := Frm.set f 12 (v := .int .i64 ((n : Int).tmod 10)) (v' := .int .i64 ((n : Int) % 10)) (by kernel_rfl) (congrArg (Value.int .i64) (rem_nn (by omega)))
  refine Y f 1 fun _ f => ?_
  have f := Frm.set f 13 (v := .int .i64 (IntKind.wrap .i64 ((48 : Int) + ((n : Int) % 10)))) (v' := .int .i64 ((48 : Int) + ((n : Int) % 10))) (by kernel_rfl) (congrArg (Value.int .i64) (IntWalk.i64_in _ (by omega)))
  refine Y f 1 fun _ f => ?_
  have f := Frm.set f 14 (v := .int .u8 (IntKind.wrap .u8 ((48 : Int) + ((n : Int) % 10)))) (v' := .int .u8 (((48 : Int) + ((n : Int) % 10)) % 256)) (by kernel_rfl) (congrArg (Value.int .u8) (IntKind.wrap_u8 _))
  have f := Frm.set f 14 (v := .int .u8 (((48 : Int) + ((n : Int) % 10)) % 256)) (v' := .int .u8 ((dch n).toNat : Int)) (by kernel_rfl) (congrArg (Value.int .u8) (dch_int n))
  refine V_allocS (k := 1) (c := 1) f p0 (.cells #[.int .u8 ((dch n).toNat : Int)] 5 (0, 0)) (by kernel_rfl) (fun _ => by kernel_rfl) fun b_2 w_5 p_12 _ f => ?_
  have p_13 := p_12.pl [3]
  refine W_append (d := 16) (t := 35) (e := 5) (z := .int .u8 0) (v := v) (size := 1) (bytes := 1) (k := k) (m := 1) (c := 1) (xs := xs) (news := [.int .u8 ((dch n).toNat : Int)]) (ad := ⟨b_2, 0, none⟩) f p_13 (by kernel_rfl) (by kernel_rfl) rfl rfl rfl (by kernel_rfl) (by kernel_rfl) (by kernel_rfl) (by kernel_rfl) (rfl) (own_cells (p_13.ownCell 1 rfl) 0 rfl) (all_one (by kernel_rfl)) (by omega) (by omega) fun v_3 w_6 p_14 _ f => ?_
  have p_15 := p_14.pl [1]
  have p_16 := p_15.drop
  refine Y23 f p_16 2 rfl rfl (b := bo) (j := 0) (v := v_3) (row_one (p_16.rowAt 0 rfl)) (by exact rfl) (by simp) (by simp) ((Ent.row 5 1 v_3 (k + 1) (xs ++ [.int .u8 ((dch n).toNat : Int)])) :: (Ent.obj bp (.cells #[.func (.func 64) #[] #[.pointer (some (⟨bp, 0, none⟩)), .pointer (some (⟨bo, 0, none⟩))]] 79 (0, 0))) :: (Ent.obj bo (.cells #[v_3] 35 (0, 0))) :: H) rfl fun w_7 p_17 _ f => W_end rfl (E_end0 f rfl  ?_)
  have p_18 : Hp w0 M ((Ent.row 5 1 v_3 (k + (digs n).length) (xs ++ byteCs (digs n))) :: (Ent.obj bp (.cells #[.func (.func 64) #[] #[.pointer (some (⟨bp, 0, none⟩)), .pointer (some (⟨bo, 0, none⟩))]] 79 (0, 0))) :: (Ent.obj bo (.cells #[v_3] 35 (0, 0))) :: H) w_7 := p_17.rowEq (by rw [digs_lt (n := n) (by omega)]; rfl) (by rw [digs_lt (n := n) (by omega)]; rfl)
  have p_20 := p_18.pl [2, 2]
  exact ⟨_, rfl, M, [Ent.obj bp (.cells #[.func (.func 64) #[] #[.pointer (some (⟨bp, 0, none⟩)), .pointer (some (⟨bo, 0, none⟩))]] 79 (0, 0)), Ent.obj bo (.cells #[v_3] 35 (0, 0)), Ent.row 5 1 v_3 (k + (digs n).length) (xs ++ byteCs (digs n))], mR _, p_20, rfl, v_3, rfl⟩
theorem textP_ok (M : Mem) (n : Int) : Ok Tryd.prog M 50 [.int .i64 n] (fun _ v => v = .tuple #[S (text n).1, .int .i64 (text n).2]) := by
 intro M hM0 w0 H w p0
 refine R_enter 25 Tryd.func50 rfl rfl (by simp) fun a0 f0 => RR (Y f0 2 fun _ f => eT (R_seq (RR (Y f 1 fun _ f => Y15 f p0 (fits_ok _ (n)) fun w_1 p_1 _ f => ?_))))
 refine Y f 1 fun _ f => eT (Y4 f (b := !(fitsB n)) (fun h_1 => ?_) fun h_1 => ?_)
 ·have k_1 : (fitsB n) = false := by simpa using h_1
  refine RR (Y f 2 fun _ f => eT (wp_ret (T_r (E_ret2 f rfl (by kernel_rfl : Vc.look _ 2 = some (S [])) (by kernel_rfl : Vc.look _ 3 = some (.int .i64 20)) (⟨_, rfl, M, (mR _), (p_1.dropN 0), ?_⟩)))))
  rw [text_no k_1]
 ·have k_2 : (fitsB n) = true := by simpa using h_1
  refine wp_skip (T_n (R_seq ?_))
  have hfit := k_2
  have hfit2 := fitsB_iff.1 hfit
  refine R_reg (Y9 f p_1 (.cells #[.slice none 0 0] 35 (0, 0)) fun b_1 w_2 p_2 _ f => eT (RR (Y9 f p_2 (.cells #[.nilFunc] 79 (0, 0)) fun b_2 w_3 p_3 _ f => eT (RR ?_))))
  refine Y f 1 fun _ f => Y23 f p_3 0 rfl rfl (b := b_2) (j := 0) (v := .func (.func 64) #[] #[.pointer (some (⟨b_2, 0, none⟩)), .pointer (some (⟨b_1, 0, none⟩))]) rfl (by exact rfl) (by simp) (by simp) ((Ent.obj b_2 (.cells #[.func (.func 64) #[] #[.pointer (some (⟨b_2, 0, none⟩)), .pointer (some (⟨b_1, 0, none⟩))]] 79 (0, 0))) :: (Ent.obj b_1 (.cells #[.slice none 0 0] 35 (0, 0))) :: H) rfl fun w_4 p_4 _ f => eT (R_seq (wp_block (RR (Y f 1 fun _ f => ?_))))
  have p_5 := p_4.nilRow 5 1
  refine Y f 2 fun _ f => eT (Y4 f (b := decide (n < 0)) (fun h_2 => ?_) fun h_2 => ?_)
  ·have k_3 := dI.1 h_2
   refine RR (Z f (Y27 (v := .slice none 0 0) rfl (ad := ⟨b_1, 0, none⟩) (p_5.ownCell 2 rfl 0)) fun _ f => V_allocS (k := 1) (c := 1) f p_5 (.cells #[.int .u8 45] 5 (0, 0)) (by kernel_rfl) (fun _ => by kernel_rfl) fun b_3 w_5 p_6 _ f => ?_)
   have p_7 := p_6.pl [1]
   refine W_append (d := 18) (t := 35) (e := 5) (z := .int .u8 0) (v := .slice none 0 0) (size := 1) (bytes := 1) (k := 0) (m := 1) (c := 1) (xs := []) (news := [.int .u8 45]) (ad := ⟨b_3, 0, none⟩) f p_7 (by kernel_rfl) (by kernel_rfl) rfl rfl rfl (by kernel_rfl) (by kernel_rfl) (by kernel_rfl) (by kernel_rfl) (rfl) (own_cells (p_7.ownCell 1 rfl) 0 rfl) (all_one (by kernel_rfl)) (by omega) (by omega) fun v_1 w_6 p_8 _ f => ?_
   have p_9 := p_8.pl [1]
   have p_10 := p_9.drop
   refine Y23 f p_10 2 rfl rfl (b := b_1) (j := 0) (v := v_1) (row_one (p_10.rowAt 0 rfl)) (by exact rfl) (by simp) (by simp) ((Ent.row 5 1 v_1 (0 + 1) ([] ++ [.int .u8 45])) :: (Ent.obj b_2 (.cells #[.func (.func 64) #[] #[.pointer (some (⟨b_2, 0, none⟩)), .pointer (some (⟨b_1, 0, none⟩))]] 79 (0, 0))) :: (Ent.obj b_1 (.cells #[v_1] 35 (0, 0))) :: H) rfl fun w_7 p_11 _ f => eT (R_reg (Z f (Y27 (v := .func (.func 64) #[] #[.pointer (some (⟨b_2, 0, none⟩)), .pointer (some (⟨b_1, 0, none⟩))]) rfl (ad := ⟨b_2, 0, none⟩) (p_11.ownCell 1 rfl 0)) fun _ f => Y f 1 fun _ f => Y f 1 fun _ f => ?_))
   have f := Frm.set f 21 (v := .int .i64 (IntKind.wrap .i64 (0 - n))) (v' := .int .i64 (-n)) (by kernel_rfl) (congrArg (Value.int .i64) ((IntWalk.i64_in _ (by omega)).trans (Int.zero_sub _)))
   have f := Frm.set f 21 (v := .int .i64 (-n)) (v' := .int .i64 ((-n).toNat : Int)) (by kernel_rfl) (congrArg (Value.int .i64) (by omega))
   have p_13 := p_11.pl [2, 2]
   refine Y14 (E := [Ent.obj b_2 (.cells #[.func (.func 64) #[] #[.pointer (some (⟨b_2, 0, none⟩)), .pointer (some (⟨b_1, 0, none⟩))]] 79 (0, 0)), Ent.obj b_1 (.cells #[v_1] 35 (0, 0)), Ent.row 5 1 v_1 (0 + 1) ([] ++ [.int .u8 45])]) (H := (H)) f p_13 (textIn_ok _ b_2 b_1 ((-n).toNat) (by omega) (v_1) (0 + 1) ([] ++ [.int .u8 45]) (by omega)) fun v_2 M_1 E_1 w_8 hM_1 p_14 q_1 _ f => ?_
   obtain ⟨rfl, v3, rfl⟩ := q_1
   have p_15 : Hp w0 M ((Ent.obj b_2 (.cells #[.func (.func 64) #[] #[.pointer (some (⟨b_2, 0, none⟩)), .pointer (some (⟨b_1, 0, none⟩))]] 79 (0, 0))) :: (Ent.obj b_1 (.cells #[v3] 35 (0, 0))) :: (Ent.row 5 1 v3 ((0 + 1) + (digs (-n).toNat).length) (([] ++ [.int .u8 45]) ++ byteCs (digs (-n).toNat))) :: H) w_8 := p_14.less hM_1
   refine W_end rfl (B_n (T_n (RR (Z f (Y27 (v := v3) rfl (ad := ⟨b_1, 0, none⟩) (p_15.ownCell 1 rfl 0)) fun _ f => ?_))))
   have p_16 := p_15.pl [2]
   have p_17 : Hp w0 M ((Ent.row 5 1 v3 (45 :: digs (-n).toNat).length (byteCs (45 :: digs (-n).toNat))) :: (Ent.obj b_2 (.cells #[.func (.func 64) #[] #[.pointer (some (⟨b_2, 0, none⟩)), .pointer (some (⟨b_1, 0, none⟩))]] 79 (0, 0))) :: (Ent.obj b_1 (.cells #[v3] 35 (0, 0))) :: H) w_8 := p_16.rowEq (by simp <;> omega) (by simp [byteCs])
   refine Z (v := S (45 :: digs (-n).toNat)) f (X_string_row rfl (l := 45 :: digs (-n).toNat) (v := v3) (by kernel_rfl) (e := 5) (by kernel_rfl) (by kernel_rfl) (by kernel_rfl) (p_17.rowAt 0 rfl)) fun _ f => Y f 2 fun _ f => eT (wp_ret (E_ret2 f rfl (by kernel_rfl : Vc.look _ 2 = some (S (45 :: digs (-n).toNat))) (by kernel_rfl : Vc.look _ 3 = some (.int .i64 0)) (⟨_, rfl, M, (mR _), (p_17.dropN 3), ?_⟩)))
   rw [text_neg hfit k_3]
  ·have k_4 := iff_f dI h_2
   refine R_reg (Z f (Y27 (v := .func (.func 64) #[] #[.pointer (some (⟨b_2, 0, none⟩)), .pointer (some (⟨b_1, 0, none⟩))]) rfl (ad := ⟨b_2, 0, none⟩) (p_5.ownCell 1 rfl 0)) fun _ f => Y f 1 fun _ f => ?_)
   have f := Frm.set f 11 (v := .int .i64 n) (v' := .int .i64 (n.toNat : Int)) (by kernel_rfl) (congrArg (Value.int .i64) (by omega))
   have p_19 := p_5.pl [2, 2]
   refine Y14 (E := [Ent.obj b_2 (.cells #[.func (.func 64) #[] #[.pointer (some (⟨b_2, 0, none⟩)), .pointer (some (⟨b_1, 0, none⟩))]] 79 (0, 0)), Ent.obj b_1 (.cells #[.slice none 0 0] 35 (0, 0)), Ent.row 5 1 (.slice none 0 0) 0 []]) (H := (H)) f p_19 (textIn_ok _ b_2 b_1 (n.toNat) (by omega) (.slice none 0 0) (0) ([]) (by omega)) fun v_3 M_2 E_2 w_9 hM_2 p_20 q_2 _ f => ?_
   obtain ⟨rfl, v3, rfl⟩ := q_2
   have p_21 : Hp w0 M ((Ent.obj b_2 (.cells #[.func (.func 64) #[] #[.pointer (some (⟨b_2, 0, none⟩)), .pointer (some (⟨b_1, 0, none⟩))]] 79 (0, 0))) :: (Ent.obj b_1 (.cells #[v3] 35 (0, 0))) :: (Ent.row 5 1 v3 (0 + (digs n.toNat).length) ([] ++ byteCs (digs n.toNat))) :: H) w_9 := p_20.less hM_2
   refine W_end rfl (B_n (T_n (RR (Z f (Y27 (v := v3) rfl (ad := ⟨b_1, 0, none⟩) (p_21.ownCell 1 rfl 0)) fun _ f => ?_))))
   have p_22 := p_21.pl [2]
   have p_23 : Hp w0 M ((Ent.row 5 1 v3 (digs n.toNat).length (byteCs (digs n.toNat))) :: (Ent.obj b_2 (.cells #[.func (.func 64) #[] #[.pointer (some (⟨b_2, 0, none⟩)), .pointer (some (⟨b_1, 0, none⟩))]] 79 (0, 0))) :: (Ent.obj b_1 (.cells #[v3] 35 (0, 0))) :: H) w_9 := p_22.rowEq (by simp) (by simp)
   refine Z (v := S (digs n.toNat)) f (X_string_row rfl (l := digs n.toNat) (v := v3) (by kernel_rfl) (e := 5) (by kernel_rfl) (by kernel_rfl) (by kernel_rfl) (p_23.rowAt 0 rfl)) fun _ f => Y f 2 fun _ f => eT (wp_ret (E_ret2 f rfl (by kernel_rfl : Vc.look _ 2 = some (S (digs n.toNat))) (by kernel_rfl : Vc.look _ 3 = some (.int .i64 0)) (⟨_, rfl, M, (mR _), (p_23.dropN 3), ?_⟩)))
   rw [text_pos hfit k_4]
def h_numText (_ : Nat) (x : Int) : Option (List UInt8 × Int) := some (Go.Num.text x)
theorem h_numText_ok (n : Nat) (M : Mem) (x : Int) (r : List UInt8 × Int) (hF : h_numText n x = some r) : Ok Tryd.prog M 50 [.int .i64 x] (fun _ v => v = .tuple #[S r.1, .int .i64 r.2]) := by
 obtain rfl := Option.some.inj hF
 exact textP_ok M x
end Go.Proofs.YtfaedhhjamaniaaDoor
end

section
namespace Go.Proofs.YtfaedhhjamaniaaDoor
open Go Go.Vc Go.RowKit
def h_Repeat (_ : Nat) (d0 : List UInt8) (d1 : Int) : Option (List UInt8) := need (0 ≤ d1 ∧ d1 ≤ 1000000 ∧ d0.length ≤ 1000000) (some (Lib.repeatL d0 d1.toNat))
theorem h_Repeat_ok (n : Nat) (M : Mem) (d0 : List UInt8) (d1 : Int) (r : List UInt8) (hF : h_Repeat n d0 d1 = some r) : Ok Tryd.prog M 81 [S d0, .int .i64 d1] (fun _ v => v = S r) := by
 unfold h_Repeat at hF
 obtain ⟨⟨g0, g1, g2⟩, hF⟩ := need_some hF
 obtain rfl := Option.some.inj hF
 obtain ⟨c, rfl⟩ := Int.eq_ofNat_of_zero_le g0
 refine Ok.ofBelow fun M2 w0 H w hM hp => ?_
 have hs : (mkS d0).size = d0.length := rfl
 have hc : c ≤ 1000000 := by omega
 have hm : d0.length * c ≤ 1000000 * 1000000 := Nat.mul_le_mul g2 hc
 exact Tryd.strings_Repeat (mkS d0) c w (by omega) (by rw [hs]; omega)
def strings_Builder_copyCheck_4 (n : Nat) (d0_1 : List UInt8) (d0_2 : Bool) (d0_3 : Int) : Option (List UInt8 × Bool × Int) :=
  some ((d0_1, (d0_2), d0_3))
theorem strings_Builder_copyCheck_4_ok (n : Nat) (M : Mem) (hG : GL M) (b0 : Nat) (d0_1 : List UInt8) (A_1 : Option Addr) (cap_1 : Nat) (cs_1 : List Value) (hr_1 : RepSeq M (d0_1.map embB) cs_1) (d0_2 : Bool) (d0_3 : Int) (r : List UInt8 × Bool × Int) (hF : strings_Builder_copyCheck_4 n d0_1 d0_2 d0_3 = some r) : OkH Tryd.prog M [Ent.obj b0 (.cells #[.pointer none, .slice A_1 d0_1.length cap_1, .bool d0_2, .int .i64 d0_3] 50 (0, 0)), Ent.row 5 1 (.slice A_1 d0_1.length cap_1) d0_1.length cs_1] 62 [.pointer (some (⟨b0, 0, none⟩))] (fun M' E' v => ∃ (A_2 : Option Addr) (A_3 : Option Addr) (cap_2 : Nat) (cs_2 : List Value), v = .tuple #[] ∧ E' = [Ent.obj b0 (.cells #[.pointer A_2, .slice A_3 r.1.length cap_2, .bool r.2.1, .int .i64 r.2.2] 50 (0, 0)), Ent.row 5 1 (.slice A_3 r.1.length cap_2) r.1.length cs_2] ∧ (A_2 = none ∨ A_2 = some ⟨b0, 0, none⟩) ∧ RepSeq M' (r.1.map embB) cs_2) := by
 unfold strings_Builder_copyCheck_4 at hF
 intro M1 hM0 w0 H w p0
 replace hG := GL.mono hM0 hG
 replace hr_1 := RepSeq.mono hM0 _ _ hr_1
 refine R_enter 20 Tryd.func62 rfl rfl (by simp) fun a0 f0 => RR (Y f0 3 fun _ f => Z f (Y27 (v := .pointer none) rfl (ad := ⟨b0, 0, none⟩) (p0.ownCell 0 rfl 0)) fun _ f => Z (v := .bool true) f (X_ptrNil (q := none) (e := 48) rfl (by kernel_rfl) (by kernel_rfl) (by kernel_rfl) _) fun _ f => eT (Y6 f (R_reg (Y f 2 fun _ f => Z (v := .pointer (some (⟨b0, 0, none⟩))) f (X_toUnsafe rfl (by kernel_rfl) (t := 48) (by kernel_rfl) (by kernel_rfl) (by kernel_rfl) p0 (i := 0) rfl (by simp)) fun _ f => Z (v := .pointer (some (⟨b0, 0, none⟩))) f (X_here (by kernel_rfl)) fun _ f => ?_))))
 refine Z (v := .pointer (some (⟨b0, 0, none⟩))) f (X_fromUnsafe rfl (by kernel_rfl) (u := 48) (by kernel_rfl) (by kernel_rfl) (by kernel_rfl) p0 (i := 0) rfl (by kernel_rfl)) fun _ f => Y f 2 fun _ f => Y23 f p0 0 rfl rfl (b := b0) (j := 0) (v := .pointer (some (⟨b0, 0, none⟩))) rfl (by exact rfl) (by simp) (by simp) ((Ent.obj b0 (.cells #[.pointer (some (⟨b0, 0, none⟩)), .slice A_1 d0_1.length cap_1, .bool d0_2, .int .i64 d0_3] 50 (0, 0))) :: (Ent.row 5 1 (.slice A_1 d0_1.length cap_1) d0_1.length cs_1) :: H) rfl fun w_1 p_1 _ f => W_end rfl (E_end0 f rfl  ?_)
 obtain rfl := sI hF
 exact ⟨_, rfl, M1, _, (mR _), p_1, ⟨(some ⟨b0, 0, none⟩), A_1, cap_1, cs_1, rfl, rfl, (.inr rfl), hr_1⟩⟩
def strings_Builder_copyCheck_5 (n : Nat) (d0_1 : List UInt8) (d0_2 : Bool) (d0_3 : Int) : Option (List UInt8 × Bool × Int) :=
  some ((d0_1, (d0_2), d0_3))
theorem strings_Builder_copyCheck_5_ok (n : Nat) (M : Mem) (hG : GL M) (b0 : Nat) (d0_1 : List UInt8) (A_1 : Option Addr) (cap_1 : Nat) (cs_1 : List Value) (hr_1 : RepSeq M (d0_1.map embB) cs_1) (d0_2 : Bool) (d0_3 : Int) (r : List UInt8 × Bool × Int) (hF : strings_Builder_copyCheck_5 n d0_1 d0_2 d0_3 = some r) : OkH Tryd.prog M [Ent.obj b0 (.cells #[.pointer (some (⟨b0, 0, none⟩)), .slice A_1 d0_1.length cap_1, .bool d0_2, .int .i64 d0_3] 50 (0, 0)), Ent.row 5 1 (.slice A_1 d0_1.length cap_1) d0_1.length cs_1] 62 [.pointer (some (⟨b0, 0, none⟩))] (fun M' E' v => ∃ (A_2 : Option Addr) (A_3 : Option Addr) (cap_2 : Nat) (cs_2 : List Value), v = .tuple #[] ∧ E' = [Ent.obj b0 (.cells #[.pointer A_2, .slice A_3 r.1.length cap_2, .bool r.2.1, .int .i64 r.2.2] 50 (0, 0)), Ent.row 5 1 (.slice A_3 r.1.length cap_2) r.1.length cs_2] ∧ (A_2 = none ∨ A_2 = some ⟨b0, 0, none⟩) ∧ RepSeq M' (r.1.map embB) cs_2) := by
 unfold strings_Builder_copyCheck_5 at hF
 intro M1 hM0 w0 H w p0
 replace hG := GL.mono hM0 hG
 replace hr_1 := RepSeq.mono hM0 _ _ hr_1
 refine R_enter 20 Tryd.func62 rfl rfl (by simp) fun a0 f0 => RR (Y f0 3 fun _ f => Z f (Y27 (v := .pointer (some (⟨b0, 0, none⟩))) rfl (ad := ⟨b0, 0, none⟩) (p0.ownCell 0 rfl 0)) fun _ f => Z (v := .bool false) f (X_ptrNil (q := some (⟨b0, 0, none⟩)) (e := 48) rfl (by kernel_rfl) (by kernel_rfl) (by kernel_rfl) _) fun _ f => eT (Y5 f (RR (Y f 3 fun _ f => Z f (Y27 (v := .pointer (some (⟨b0, 0, none⟩))) rfl (ad := ⟨b0, 0, none⟩) (p0.ownCell 0 rfl 0)) fun _ f => Y f 1 fun _ f => ?_))))
 refine Z (v := .bool false) f (X_ptrNeSame (a := ⟨b0, 0, none⟩) (e := 48) rfl (by kernel_rfl) (by kernel_rfl) (by kernel_rfl) (by kernel_rfl) _) fun _ f => eT (Y5 f (wp_skip (E_end0 f rfl  ?_)))
 obtain rfl := sI hF
 exact ⟨_, rfl, M1, _, (mR _), p0, ⟨(some ⟨b0, 0, none⟩), A_1, cap_1, cs_1, rfl, rfl, (.inr rfl), hr_1⟩⟩
def strings_Builder_copyCheck_6 (n : Nat) (d0_1 : List UInt8) (d0_2 : Bool) (d0_3 : Int) : Option (List UInt8 × Bool × Int) := strings_Builder_copyCheck_4 n d0_1 d0_2 d0_3
theorem strings_Builder_copyCheck_6_ok (n : Nat) (M : Mem) (hG : GL M) (b0 : Nat) (A_1 : Option Addr) (hb_1 : (A_1 = none ∨ A_1 = some ⟨b0, 0, none⟩)) (d0_1 : List UInt8) (A_2 : Option Addr) (cap_1 : Nat) (cs_1 : List Value) (hr_1 : RepSeq M (d0_1.map embB) cs_1) (d0_2 : Bool) (d0_3 : Int) (r : List UInt8 × Bool × Int) (hF : strings_Builder_copyCheck_6 n d0_1 d0_2 d0_3 = some r) : OkH Tryd.prog M [Ent.obj b0 (.cells #[.pointer A_1, .slice A_2 d0_1.length cap_1, .bool d0_2, .int .i64 d0_3] 50 (0, 0)), Ent.row 5 1 (.slice A_2 d0_1.length cap_1) d0_1.length cs_1] 62 [.pointer (some (⟨b0, 0, none⟩))] (fun M' E' v => ∃ (A_3 : Option Addr) (A_4 : Option Addr) (cap_2 : Nat) (cs_2 : List Value), v = .tuple #[] ∧ E' = [Ent.obj b0 (.cells #[.pointer A_3, .slice A_4 r.1.length cap_2, .bool r.2.1, .int .i64 r.2.2] 50 (0, 0)), Ent.row 5 1 (.slice A_4 r.1.length cap_2) r.1.length cs_2] ∧ (A_3 = none ∨ A_3 = some ⟨b0, 0, none⟩) ∧ RepSeq M' (r.1.map embB) cs_2) := by
 rcases hb_1 with rfl | rfl
 ·exact strings_Builder_copyCheck_4_ok n M hG b0 d0_1 A_2 cap_1 cs_1 hr_1 d0_2 d0_3 r hF
 ·exact strings_Builder_copyCheck_5_ok n M hG b0 d0_1 A_2 cap_1 cs_1 hr_1 d0_2 d0_3 r hF
def strings_Builder_WriteString_2 (n : Nat) (d0_1 : List UInt8) (d0_2 : Bool) (d0_3 : Int) (d1 : List UInt8) : Option (Int × Unit × List UInt8 × Bool × Int) :=
  (strings_Builder_copyCheck_6 n d0_1 (d0_2) d0_3).bind fun x_1 =>
  need ((x_1.1.length + d1.length) * 1 ≤ 140737488355328) <|
  some (((d1.length : Int), (), x_1.1 ++ d1, (x_1.2.1), x_1.2.2))
theorem strings_Builder_WriteString_2_ok (n : Nat) (M : Mem) (hG : GL M) (b0 : Nat) (A_1 : Option Addr) (hb_1 : (A_1 = none ∨ A_1 = some ⟨b0, 0, none⟩)) (d0_1 : List UInt8) (A_2 : Option Addr) (cap_1 : Nat) (cs_1 : List Value) (hr_1 : RepSeq M (d0_1.map embB) cs_1) (d0_2 : Bool) (d0_3 : Int) (d1 : List UInt8) (r : Int × Unit × List UInt8 × Bool × Int) (hF : strings_Builder_WriteString_2 n d0_1 d0_2 d0_3 d1 = some r) : OkH Tryd.prog M [Ent.obj b0 (.cells #[.pointer A_1, .slice A_2 d0_1.length cap_1, .bool d0_2, .int .i64 d0_3] 50 (0, 0)), Ent.row 5 1 (.slice A_2 d0_1.length cap_1) d0_1.length cs_1] 49 [.pointer (some (⟨b0, 0, none⟩)), S d1] (fun M' E' v => ∃ (A_6 : Option Addr) (A_7 : Option Addr) (cap_4 : Nat) (cs_4 : List Value), v = .tuple #[.int .i64 r.1, .nilIface] ∧ E' = [Ent.obj b0 (.cells #[.pointer A_6, .slice A_7 r.2.2.1.length cap_4, .bool r.2.2.2.1, .int .i64 r.2.2.2.2] 50 (0, 0)), Ent.row 5 1 (.slice A_7 r.2.2.1.length cap_4) r.2.2.1.length cs_4] ∧ (A_6 = none ∨ A_6 = some ⟨b0, 0, none⟩) ∧ RepSeq M' (r.2.2.1.map embB) cs_4) := by
 unfold strings_Builder_WriteString_2 at hF
 intro M1 hM0 w0 H w p0
 replace hG := GL.mono hM0 hG
 replace hr_1 := RepSeq.mono hM0 _ _ hr_1
 refine R_enter 19 Tryd.func49 rfl rfl (by simp) fun a0 f0 => RR (Y f0 2 fun _ f => eT (RR (Y f 1 fun _ f => ?_)))
 obtain ⟨x_1, hx_1, hF_1⟩ := bS hF
 refine Y14 (E := [Ent.obj b0 (.cells #[.pointer A_1, .slice A_2 d0_1.length cap_1, .bool d0_2, .int .i64 d0_3] 50 (0, 0)), Ent.row 5 1 (.slice A_2 d0_1.length cap_1) d0_1.length cs_1]) (H := (H)) f p0 (strings_Builder_copyCheck_6_ok n _ hG b0 A_1 hb_1 d0_1 A_2 cap_1 cs_1 hr_1 (d0_2) d0_3 x_1 hx_1) fun _ M_1 E_1 w_1 hM_1 p_1 q_1 _ f => ?_
 obtain ⟨A_3, A_4, cap_2, cs_2, rfl, rfl, hb_2, hr_2⟩ := q_1
 refine eT (RR (Y f 4 fun _ f => Z f (Y27 (v := .slice A_4 x_1.1.length cap_2) rfl (ad := ⟨b0, 1, none⟩) (p_1.ownCell 0 rfl 1)) fun _ f => Y f 1 fun _ f => ?_))
 have p_2 := p_1.pl [1]
 obtain ⟨g_1, hF_2⟩ := nS hF_1
 refine Y19 (z := .int .u8 0) (xs := x_1.1) (l := d1) f p_2 hr_2 rfl rfl rfl g_1 (by omega) fun A_5 cap_3 cs_3 w_2 p_3 hr_3 _ f => Y f 2 fun _ f => Y23 f p_3 1 rfl rfl (b := b0) (j := 1) (v := .slice A_5 (x_1.1 ++ d1).length cap_3) rfl (by exact rfl) (by simp) (by simp) ((Ent.row 5 1 (.slice A_5 (x_1.1 ++ d1).length cap_3) (x_1.1 ++ d1).length cs_3) :: (Ent.obj b0 (.cells #[.pointer A_3, .slice A_5 (x_1.1 ++ d1).length cap_3, .bool x_1.2.1, .int .i64 x_1.2.2] 50 (0, 0))) :: H) rfl fun w_3 p_4 _ f => eT (RR (Y f 4 fun _ f => eT (wp_ret (E_ret2 f rfl (by kernel_rfl : Vc.look _ 4 = some (.int .i64 (d1.length : Int))) (by kernel_rfl : Vc.look _ 5 = some (.nilIface)) ?_))))
 obtain rfl := sI hF_2
 have p_5 := p_4.pl [1]
 exact ⟨_, rfl, M_1, _, hM_1, p_5, ⟨A_3, A_5, cap_3, cs_3, rfl, rfl, hb_2, hr_3⟩⟩
def print_writer_null (n : Nat) (d0_1 : List UInt8) (d0_2 : Bool) (d0_3 : Int) (d1 : TA0) : Option (List UInt8 × Bool × Int) :=
  (strings_Builder_WriteString_2 n d0_1 (d0_2) d0_3 [110, 117, 108, 108]).bind fun x_1 =>
  some ((x_1.2.2.1, (x_1.2.2.2.1), x_1.2.2.2.2))
theorem print_writer_null_ok (n : Nat) (M : Mem) (hG : GL M) (b0 : Nat) (A_1 : Option Addr) (hb_1 : (A_1 = none ∨ A_1 = some ⟨b0, 0, none⟩)) (d0_1 : List UInt8) (A_2 : Option Addr) (cap_1 : Nat) (cs_1 : List Value) (hr_1 : RepSeq M (d0_1.map embB) cs_1) (d0_2 : Bool) (d0_3 : Int) (ad1 : Addr) (c1 : List Value) (d1 : TA0) (h1 : Rep M (emb_TA0 d1) c1) (q1 : ∀ j v, c1[j]? = some v → M.cell? (ad1.add j) = some v) (r : List UInt8 × Bool × Int) (hF : print_writer_null n d0_1 d0_2 d0_3 d1 = some r) : OkH Tryd.prog M [Ent.obj b0 (.cells #[.pointer A_1, .slice A_2 d0_1.length cap_1, .bool d0_2, .int .i64 d0_3] 50 (0, 0)), Ent.row 5 1 (.slice A_2 d0_1.length cap_1) d0_1.length cs_1] 33 [.pointer (some (⟨b0, 0, none⟩)), .pointer (some ad1)] (fun M' E' v => ∃ (A_7 : Option Addr) (A_8 : Option Addr) (cap_5 : Nat) (cs_3 : List Value), v = .tuple #[] ∧ E' = [Ent.obj b0 (.cells #[.pointer A_7, .slice A_8 r.1.length cap_5, .bool r.2.1, .int .i64 r.2.2] 50 (0, 0)), Ent.row 5 1 (.slice A_8 r.1.length cap_5) r.1.length cs_3] ∧ (A_7 = none ∨ A_7 = some ⟨b0, 0, none⟩) ∧ RepSeq M' (r.1.map embB) cs_3) := by
 unfold print_writer_null at hF
 intro M1 hM0 w0 H w p0
 replace hG := GL.mono hM0 hG
 replace hr_1 := RepSeq.mono hM0 _ _ hr_1
 replace h1 := Rep.mono hM0 _ _ h1
 replace q1 := fun j v h => hM0.cell (q1 j v h)
 obtain ⟨A_3, cap_2, A_4, cap_3, rfl, h_1, h_2⟩ := TA0.opn h1
 refine R_enter 8 Tryd.func33 rfl rfl (by simp) fun a0 f0 => R_reg (Y f0 3 fun _ f => ?_)
 obtain ⟨x_1, hx_1, hF_1⟩ := bS hF
 refine Y14 (E := [Ent.obj b0 (.cells #[.pointer A_1, .slice A_2 d0_1.length cap_1, .bool d0_2, .int .i64 d0_3] 50 (0, 0)), Ent.row 5 1 (.slice A_2 d0_1.length cap_1) d0_1.length cs_1]) (H := (H)) f p0 (strings_Builder_WriteString_2_ok n _ hG b0 A_1 hb_1 d0_1 A_2 cap_1 cs_1 hr_1 (d0_2) d0_3 [110, 117, 108, 108] x_1 hx_1) fun _ M_1 E_1 w_1 hM_1 p_1 q_1 _ f => ?_
 obtain ⟨A_5, A_6, cap_4, cs_2, rfl, rfl, hb_2, hr_2⟩ := q_1
 refine W_end rfl (E_end0 f rfl  ?_)
 obtain rfl := sI hF_1
 exact ⟨_, rfl, M_1, _, hM_1, p_1, ⟨A_5, A_6, cap_4, cs_2, rfl, rfl, hb_2, hr_2⟩⟩
def print_writer_bool (n : Nat) (d0_1 : List UInt8) (d0_2 : Bool) (d0_3 : Int) (d1 : TA0) : Option (List UInt8 × Bool × Int) :=
  bif d1.fBool then
    ((strings_Builder_WriteString_2 n d0_1 (d0_2) d0_3 [116, 114, 117, 101]).bind fun x_1 =>
    some ((x_1.2.2.1, (x_1.2.2.2.1), x_1.2.2.2.2)))
  else
    (strings_Builder_WriteString_2 n d0_1 (d0_2) d0_3 [102, 97, 108, 115, 101]).bind fun x_2 =>
    some ((x_2.2.2.1, (x_2.2.2.2.1), x_2.2.2.2.2))
theorem print_writer_bool_ok (n : Nat) (M : Mem) (hG : GL M) (b0 : Nat) (A_1 : Option Addr) (hb_1 : (A_1 = none ∨ A_1 = some ⟨b0, 0, none⟩)) (d0_1 : List UInt8) (A_2 : Option Addr) (cap_1 : Nat) (cs_1 : List Value) (hr_1 : RepSeq M (d0_1.map embB) cs_1) (d0_2 : Bool) (d0_3 : Int) (ad1 : Addr) (c1 : List Value) (d1 : TA0) (h1 : Rep M (emb_TA0 d1) c1) (q1 : ∀ j v, c1[j]? = some v → M.cell? (ad1.add j) = some v) (r : List UInt8 × Bool × Int) (hF : print_writer_bool n d0_1 d0_2 d0_3 d1 = some r) : OkH Tryd.prog M [Ent.obj b0 (.cells #[.pointer A_1, .slice A_2 d0_1.length cap_1, .bool d0_2, .int .i64 d0_3] 50 (0, 0)), Ent.row 5 1 (.slice A_2 d0_1.length cap_1) d0_1.length cs_1] 34 [.pointer (some (⟨b0, 0, none⟩)), .pointer (some ad1)] (fun M' E' v => ∃ (A_9 : Option Addr) (A_10 : Option Addr) (cap_6 : Nat) (cs_4 : List Value), v = .tuple #[] ∧ E' = [Ent.obj b0 (.cells #[.pointer A_9, .slice A_10 r.1.length cap_6, .bool r.2.1, .int .i64 r.2.2] 50 (0, 0)), Ent.row 5 1 (.slice A_10 r.1.length cap_6) r.1.length cs_4] ∧ (A_9 = none ∨ A_9 = some ⟨b0, 0, none⟩) ∧ RepSeq M' (r.1.map embB) cs_4) := by
 unfold print_writer_bool at hF
 intro M1 hM0 w0 H w p0
 replace hG := GL.mono hM0 hG
 replace hr_1 := RepSeq.mono hM0 _ _ hr_1
 replace h1 := Rep.mono hM0 _ _ h1
 replace q1 := fun j v h => hM0.cell (q1 j v h)
 obtain ⟨A_3, cap_2, A_4, cap_3, rfl, h_1, h_2⟩ := TA0.opn h1
 refine R_enter 16 Tryd.func34 rfl rfl (by simp) fun a0 f0 => RR (Y f0 3 fun _ f => Y12 f p0 q1 1 rfl fun _ f => eT (RcF f hF (fun h_3 hF_1 => ?_) fun h_3 hF_3 => ?_))
 ·refine R_reg (Y f 3 fun _ f => ?_)
  obtain ⟨x_1, hx_1, hF_2⟩ := bS hF_1
  refine Y14 (E := [Ent.obj b0 (.cells #[.pointer A_1, .slice A_2 d0_1.length cap_1, .bool d0_2, .int .i64 d0_3] 50 (0, 0)), Ent.row 5 1 (.slice A_2 d0_1.length cap_1) d0_1.length cs_1]) (H := (H)) f p0 (strings_Builder_WriteString_2_ok n _ hG b0 A_1 hb_1 d0_1 A_2 cap_1 cs_1 hr_1 (d0_2) d0_3 [116, 114, 117, 101] x_1 hx_1) fun _ M_1 E_1 w_1 hM_1 p_1 q_1 _ f => ?_
  obtain ⟨A_5, A_6, cap_4, cs_2, rfl, rfl, hb_2, hr_2⟩ := q_1
  refine W_end rfl (E_end0 f rfl  ?_)
  obtain rfl := sI hF_2
  exact ⟨_, rfl, M_1, _, hM_1, p_1, ⟨A_5, A_6, cap_4, cs_2, rfl, rfl, hb_2, hr_2⟩⟩
 ·refine R_reg (Y f 3 fun _ f => ?_)
  obtain ⟨x_2, hx_2, hF_4⟩ := bS hF_3
  refine Y14 (E := [Ent.obj b0 (.cells #[.pointer A_1, .slice A_2 d0_1.length cap_1, .bool d0_2, .int .i64 d0_3] 50 (0, 0)), Ent.row 5 1 (.slice A_2 d0_1.length cap_1) d0_1.length cs_1]) (H := (H)) f p0 (strings_Builder_WriteString_2_ok n _ hG b0 A_1 hb_1 d0_1 A_2 cap_1 cs_1 hr_1 (d0_2) d0_3 [102, 97, 108, 115, 101] x_2 hx_2) fun _ M_2 E_2 w_2 hM_2 p_2 q_2 _ f => ?_
  obtain ⟨A_7, A_8, cap_5, cs_3, rfl, rfl, hb_3, hr_3⟩ := q_2
  refine W_end rfl (E_end0 f rfl  ?_)
  obtain rfl := sI hF_4
  exact ⟨_, rfl, M_2, _, hM_2, p_2, ⟨A_7, A_8, cap_5, cs_3, rfl, rfl, hb_3, hr_3⟩⟩
def print_writer_number (n : Nat) (d0_1 : List UInt8) (d0_2 : Bool) (d0_3 : Int) (d1 : TA0) : Option (List UInt8 × Bool × Int) :=
  (h_numText n d1.fNum).bind fun x_1 =>
  (strings_Builder_WriteString_2 n d0_1 (d0_2) d0_3 x_1.1).bind fun x_2 =>
  some ((x_2.2.2.1, (x_2.2.2.2.1), x_2.2.2.2.2))
theorem print_writer_number_ok (n : Nat) (M : Mem) (hG : GL M) (b0 : Nat) (A_1 : Option Addr) (hb_1 : (A_1 = none ∨ A_1 = some ⟨b0, 0, none⟩)) (d0_1 : List UInt8) (A_2 : Option Addr) (cap_1 : Nat) (cs_1 : List Value) (hr_1 : RepSeq M (d0_1.map embB) cs_1) (d0_2 : Bool) (d0_3 : Int) (ad1 : Addr) (c1 : List Value) (d1 : TA0) (h1 : Rep M (emb_TA0 d1) c1) (q1 : ∀ j v, c1[j]? = some v → M.cell? (ad1.add j) = some v) (r : List UInt8 × Bool × Int) (hF : print_writer_number n d0_1 d0_2 d0_3 d1 = some r) : OkH Tryd.prog M [Ent.obj b0 (.cells #[.pointer A_1, .slice A_2 d0_1.length cap_1, .bool d0_2, .int .i64 d0_3] 50 (0, 0)), Ent.row 5 1 (.slice A_2 d0_1.length cap_1) d0_1.length cs_1] 35 [.pointer (some (⟨b0, 0, none⟩)), .pointer (some ad1)] (fun M' E' v => ∃ (A_7 : Option Addr) (A_8 : Option Addr) (cap_5 : Nat) (cs_3 : List Value), v = .tuple #[] ∧ E' = [Ent.obj b0 (.cells #[.pointer A_7, .slice A_8 r.1.length cap_5, .bool r.2.1, .int .i64 r.2.2] 50 (0, 0)), Ent.row 5 1 (.slice A_8 r.1.length cap_5) r.1.length cs_3] ∧ (A_7 = none ∨ A_7 = some ⟨b0, 0, none⟩) ∧ RepSeq M' (r.1.map embB) cs_3) := by
 unfold print_writer_number at hF
 intro M1 hM0 w0 H w p0
 replace hG := GL.mono hM0 hG
 replace hr_1 := RepSeq.mono hM0 _ _ hr_1
 replace h1 := Rep.mono hM0 _ _ h1
 replace q1 := fun j v h => hM0.cell (q1 j v h)
 obtain ⟨A_3, cap_2, A_4, cap_3, rfl, h_1, h_2⟩ := TA0.opn h1
 refine R_enter 19 Tryd.func35 rfl rfl (by simp) fun a0 f0 => RR (Y f0 3 fun _ f => Y12 f p0 q1 2 rfl fun _ f => ?_)
 obtain ⟨x_1, hx_1, hF_1⟩ := bS hF
 refine Y15 f p0 (h_numText_ok n _ d1.fNum x_1 hx_1) fun w_1 p_1 _ f => Y f 5 fun _ f => eT (R_reg (Y f 4 fun _ f => ?_))
 obtain ⟨x_2, hx_2, hF_2⟩ := bS hF_1
 refine Y14 (E := [Ent.obj b0 (.cells #[.pointer A_1, .slice A_2 d0_1.length cap_1, .bool d0_2, .int .i64 d0_3] 50 (0, 0)), Ent.row 5 1 (.slice A_2 d0_1.length cap_1) d0_1.length cs_1]) (H := (H)) f p_1 (strings_Builder_WriteString_2_ok n _ hG b0 A_1 hb_1 d0_1 A_2 cap_1 cs_1 hr_1 (d0_2) d0_3 x_1.1 x_2 hx_2) fun _ M_1 E_1 w_2 hM_1 p_2 q_1 _ f => ?_
 obtain ⟨A_5, A_6, cap_4, cs_2, rfl, rfl, hb_2, hr_2⟩ := q_1
 refine W_end rfl (E_end0 f rfl  ?_)
 obtain rfl := sI hF_2
 exact ⟨_, rfl, M_1, _, hM_1, p_2, ⟨A_5, A_6, cap_4, cs_2, rfl, rfl, hb_2, hr_2⟩⟩
def print_writer_quote (n : Nat) (d0_1 : List UInt8) (d0_2 : Bool) (d0_3 : Int) (d1 : List UInt8) : Option (List UInt8 × Bool × Int) :=
  (runes_Quote n d1).bind fun x_1 =>
  (strings_Builder_WriteString_2 n d0_1 (d0_2) d0_3 x_1.1).bind fun x_2 =>
  some ((x_2.2.2.1, (x_2.2.2.2.1), x_2.2.2.2.2))
theorem print_writer_quote_ok (n : Nat) (M : Mem) (hG : GL M) (b0 : Nat) (A_1 : Option Addr) (hb_1 : (A_1 = none ∨ A_1 = some ⟨b0, 0, none⟩)) (d0_1 : List UInt8) (A_2 : Option Addr) (cap_1 : Nat) (cs_1 : List Value) (hr_1 : RepSeq M (d0_1.map embB) cs_1) (d0_2 : Bool) (d0_3 : Int) (d1 : List UInt8) (r : List UInt8 × Bool × Int) (hF : print_writer_quote n d0_1 d0_2 d0_3 d1 = some r) : OkH Tryd.prog M [Ent.obj b0 (.cells #[.pointer A_1, .slice A_2 d0_1.length cap_1, .bool d0_2, .int .i64 d0_3] 50 (0, 0)), Ent.row 5 1 (.slice A_2 d0_1.length cap_1) d0_1.length cs_1] 51 [.pointer (some (⟨b0, 0, none⟩)), S d1] (fun M' E' v => ∃ (A_5 : Option Addr) (A_6 : Option Addr) (cap_3 : Nat) (cs_3 : List Value), v = .tuple #[] ∧ E' = [Ent.obj b0 (.cells #[.pointer A_5, .slice A_6 r.1.length cap_3, .bool r.2.1, .int .i64 r.2.2] 50 (0, 0)), Ent.row 5 1 (.slice A_6 r.1.length cap_3) r.1.length cs_3] ∧ (A_5 = none ∨ A_5 = some ⟨b0, 0, none⟩) ∧ RepSeq M' (r.1.map embB) cs_3) := by
 unfold print_writer_quote at hF
 intro M1 hM0 w0 H w p0
 replace hG := GL.mono hM0 hG
 replace hr_1 := RepSeq.mono hM0 _ _ hr_1
 refine R_enter 16 Tryd.func51 rfl rfl (by simp) fun a0 f0 => RR (Y f0 1 fun _ f => ?_)
 obtain ⟨x_1, hx_1, hF_1⟩ := bS hF
 refine Y15 f p0 (runes_Quote_ok n _ hG d1 x_1 hx_1) fun w_1 p_1 _ f => Y f 5 fun _ f => eT (R_reg (Y f 4 fun _ f => ?_))
 obtain ⟨x_2, hx_2, hF_2⟩ := bS hF_1
 refine Y14 (E := [Ent.obj b0 (.cells #[.pointer A_1, .slice A_2 d0_1.length cap_1, .bool d0_2, .int .i64 d0_3] 50 (0, 0)), Ent.row 5 1 (.slice A_2 d0_1.length cap_1) d0_1.length cs_1]) (H := (H)) f p_1 (strings_Builder_WriteString_2_ok n _ hG b0 A_1 hb_1 d0_1 A_2 cap_1 cs_1 hr_1 (d0_2) d0_3 x_1.1 x_2 hx_2) fun _ M_1 E_1 w_2 hM_1 p_2 q_1 _ f => ?_
 obtain ⟨A_3, A_4, cap_2, cs_2, rfl, rfl, hb_2, hr_2⟩ := q_1
 refine W_end rfl (E_end0 f rfl  ?_)
 obtain rfl := sI hF_2
 exact ⟨_, rfl, M_1, _, hM_1, p_2, ⟨A_3, A_4, cap_2, cs_2, rfl, rfl, hb_2, hr_2⟩⟩
def print_writer_text (n : Nat) (d0_1 : List UInt8) (d0_2 : Bool) (d0_3 : Int) (d1 : TA0) : Option (List UInt8 × Bool × Int) :=
  (print_writer_quote n d0_1 (d0_2) d0_3 d1.fText).bind fun x_1 =>
  some ((x_1.1, (x_1.2.1), x_1.2.2))
theorem print_writer_text_ok (n : Nat) (M : Mem) (hG : GL M) (b0 : Nat) (A_1 : Option Addr) (hb_1 : (A_1 = none ∨ A_1 = some ⟨b0, 0, none⟩)) (d0_1 : List UInt8) (A_2 : Option Addr) (cap_1 : Nat) (cs_1 : List Value) (hr_1 : RepSeq M (d0_1.map embB) cs_1) (d0_2 : Bool) (d0_3 : Int) (ad1 : Addr) (c1 : List Value) (d1 : TA0) (h1 : Rep M (emb_TA0 d1) c1) (q1 : ∀ j v, c1[j]? = some v → M.cell? (ad1.add j) = some v) (r : List UInt8 × Bool × Int) (hF : print_writer_text n d0_1 d0_2 d0_3 d1 = some r) : OkH Tryd.prog M [Ent.obj b0 (.cells #[.pointer A_1, .slice A_2 d0_1.length cap_1, .bool d0_2, .int .i64 d0_3] 50 (0, 0)), Ent.row 5 1 (.slice A_2 d0_1.length cap_1) d0_1.length cs_1] 36 [.pointer (some (⟨b0, 0, none⟩)), .pointer (some ad1)] (fun M' E' v => ∃ (A_7 : Option Addr) (A_8 : Option Addr) (cap_5 : Nat) (cs_3 : List Value), v = .tuple #[] ∧ E' = [Ent.obj b0 (.cells #[.pointer A_7, .slice A_8 r.1.length cap_5, .bool r.2.1, .int .i64 r.2.2] 50 (0, 0)), Ent.row 5 1 (.slice A_8 r.1.length cap_5) r.1.length cs_3] ∧ (A_7 = none ∨ A_7 = some ⟨b0, 0, none⟩) ∧ RepSeq M' (r.1.map embB) cs_3) := by
 unfold print_writer_text at hF
 intro M1 hM0 w0 H w p0
 replace hG := GL.mono hM0 hG
 replace hr_1 := RepSeq.mono hM0 _ _ hr_1
 replace h1 := Rep.mono hM0 _ _ h1
 replace q1 := fun j v h => hM0.cell (q1 j v h)
 obtain ⟨A_3, cap_2, A_4, cap_3, rfl, h_1, h_2⟩ := TA0.opn h1
 refine R_enter 10 Tryd.func36 rfl rfl (by simp) fun a0 f0 => R_reg (Y f0 4 fun _ f => Y12 f p0 q1 3 rfl fun _ f => ?_)
 obtain ⟨x_1, hx_1, hF_1⟩ := bS hF
 refine Y14 (E := [Ent.obj b0 (.cells #[.pointer A_1, .slice A_2 d0_1.length cap_1, .bool d0_2, .int .i64 d0_3] 50 (0, 0)), Ent.row 5 1 (.slice A_2 d0_1.length cap_1) d0_1.length cs_1]) (H := (H)) f p0 (print_writer_quote_ok n _ hG b0 A_1 hb_1 d0_1 A_2 cap_1 cs_1 hr_1 (d0_2) d0_3 d1.fText x_1 hx_1) fun _ M_1 E_1 w_1 hM_1 p_1 q_1 _ f => ?_
 obtain ⟨A_5, A_6, cap_4, cs_2, rfl, rfl, hb_2, hr_2⟩ := q_1
 refine W_end rfl (E_end0 f rfl  ?_)
 obtain rfl := sI hF_1
 exact ⟨_, rfl, M_1, _, hM_1, p_1, ⟨A_5, A_6, cap_4, cs_2, rfl, rfl, hb_2, hr_2⟩⟩
def strings_Builder_WriteByte_2 (n : Nat) (d0_1 : List UInt8) (d0_2 : Bool) (d0_3 : Int) (d1 : Int) : Option (Unit × List UInt8 × Bool × Int) :=
  (strings_Builder_copyCheck_6 n d0_1 (d0_2) d0_3).bind fun x_1 =>
  need (0 ≤ d1 ∧ d1 < 256) <|
  need ((x_1.1.length + 1) * 1 ≤ 140737488355328) <|
  some (((), x_1.1 ++ [UInt8.ofNat (d1).toNat], (x_1.2.1), x_1.2.2))
theorem strings_Builder_WriteByte_2_ok (n : Nat) (M : Mem) (hG : GL M) (b0 : Nat) (A_1 : Option Addr) (hb_1 : (A_1 = none ∨ A_1 = some ⟨b0, 0, none⟩)) (d0_1 : List UInt8) (A_2 : Option Addr) (cap_1 : Nat) (cs_1 : List Value) (hr_1 : RepSeq M (d0_1.map embB) cs_1) (d0_2 : Bool) (d0_3 : Int) (d1 : Int) (r : Unit × List UInt8 × Bool × Int) (hF : strings_Builder_WriteByte_2 n d0_1 d0_2 d0_3 d1 = some r) : OkH Tryd.prog M [Ent.obj b0 (.cells #[.pointer A_1, .slice A_2 d0_1.length cap_1, .bool d0_2, .int .i64 d0_3] 50 (0, 0)), Ent.row 5 1 (.slice A_2 d0_1.length cap_1) d0_1.length cs_1] 55 [.pointer (some (⟨b0, 0, none⟩)), .int .u8 d1] (fun M' E' v => ∃ (A_6 : Option Addr) (A_7 : Option Addr) (cap_4 : Nat) (cs_4 : List Value), v = .nilIface ∧ E' = [Ent.obj b0 (.cells #[.pointer A_6, .slice A_7 r.2.1.length cap_4, .bool r.2.2.1, .int .i64 r.2.2.2] 50 (0, 0)), Ent.row 5 1 (.slice A_7 r.2.1.length cap_4) r.2.1.length cs_4] ∧ (A_6 = none ∨ A_6 = some ⟨b0, 0, none⟩) ∧ RepSeq M' (r.2.1.map embB) cs_4) := by
 unfold strings_Builder_WriteByte_2 at hF
 intro M1 hM0 w0 H w p0
 replace hG := GL.mono hM0 hG
 replace hr_1 := RepSeq.mono hM0 _ _ hr_1
 refine R_enter 17 Tryd.func55 rfl rfl (by simp) fun a0 f0 => RR (Y f0 1 fun _ f => eT (RR (Y f 1 fun _ f => ?_)))
 obtain ⟨x_1, hx_1, hF_1⟩ := bS hF
 refine Y14 (E := [Ent.obj b0 (.cells #[.pointer A_1, .slice A_2 d0_1.length cap_1, .bool d0_2, .int .i64 d0_3] 50 (0, 0)), Ent.row 5 1 (.slice A_2 d0_1.length cap_1) d0_1.length cs_1]) (H := (H)) f p0 (strings_Builder_copyCheck_6_ok n _ hG b0 A_1 hb_1 d0_1 A_2 cap_1 cs_1 hr_1 (d0_2) d0_3 x_1 hx_1) fun _ M_1 E_1 w_1 hM_1 p_1 q_1 _ f => ?_
 obtain ⟨A_3, A_4, cap_2, cs_2, rfl, rfl, hb_2, hr_2⟩ := q_1
 refine eT (RR (Y f 4 fun _ f => Z f (Y27 (v := .slice A_4 x_1.1.length cap_2) rfl (ad := ⟨b0, 1, none⟩) (p_1.ownCell 0 rfl 1)) fun _ f => Y f 1 fun _ f => V_allocS (k := 1) (c := 1) f p_1 (.cells #[.int .u8 d1] 5 (0, 0)) (by kernel_rfl) (fun _ => by kernel_rfl) fun b_1 w_2 p_2 _ f => ?_))
 obtain ⟨g_1, hF_2⟩ := nS hF_1
 have p_3 := p_2.pl [2]
 obtain ⟨g_2, hF_3⟩ := nS hF_2
 refine Y17 (z := .int .u8 0) (f := embB) (xs := x_1.1) (ys := [UInt8.ofNat (d1).toNat]) (news := [.int .u8 d1]) (ad := ⟨b_1, 0, none⟩) (m := 1) (c := 1) f p_3 hr_2 (by exact ⟨_, _, rfl, (embB_of (by omega)), rfl⟩) rfl rfl rfl rfl (own_cells (p_3.ownCell 1 rfl) 0 rfl) (by exact g_2) (by have hg_ := g_2; first | omega | (simp only [List.length_cons, List.length_nil] at *; omega)) fun A_5 cap_3 cs_3 w_3 p_4 hr_3 _ f => ?_
 have p_5 := p_4.pl [1]
 have p_6 := p_5.drop
 refine Y f 2 fun _ f => Y23 f p_6 1 rfl rfl (b := b0) (j := 1) (v := .slice A_5 (x_1.1 ++ [UInt8.ofNat (d1).toNat]).length cap_3) rfl (by exact rfl) (by simp) (by simp) ((Ent.row 5 1 (.slice A_5 (x_1.1 ++ [UInt8.ofNat (d1).toNat]).length cap_3) (x_1.1 ++ [UInt8.ofNat (d1).toNat]).length cs_3) :: (Ent.obj b0 (.cells #[.pointer A_3, .slice A_5 (x_1.1 ++ [UInt8.ofNat (d1).toNat]).length cap_3, .bool x_1.2.1, .int .i64 x_1.2.2] 50 (0, 0))) :: H) rfl fun w_4 p_7 _ f => eT (RR (Y f 1 fun _ f => eT (wp_ret (E_ret1 f rfl (by kernel_rfl : Vc.look _ 4 = some (.nilIface)) ?_))))
 obtain rfl := sI hF_3
 have p_8 := p_7.pl [1]
 exact ⟨_, rfl, M_1, _, hM_1, p_8, ⟨A_3, A_5, cap_3, cs_3, rfl, rfl, hb_2, hr_3⟩⟩
def print_writer_line (n : Nat) (d0_1 : List UInt8) (d0_2 : Bool) (d0_3 : Int) : Option (List UInt8 × Bool × Int) :=
  bif d0_2 then
    ((strings_Builder_WriteByte_2 n d0_1 (d0_2) d0_3 (10 : Int)).bind fun x_1 =>
    (h_Repeat n [32, 32] x_1.2.2.2).bind fun x_2 =>
    (strings_Builder_WriteString_2 n x_1.2.1 (x_1.2.2.1) x_1.2.2.2 x_2).bind fun x_3 =>
    some ((x_3.2.2.1, (x_3.2.2.2.1), x_3.2.2.2.2)))
  else
    some ((d0_1, (d0_2), d0_3))
theorem print_writer_line_ok (n : Nat) (M : Mem) (hG : GL M) (b0 : Nat) (A_1 : Option Addr) (hb_1 : (A_1 = none ∨ A_1 = some ⟨b0, 0, none⟩)) (d0_1 : List UInt8) (A_2 : Option Addr) (cap_1 : Nat) (cs_1 : List Value) (hr_1 : RepSeq M (d0_1.map embB) cs_1) (d0_2 : Bool) (d0_3 : Int) (r : List UInt8 × Bool × Int) (hF : print_writer_line n d0_1 d0_2 d0_3 = some r) : OkH Tryd.prog M [Ent.obj b0 (.cells #[.pointer A_1, .slice A_2 d0_1.length cap_1, .bool d0_2, .int .i64 d0_3] 50 (0, 0)), Ent.row 5 1 (.slice A_2 d0_1.length cap_1) d0_1.length cs_1] 66 [.pointer (some (⟨b0, 0, none⟩))] (fun M' E' v => ∃ (A_7 : Option Addr) (A_8 : Option Addr) (cap_4 : Nat) (cs_4 : List Value), v = .tuple #[] ∧ E' = [Ent.obj b0 (.cells #[.pointer A_7, .slice A_8 r.1.length cap_4, .bool r.2.1, .int .i64 r.2.2] 50 (0, 0)), Ent.row 5 1 (.slice A_8 r.1.length cap_4) r.1.length cs_4] ∧ (A_7 = none ∨ A_7 = some ⟨b0, 0, none⟩) ∧ RepSeq M' (r.1.map embB) cs_4) := by
 unfold print_writer_line at hF
 intro M1 hM0 w0 H w p0
 replace hG := GL.mono hM0 hG
 replace hr_1 := RepSeq.mono hM0 _ _ hr_1
 refine R_enter 19 Tryd.func66 rfl rfl (by simp) fun a0 f0 => RR (Y f0 3 fun _ f => Z f (Y27 (v := .bool d0_2) rfl (ad := ⟨b0, 2, none⟩) (p0.ownCell 0 rfl 2)) fun _ f => eT (RcF f hF (fun h_1 hF_1 => ?_) fun h_1 hF_5 => ?_))
 ·refine RR (Y f 3 fun _ f => ?_)
  obtain ⟨x_1, hx_1, hF_2⟩ := bS hF_1
  refine Y14 (E := [Ent.obj b0 (.cells #[.pointer A_1, .slice A_2 d0_1.length cap_1, .bool d0_2, .int .i64 d0_3] 50 (0, 0)), Ent.row 5 1 (.slice A_2 d0_1.length cap_1) d0_1.length cs_1]) (H := (H)) f p0 (strings_Builder_WriteByte_2_ok n _ hG b0 A_1 hb_1 d0_1 A_2 cap_1 cs_1 hr_1 (d0_2) d0_3 (10 : Int) x_1 hx_1) fun _ M_1 E_1 w_1 hM_1 p_1 q_1 _ f => ?_
  obtain ⟨A_3, A_4, cap_2, cs_2, rfl, rfl, hb_2, hr_2⟩ := q_1
  refine eT (R_mix (E := [Ent.obj b0 (.cells #[.pointer A_3, .slice A_4 x_1.2.1.length cap_2, .bool x_1.2.2.1, .int .i64 x_1.2.2.2] 50 (0, 0)), Ent.row 5 1 (.slice A_4 x_1.2.1.length cap_2) x_1.2.1.length cs_2]) (Hr := (H)) [(0, true), (1, true), (2, true), (3, true), (4, true), (5, true), (6, false), (7, false), (8, false)] p_1 (by kernel_rfl) (by kernel_rfl) rfl (by kernel_rfl) (Y0 default f 6 fun _ f => M_fix (E := [Ent.obj b0 (.cells #[.pointer A_3, .slice A_4 x_1.2.1.length cap_2, .bool x_1.2.2.1, .int .i64 x_1.2.2.2] 50 (0, 0)), Ent.row 5 1 (.slice A_4 x_1.2.1.length cap_2) x_1.2.1.length cs_2]) fun w_2 p_2 => Z f (Y27 (v := .int .i64 x_1.2.2.2) rfl (ad := ⟨b0, 3, none⟩) (p_2.ownCell 0 rfl 3)) fun _ f => W_end rfl (M_go (M1 := M_1) (E := [Ent.obj b0 (.cells #[.pointer A_3, .slice A_4 x_1.2.1.length cap_2, .bool x_1.2.2.1, .int .i64 x_1.2.2.2] 50 (0, 0)), Ent.row 5 1 (.slice A_4 x_1.2.1.length cap_2) x_1.2.1.length cs_2]) (mR _) p_2 (M_fix (E := [Ent.obj b0 (.cells #[.pointer A_3, .slice A_4 x_1.2.1.length cap_2, .bool x_1.2.2.1, .int .i64 x_1.2.2.2] 50 (0, 0)), Ent.row 5 1 (.slice A_4 x_1.2.1.length cap_2) x_1.2.1.length cs_2]) fun w_3 p_3 => ?_))))
  obtain ⟨x_2, hx_2, hF_3⟩ := bS hF_2
  refine Y15 f p_3 (h_Repeat_ok n _ [32, 32] x_1.2.2.2 x_2 hx_2) fun w_4 p_4 _ f => W_end rfl (M_go (M1 := M_1) (E := [Ent.obj b0 (.cells #[.pointer A_3, .slice A_4 x_1.2.1.length cap_2, .bool x_1.2.2.1, .int .i64 x_1.2.2.2] 50 (0, 0)), Ent.row 5 1 (.slice A_4 x_1.2.1.length cap_2) x_1.2.1.length cs_2]) (mR _) p_4 (M_fix (E := [Ent.obj b0 (.cells #[.pointer A_3, .slice A_4 x_1.2.1.length cap_2, .bool x_1.2.2.1, .int .i64 x_1.2.2.2] 50 (0, 0)), Ent.row 5 1 (.slice A_4 x_1.2.1.length cap_2) x_1.2.1.length cs_2]) fun w_5 p_5 => ?_))
  obtain ⟨x_3, hx_3, hF_4⟩ := bS hF_3
  refine Y14 (E := [Ent.obj b0 (.cells #[.pointer A_3, .slice A_4 x_1.2.1.length cap_2, .bool x_1.2.2.1, .int .i64 x_1.2.2.2] 50 (0, 0)), Ent.row 5 1 (.slice A_4 x_1.2.1.length cap_2) x_1.2.1.length cs_2]) (H := (H)) f p_5 (strings_Builder_WriteString_2_ok n _ (GL.mono hM_1 hG) b0 A_3 hb_2 x_1.2.1 A_4 cap_2 cs_2 hr_2 (x_1.2.2.1) x_1.2.2.2 x_2 x_3 hx_3) fun _ M_2 E_2 w_6 hM_2 p_6 q_2 _ f => ?_
  obtain ⟨A_5, A_6, cap_3, cs_3, rfl, rfl, hb_3, hr_3⟩ := q_2
  refine W_end rfl (M_go (M1 := M_2) (E := [Ent.obj b0 (.cells #[.pointer A_5, .slice A_6 x_3.2.2.1.length cap_3, .bool x_3.2.2.2.1, .int .i64 x_3.2.2.2.2] 50 (0, 0)), Ent.row 5 1 (.slice A_6 x_3.2.2.1.length cap_3) x_3.2.2.1.length cs_3]) hM_2 p_6 (M_end rfl fun w_7 p_7 => E_end0 f rfl  ?_))
  obtain rfl := sI hF_4
  exact ⟨_, rfl, M_2, _, (hM_1.trans hM_2), p_7, ⟨A_5, A_6, cap_3, cs_3, rfl, rfl, hb_3, hr_3⟩⟩
 ·refine wp_skip (E_end0 f rfl  ?_)
  obtain rfl := sI hF_5
  exact ⟨_, rfl, M1, _, (mR _), p0, ⟨A_1, A_2, cap_1, cs_1, rfl, rfl, hb_1, hr_1⟩⟩
def print_writer_list_1 (n : Nat) (d0 : Int) : Option Unit :=
  some (())
theorem print_writer_list_1_ok (n : Nat) (M : Mem) (hG : GL M) (d0 : Int) (r : Unit) (hF : print_writer_list_1 n d0 = some r) : Ok Tryd.prog M 53 [.int .i64 d0] (fun _ v => v = .tuple #[]) := by
 unfold print_writer_list_1 at hF
 intro M1 hM0 w0 H w p0
 replace hG := GL.mono hM0 hG
 refine R_enter 2 Tryd.func53 rfl rfl (by simp) fun a0 f0 => wp_skip (E_end0 f0 rfl  ?_)
 obtain rfl := sI hF
 exact ⟨_, rfl, M1, (mR _), p0, rfl⟩
def print_writer_parts_2_s1 (n : Nat) (rec_print_writer_value : (List UInt8) → Bool → Int → TA0 → Option (List UInt8 × Bool × Int)) (d1 : TA0) (s_1 : Int × List UInt8 × Bool × Int) : Option (Lp (Int × List UInt8 × Bool × Int) (List UInt8 × Bool × Int)) :=
    bif (decide (s_1.1 < ((d1.fList.length : Nat) : Int))) then
      (((bif (decide ((0 : Int) < s_1.1)) then
          ((strings_Builder_WriteByte_2 n s_1.2.1 (s_1.2.2.1) s_1.2.2.2 (44 : Int)).bind fun x_2 =>
          some ((x_2.2.1, (x_2.2.2.1), x_2.2.2.2)))
        else
          some ((s_1.2.1, (s_1.2.2.1), s_1.2.2.2)) : Option (List UInt8 × Bool × Int))).bind fun y_1 =>
      (print_writer_line n y_1.1 (y_1.2.1) y_1.2.2).bind fun x_3 =>
      (print_writer_list_1 n s_1.1).bind fun x_4 =>
      (getI d1.fList s_1.1).bind fun x_5 =>
      (rec_print_writer_value x_3.1 (x_3.2.1) x_3.2.2 x_5).bind fun x_6 =>
      need (inR .i64 (s_1.1 + 1)) <|
      some (.nx (s_1.1 + 1, x_6.1, (x_6.2.1), x_6.2.2)))
    else
      some (.br (s_1.2.1, (s_1.2.2.1), s_1.2.2.2))
def print_writer_parts_2 (n : Nat) (rec_print_writer_value : (List UInt8) → Bool → Int → TA0 → Option (List UInt8 × Bool × Int)) (d0_1 : List UInt8) (d0_2 : Bool) (d0_3 : Int) (d1 : TA0) (d2 : Int) (d3 : Int) : Option (List UInt8 × Bool × Int) :=
  (strings_Builder_WriteByte_2 n d0_1 (d0_2) d0_3 d2).bind fun x_1 =>
  need (inR .i64 (x_1.2.2.2 + 1)) <|
  (loopF (print_writer_parts_2_s1 n rec_print_writer_value d1) n ((0 : Int), x_1.2.1, (x_1.2.2.1), x_1.2.2.2 + 1)).bind fun y_2 =>
  need (inR .i64 (y_2.2.2 - 1)) <|
  ((bif (decide ((0 : Int) < ((d1.fList.length : Nat) : Int))) then
      ((print_writer_line n y_2.1 (y_2.2.1) (y_2.2.2 - 1)).bind fun x_7 =>
      some ((x_7.1, (x_7.2.1), x_7.2.2)))
    else
      some ((y_2.1, (y_2.2.1), y_2.2.2 - 1)) : Option (List UInt8 × Bool × Int))).bind fun y_3 =>
  (strings_Builder_WriteByte_2 n y_3.1 (y_3.2.1) y_3.2.2 d3).bind fun x_8 =>
  some ((x_8.2.1, (x_8.2.2.1), x_8.2.2.2))
set_option maxRecDepth 20000 in
theorem print_writer_parts_2_ok (n : Nat) (rec_print_writer_value : (List UInt8) → Bool → Int → TA0 → Option (List UInt8 × Bool × Int)) (hrec_print_writer_value : ∀ (M : Mem) (hG : GL M) (b0 : Nat) (A_1 : Option Addr) (hb_1 : (A_1 = none ∨ A_1 = some ⟨b0, 0, none⟩)) (d0_1 : List UInt8) (A_2 : Option Addr) (cap_1 : Nat) (cs_1 : List Value) (hr_1 : RepSeq M (d0_1.map embB) cs_1) (d0_2 : Bool) (d0_3 : Int) (ad1 : Addr) (c1 : List Value) (d1 : TA0) (h1 : Rep M (emb_TA0 d1) c1) (q1 : ∀ j v, c1[j]? = some v → M.cell? (ad1.add j) = some v) (r : List UInt8 × Bool × Int) (hF : rec_print_writer_value d0_1 d0_2 d0_3 d1 = some r), OkH Tryd.prog M [Ent.obj b0 (.cells #[.pointer A_1, .slice A_2 d0_1.length cap_1, .bool d0_2, .int .i64 d0_3] 50 (0, 0)), Ent.row 5 1 (.slice A_2 d0_1.length cap_1) d0_1.length cs_1] 23 [.pointer (some (⟨b0, 0, none⟩)), .pointer (some ad1)] (fun M' E' v => ∃ (A_3 : Option Addr) (A_4 : Option Addr) (cap_2 : Nat) (cs_2 : List Value), v = .tuple #[] ∧ E' = [Ent.obj b0 (.cells #[.pointer A_3, .slice A_4 r.1.length cap_2, .bool r.2.1, .int .i64 r.2.2] 50 (0, 0)), Ent.row 5 1 (.slice A_4 r.1.length cap_2) r.1.length cs_2] ∧ (A_3 = none ∨ A_3 = some ⟨b0, 0, none⟩) ∧ RepSeq M' (r.1.map embB) cs_2)) (M : Mem) (hG : GL M) (b0 : Nat) (A_1 : Option Addr) (hb_1 : (A_1 = none ∨ A_1 = some ⟨b0, 0, none⟩)) (d0_1 : List UInt8) (A_2 : Option Addr) (cap_1 : Nat) (cs_1 : List Value) (hr_1 : RepSeq M (d0_1.map embB) cs_1) (d0_2 : Bool) (d0_3 : Int) (ad1 : Addr) (c1 : List Value) (d1 : TA0) (h1 : Rep M (emb_TA0 d1) c1) (q1 : ∀ j v, c1[j]? = some v → M.cell? (ad1.add j) = some v) (d2 : Int) (d3 : Int) (r : List UInt8 × Bool × Int) (hF : print_writer_parts_2 n rec_print_writer_value d0_1 d0_2 d0_3 d1 d2 d3 = some r) : OkH Tryd.prog M [Ent.obj b0 (.cells #[.pointer A_1, .slice A_2 d0_1.length cap_1, .bool d0_2, .int .i64 d0_3] 50 (0, 0)), Ent.row 5 1 (.slice A_2 d0_1.length cap_1) d0_1.length cs_1] 52 [.pointer (some (⟨b0, 0, none⟩)), .pointer (some ad1), .int .u8 d2, .int .u8 d3, .func (.func 53) #[] #[]] (fun M' E' v => ∃ (A_27 : Option Addr) (A_28 : Option Addr) (cap_16 : Nat) (cs_12 : List Value), v = .tuple #[] ∧ E' = [Ent.obj b0 (.cells #[.pointer A_27, .slice A_28 r.1.length cap_16, .bool r.2.1, .int .i64 r.2.2] 50 (0, 0)), Ent.row 5 1 (.slice A_28 r.1.length cap_16) r.1.length cs_12] ∧ (A_27 = none ∨ A_27 = some ⟨b0, 0, none⟩) ∧ RepSeq M' (r.1.map embB) cs_12) := by
 unfold print_writer_parts_2 at hF
 intro M1 hM0 w0 H w p0
 replace hG := GL.mono hM0 hG
 replace hr_1 := RepSeq.mono hM0 _ _ hr_1
 replace h1 := Rep.mono hM0 _ _ h1
 replace q1 := fun j v h => hM0.cell (q1 j v h)
 obtain ⟨A_3, cap_2, A_4, cap_3, rfl, h_1, h_2⟩ := TA0.opn h1
 refine R_enter 71 Tryd.func52 rfl rfl (by simp) fun a0 f0 => RR (Y f0 4 fun _ f => ?_)
 obtain ⟨x_1, hx_1, hF_1⟩ := bS hF
 refine Y14 (E := [Ent.obj b0 (.cells #[.pointer A_1, .slice A_2 d0_1.length cap_1, .bool d0_2, .int .i64 d0_3] 50 (0, 0)), Ent.row 5 1 (.slice A_2 d0_1.length cap_1) d0_1.length cs_1]) (H := (H)) f p0 (strings_Builder_WriteByte_2_ok n _ hG b0 A_1 hb_1 d0_1 A_2 cap_1 cs_1 hr_1 (d0_2) d0_3 d2 x_1 hx_1) fun _ M_1 E_1 w_1 hM_1 p_1 q_1 _ f => ?_
 obtain ⟨A_5, A_6, cap_4, cs_2, rfl, rfl, hb_2, hr_2⟩ := q_1
 refine eT (RR (Y f 3 fun _ f => Z f (Y27 (v := .int .i64 x_1.2.2.2) rfl (ad := ⟨b0, 3, none⟩) (p_1.ownCell 0 rfl 3)) fun _ f => ?_))
 obtain ⟨g_1, hF_2⟩ := nS hF_1
 refine Y f 1 fun _ f => ?_
 have f := f.st 20 (congrArg (Value.int .i64) (inR_wrap g_1))
 refine Y f 2 fun _ f => Y23 f p_1 0 rfl rfl (b := b0) (j := 3) (v := .int .i64 (x_1.2.2.2 + 1)) rfl (by exact rfl) (by simp) (by simp) ((Ent.obj b0 (.cells #[.pointer A_5, .slice A_6 x_1.2.1.length cap_4, .bool x_1.2.2.1, .int .i64 (x_1.2.2.2 + 1)] 50 (0, 0))) :: (Ent.row 5 1 (.slice A_6 x_1.2.1.length cap_4) x_1.2.1.length cs_2) :: H) rfl fun w_2 p_2 _ f => eT (R_seq (RR (Y f 3 fun _ f => Y12 f p_2 (fzu hM_1 q1) 4 rfl fun _ f => Y f 2 fun _ f => eT (wp_block ?_))))
 have p_3 := p_2.pl [1]
 obtain ⟨b_1, hL_1, hF_3⟩ := bS hF_2
 refine wp_mono (Q := fun e a w => (e = .exit 0 ∧ (∃ y_2 : List UInt8 × Bool × Int, b_1 = y_2 ∧ ∃ M_7 : Mem, M_1.le M_7 ∧ ∃ (A_19 : Option Addr), ∃ (A_20 : Option Addr), ∃ (cap_12 : Nat), ∃ (cs_8 : List Value), (A_19 = none ∨ A_19 = some ⟨b0, 0, none⟩) ∧ RepSeq M_7 (y_2.1.map embB) cs_8 ∧ Frm 71 [(0, .pointer (some (⟨b0, 0, none⟩))), (1, .pointer (some ad1)), (3, .int .u8 d3)] a ∧ Hp w0 M_7 ((Ent.row 5 1 (.slice A_20 y_2.1.length cap_12) y_2.1.length cs_8) :: (Ent.obj b0 (.cells #[.pointer A_19, .slice A_20 y_2.1.length cap_12, .bool y_2.2.1, .int .i64 y_2.2.2] 50 (0, 0))) :: H) w))) (R_loop (n := 71) (w0 := w0) (M := M_1) (fun (x : Nat × (Int × List UInt8 × Bool × Int) × (Option Addr) × (Option Addr) × Nat × (List Value)) => match x with | (m_1, s_1, A_7, A_8, cap_5, cs_3) => [(0, .pointer (some (⟨b0, 0, none⟩))), (1, .pointer (some ad1)), (3, .int .u8 d3), (4, .func (.func 53) #[] #[]), (27, .int .i64 ((d1.fList.length : Nat) : Int)), (28, .int .i64 s_1.1)]) (fun (x : Nat × (Int × List UInt8 × Bool × Int) × (Option Addr) × (Option Addr) × Nat × (List Value)) => match x with | (m_1, s_1, A_7, A_8, cap_5, cs_3) => ((Ent.row 5 1 (.slice A_8 s_1.2.1.length cap_5) s_1.2.1.length cs_3) :: (Ent.obj b0 (.cells #[.pointer A_7, .slice A_8 s_1.2.1.length cap_5, .bool s_1.2.2.1, .int .i64 s_1.2.2.2] 50 (0, 0))) :: H)) (fun (x : Nat × (Int × List UInt8 × Bool × Int) × (Option Addr) × (Option Addr) × Nat × (List Value)) (MM : Mem) => match x with | (m_1, s_1, A_7, A_8, cap_5, cs_3) => loopF (print_writer_parts_2_s1 n rec_print_writer_value d1) m_1 s_1 = some b_1 ∧ (A_7 = none ∨ A_7 = some ⟨b0, 0, none⟩) ∧ RepSeq MM (s_1.2.1.map embB) cs_3) (fun (x : Nat × (Int × List UInt8 × Bool × Int) × (Option Addr) × (Option Addr) × Nat × (List Value)) => match x with | (m_1, s_1, A_7, A_8, cap_5, cs_3) => m_1) (n, ((0 : Int), x_1.2.1, (x_1.2.2.1), x_1.2.2.2 + 1), A_5, A_6, cap_4, cs_2) (f.kp) p_3 ⟨hL_1, hb_2, hr_2⟩ ?_) ?_
 ·rintro ⟨m_1, s_1, A_7, A_8, cap_5, cs_3⟩ M_2 _ w_3 hM_2 I_1 f p_4
  obtain ⟨I_1L, hb_3, hr_3⟩ := I_1
  obtain ⟨m_2, r_1, rfl, hs_1, hn_1⟩ := loop_step I_1L
  unfold print_writer_parts_2_s1 at hs_1
  refine RR (Y f 1 fun _ f => eT (R_seq (RcF f hs_1 (fun h_3 hF_4 => ?_) fun h_3 hF_14 => ?_)))
  ·have k_1 := dI.1 h_3
   refine wp_skip (T_n (R_seq (wp_block (RR (Y f 2 fun _ f => eT (R_seq (RR (Y f 2 fun _ f => eT ?_))))))))
   obtain ⟨j_1, hj_1, hF_5⟩ := bS hF_4
   refine R_mid (fun a_17 w_5 => ∃ y_1 : List UInt8 × Bool × Int, j_1 = y_1 ∧ ∃ M_4 : Mem, M_2.le M_4 ∧ ∃ (A_11 : Option Addr), ∃ (A_12 : Option Addr), ∃ (cap_7 : Nat), ∃ (cs_5 : List Value), (A_11 = none ∨ A_11 = some ⟨b0, 0, none⟩) ∧ RepSeq M_4 (y_1.1.map embB) cs_5 ∧ Frm 71 [(0, .pointer (some (⟨b0, 0, none⟩))), (1, .pointer (some ad1)), (3, .int .u8 d3), (4, .func (.func 53) #[] #[]), (10, .int .i64 s_1.1), (27, .int .i64 ((d1.fList.length : Nat) : Int)), (28, .int .i64 s_1.1)] a_17 ∧ Hp w0 M_4 ((Ent.row 5 1 (.slice A_12 y_1.1.length cap_7) y_1.1.length cs_5) :: (Ent.obj b0 (.cells #[.pointer A_11, .slice A_12 y_1.1.length cap_7, .bool y_1.2.1, .int .i64 y_1.2.2] 50 (0, 0))) :: H) w_5) ?_ ?_
   ·refine RcF f hj_1 (fun h_4 hF_6 => ?_) fun h_4 hF_8 => ?_
    ·have k_2 := dI.1 h_4
     refine R_reg (Y f 3 fun _ f => ?_)
     obtain ⟨x_2, hx_2, hF_7⟩ := bS hF_6
     have p_6 := p_4.pl [1]
     refine Y14 (E := [Ent.obj b0 (.cells #[.pointer A_7, .slice A_8 s_1.2.1.length cap_5, .bool s_1.2.2.1, .int .i64 s_1.2.2.2] 50 (0, 0)), Ent.row 5 1 (.slice A_8 s_1.2.1.length cap_5) s_1.2.1.length cs_3]) (H := (H)) f p_6 (strings_Builder_WriteByte_2_ok n _ (GL.mono (hM_1.trans hM_2) hG) b0 A_7 hb_3 s_1.2.1 A_8 cap_5 cs_3 hr_3 (s_1.2.2.1) s_1.2.2.2 (44 : Int) x_2 hx_2) fun _ M_3 E_2 w_4 hM_3 p_5 q_2 _ f => ?_
     obtain ⟨A_9, A_10, cap_6, cs_4, rfl, rfl, hb_4, hr_4⟩ := q_2
     refine W_end rfl ?_
     have p_8 := p_5.pl [1]
     refine T_n ?_
     exact ⟨(x_2.2.1, (x_2.2.2.1), x_2.2.2.2), (sI hF_7).symm, M_3, hM_3, A_9, A_10, cap_6, cs_4, hb_4, hr_4, f.kp, p_8⟩
    ·have k_3 := iff_f dI h_4
     refine wp_skip (T_n ?_)
     exact ⟨(s_1.2.1, (s_1.2.2.1), s_1.2.2.2), (sI hF_8).symm, M_2, (mR _), A_7, A_8, cap_5, cs_3, hb_3, hr_3, f.kp, p_4⟩
   ·rintro a_17 w_5 ⟨y_1, hq_1, M_4, hM_4, A_11, A_12, cap_7, cs_5, hb_5, hr_5, f, p_7⟩
    subst j_1
    refine T_n (RR (Y f 1 fun _ f => ?_))
    obtain ⟨x_3, hx_3, hF_9⟩ := bS hF_5
    have p_10 := p_7.pl [1]
    refine Y14 (E := [Ent.obj b0 (.cells #[.pointer A_11, .slice A_12 y_1.1.length cap_7, .bool y_1.2.1, .int .i64 y_1.2.2] 50 (0, 0)), Ent.row 5 1 (.slice A_12 y_1.1.length cap_7) y_1.1.length cs_5]) (H := (H)) f p_10 (print_writer_line_ok n _ (GL.mono ((hM_1.trans hM_2).trans hM_4) hG) b0 A_11 hb_5 y_1.1 A_12 cap_7 cs_5 hr_5 (y_1.2.1) y_1.2.2 x_3 hx_3) fun _ M_5 E_3 w_6 hM_5 p_9 q_3 _ f => ?_
    obtain ⟨A_13, A_14, cap_8, cs_6, rfl, rfl, hb_6, hr_6⟩ := q_3
    refine eT (RR (Y f 2 fun _ f => ?_))
    obtain ⟨x_4, hx_4, hF_10⟩ := bS hF_9
    refine Y15 f p_9 (print_writer_list_1_ok n _ (GL.mono (((hM_1.trans hM_2).trans hM_4).trans hM_5) hG) s_1.1 x_4 hx_4) fun w_7 p_11 _ f => eT (R_reg (Y f 4 fun _ f => Y12 f p_11 (fzu (((hM_1.trans hM_2).trans hM_4).trans hM_5) q1) 4 rfl fun _ f => Y f 1 fun _ f => ?_))
    obtain ⟨x_5, hx_5, hF_11⟩ := bS hF_10
    obtain ⟨ad_1, c_1, e_1, -, hr_7, hc_1⟩ := Sli.at_ (h_1.mono (((hM_1.trans hM_2).trans hM_4).trans hM_5)) hx_5
    obtain ⟨A_15, cap_9, A_16, cap_10, rfl, h_5, h_6⟩ := TA0.opn hr_7
    refine Z f (Y26 e_1 rfl (len := d1.fList.length) (cap := cap_2) (k := .i64) (i := s_1.1) (e := 26) (sz := 6) (getI_nn hx_5) (getI_lt hx_5)) fun _ f => ?_
    obtain ⟨x_6, hx_6, hF_12⟩ := bS hF_11
    refine Y14 (E := [Ent.obj b0 (.cells #[.pointer A_13, .slice A_14 x_3.1.length cap_8, .bool x_3.2.1, .int .i64 x_3.2.2] 50 (0, 0)), Ent.row 5 1 (.slice A_14 x_3.1.length cap_8) x_3.1.length cs_6]) (H := (H)) f p_11 (hrec_print_writer_value _ (GL.mono (((hM_1.trans hM_2).trans hM_4).trans hM_5) hG) b0 A_13 hb_6 x_3.1 A_14 cap_8 cs_6 hr_6 (x_3.2.1) x_3.2.2 (ad_1.add (s_1.1.toNat * 6)) [.int .i8 x_5.fKind, .bool x_5.fBool, .int .i64 x_5.fNum, S x_5.fText, .slice A_15 x_5.fList.length cap_9, .slice A_16 x_5.fKeys.length cap_10] x_5 (TA0.shutx (x := x_5) h_5 h_6) (fz_at (hc_1) 0 rfl) x_6 hx_6) fun _ M_6 E_4 w_8 hM_6 p_12 q_4 _ f => ?_
    obtain ⟨A_17, A_18, cap_11, cs_7, rfl, rfl, hb_7, hr_8⟩ := q_4
    refine W_end rfl (B_n (T_n (R_reg ?_)))
    obtain ⟨g_2, hF_13⟩ := nS hF_12
    refine Y f 1 fun _ f => ?_
    have f := f.st 50 (congrArg (Value.int .i64) (inR_wrap g_2))
    refine Y f 1 fun _ f => W_end rfl ?_
    have p_14 := p_12.pl [1]
    refine T_n ?_
    obtain rfl := sI hF_13
    exact ⟨⟨m_2, (s_1.1 + 1, x_6.1, (x_6.2.1), x_6.2.2), A_17, A_18, cap_11, cs_7⟩, Nat.lt_succ_self _, M_6, (((hM_2.trans hM_4).trans hM_5).trans hM_6), ⟨hn_1, hb_7, hr_8⟩, f.kp, p_14⟩
  ·have k_4 := iff_f dI h_3
   refine wp_exit (T_x (T_x ?_))
   obtain rfl := sI hF_14
   exact ⟨rfl, (s_1.2.1, (s_1.2.2.1), s_1.2.2.2), (sI hn_1).symm, M_2, hM_2, A_7, A_8, cap_5, cs_3, hb_3, hr_3, f.kp, p_4⟩
 ·rintro _ _ w_10 ⟨rfl, y_2, hq_, M_7, hM_7, A_19, A_20, cap_12, cs_8, hb_8, hr_9, f, p_13⟩
  subst b_1
  refine B_x (T_n (RR (Y f 3 fun _ f => Z f (Y27 (v := .int .i64 y_2.2.2) rfl (ad := ⟨b0, 3, none⟩) (p_13.ownCell 1 rfl 3)) fun _ f => ?_)))
  obtain ⟨g_3, hF_15⟩ := nS hF_3
  refine Y f 1 fun _ f => ?_
  have f := f.st 55 (congrArg (Value.int .i64) (inR_wrap g_3))
  refine Y f 2 fun _ f => Y23 f p_13 1 rfl rfl (b := b0) (j := 3) (v := .int .i64 (y_2.2.2 - 1)) rfl (by exact rfl) (by simp) (by simp) ((Ent.row 5 1 (.slice A_20 y_2.1.length cap_12) y_2.1.length cs_8) :: (Ent.obj b0 (.cells #[.pointer A_19, .slice A_20 y_2.1.length cap_12, .bool y_2.2.1, .int .i64 (y_2.2.2 - 1)] 50 (0, 0))) :: H) rfl fun w_11 p_15 _ f => eT (R_seq (RR (Y f 3 fun _ f => Y12 f p_15 (fzu (hM_1.trans hM_7) q1) 4 rfl fun _ f => Y f 2 fun _ f => eT ?_)))
  obtain ⟨j_2, hj_2, hF_16⟩ := bS hF_15
  refine R_mid (fun a_41 w_13 => ∃ y_3 : List UInt8 × Bool × Int, j_2 = y_3 ∧ ∃ M_9 : Mem, M_7.le M_9 ∧ ∃ (A_23 : Option Addr), ∃ (A_24 : Option Addr), ∃ (cap_14 : Nat), ∃ (cs_10 : List Value), (A_23 = none ∨ A_23 = some ⟨b0, 0, none⟩) ∧ RepSeq M_9 (y_3.1.map embB) cs_10 ∧ Frm 71 [(0, .pointer (some (⟨b0, 0, none⟩))), (3, .int .u8 d3)] a_41 ∧ Hp w0 M_9 ((Ent.row 5 1 (.slice A_24 y_3.1.length cap_14) y_3.1.length cs_10) :: (Ent.obj b0 (.cells #[.pointer A_23, .slice A_24 y_3.1.length cap_14, .bool y_3.2.1, .int .i64 y_3.2.2] 50 (0, 0))) :: H) w_13) ?_ ?_
  ·refine RcF f hj_2 (fun h_7 hF_17 => ?_) fun h_7 hF_19 => ?_
   ·have k_5 := dI.1 h_7
    refine R_reg (Y f 1 fun _ f => ?_)
    obtain ⟨x_7, hx_7, hF_18⟩ := bS hF_17
    have p_17 := p_15.pl [1]
    refine Y14 (E := [Ent.obj b0 (.cells #[.pointer A_19, .slice A_20 y_2.1.length cap_12, .bool y_2.2.1, .int .i64 (y_2.2.2 - 1)] 50 (0, 0)), Ent.row 5 1 (.slice A_20 y_2.1.length cap_12) y_2.1.length cs_8]) (H := (H)) f p_17 (print_writer_line_ok n _ (GL.mono (hM_1.trans hM_7) hG) b0 A_19 hb_8 y_2.1 A_20 cap_12 cs_8 hr_9 (y_2.2.1) (y_2.2.2 - 1) x_7 hx_7) fun _ M_8 E_5 w_12 hM_8 p_16 q_5 _ f => ?_
    obtain ⟨A_21, A_22, cap_13, cs_9, rfl, rfl, hb_9, hr_10⟩ := q_5
    refine W_end rfl ?_
    have p_19 := p_16.pl [1]
    refine T_n ?_
    exact ⟨(x_7.1, (x_7.2.1), x_7.2.2), (sI hF_18).symm, M_8, hM_8, A_21, A_22, cap_13, cs_9, hb_9, hr_10, f.kp, p_19⟩
   ·have k_6 := iff_f dI h_7
    refine wp_skip (T_n ?_)
    exact ⟨(y_2.1, (y_2.2.1), y_2.2.2 - 1), (sI hF_19).symm, M_7, (mR _), A_19, A_20, cap_12, cs_8, hb_8, hr_9, f.kp, p_15⟩
  ·rintro a_41 w_13 ⟨y_3, hq_2, M_9, hM_9, A_23, A_24, cap_14, cs_10, hb_10, hr_11, f, p_18⟩
   subst j_2
   refine T_n (R_reg (Y f 4 fun _ f => ?_))
   obtain ⟨x_8, hx_8, hF_20⟩ := bS hF_16
   have p_21 := p_18.pl [1]
   refine Y14 (E := [Ent.obj b0 (.cells #[.pointer A_23, .slice A_24 y_3.1.length cap_14, .bool y_3.2.1, .int .i64 y_3.2.2] 50 (0, 0)), Ent.row 5 1 (.slice A_24 y_3.1.length cap_14) y_3.1.length cs_10]) (H := (H)) f p_21 (strings_Builder_WriteByte_2_ok n _ (GL.mono ((hM_1.trans hM_7).trans hM_9) hG) b0 A_23 hb_10 y_3.1 A_24 cap_14 cs_10 hr_11 (y_3.2.1) y_3.2.2 d3 x_8 hx_8) fun _ M_10 E_6 w_14 hM_10 p_20 q_6 _ f => ?_
   obtain ⟨A_25, A_26, cap_15, cs_11, rfl, rfl, hb_11, hr_12⟩ := q_6
   refine W_end rfl (E_end0 f rfl  ?_)
   obtain rfl := sI hF_20
   exact ⟨_, rfl, M_10, _, (((hM_1.trans hM_7).trans hM_9).trans hM_10), p_20, ⟨A_25, A_26, cap_15, cs_11, rfl, rfl, hb_11, hr_12⟩⟩
def print_writer_list_2 (n : Nat) (rec_print_writer_value : (List UInt8) → Bool → Int → TA0 → Option (List UInt8 × Bool × Int)) (d0_1 : List UInt8) (d0_2 : Bool) (d0_3 : Int) (d1 : TA0) : Option (List UInt8 × Bool × Int) :=
  (print_writer_parts_2 n rec_print_writer_value d0_1 (d0_2) d0_3 d1 (91 : Int) (93 : Int)).bind fun x_1 =>
  some ((x_1.1, (x_1.2.1), x_1.2.2))
theorem print_writer_list_2_ok (n : Nat) (rec_print_writer_value : (List UInt8) → Bool → Int → TA0 → Option (List UInt8 × Bool × Int)) (hrec_print_writer_value : ∀ (M : Mem) (hG : GL M) (b0 : Nat) (A_1 : Option Addr) (hb_1 : (A_1 = none ∨ A_1 = some ⟨b0, 0, none⟩)) (d0_1 : List UInt8) (A_2 : Option Addr) (cap_1 : Nat) (cs_1 : List Value) (hr_1 : RepSeq M (d0_1.map embB) cs_1) (d0_2 : Bool) (d0_3 : Int) (ad1 : Addr) (c1 : List Value) (d1 : TA0) (h1 : Rep M (emb_TA0 d1) c1) (q1 : ∀ j v, c1[j]? = some v → M.cell? (ad1.add j) = some v) (r : List UInt8 × Bool × Int) (hF : rec_print_writer_value d0_1 d0_2 d0_3 d1 = some r), OkH Tryd.prog M [Ent.obj b0 (.cells #[.pointer A_1, .slice A_2 d0_1.length cap_1, .bool d0_2, .int .i64 d0_3] 50 (0, 0)), Ent.row 5 1 (.slice A_2 d0_1.length cap_1) d0_1.length cs_1] 23 [.pointer (some (⟨b0, 0, none⟩)), .pointer (some ad1)] (fun M' E' v => ∃ (A_3 : Option Addr) (A_4 : Option Addr) (cap_2 : Nat) (cs_2 : List Value), v = .tuple #[] ∧ E' = [Ent.obj b0 (.cells #[.pointer A_3, .slice A_4 r.1.length cap_2, .bool r.2.1, .int .i64 r.2.2] 50 (0, 0)), Ent.row 5 1 (.slice A_4 r.1.length cap_2) r.1.length cs_2] ∧ (A_3 = none ∨ A_3 = some ⟨b0, 0, none⟩) ∧ RepSeq M' (r.1.map embB) cs_2)) (M : Mem) (hG : GL M) (b0 : Nat) (A_1 : Option Addr) (hb_1 : (A_1 = none ∨ A_1 = some ⟨b0, 0, none⟩)) (d0_1 : List UInt8) (A_2 : Option Addr) (cap_1 : Nat) (cs_1 : List Value) (hr_1 : RepSeq M (d0_1.map embB) cs_1) (d0_2 : Bool) (d0_3 : Int) (ad1 : Addr) (c1 : List Value) (d1 : TA0) (h1 : Rep M (emb_TA0 d1) c1) (q1 : ∀ j v, c1[j]? = some v → M.cell? (ad1.add j) = some v) (r : List UInt8 × Bool × Int) (hF : print_writer_list_2 n rec_print_writer_value d0_1 d0_2 d0_3 d1 = some r) : OkH Tryd.prog M [Ent.obj b0 (.cells #[.pointer A_1, .slice A_2 d0_1.length cap_1, .bool d0_2, .int .i64 d0_3] 50 (0, 0)), Ent.row 5 1 (.slice A_2 d0_1.length cap_1) d0_1.length cs_1] 37 [.pointer (some (⟨b0, 0, none⟩)), .pointer (some ad1)] (fun M' E' v => ∃ (A_7 : Option Addr) (A_8 : Option Addr) (cap_5 : Nat) (cs_3 : List Value), v = .tuple #[] ∧ E' = [Ent.obj b0 (.cells #[.pointer A_7, .slice A_8 r.1.length cap_5, .bool r.2.1, .int .i64 r.2.2] 50 (0, 0)), Ent.row 5 1 (.slice A_8 r.1.length cap_5) r.1.length cs_3] ∧ (A_7 = none ∨ A_7 = some ⟨b0, 0, none⟩) ∧ RepSeq M' (r.1.map embB) cs_3) := by
 unfold print_writer_list_2 at hF
 intro M1 hM0 w0 H w p0
 replace hG := GL.mono hM0 hG
 replace hr_1 := RepSeq.mono hM0 _ _ hr_1
 replace h1 := Rep.mono hM0 _ _ h1
 replace q1 := fun j v h => hM0.cell (q1 j v h)
 obtain ⟨A_3, cap_2, A_4, cap_3, rfl, h_1, h_2⟩ := TA0.opn h1
 refine R_enter 7 Tryd.func37 rfl rfl (by simp) fun a0 f0 => R_reg (Y f0 2 fun _ f => ?_)
 obtain ⟨x_1, hx_1, hF_1⟩ := bS hF
 refine Y14 (E := [Ent.obj b0 (.cells #[.pointer A_1, .slice A_2 d0_1.length cap_1, .bool d0_2, .int .i64 d0_3] 50 (0, 0)), Ent.row 5 1 (.slice A_2 d0_1.length cap_1) d0_1.length cs_1]) (H := (H)) f p0 (print_writer_parts_2_ok n rec_print_writer_value hrec_print_writer_value _ hG b0 A_1 hb_1 d0_1 A_2 cap_1 cs_1 hr_1 (d0_2) d0_3 ad1 [.int .i8 d1.fKind, .bool d1.fBool, .int .i64 d1.fNum, S d1.fText, .slice A_3 d1.fList.length cap_2, .slice A_4 d1.fKeys.length cap_3] d1 (TA0.shutx (x := d1) h_1 h_2) (fz_at (q1) 0 rfl) (91 : Int) (93 : Int) x_1 hx_1) fun _ M_1 E_1 w_1 hM_1 p_1 q_1 _ f => ?_
 obtain ⟨A_5, A_6, cap_4, cs_2, rfl, rfl, hb_2, hr_2⟩ := q_1
 refine W_end rfl (E_end0 f rfl  ?_)
 obtain rfl := sI hF_1
 exact ⟨_, rfl, M_1, _, hM_1, p_1, ⟨A_5, A_6, cap_4, cs_2, rfl, rfl, hb_2, hr_2⟩⟩
def print_writer_object_1 (n : Nat) (d0 : Int) (d1_f_1 : List UInt8) (d1_f_2 : Bool) (d1_f_3 : Int) (d2_f : TA0) : Option (List UInt8 × Bool × Int) :=
  (getI d2_f.fKeys d0).bind fun x_1 =>
  (print_writer_quote n d1_f_1 (d1_f_2) d1_f_3 x_1).bind fun x_2 =>
  (strings_Builder_WriteByte_2 n x_2.1 (x_2.2.1) x_2.2.2 (58 : Int)).bind fun x_3 =>
  bif x_3.2.2.1 then
    ((strings_Builder_WriteByte_2 n x_3.2.1 (x_3.2.2.1) x_3.2.2.2 (32 : Int)).bind fun x_4 =>
    some ((x_4.2.1, (x_4.2.2.1), x_4.2.2.2)))
  else
    some ((x_3.2.1, (x_3.2.2.1), x_3.2.2.2))
theorem print_writer_object_1_ok (n : Nat) (M : Mem) (hG : GL M) (d0 : Int) (b1_f : Nat) (A_1 : Option Addr) (hb_1 : (A_1 = none ∨ A_1 = some ⟨b1_f, 0, none⟩)) (d1_f_1 : List UInt8) (A_2 : Option Addr) (cap_1 : Nat) (cs_1 : List Value) (hr_1 : RepSeq M (d1_f_1.map embB) cs_1) (d1_f_2 : Bool) (d1_f_3 : Int) (ad1 : Addr) (q1 : ∀ j v, [(.pointer (some (⟨b1_f, 0, none⟩)) : Value)][j]? = some v → M.cell? (ad1.add j) = some v) (ad2_f : Addr) (c2_f : List Value) (d2_f : TA0) (h2_f : Rep M (emb_TA0 d2_f) c2_f) (q2_f : ∀ j v, c2_f[j]? = some v → M.cell? (ad2_f.add j) = some v) (ad2 : Addr) (q2 : ∀ j v, [(.pointer (some ad2_f) : Value)][j]? = some v → M.cell? (ad2.add j) = some v) (r : List UInt8 × Bool × Int) (hF : print_writer_object_1 n d0 d1_f_1 d1_f_2 d1_f_3 d2_f = some r) : OkH Tryd.prog M [Ent.obj b1_f (.cells #[.pointer A_1, .slice A_2 d1_f_1.length cap_1, .bool d1_f_2, .int .i64 d1_f_3] 50 (0, 0)), Ent.row 5 1 (.slice A_2 d1_f_1.length cap_1) d1_f_1.length cs_1] 54 [.int .i64 d0, .pointer (some ad1), .pointer (some ad2)] (fun M' E' v => ∃ (A_11 : Option Addr) (A_12 : Option Addr) (cap_7 : Nat) (cs_5 : List Value), v = .tuple #[] ∧ E' = [Ent.obj b1_f (.cells #[.pointer A_11, .slice A_12 r.1.length cap_7, .bool r.2.1, .int .i64 r.2.2] 50 (0, 0)), Ent.row 5 1 (.slice A_12 r.1.length cap_7) r.1.length cs_5] ∧ (A_11 = none ∨ A_11 = some ⟨b1_f, 0, none⟩) ∧ RepSeq M' (r.1.map embB) cs_5) := by
 unfold print_writer_object_1 at hF
 intro M1 hM0 w0 H w p0
 replace hG := GL.mono hM0 hG
 replace hr_1 := RepSeq.mono hM0 _ _ hr_1
 replace q1 := fun j v h => hM0.cell (q1 j v h)
 replace h2_f := Rep.mono hM0 _ _ h2_f
 replace q2_f := fun j v h => hM0.cell (q2_f j v h)
 replace q2 := fun j v h => hM0.cell (q2 j v h)
 obtain ⟨A_3, cap_2, A_4, cap_3, rfl, h_1, h_2⟩ := TA0.opn h2_f
 refine R_enter 25 Tryd.func54 rfl rfl (by simp) fun a0 f0 => R_seq (R_mix (E := [Ent.obj b1_f (.cells #[.pointer A_1, .slice A_2 d1_f_1.length cap_1, .bool d1_f_2, .int .i64 d1_f_3] 50 (0, 0)), Ent.row 5 1 (.slice A_2 d1_f_1.length cap_1) d1_f_1.length cs_1]) (Hr := (H)) [(0, true), (1, true), (2, true), (3, true), (4, true), (5, true), (6, true), (7, true), (8, false)] p0 (by kernel_rfl) (by kernel_rfl) rfl (by kernel_rfl) (M_eq (v := .pointer (some (⟨b1_f, 0, none⟩))) f0 (by kernel_rfl) (by kernel_rfl) rfl rfl (fun _ pq => Y27 (v := .pointer (some (⟨b1_f, 0, none⟩))) rfl (ad := ad1) (pq.cell (q1 0 _ rfl))) fun _ f => M_eq (v := .pointer (some ad2_f)) f (by kernel_rfl) (by kernel_rfl) rfl rfl (fun _ pq => Y27 (v := .pointer (some ad2_f)) rfl (ad := ad2) (pq.cell (q2 0 _ rfl))) fun _ f => Y0 default f 2 fun _ f => M_eq (v := .slice A_4 d2_f.fKeys.length cap_3) f (by kernel_rfl) (by kernel_rfl) rfl rfl (fun _ pq => Y27 (v := .slice A_4 d2_f.fKeys.length cap_3) rfl (ad := ad2_f.add 5) (pq.cell (q2_f 5 _ rfl))) fun _ f => Y0 default f 1 fun _ f => ?_))
 obtain ⟨x_1, hx_1, hF_1⟩ := bS hF
 obtain ⟨ad_1, c_1, e_1, -, hr_2, hc_1⟩ := Sli.at_ h_2 hx_1
 obtain rfl : c_1 = [S x_1] := hr_2
 refine M_eq (v := .pointer (some (ad_1.add (d0.toNat * 1)))) f (by kernel_rfl) (by kernel_rfl) rfl rfl (fun _ pq => Y26 e_1 rfl (len := d2_f.fKeys.length) (cap := cap_3) (k := .i64) (i := d0) (e := 9) (sz := 1) (getI_nn hx_1) (getI_lt hx_1)) fun _ f => M_eq (v := S x_1) f (by kernel_rfl) (by kernel_rfl) rfl rfl (fun _ pq => Y27 (v := S x_1) rfl (ad := ad_1.add (d0.toNat * 1)) (pq.cell (hc_1 0 _ rfl))) fun _ f => M_fix (E := [Ent.obj b1_f (.cells #[.pointer A_1, .slice A_2 d1_f_1.length cap_1, .bool d1_f_2, .int .i64 d1_f_3] 50 (0, 0)), Ent.row 5 1 (.slice A_2 d1_f_1.length cap_1) d1_f_1.length cs_1]) fun w_1 p_1 => ?_
 obtain ⟨x_2, hx_2, hF_2⟩ := bS hF_1
 refine Y14 (E := [Ent.obj b1_f (.cells #[.pointer A_1, .slice A_2 d1_f_1.length cap_1, .bool d1_f_2, .int .i64 d1_f_3] 50 (0, 0)), Ent.row 5 1 (.slice A_2 d1_f_1.length cap_1) d1_f_1.length cs_1]) (H := (H)) f p_1 (print_writer_quote_ok n _ hG b1_f A_1 hb_1 d1_f_1 A_2 cap_1 cs_1 hr_1 (d1_f_2) d1_f_3 x_1 x_2 hx_2) fun _ M_1 E_1 w_2 hM_1 p_2 q_1 _ f => ?_
 obtain ⟨A_5, A_6, cap_4, cs_2, rfl, rfl, hb_2, hr_3⟩ := q_1
 refine W_end rfl (M_go (M1 := M_1) (E := [Ent.obj b1_f (.cells #[.pointer A_5, .slice A_6 x_2.1.length cap_4, .bool x_2.2.1, .int .i64 x_2.2.2] 50 (0, 0)), Ent.row 5 1 (.slice A_6 x_2.1.length cap_4) x_2.1.length cs_2]) hM_1 p_2 (M_end rfl fun w_3 p_3 => T_n (RR (Y12 f p_3 (fzu hM_1 q1) 0 rfl fun _ f => Y f 2 fun _ f => ?_))))
 obtain ⟨x_3, hx_3, hF_3⟩ := bS hF_2
 refine Y14 (E := [Ent.obj b1_f (.cells #[.pointer A_5, .slice A_6 x_2.1.length cap_4, .bool x_2.2.1, .int .i64 x_2.2.2] 50 (0, 0)), Ent.row 5 1 (.slice A_6 x_2.1.length cap_4) x_2.1.length cs_2]) (H := (H)) f p_3 (strings_Builder_WriteByte_2_ok n _ (GL.mono hM_1 hG) b1_f A_5 hb_2 x_2.1 A_6 cap_4 cs_2 hr_3 (x_2.2.1) x_2.2.2 (58 : Int) x_3 hx_3) fun _ M_2 E_2 w_4 hM_2 p_4 q_2 _ f => ?_
 obtain ⟨A_7, A_8, cap_5, cs_3, rfl, rfl, hb_3, hr_4⟩ := q_2
 refine eT (RR (Y12 f p_4 (fzu (hM_1.trans hM_2) q1) 0 rfl fun _ f => Y f 2 fun _ f => Z f (Y27 (v := .bool x_3.2.2.1) rfl (ad := ⟨b1_f, 2, none⟩) (p_4.ownCell 0 rfl 2)) fun _ f => eT (RcF f hF_3 (fun h_3 hF_4 => ?_) fun h_3 hF_6 => ?_)))
 ·refine R_reg (Y12 f p_4 (fzu (hM_1.trans hM_2) q1) 0 rfl fun _ f => Y f 2 fun _ f => ?_)
  obtain ⟨x_4, hx_4, hF_5⟩ := bS hF_4
  refine Y14 (E := [Ent.obj b1_f (.cells #[.pointer A_7, .slice A_8 x_3.2.1.length cap_5, .bool x_3.2.2.1, .int .i64 x_3.2.2.2] 50 (0, 0)), Ent.row 5 1 (.slice A_8 x_3.2.1.length cap_5) x_3.2.1.length cs_3]) (H := (H)) f p_4 (strings_Builder_WriteByte_2_ok n _ (GL.mono (hM_1.trans hM_2) hG) b1_f A_7 hb_3 x_3.2.1 A_8 cap_5 cs_3 hr_4 (x_3.2.2.1) x_3.2.2.2 (32 : Int) x_4 hx_4) fun _ M_3 E_3 w_5 hM_3 p_5 q_3 _ f => ?_
  obtain ⟨A_9, A_10, cap_6, cs_4, rfl, rfl, hb_4, hr_5⟩ := q_3
  refine W_end rfl (E_end0 f rfl  ?_)
  obtain rfl := sI hF_5
  exact ⟨_, rfl, M_3, _, ((hM_1.trans hM_2).trans hM_3), p_5, ⟨A_9, A_10, cap_6, cs_4, rfl, rfl, hb_4, hr_5⟩⟩
 ·refine wp_skip (E_end0 f rfl  ?_)
  obtain rfl := sI hF_6
  exact ⟨_, rfl, M_2, _, (hM_1.trans hM_2), p_4, ⟨A_7, A_8, cap_5, cs_3, rfl, rfl, hb_3, hr_4⟩⟩
def print_writer_parts_s1 (n : Nat) (rec_print_writer_value : (List UInt8) → Bool → Int → TA0 → Option (List UInt8 × Bool × Int)) (d1 : TA0) (d4_1_f : TA0) (s_1 : Int × List UInt8 × Bool × Int) : Option (Lp (Int × List UInt8 × Bool × Int) (List UInt8 × Bool × Int)) :=
    bif (decide (s_1.1 < ((d1.fList.length : Nat) : Int))) then
      (((bif (decide ((0 : Int) < s_1.1)) then
          ((strings_Builder_WriteByte_2 n s_1.2.1 (s_1.2.2.1) s_1.2.2.2 (44 : Int)).bind fun x_2 =>
          some ((x_2.2.1, (x_2.2.2.1), x_2.2.2.2)))
        else
          some ((s_1.2.1, (s_1.2.2.1), s_1.2.2.2)) : Option (List UInt8 × Bool × Int))).bind fun y_1 =>
      (print_writer_line n y_1.1 (y_1.2.1) y_1.2.2).bind fun x_3 =>
      (print_writer_object_1 n s_1.1 x_3.1 (x_3.2.1) x_3.2.2 d4_1_f).bind fun x_4 =>
      (getI d1.fList s_1.1).bind fun x_5 =>
      (rec_print_writer_value x_4.1 (x_4.2.1) x_4.2.2 x_5).bind fun x_6 =>
      need (inR .i64 (s_1.1 + 1)) <|
      some (.nx (s_1.1 + 1, x_6.1, (x_6.2.1), x_6.2.2)))
    else
      some (.br (s_1.2.1, (s_1.2.2.1), s_1.2.2.2))
def print_writer_parts (n : Nat) (rec_print_writer_value : (List UInt8) → Bool → Int → TA0 → Option (List UInt8 × Bool × Int)) (d0_1 : List UInt8) (d0_2 : Bool) (d0_3 : Int) (d1 : TA0) (d2 : Int) (d3 : Int) (d4_1_f : TA0) : Option (List UInt8 × Bool × Int) :=
  (strings_Builder_WriteByte_2 n d0_1 (d0_2) d0_3 d2).bind fun x_1 =>
  need (inR .i64 (x_1.2.2.2 + 1)) <|
  (loopF (print_writer_parts_s1 n rec_print_writer_value d1 d4_1_f) n ((0 : Int), x_1.2.1, (x_1.2.2.1), x_1.2.2.2 + 1)).bind fun y_2 =>
  need (inR .i64 (y_2.2.2 - 1)) <|
  ((bif (decide ((0 : Int) < ((d1.fList.length : Nat) : Int))) then
      ((print_writer_line n y_2.1 (y_2.2.1) (y_2.2.2 - 1)).bind fun x_7 =>
      some ((x_7.1, (x_7.2.1), x_7.2.2)))
    else
      some ((y_2.1, (y_2.2.1), y_2.2.2 - 1)) : Option (List UInt8 × Bool × Int))).bind fun y_3 =>
  (strings_Builder_WriteByte_2 n y_3.1 (y_3.2.1) y_3.2.2 d3).bind fun x_8 =>
  some ((x_8.2.1, (x_8.2.2.1), x_8.2.2.2))
set_option maxRecDepth 20000 in
theorem print_writer_parts_ok (n : Nat) (rec_print_writer_value : (List UInt8) → Bool → Int → TA0 → Option (List UInt8 × Bool × Int)) (hrec_print_writer_value : ∀ (M : Mem) (hG : GL M) (b0 : Nat) (A_1 : Option Addr) (hb_1 : (A_1 = none ∨ A_1 = some ⟨b0, 0, none⟩)) (d0_1 : List UInt8) (A_2 : Option Addr) (cap_1 : Nat) (cs_1 : List Value) (hr_1 : RepSeq M (d0_1.map embB) cs_1) (d0_2 : Bool) (d0_3 : Int) (ad1 : Addr) (c1 : List Value) (d1 : TA0) (h1 : Rep M (emb_TA0 d1) c1) (q1 : ∀ j v, c1[j]? = some v → M.cell? (ad1.add j) = some v) (r : List UInt8 × Bool × Int) (hF : rec_print_writer_value d0_1 d0_2 d0_3 d1 = some r), OkH Tryd.prog M [Ent.obj b0 (.cells #[.pointer A_1, .slice A_2 d0_1.length cap_1, .bool d0_2, .int .i64 d0_3] 50 (0, 0)), Ent.row 5 1 (.slice A_2 d0_1.length cap_1) d0_1.length cs_1] 23 [.pointer (some (⟨b0, 0, none⟩)), .pointer (some ad1)] (fun M' E' v => ∃ (A_3 : Option Addr) (A_4 : Option Addr) (cap_2 : Nat) (cs_2 : List Value), v = .tuple #[] ∧ E' = [Ent.obj b0 (.cells #[.pointer A_3, .slice A_4 r.1.length cap_2, .bool r.2.1, .int .i64 r.2.2] 50 (0, 0)), Ent.row 5 1 (.slice A_4 r.1.length cap_2) r.1.length cs_2] ∧ (A_3 = none ∨ A_3 = some ⟨b0, 0, none⟩) ∧ RepSeq M' (r.1.map embB) cs_2)) (M : Mem) (hG : GL M) (b0 : Nat) (A_1 : Option Addr) (hb_1 : (A_1 = none ∨ A_1 = some ⟨b0, 0, none⟩)) (d0_1 : List UInt8) (A_2 : Option Addr) (cap_1 : Nat) (cs_1 : List Value) (hr_1 : RepSeq M (d0_1.map embB) cs_1) (d0_2 : Bool) (d0_3 : Int) (ad1 : Addr) (c1 : List Value) (d1 : TA0) (h1 : Rep M (emb_TA0 d1) c1) (q1 : ∀ j v, c1[j]? = some v → M.cell? (ad1.add j) = some v) (d2 : Int) (d3 : Int) (ad4_0 : Addr) (q4_0 : ∀ j v, [(.pointer (some (⟨b0, 0, none⟩)) : Value)][j]? = some v → M.cell? (ad4_0.add j) = some v) (ad4_1_f : Addr) (c4_1_f : List Value) (d4_1_f : TA0) (h4_1_f : Rep M (emb_TA0 d4_1_f) c4_1_f) (q4_1_f : ∀ j v, c4_1_f[j]? = some v → M.cell? (ad4_1_f.add j) = some v) (ad4_1 : Addr) (q4_1 : ∀ j v, [(.pointer (some ad4_1_f) : Value)][j]? = some v → M.cell? (ad4_1.add j) = some v) (r : List UInt8 × Bool × Int) (hF : print_writer_parts n rec_print_writer_value d0_1 d0_2 d0_3 d1 d2 d3 d4_1_f = some r) : OkH Tryd.prog M [Ent.obj b0 (.cells #[.pointer A_1, .slice A_2 d0_1.length cap_1, .bool d0_2, .int .i64 d0_3] 50 (0, 0)), Ent.row 5 1 (.slice A_2 d0_1.length cap_1) d0_1.length cs_1] 52 [.pointer (some (⟨b0, 0, none⟩)), .pointer (some ad1), .int .u8 d2, .int .u8 d3, .func (.func 54) #[] #[.pointer (some ad4_0), .pointer (some ad4_1)]] (fun M' E' v => ∃ (A_31 : Option Addr) (A_32 : Option Addr) (cap_19 : Nat) (cs_13 : List Value), v = .tuple #[] ∧ E' = [Ent.obj b0 (.cells #[.pointer A_31, .slice A_32 r.1.length cap_19, .bool r.2.1, .int .i64 r.2.2] 50 (0, 0)), Ent.row 5 1 (.slice A_32 r.1.length cap_19) r.1.length cs_13] ∧ (A_31 = none ∨ A_31 = some ⟨b0, 0, none⟩) ∧ RepSeq M' (r.1.map embB) cs_13) := by
 unfold print_writer_parts at hF
 intro M1 hM0 w0 H w p0
 replace hG := GL.mono hM0 hG
 replace hr_1 := RepSeq.mono hM0 _ _ hr_1
 replace h1 := Rep.mono hM0 _ _ h1
 replace q1 := fun j v h => hM0.cell (q1 j v h)
 replace q4_0 := fun j v h => hM0.cell (q4_0 j v h)
 replace h4_1_f := Rep.mono hM0 _ _ h4_1_f
 replace q4_1_f := fun j v h => hM0.cell (q4_1_f j v h)
 replace q4_1 := fun j v h => hM0.cell (q4_1 j v h)
 obtain ⟨A_3, cap_2, A_4, cap_3, rfl, h_1, h_2⟩ := TA0.opn h1
 obtain ⟨A_5, cap_4, A_6, cap_5, rfl, h_3, h_4⟩ := TA0.opn h4_1_f
 refine R_enter 71 Tryd.func52 rfl rfl (by simp) fun a0 f0 => RR (Y f0 4 fun _ f => ?_)
 obtain ⟨x_1, hx_1, hF_1⟩ := bS hF
 refine Y14 (E := [Ent.obj b0 (.cells #[.pointer A_1, .slice A_2 d0_1.length cap_1, .bool d0_2, .int .i64 d0_3] 50 (0, 0)), Ent.row 5 1 (.slice A_2 d0_1.length cap_1) d0_1.length cs_1]) (H := (H)) f p0 (strings_Builder_WriteByte_2_ok n _ hG b0 A_1 hb_1 d0_1 A_2 cap_1 cs_1 hr_1 (d0_2) d0_3 d2 x_1 hx_1) fun _ M_1 E_1 w_1 hM_1 p_1 q_1 _ f => ?_
 obtain ⟨A_7, A_8, cap_6, cs_2, rfl, rfl, hb_2, hr_2⟩ := q_1
 refine eT (RR (Y f 3 fun _ f => Z f (Y27 (v := .int .i64 x_1.2.2.2) rfl (ad := ⟨b0, 3, none⟩) (p_1.ownCell 0 rfl 3)) fun _ f => ?_))
 obtain ⟨g_1, hF_2⟩ := nS hF_1
 refine Y f 1 fun _ f => ?_
 have f := f.st 20 (congrArg (Value.int .i64) (inR_wrap g_1))
 refine Y f 2 fun _ f => Y23 f p_1 0 rfl rfl (b := b0) (j := 3) (v := .int .i64 (x_1.2.2.2 + 1)) rfl (by exact rfl) (by simp) (by simp) ((Ent.obj b0 (.cells #[.pointer A_7, .slice A_8 x_1.2.1.length cap_6, .bool x_1.2.2.1, .int .i64 (x_1.2.2.2 + 1)] 50 (0, 0))) :: (Ent.row 5 1 (.slice A_8 x_1.2.1.length cap_6) x_1.2.1.length cs_2) :: H) rfl fun w_2 p_2 _ f => eT (R_seq (RR (Y f 3 fun _ f => Y12 f p_2 (fzu hM_1 q1) 4 rfl fun _ f => Y f 2 fun _ f => eT (wp_block ?_))))
 have p_3 := p_2.pl [1]
 obtain ⟨b_1, hL_1, hF_3⟩ := bS hF_2
 refine wp_mono (Q := fun e a w => (e = .exit 0 ∧ (∃ y_2 : List UInt8 × Bool × Int, b_1 = y_2 ∧ ∃ M_8 : Mem, M_1.le M_8 ∧ ∃ (A_23 : Option Addr), ∃ (A_24 : Option Addr), ∃ (cap_15 : Nat), ∃ (cs_9 : List Value), (A_23 = none ∨ A_23 = some ⟨b0, 0, none⟩) ∧ RepSeq M_8 (y_2.1.map embB) cs_9 ∧ Frm 71 [(0, .pointer (some (⟨b0, 0, none⟩))), (1, .pointer (some ad1)), (3, .int .u8 d3)] a ∧ Hp w0 M_8 ((Ent.row 5 1 (.slice A_24 y_2.1.length cap_15) y_2.1.length cs_9) :: (Ent.obj b0 (.cells #[.pointer A_23, .slice A_24 y_2.1.length cap_15, .bool y_2.2.1, .int .i64 y_2.2.2] 50 (0, 0))) :: H) w))) (R_loop (n := 71) (w0 := w0) (M := M_1) (fun (x : Nat × (Int × List UInt8 × Bool × Int) × (Option Addr) × (Option Addr) × Nat × (List Value)) => match x with | (m_1, s_1, A_9, A_10, cap_7, cs_3) => [(0, .pointer (some (⟨b0, 0, none⟩))), (1, .pointer (some ad1)), (3, .int .u8 d3), (4, .func (.func 54) #[] #[.pointer (some ad4_0), .pointer (some ad4_1)]), (27, .int .i64 ((d1.fList.length : Nat) : Int)), (28, .int .i64 s_1.1)]) (fun (x : Nat × (Int × List UInt8 × Bool × Int) × (Option Addr) × (Option Addr) × Nat × (List Value)) => match x with | (m_1, s_1, A_9, A_10, cap_7, cs_3) => ((Ent.row 5 1 (.slice A_10 s_1.2.1.length cap_7) s_1.2.1.length cs_3) :: (Ent.obj b0 (.cells #[.pointer A_9, .slice A_10 s_1.2.1.length cap_7, .bool s_1.2.2.1, .int .i64 s_1.2.2.2] 50 (0, 0))) :: H)) (fun (x : Nat × (Int × List UInt8 × Bool × Int) × (Option Addr) × (Option Addr) × Nat × (List Value)) (MM : Mem) => match x with | (m_1, s_1, A_9, A_10, cap_7, cs_3) => loopF (print_writer_parts_s1 n rec_print_writer_value d1 d4_1_f) m_1 s_1 = some b_1 ∧ (A_9 = none ∨ A_9 = some ⟨b0, 0, none⟩) ∧ RepSeq MM (s_1.2.1.map embB) cs_3) (fun (x : Nat × (Int × List UInt8 × Bool × Int) × (Option Addr) × (Option Addr) × Nat × (List Value)) => match x with | (m_1, s_1, A_9, A_10, cap_7, cs_3) => m_1) (n, ((0 : Int), x_1.2.1, (x_1.2.2.1), x_1.2.2.2 + 1), A_7, A_8, cap_6, cs_2) (f.kp) p_3 ⟨hL_1, hb_2, hr_2⟩ ?_) ?_
 ·rintro ⟨m_1, s_1, A_9, A_10, cap_7, cs_3⟩ M_2 _ w_3 hM_2 I_1 f p_4
  obtain ⟨I_1L, hb_3, hr_3⟩ := I_1
  obtain ⟨m_2, r_1, rfl, hs_1, hn_1⟩ := loop_step I_1L
  unfold print_writer_parts_s1 at hs_1
  refine RR (Y f 1 fun _ f => eT (R_seq (RcF f hs_1 (fun h_5 hF_4 => ?_) fun h_5 hF_14 => ?_)))
  ·have k_1 := dI.1 h_5
   refine wp_skip (T_n (R_seq (wp_block (RR (Y f 2 fun _ f => eT (R_seq (RR (Y f 2 fun _ f => eT ?_))))))))
   obtain ⟨j_1, hj_1, hF_5⟩ := bS hF_4
   refine R_mid (fun a_17 w_5 => ∃ y_1 : List UInt8 × Bool × Int, j_1 = y_1 ∧ ∃ M_4 : Mem, M_2.le M_4 ∧ ∃ (A_13 : Option Addr), ∃ (A_14 : Option Addr), ∃ (cap_9 : Nat), ∃ (cs_5 : List Value), (A_13 = none ∨ A_13 = some ⟨b0, 0, none⟩) ∧ RepSeq M_4 (y_1.1.map embB) cs_5 ∧ Frm 71 [(0, .pointer (some (⟨b0, 0, none⟩))), (1, .pointer (some ad1)), (3, .int .u8 d3), (4, .func (.func 54) #[] #[.pointer (some ad4_0), .pointer (some ad4_1)]), (10, .int .i64 s_1.1), (27, .int .i64 ((d1.fList.length : Nat) : Int)), (28, .int .i64 s_1.1)] a_17 ∧ Hp w0 M_4 ((Ent.row 5 1 (.slice A_14 y_1.1.length cap_9) y_1.1.length cs_5) :: (Ent.obj b0 (.cells #[.pointer A_13, .slice A_14 y_1.1.length cap_9, .bool y_1.2.1, .int .i64 y_1.2.2] 50 (0, 0))) :: H) w_5) ?_ ?_
   ·refine RcF f hj_1 (fun h_6 hF_6 => ?_) fun h_6 hF_8 => ?_
    ·have k_2 := dI.1 h_6
     refine R_reg (Y f 3 fun _ f => ?_)
     obtain ⟨x_2, hx_2, hF_7⟩ := bS hF_6
     have p_6 := p_4.pl [1]
     refine Y14 (E := [Ent.obj b0 (.cells #[.pointer A_9, .slice A_10 s_1.2.1.length cap_7, .bool s_1.2.2.1, .int .i64 s_1.2.2.2] 50 (0, 0)), Ent.row 5 1 (.slice A_10 s_1.2.1.length cap_7) s_1.2.1.length cs_3]) (H := (H)) f p_6 (strings_Builder_WriteByte_2_ok n _ (GL.mono (hM_1.trans hM_2) hG) b0 A_9 hb_3 s_1.2.1 A_10 cap_7 cs_3 hr_3 (s_1.2.2.1) s_1.2.2.2 (44 : Int) x_2 hx_2) fun _ M_3 E_2 w_4 hM_3 p_5 q_2 _ f => ?_
     obtain ⟨A_11, A_12, cap_8, cs_4, rfl, rfl, hb_4, hr_4⟩ := q_2
     refine W_end rfl ?_
     have p_8 := p_5.pl [1]
     refine T_n ?_
     exact ⟨(x_2.2.1, (x_2.2.2.1), x_2.2.2.2), (sI hF_7).symm, M_3, hM_3, A_11, A_12, cap_8, cs_4, hb_4, hr_4, f.kp, p_8⟩
    ·have k_3 := iff_f dI h_6
     refine wp_skip (T_n ?_)
     exact ⟨(s_1.2.1, (s_1.2.2.1), s_1.2.2.2), (sI hF_8).symm, M_2, (mR _), A_9, A_10, cap_7, cs_3, hb_3, hr_3, f.kp, p_4⟩
   ·rintro a_17 w_5 ⟨y_1, hq_1, M_4, hM_4, A_13, A_14, cap_9, cs_5, hb_5, hr_5, f, p_7⟩
    subst j_1
    refine T_n (RR (Y f 1 fun _ f => ?_))
    obtain ⟨x_3, hx_3, hF_9⟩ := bS hF_5
    have p_10 := p_7.pl [1]
    refine Y14 (E := [Ent.obj b0 (.cells #[.pointer A_13, .slice A_14 y_1.1.length cap_9, .bool y_1.2.1, .int .i64 y_1.2.2] 50 (0, 0)), Ent.row 5 1 (.slice A_14 y_1.1.length cap_9) y_1.1.length cs_5]) (H := (H)) f p_10 (print_writer_line_ok n _ (GL.mono ((hM_1.trans hM_2).trans hM_4) hG) b0 A_13 hb_5 y_1.1 A_14 cap_9 cs_5 hr_5 (y_1.2.1) y_1.2.2 x_3 hx_3) fun _ M_5 E_3 w_6 hM_5 p_9 q_3 _ f => ?_
    obtain ⟨A_15, A_16, cap_10, cs_6, rfl, rfl, hb_6, hr_6⟩ := q_3
    refine eT (RR (Y f 2 fun _ f => ?_))
    obtain ⟨x_4, hx_4, hF_10⟩ := bS hF_9
    refine Y14 (E := [Ent.obj b0 (.cells #[.pointer A_15, .slice A_16 x_3.1.length cap_10, .bool x_3.2.1, .int .i64 x_3.2.2] 50 (0, 0)), Ent.row 5 1 (.slice A_16 x_3.1.length cap_10) x_3.1.length cs_6]) (H := (H)) f p_9 (print_writer_object_1_ok n _ (GL.mono (((hM_1.trans hM_2).trans hM_4).trans hM_5) hG) s_1.1 b0 A_15 hb_6 x_3.1 A_16 cap_10 cs_6 hr_6 (x_3.2.1) x_3.2.2 ad4_0 ((fzu (((hM_1.trans hM_2).trans hM_4).trans hM_5) q4_0)) ad4_1_f [.int .i8 d4_1_f.fKind, .bool d4_1_f.fBool, .int .i64 d4_1_f.fNum, S d4_1_f.fText, .slice A_5 d4_1_f.fList.length cap_4, .slice A_6 d4_1_f.fKeys.length cap_5] d4_1_f (TA0.shutx (x := d4_1_f) (h_3.mono (((hM_1.trans hM_2).trans hM_4).trans hM_5)) (h_4.mono (((hM_1.trans hM_2).trans hM_4).trans hM_5))) (fz_at ((fzu (((hM_1.trans hM_2).trans hM_4).trans hM_5) q4_1_f)) 0 rfl) ad4_1 ((fzu (((hM_1.trans hM_2).trans hM_4).trans hM_5) q4_1)) x_4 hx_4) fun _ M_6 E_4 w_7 hM_6 p_11 q_4 _ f => ?_
    obtain ⟨A_17, A_18, cap_11, cs_7, rfl, rfl, hb_7, hr_7⟩ := q_4
    refine eT (R_reg (Y f 4 fun _ f => Y12 f p_11 (fzu ((((hM_1.trans hM_2).trans hM_4).trans hM_5).trans hM_6) q1) 4 rfl fun _ f => Y f 1 fun _ f => ?_))
    obtain ⟨x_5, hx_5, hF_11⟩ := bS hF_10
    obtain ⟨ad_1, c_1, e_1, -, hr_8, hc_1⟩ := Sli.at_ (h_1.mono ((((hM_1.trans hM_2).trans hM_4).trans hM_5).trans hM_6)) hx_5
    obtain ⟨A_19, cap_12, A_20, cap_13, rfl, h_7, h_8⟩ := TA0.opn hr_8
    refine Z f (Y26 e_1 rfl (len := d1.fList.length) (cap := cap_2) (k := .i64) (i := s_1.1) (e := 26) (sz := 6) (getI_nn hx_5) (getI_lt hx_5)) fun _ f => ?_
    obtain ⟨x_6, hx_6, hF_12⟩ := bS hF_11
    refine Y14 (E := [Ent.obj b0 (.cells #[.pointer A_17, .slice A_18 x_4.1.length cap_11, .bool x_4.2.1, .int .i64 x_4.2.2] 50 (0, 0)), Ent.row 5 1 (.slice A_18 x_4.1.length cap_11) x_4.1.length cs_7]) (H := (H)) f p_11 (hrec_print_writer_value _ (GL.mono ((((hM_1.trans hM_2).trans hM_4).trans hM_5).trans hM_6) hG) b0 A_17 hb_7 x_4.1 A_18 cap_11 cs_7 hr_7 (x_4.2.1) x_4.2.2 (ad_1.add (s_1.1.toNat * 6)) [.int .i8 x_5.fKind, .bool x_5.fBool, .int .i64 x_5.fNum, S x_5.fText, .slice A_19 x_5.fList.length cap_12, .slice A_20 x_5.fKeys.length cap_13] x_5 (TA0.shutx (x := x_5) h_7 h_8) (fz_at (hc_1) 0 rfl) x_6 hx_6) fun _ M_7 E_5 w_8 hM_7 p_12 q_5 _ f => ?_
    obtain ⟨A_21, A_22, cap_14, cs_8, rfl, rfl, hb_8, hr_9⟩ := q_5
    refine W_end rfl (B_n (T_n (R_reg ?_)))
    obtain ⟨g_2, hF_13⟩ := nS hF_12
    refine Y f 1 fun _ f => ?_
    have f := f.st 50 (congrArg (Value.int .i64) (inR_wrap g_2))
    refine Y f 1 fun _ f => W_end rfl ?_
    have p_14 := p_12.pl [1]
    refine T_n ?_
    obtain rfl := sI hF_13
    exact ⟨⟨m_2, (s_1.1 + 1, x_6.1, (x_6.2.1), x_6.2.2), A_21, A_22, cap_14, cs_8⟩, Nat.lt_succ_self _, M_7, ((((hM_2.trans hM_4).trans hM_5).trans hM_6).trans hM_7), ⟨hn_1, hb_8, hr_9⟩, f.kp, p_14⟩
  ·have k_4 := iff_f dI h_5
   refine wp_exit (T_x (T_x ?_))
   obtain rfl := sI hF_14
   exact ⟨rfl, (s_1.2.1, (s_1.2.2.1), s_1.2.2.2), (sI hn_1).symm, M_2, hM_2, A_9, A_10, cap_7, cs_3, hb_3, hr_3, f.kp, p_4⟩
 ·rintro _ _ w_10 ⟨rfl, y_2, hq_, M_8, hM_8, A_23, A_24, cap_15, cs_9, hb_9, hr_10, f, p_13⟩
  subst b_1
  refine B_x (T_n (RR (Y f 3 fun _ f => Z f (Y27 (v := .int .i64 y_2.2.2) rfl (ad := ⟨b0, 3, none⟩) (p_13.ownCell 1 rfl 3)) fun _ f => ?_)))
  obtain ⟨g_3, hF_15⟩ := nS hF_3
  refine Y f 1 fun _ f => ?_
  have f := f.st 55 (congrArg (Value.int .i64) (inR_wrap g_3))
  refine Y f 2 fun _ f => Y23 f p_13 1 rfl rfl (b := b0) (j := 3) (v := .int .i64 (y_2.2.2 - 1)) rfl (by exact rfl) (by simp) (by simp) ((Ent.row 5 1 (.slice A_24 y_2.1.length cap_15) y_2.1.length cs_9) :: (Ent.obj b0 (.cells #[.pointer A_23, .slice A_24 y_2.1.length cap_15, .bool y_2.2.1, .int .i64 (y_2.2.2 - 1)] 50 (0, 0))) :: H) rfl fun w_11 p_15 _ f => eT (R_seq (RR (Y f 3 fun _ f => Y12 f p_15 (fzu (hM_1.trans hM_8) q1) 4 rfl fun _ f => Y f 2 fun _ f => eT ?_)))
  obtain ⟨j_2, hj_2, hF_16⟩ := bS hF_15
  refine R_mid (fun a_41 w_13 => ∃ y_3 : List UInt8 × Bool × Int, j_2 = y_3 ∧ ∃ M_10 : Mem, M_8.le M_10 ∧ ∃ (A_27 : Option Addr), ∃ (A_28 : Option Addr), ∃ (cap_17 : Nat), ∃ (cs_11 : List Value), (A_27 = none ∨ A_27 = some ⟨b0, 0, none⟩) ∧ RepSeq M_10 (y_3.1.map embB) cs_11 ∧ Frm 71 [(0, .pointer (some (⟨b0, 0, none⟩))), (3, .int .u8 d3)] a_41 ∧ Hp w0 M_10 ((Ent.row 5 1 (.slice A_28 y_3.1.length cap_17) y_3.1.length cs_11) :: (Ent.obj b0 (.cells #[.pointer A_27, .slice A_28 y_3.1.length cap_17, .bool y_3.2.1, .int .i64 y_3.2.2] 50 (0, 0))) :: H) w_13) ?_ ?_
  ·refine RcF f hj_2 (fun h_9 hF_17 => ?_) fun h_9 hF_19 => ?_
   ·have k_5 := dI.1 h_9
    refine R_reg (Y f 1 fun _ f => ?_)
    obtain ⟨x_7, hx_7, hF_18⟩ := bS hF_17
    have p_17 := p_15.pl [1]
    refine Y14 (E := [Ent.obj b0 (.cells #[.pointer A_23, .slice A_24 y_2.1.length cap_15, .bool y_2.2.1, .int .i64 (y_2.2.2 - 1)] 50 (0, 0)), Ent.row 5 1 (.slice A_24 y_2.1.length cap_15) y_2.1.length cs_9]) (H := (H)) f p_17 (print_writer_line_ok n _ (GL.mono (hM_1.trans hM_8) hG) b0 A_23 hb_9 y_2.1 A_24 cap_15 cs_9 hr_10 (y_2.2.1) (y_2.2.2 - 1) x_7 hx_7) fun _ M_9 E_6 w_12 hM_9 p_16 q_6 _ f => ?_
    obtain ⟨A_25, A_26, cap_16, cs_10, rfl, rfl, hb_10, hr_11⟩ := q_6
    refine W_end rfl ?_
    have p_19 := p_16.pl [1]
    refine T_n ?_
    exact ⟨(x_7.1, (x_7.2.1), x_7.2.2), (sI hF_18).symm, M_9, hM_9, A_25, A_26, cap_16, cs_10, hb_10, hr_11, f.kp, p_19⟩
   ·have k_6 := iff_f dI h_9
    refine wp_skip (T_n ?_)
    exact ⟨(y_2.1, (y_2.2.1), y_2.2.2 - 1), (sI hF_19).symm, M_8, (mR _), A_23, A_24, cap_15, cs_9, hb_9, hr_10, f.kp, p_15⟩
  ·rintro a_41 w_13 ⟨y_3, hq_2, M_10, hM_10, A_27, A_28, cap_17, cs_11, hb_11, hr_12, f, p_18⟩
   subst j_2
   refine T_n (R_reg (Y f 4 fun _ f => ?_))
   obtain ⟨x_8, hx_8, hF_20⟩ := bS hF_16
   have p_21 := p_18.pl [1]
   refine Y14 (E := [Ent.obj b0 (.cells #[.pointer A_27, .slice A_28 y_3.1.length cap_17, .bool y_3.2.1, .int .i64 y_3.2.2] 50 (0, 0)), Ent.row 5 1 (.slice A_28 y_3.1.length cap_17) y_3.1.length cs_11]) (H := (H)) f p_21 (strings_Builder_WriteByte_2_ok n _ (GL.mono ((hM_1.trans hM_8).trans hM_10) hG) b0 A_27 hb_11 y_3.1 A_28 cap_17 cs_11 hr_12 (y_3.2.1) y_3.2.2 d3 x_8 hx_8) fun _ M_11 E_7 w_14 hM_11 p_20 q_7 _ f => ?_
   obtain ⟨A_29, A_30, cap_18, cs_12, rfl, rfl, hb_12, hr_13⟩ := q_7
   refine W_end rfl (E_end0 f rfl  ?_)
   obtain rfl := sI hF_20
   exact ⟨_, rfl, M_11, _, (((hM_1.trans hM_8).trans hM_10).trans hM_11), p_20, ⟨A_29, A_30, cap_18, cs_12, rfl, rfl, hb_12, hr_13⟩⟩
def print_writer_object (n : Nat) (rec_print_writer_value : (List UInt8) → Bool → Int → TA0 → Option (List UInt8 × Bool × Int)) (d0_1 : List UInt8) (d0_2 : Bool) (d0_3 : Int) (d1 : TA0) : Option (List UInt8 × Bool × Int) :=
  (print_writer_parts n rec_print_writer_value d0_1 (d0_2) d0_3 d1 (123 : Int) (125 : Int) d1).bind fun x_1 =>
  some ((x_1.1, (x_1.2.1), x_1.2.2))
theorem print_writer_object_ok (n : Nat) (rec_print_writer_value : (List UInt8) → Bool → Int → TA0 → Option (List UInt8 × Bool × Int)) (hrec_print_writer_value : ∀ (M : Mem) (hG : GL M) (b0 : Nat) (A_1 : Option Addr) (hb_1 : (A_1 = none ∨ A_1 = some ⟨b0, 0, none⟩)) (d0_1 : List UInt8) (A_2 : Option Addr) (cap_1 : Nat) (cs_1 : List Value) (hr_1 : RepSeq M (d0_1.map embB) cs_1) (d0_2 : Bool) (d0_3 : Int) (ad1 : Addr) (c1 : List Value) (d1 : TA0) (h1 : Rep M (emb_TA0 d1) c1) (q1 : ∀ j v, c1[j]? = some v → M.cell? (ad1.add j) = some v) (r : List UInt8 × Bool × Int) (hF : rec_print_writer_value d0_1 d0_2 d0_3 d1 = some r), OkH Tryd.prog M [Ent.obj b0 (.cells #[.pointer A_1, .slice A_2 d0_1.length cap_1, .bool d0_2, .int .i64 d0_3] 50 (0, 0)), Ent.row 5 1 (.slice A_2 d0_1.length cap_1) d0_1.length cs_1] 23 [.pointer (some (⟨b0, 0, none⟩)), .pointer (some ad1)] (fun M' E' v => ∃ (A_3 : Option Addr) (A_4 : Option Addr) (cap_2 : Nat) (cs_2 : List Value), v = .tuple #[] ∧ E' = [Ent.obj b0 (.cells #[.pointer A_3, .slice A_4 r.1.length cap_2, .bool r.2.1, .int .i64 r.2.2] 50 (0, 0)), Ent.row 5 1 (.slice A_4 r.1.length cap_2) r.1.length cs_2] ∧ (A_3 = none ∨ A_3 = some ⟨b0, 0, none⟩) ∧ RepSeq M' (r.1.map embB) cs_2)) (M : Mem) (hG : GL M) (b0 : Nat) (A_1 : Option Addr) (hb_1 : (A_1 = none ∨ A_1 = some ⟨b0, 0, none⟩)) (d0_1 : List UInt8) (A_2 : Option Addr) (cap_1 : Nat) (cs_1 : List Value) (hr_1 : RepSeq M (d0_1.map embB) cs_1) (d0_2 : Bool) (d0_3 : Int) (ad1 : Addr) (c1 : List Value) (d1 : TA0) (h1 : Rep M (emb_TA0 d1) c1) (q1 : ∀ j v, c1[j]? = some v → M.cell? (ad1.add j) = some v) (r : List UInt8 × Bool × Int) (hF : print_writer_object n rec_print_writer_value d0_1 d0_2 d0_3 d1 = some r) : OkH Tryd.prog M [Ent.obj b0 (.cells #[.pointer A_1, .slice A_2 d0_1.length cap_1, .bool d0_2, .int .i64 d0_3] 50 (0, 0)), Ent.row 5 1 (.slice A_2 d0_1.length cap_1) d0_1.length cs_1] 38 [.pointer (some (⟨b0, 0, none⟩)), .pointer (some ad1)] (fun M' E' v => ∃ (A_7 : Option Addr) (A_8 : Option Addr) (cap_5 : Nat) (cs_3 : List Value), v = .tuple #[] ∧ E' = [Ent.obj b0 (.cells #[.pointer A_7, .slice A_8 r.1.length cap_5, .bool r.2.1, .int .i64 r.2.2] 50 (0, 0)), Ent.row 5 1 (.slice A_8 r.1.length cap_5) r.1.length cs_3] ∧ (A_7 = none ∨ A_7 = some ⟨b0, 0, none⟩) ∧ RepSeq M' (r.1.map embB) cs_3) := by
 unfold print_writer_object at hF
 intro M1 hM0 w0 H w p0
 replace hG := GL.mono hM0 hG
 replace hr_1 := RepSeq.mono hM0 _ _ hr_1
 replace h1 := Rep.mono hM0 _ _ h1
 replace q1 := fun j v h => hM0.cell (q1 j v h)
 obtain ⟨A_3, cap_2, A_4, cap_3, rfl, h_1, h_2⟩ := TA0.opn h1
 refine R_enter 8 Tryd.func38 rfl rfl (by simp) fun a0 f0 => RR (Y10 (cs := #[.pointer (some (⟨b0, 0, none⟩))]) (T := 45) f0 p0 fun b_1 M_1 w_1 hM_1 hc_1 p_1 _ f => ?_)
 have hc_2 := fz_box hc_1
 refine Y10 (cs := #[.pointer (some ad1)]) (T := 44) f p_1 fun b_2 M_2 w_2 hM_2 hc_3 p_2 _ f => ?_
 have hc_4 := fz_box hc_3
 refine eT (R_reg (Y12 f p_2 (fzu hM_2 hc_2) 0 rfl fun _ f => Y12 f p_2 hc_4 0 rfl fun _ f => Y f 1 fun _ f => ?_))
 obtain ⟨x_1, hx_1, hF_1⟩ := bS hF
 refine Y14 (E := [Ent.obj b0 (.cells #[.pointer A_1, .slice A_2 d0_1.length cap_1, .bool d0_2, .int .i64 d0_3] 50 (0, 0)), Ent.row 5 1 (.slice A_2 d0_1.length cap_1) d0_1.length cs_1]) (H := (H)) f p_2 (print_writer_parts_ok n rec_print_writer_value hrec_print_writer_value _ (GL.mono (hM_1.trans hM_2) hG) b0 A_1 hb_1 d0_1 A_2 cap_1 cs_1 (RepSeq.mono (hM_1.trans hM_2) _ _ hr_1) (d0_2) d0_3 ad1 [.int .i8 d1.fKind, .bool d1.fBool, .int .i64 d1.fNum, S d1.fText, .slice A_3 d1.fList.length cap_2, .slice A_4 d1.fKeys.length cap_3] d1 (TA0.shutx (x := d1) (h_1.mono (hM_1.trans hM_2)) (h_2.mono (hM_1.trans hM_2))) (fz_at ((fzu (hM_1.trans hM_2) q1)) 0 rfl) (123 : Int) (125 : Int) (⟨b_1, 0, none⟩) ((fzu hM_2 hc_2)) ad1 [.int .i8 d1.fKind, .bool d1.fBool, .int .i64 d1.fNum, S d1.fText, .slice A_3 d1.fList.length cap_2, .slice A_4 d1.fKeys.length cap_3] d1 (TA0.shutx (x := d1) (h_1.mono (hM_1.trans hM_2)) (h_2.mono (hM_1.trans hM_2))) (fz_at ((fzu (hM_1.trans hM_2) q1)) 0 rfl) (⟨b_2, 0, none⟩) (hc_4) x_1 hx_1) fun _ M_3 E_1 w_3 hM_3 p_3 q_1 _ f => ?_
 obtain ⟨A_5, A_6, cap_4, cs_2, rfl, rfl, hb_2, hr_2⟩ := q_1
 refine W_end rfl (E_end0 f rfl  ?_)
 obtain rfl := sI hF_1
 exact ⟨_, rfl, M_3, _, ((hM_1.trans hM_2).trans hM_3), p_3, ⟨A_5, A_6, cap_4, cs_2, rfl, rfl, hb_2, hr_2⟩⟩
def print_writer_value_b (n : Nat) (rec_print_writer_value : (List UInt8) → Bool → Int → TA0 → Option (List UInt8 × Bool × Int)) (d0_1 : List UInt8) (d0_2 : Bool) (d0_3 : Int) (d1 : TA0) : Option (List UInt8 × Bool × Int) :=
  need (0 ≤ d1.fKind ∧ d1.fKind < 6) <|
  bif (decide (d1.fKind = 0)) then
    ((print_writer_null n d0_1 (d0_2) d0_3 d1).bind fun x_1 =>
    some ((x_1.1, (x_1.2.1), x_1.2.2)))
  else
    bif (decide (d1.fKind = 1)) then
      ((print_writer_bool n d0_1 (d0_2) d0_3 d1).bind fun x_2 =>
      some ((x_2.1, (x_2.2.1), x_2.2.2)))
    else
      bif (decide (d1.fKind = 2)) then
        ((print_writer_number n d0_1 (d0_2) d0_3 d1).bind fun x_3 =>
        some ((x_3.1, (x_3.2.1), x_3.2.2)))
      else
        bif (decide (d1.fKind = 3)) then
          ((print_writer_text n d0_1 (d0_2) d0_3 d1).bind fun x_4 =>
          some ((x_4.1, (x_4.2.1), x_4.2.2)))
        else
          bif (decide (d1.fKind = 4)) then
            ((print_writer_list_2 n rec_print_writer_value d0_1 (d0_2) d0_3 d1).bind fun x_5 =>
            some ((x_5.1, (x_5.2.1), x_5.2.2)))
          else
            (print_writer_object n rec_print_writer_value d0_1 (d0_2) d0_3 d1).bind fun x_6 =>
            some ((x_6.1, (x_6.2.1), x_6.2.2))
theorem print_writer_value_b_ok (n : Nat) (rec_print_writer_value : (List UInt8) → Bool → Int → TA0 → Option (List UInt8 × Bool × Int)) (hrec_print_writer_value : ∀ (M : Mem) (hG : GL M) (b0 : Nat) (A_1 : Option Addr) (hb_1 : (A_1 = none ∨ A_1 = some ⟨b0, 0, none⟩)) (d0_1 : List UInt8) (A_2 : Option Addr) (cap_1 : Nat) (cs_1 : List Value) (hr_1 : RepSeq M (d0_1.map embB) cs_1) (d0_2 : Bool) (d0_3 : Int) (ad1 : Addr) (c1 : List Value) (d1 : TA0) (h1 : Rep M (emb_TA0 d1) c1) (q1 : ∀ j v, c1[j]? = some v → M.cell? (ad1.add j) = some v) (r : List UInt8 × Bool × Int) (hF : rec_print_writer_value d0_1 d0_2 d0_3 d1 = some r), OkH Tryd.prog M [Ent.obj b0 (.cells #[.pointer A_1, .slice A_2 d0_1.length cap_1, .bool d0_2, .int .i64 d0_3] 50 (0, 0)), Ent.row 5 1 (.slice A_2 d0_1.length cap_1) d0_1.length cs_1] 23 [.pointer (some (⟨b0, 0, none⟩)), .pointer (some ad1)] (fun M' E' v => ∃ (A_3 : Option Addr) (A_4 : Option Addr) (cap_2 : Nat) (cs_2 : List Value), v = .tuple #[] ∧ E' = [Ent.obj b0 (.cells #[.pointer A_3, .slice A_4 r.1.length cap_2, .bool r.2.1, .int .i64 r.2.2] 50 (0, 0)), Ent.row 5 1 (.slice A_4 r.1.length cap_2) r.1.length cs_2] ∧ (A_3 = none ∨ A_3 = some ⟨b0, 0, none⟩) ∧ RepSeq M' (r.1.map embB) cs_2)) (M : Mem) (hG : GL M) (b0 : Nat) (A_1 : Option Addr) (hb_1 : (A_1 = none ∨ A_1 = some ⟨b0, 0, none⟩)) (d0_1 : List UInt8) (A_2 : Option Addr) (cap_1 : Nat) (cs_1 : List Value) (hr_1 : RepSeq M (d0_1.map embB) cs_1) (d0_2 : Bool) (d0_3 : Int) (ad1 : Addr) (c1 : List Value) (d1 : TA0) (h1 : Rep M (emb_TA0 d1) c1) (q1 : ∀ j v, c1[j]? = some v → M.cell? (ad1.add j) = some v) (r : List UInt8 × Bool × Int) (hF : print_writer_value_b n rec_print_writer_value d0_1 d0_2 d0_3 d1 = some r) : OkH Tryd.prog M [Ent.obj b0 (.cells #[.pointer A_1, .slice A_2 d0_1.length cap_1, .bool d0_2, .int .i64 d0_3] 50 (0, 0)), Ent.row 5 1 (.slice A_2 d0_1.length cap_1) d0_1.length cs_1] 23 [.pointer (some (⟨b0, 0, none⟩)), .pointer (some ad1)] (fun M' E' v => ∃ (A_19 : Option Addr) (A_20 : Option Addr) (cap_11 : Nat) (cs_9 : List Value), v = .tuple #[] ∧ E' = [Ent.obj b0 (.cells #[.pointer A_19, .slice A_20 r.1.length cap_11, .bool r.2.1, .int .i64 r.2.2] 50 (0, 0)), Ent.row 5 1 (.slice A_20 r.1.length cap_11) r.1.length cs_9] ∧ (A_19 = none ∨ A_19 = some ⟨b0, 0, none⟩) ∧ RepSeq M' (r.1.map embB) cs_9) := by
 unfold print_writer_value_b at hF
 intro M1 hM0 w0 H w p0
 replace hG := GL.mono hM0 hG
 replace hr_1 := RepSeq.mono hM0 _ _ hr_1
 replace h1 := Rep.mono hM0 _ _ h1
 replace q1 := fun j v h => hM0.cell (q1 j v h)
 obtain ⟨A_5, cap_3, A_6, cap_4, rfl, h_1, h_2⟩ := TA0.opn h1
 refine R_enter 13 Tryd.func23 rfl rfl (by simp) fun a0 f0 => R_reg (Y f0 4 fun _ f => Y12 f p0 q1 0 rfl fun _ f => ?_)
 obtain ⟨g_1, hF_1⟩ := nS hF
 rcases cE hF_1 with ⟨h_3, hF_2⟩ | ⟨h_3, hF_4⟩
 ·have e_1 : d1.fKind = 0 := of_decide_eq_true h_3
  have f := Frm.set f 8 (v := .int .i8 d1.fKind) (v' := .int .i8 0) (by kernel_rfl) (congrArg (Value.int .i8) e_1)
  refine Y f 1 fun _ f => Y f 2 fun _ f => ?_
  obtain ⟨x_1, hx_1, hF_3⟩ := bS hF_2
  refine Y14 (E := [Ent.obj b0 (.cells #[.pointer A_1, .slice A_2 d0_1.length cap_1, .bool d0_2, .int .i64 d0_3] 50 (0, 0)), Ent.row 5 1 (.slice A_2 d0_1.length cap_1) d0_1.length cs_1]) (H := (H)) f p0 (print_writer_null_ok n _ hG b0 A_1 hb_1 d0_1 A_2 cap_1 cs_1 hr_1 (d0_2) d0_3 ad1 [.int .i8 d1.fKind, .bool d1.fBool, .int .i64 d1.fNum, S d1.fText, .slice A_5 d1.fList.length cap_3, .slice A_6 d1.fKeys.length cap_4] d1 (TA0.shutx (x := d1) h_1 h_2) (fz_at (q1) 0 rfl) x_1 hx_1) fun _ M_1 E_1 w_1 hM_1 p_1 q_1 _ f => ?_
  obtain ⟨A_7, A_8, cap_5, cs_3, rfl, rfl, hb_3, hr_3⟩ := q_1
  refine W_end rfl (E_end0 f rfl  ?_)
  obtain rfl := sI hF_3
  exact ⟨_, rfl, M_1, _, hM_1, p_1, ⟨A_7, A_8, cap_5, cs_3, rfl, rfl, hb_3, hr_3⟩⟩
 ·have e_2 : ¬ (d1.fKind = 0) := of_decide_eq_false h_3
  rcases cE hF_4 with ⟨h_4, hF_5⟩ | ⟨h_4, hF_7⟩
  ·have e_3 : d1.fKind = 1 := of_decide_eq_true h_4
   have f := Frm.set f 8 (v := .int .i8 d1.fKind) (v' := .int .i8 1) (by kernel_rfl) (congrArg (Value.int .i8) e_3)
   refine Y f 1 fun _ f => Y f 2 fun _ f => ?_
   obtain ⟨x_2, hx_2, hF_6⟩ := bS hF_5
   refine Y14 (E := [Ent.obj b0 (.cells #[.pointer A_1, .slice A_2 d0_1.length cap_1, .bool d0_2, .int .i64 d0_3] 50 (0, 0)), Ent.row 5 1 (.slice A_2 d0_1.length cap_1) d0_1.length cs_1]) (H := (H)) f p0 (print_writer_bool_ok n _ hG b0 A_1 hb_1 d0_1 A_2 cap_1 cs_1 hr_1 (d0_2) d0_3 ad1 [.int .i8 d1.fKind, .bool d1.fBool, .int .i64 d1.fNum, S d1.fText, .slice A_5 d1.fList.length cap_3, .slice A_6 d1.fKeys.length cap_4] d1 (TA0.shutx (x := d1) h_1 h_2) (fz_at (q1) 0 rfl) x_2 hx_2) fun _ M_2 E_2 w_2 hM_2 p_2 q_2 _ f => ?_
   obtain ⟨A_9, A_10, cap_6, cs_4, rfl, rfl, hb_4, hr_4⟩ := q_2
   refine W_end rfl (E_end0 f rfl  ?_)
   obtain rfl := sI hF_6
   exact ⟨_, rfl, M_2, _, hM_2, p_2, ⟨A_9, A_10, cap_6, cs_4, rfl, rfl, hb_4, hr_4⟩⟩
  ·have e_4 : ¬ (d1.fKind = 1) := of_decide_eq_false h_4
   rcases cE hF_7 with ⟨h_5, hF_8⟩ | ⟨h_5, hF_10⟩
   ·have e_5 : d1.fKind = 2 := of_decide_eq_true h_5
    have f := Frm.set f 8 (v := .int .i8 d1.fKind) (v' := .int .i8 2) (by kernel_rfl) (congrArg (Value.int .i8) e_5)
    refine Y f 1 fun _ f => Y f 2 fun _ f => ?_
    obtain ⟨x_3, hx_3, hF_9⟩ := bS hF_8
    refine Y14 (E := [Ent.obj b0 (.cells #[.pointer A_1, .slice A_2 d0_1.length cap_1, .bool d0_2, .int .i64 d0_3] 50 (0, 0)), Ent.row 5 1 (.slice A_2 d0_1.length cap_1) d0_1.length cs_1]) (H := (H)) f p0 (print_writer_number_ok n _ hG b0 A_1 hb_1 d0_1 A_2 cap_1 cs_1 hr_1 (d0_2) d0_3 ad1 [.int .i8 d1.fKind, .bool d1.fBool, .int .i64 d1.fNum, S d1.fText, .slice A_5 d1.fList.length cap_3, .slice A_6 d1.fKeys.length cap_4] d1 (TA0.shutx (x := d1) h_1 h_2) (fz_at (q1) 0 rfl) x_3 hx_3) fun _ M_3 E_3 w_3 hM_3 p_3 q_3 _ f => ?_
    obtain ⟨A_11, A_12, cap_7, cs_5, rfl, rfl, hb_5, hr_5⟩ := q_3
    refine W_end rfl (E_end0 f rfl  ?_)
    obtain rfl := sI hF_9
    exact ⟨_, rfl, M_3, _, hM_3, p_3, ⟨A_11, A_12, cap_7, cs_5, rfl, rfl, hb_5, hr_5⟩⟩
   ·have e_6 : ¬ (d1.fKind = 2) := of_decide_eq_false h_5
    rcases cE hF_10 with ⟨h_6, hF_11⟩ | ⟨h_6, hF_13⟩
    ·have e_7 : d1.fKind = 3 := of_decide_eq_true h_6
     have f := Frm.set f 8 (v := .int .i8 d1.fKind) (v' := .int .i8 3) (by kernel_rfl) (congrArg (Value.int .i8) e_7)
     refine Y f 1 fun _ f => Y f 2 fun _ f => ?_
     obtain ⟨x_4, hx_4, hF_12⟩ := bS hF_11
     refine Y14 (E := [Ent.obj b0 (.cells #[.pointer A_1, .slice A_2 d0_1.length cap_1, .bool d0_2, .int .i64 d0_3] 50 (0, 0)), Ent.row 5 1 (.slice A_2 d0_1.length cap_1) d0_1.length cs_1]) (H := (H)) f p0 (print_writer_text_ok n _ hG b0 A_1 hb_1 d0_1 A_2 cap_1 cs_1 hr_1 (d0_2) d0_3 ad1 [.int .i8 d1.fKind, .bool d1.fBool, .int .i64 d1.fNum, S d1.fText, .slice A_5 d1.fList.length cap_3, .slice A_6 d1.fKeys.length cap_4] d1 (TA0.shutx (x := d1) h_1 h_2) (fz_at (q1) 0 rfl) x_4 hx_4) fun _ M_4 E_4 w_4 hM_4 p_4 q_4 _ f => ?_
     obtain ⟨A_13, A_14, cap_8, cs_6, rfl, rfl, hb_6, hr_6⟩ := q_4
     refine W_end rfl (E_end0 f rfl  ?_)
     obtain rfl := sI hF_12
     exact ⟨_, rfl, M_4, _, hM_4, p_4, ⟨A_13, A_14, cap_8, cs_6, rfl, rfl, hb_6, hr_6⟩⟩
    ·have e_8 : ¬ (d1.fKind = 3) := of_decide_eq_false h_6
     rcases cE hF_13 with ⟨h_7, hF_14⟩ | ⟨h_7, hF_16⟩
     ·have e_9 : d1.fKind = 4 := of_decide_eq_true h_7
      have f := Frm.set f 8 (v := .int .i8 d1.fKind) (v' := .int .i8 4) (by kernel_rfl) (congrArg (Value.int .i8) e_9)
      refine Y f 1 fun _ f => Y f 2 fun _ f => ?_
      obtain ⟨x_5, hx_5, hF_15⟩ := bS hF_14
      refine Y14 (E := [Ent.obj b0 (.cells #[.pointer A_1, .slice A_2 d0_1.length cap_1, .bool d0_2, .int .i64 d0_3] 50 (0, 0)), Ent.row 5 1 (.slice A_2 d0_1.length cap_1) d0_1.length cs_1]) (H := (H)) f p0 (print_writer_list_2_ok n rec_print_writer_value hrec_print_writer_value _ hG b0 A_1 hb_1 d0_1 A_2 cap_1 cs_1 hr_1 (d0_2) d0_3 ad1 [.int .i8 d1.fKind, .bool d1.fBool, .int .i64 d1.fNum, S d1.fText, .slice A_5 d1.fList.length cap_3, .slice A_6 d1.fKeys.length cap_4] d1 (TA0.shutx (x := d1) h_1 h_2) (fz_at (q1) 0 rfl) x_5 hx_5) fun _ M_5 E_5 w_5 hM_5 p_5 q_5 _ f => ?_
      obtain ⟨A_15, A_16, cap_9, cs_7, rfl, rfl, hb_7, hr_7⟩ := q_5
      refine W_end rfl (E_end0 f rfl  ?_)
      obtain rfl := sI hF_15
      exact ⟨_, rfl, M_5, _, hM_5, p_5, ⟨A_15, A_16, cap_9, cs_7, rfl, rfl, hb_7, hr_7⟩⟩
     ·have e_10 : ¬ (d1.fKind = 4) := of_decide_eq_false h_7
      have e_11 : d1.fKind = 5 := by omega
      have f := Frm.set f 8 (v := .int .i8 d1.fKind) (v' := .int .i8 5) (by kernel_rfl) (congrArg (Value.int .i8) e_11)
      refine Y f 1 fun _ f => Y f 2 fun _ f => ?_
      obtain ⟨x_6, hx_6, hF_17⟩ := bS hF_16
      refine Y14 (E := [Ent.obj b0 (.cells #[.pointer A_1, .slice A_2 d0_1.length cap_1, .bool d0_2, .int .i64 d0_3] 50 (0, 0)), Ent.row 5 1 (.slice A_2 d0_1.length cap_1) d0_1.length cs_1]) (H := (H)) f p0 (print_writer_object_ok n rec_print_writer_value hrec_print_writer_value _ hG b0 A_1 hb_1 d0_1 A_2 cap_1 cs_1 hr_1 (d0_2) d0_3 ad1 [.int .i8 d1.fKind, .bool d1.fBool, .int .i64 d1.fNum, S d1.fText, .slice A_5 d1.fList.length cap_3, .slice A_6 d1.fKeys.length cap_4] d1 (TA0.shutx (x := d1) h_1 h_2) (fz_at (q1) 0 rfl) x_6 hx_6) fun _ M_6 E_6 w_6 hM_6 p_6 q_6 _ f => ?_
      obtain ⟨A_17, A_18, cap_10, cs_8, rfl, rfl, hb_8, hr_8⟩ := q_6
      refine W_end rfl (E_end0 f rfl  ?_)
      obtain rfl := sI hF_17
      exact ⟨_, rfl, M_6, _, hM_6, p_6, ⟨A_17, A_18, cap_10, cs_8, rfl, rfl, hb_8, hr_8⟩⟩
def print_writer_value_k (n : Nat) : Nat → (List UInt8) → Bool → Int → TA0 → Option (List UInt8 × Bool × Int)
  | 0 => fun _ _ _ _ => none
  | k + 1 => print_writer_value_b n (print_writer_value_k n k)
def print_writer_value (n : Nat) (d0_1 : List UInt8) (d0_2 : Bool) (d0_3 : Int) (d1 : TA0) : Option (List UInt8 × Bool × Int) := print_writer_value_k n n d0_1 d0_2 d0_3 d1
theorem print_writer_value_ok (n : Nat) (M : Mem) (hG : GL M) (b0 : Nat) (A_1 : Option Addr) (hb_1 : (A_1 = none ∨ A_1 = some ⟨b0, 0, none⟩)) (d0_1 : List UInt8) (A_2 : Option Addr) (cap_1 : Nat) (cs_1 : List Value) (hr_1 : RepSeq M (d0_1.map embB) cs_1) (d0_2 : Bool) (d0_3 : Int) (ad1 : Addr) (c1 : List Value) (d1 : TA0) (h1 : Rep M (emb_TA0 d1) c1) (q1 : ∀ j v, c1[j]? = some v → M.cell? (ad1.add j) = some v) (r : List UInt8 × Bool × Int) (hF : print_writer_value n d0_1 d0_2 d0_3 d1 = some r) : OkH Tryd.prog M [Ent.obj b0 (.cells #[.pointer A_1, .slice A_2 d0_1.length cap_1, .bool d0_2, .int .i64 d0_3] 50 (0, 0)), Ent.row 5 1 (.slice A_2 d0_1.length cap_1) d0_1.length cs_1] 23 [.pointer (some (⟨b0, 0, none⟩)), .pointer (some ad1)] (fun M' E' v => ∃ (A_19 : Option Addr) (A_20 : Option Addr) (cap_11 : Nat) (cs_9 : List Value), v = .tuple #[] ∧ E' = [Ent.obj b0 (.cells #[.pointer A_19, .slice A_20 r.1.length cap_11, .bool r.2.1, .int .i64 r.2.2] 50 (0, 0)), Ent.row 5 1 (.slice A_20 r.1.length cap_11) r.1.length cs_9] ∧ (A_19 = none ∨ A_19 = some ⟨b0, 0, none⟩) ∧ RepSeq M' (r.1.map embB) cs_9) := by
 have key : ∀ (k : Nat) (M : Mem) (hG : GL M) (b0 : Nat) (A_1 : Option Addr) (hb_1 : (A_1 = none ∨ A_1 = some ⟨b0, 0, none⟩)) (d0_1 : List UInt8) (A_2 : Option Addr) (cap_1 : Nat) (cs_1 : List Value) (hr_1 : RepSeq M (d0_1.map embB) cs_1) (d0_2 : Bool) (d0_3 : Int) (ad1 : Addr) (c1 : List Value) (d1 : TA0) (h1 : Rep M (emb_TA0 d1) c1) (q1 : ∀ j v, c1[j]? = some v → M.cell? (ad1.add j) = some v) (r : List UInt8 × Bool × Int) (hF : print_writer_value_k n k d0_1 d0_2 d0_3 d1 = some r), OkH Tryd.prog M [Ent.obj b0 (.cells #[.pointer A_1, .slice A_2 d0_1.length cap_1, .bool d0_2, .int .i64 d0_3] 50 (0, 0)), Ent.row 5 1 (.slice A_2 d0_1.length cap_1) d0_1.length cs_1] 23 [.pointer (some (⟨b0, 0, none⟩)), .pointer (some ad1)] (fun M' E' v => ∃ (A_19 : Option Addr) (A_20 : Option Addr) (cap_11 : Nat) (cs_9 : List Value), v = .tuple #[] ∧ E' = [Ent.obj b0 (.cells #[.pointer A_19, .slice A_20 r.1.length cap_11, .bool r.2.1, .int .i64 r.2.2] 50 (0, 0)), Ent.row 5 1 (.slice A_20 r.1.length cap_11) r.1.length cs_9] ∧ (A_19 = none ∨ A_19 = some ⟨b0, 0, none⟩) ∧ RepSeq M' (r.1.map embB) cs_9) := by
  intro k
  induction k with
  | zero => intro M hG b0 A_1 hb_1 d0_1 A_2 cap_1 cs_1 hr_1 d0_2 d0_3 ad1 c1 d1 h1 q1 r hF; simp [print_writer_value_k] at hF
  | succ k ih => intro M hG b0 A_1 hb_1 d0_1 A_2 cap_1 cs_1 hr_1 d0_2 d0_3 ad1 c1 d1 h1 q1 r hF; exact print_writer_value_b_ok n (print_writer_value_k n k) ih M hG b0 A_1 hb_1 d0_1 A_2 cap_1 cs_1 hr_1 d0_2 d0_3 ad1 c1 d1 h1 q1 r hF
 exact key n M hG b0 A_1 hb_1 d0_1 A_2 cap_1 cs_1 hr_1 d0_2 d0_3 ad1 c1 d1 h1 q1 r hF
def strings_Builder_Len (n : Nat) (d0_1 : List UInt8) (d0_2 : Bool) (d0_3 : Int) : Option (Int × List UInt8 × Bool × Int) :=
  some ((((d0_1.length : Nat) : Int), d0_1, (d0_2), d0_3))
theorem strings_Builder_Len_ok (n : Nat) (M : Mem) (hG : GL M) (b0 : Nat) (A_1 : Option Addr) (hb_1 : (A_1 = none ∨ A_1 = some ⟨b0, 0, none⟩)) (d0_1 : List UInt8) (A_2 : Option Addr) (cap_1 : Nat) (cs_1 : List Value) (hr_1 : RepSeq M (d0_1.map embB) cs_1) (d0_2 : Bool) (d0_3 : Int) (r : Int × List UInt8 × Bool × Int) (hF : strings_Builder_Len n d0_1 d0_2 d0_3 = some r) : OkH Tryd.prog M [Ent.obj b0 (.cells #[.pointer A_1, .slice A_2 d0_1.length cap_1, .bool d0_2, .int .i64 d0_3] 50 (0, 0)), Ent.row 5 1 (.slice A_2 d0_1.length cap_1) d0_1.length cs_1] 24 [.pointer (some (⟨b0, 0, none⟩))] (fun M' E' v => ∃ (A_3 : Option Addr) (A_4 : Option Addr) (cap_2 : Nat) (cs_2 : List Value), v = .int .i64 r.1 ∧ E' = [Ent.obj b0 (.cells #[.pointer A_3, .slice A_4 r.2.1.length cap_2, .bool r.2.2.1, .int .i64 r.2.2.2] 50 (0, 0)), Ent.row 5 1 (.slice A_4 r.2.1.length cap_2) r.2.1.length cs_2] ∧ (A_3 = none ∨ A_3 = some ⟨b0, 0, none⟩) ∧ RepSeq M' (r.2.1.map embB) cs_2) := by
 unfold strings_Builder_Len at hF
 intro M1 hM0 w0 H w p0
 replace hG := GL.mono hM0 hG
 replace hr_1 := RepSeq.mono hM0 _ _ hr_1
 refine R_enter 8 Tryd.func24 rfl rfl (by simp) fun a0 f0 => RR (Y f0 1 fun _ f => eT (RR (Y f 3 fun _ f => Z f (Y27 (v := .slice A_2 d0_1.length cap_1) rfl (ad := ⟨b0, 1, none⟩) (p0.ownCell 0 rfl 1)) fun _ f => Y f 2 fun _ f => eT (wp_ret (E_ret1 f rfl (by kernel_rfl : Vc.look _ 2 = some (.int .i64 ((d0_1.length : Nat) : Int))) ?_)))))
 obtain rfl := sI hF
 exact ⟨_, rfl, M1, _, (mR _), p0, ⟨A_1, A_2, cap_1, cs_1, rfl, rfl, hb_1, hr_1⟩⟩
def strings_Builder_String_2 (n : Nat) (d0_1 : List UInt8) (d0_2 : Bool) (d0_3 : Int) : Option (List UInt8 × List UInt8 × Bool × Int) :=
  some ((d0_1, d0_1, (d0_2), d0_3))
theorem strings_Builder_String_2_ok (n : Nat) (M : Mem) (hG : GL M) (b0 : Nat) (A_1 : Option Addr) (hb_1 : (A_1 = none ∨ A_1 = some ⟨b0, 0, none⟩)) (d0_1 : List UInt8) (A_2 : Option Addr) (cap_1 : Nat) (cs_1 : List Value) (hr_1 : RepSeq M (d0_1.map embB) cs_1) (d0_2 : Bool) (d0_3 : Int) (r : List UInt8 × List UInt8 × Bool × Int) (hF : strings_Builder_String_2 n d0_1 d0_2 d0_3 = some r) : OkH Tryd.prog M [Ent.obj b0 (.cells #[.pointer A_1, .slice A_2 d0_1.length cap_1, .bool d0_2, .int .i64 d0_3] 50 (0, 0)), Ent.row 5 1 (.slice A_2 d0_1.length cap_1) d0_1.length cs_1] 25 [.pointer (some (⟨b0, 0, none⟩))] (fun M' E' v => ∃ (A_3 : Option Addr) (A_4 : Option Addr) (cap_2 : Nat), v = S r.1 ∧ E' = [Ent.obj b0 (.cells #[.pointer A_3, .slice A_4 r.2.1.length cap_2, .bool r.2.2.1, .int .i64 r.2.2.2] 50 (0, 0))] ∧ (A_3 = none ∨ A_3 = some ⟨b0, 0, none⟩) ∧ Sli M' 1 embB A_4 cap_2 r.2.1) := by
 unfold strings_Builder_String_2 at hF
 intro M1 hM0 w0 H w p0
 replace hG := GL.mono hM0 hG
 replace hr_1 := RepSeq.mono hM0 _ _ hr_1
 refine R_enter 14 Tryd.func25 rfl rfl (by simp) fun a0 f0 => RR (Y f0 1 fun _ f => eT (R_seq ?_))
 have p_1 := p0.pl [1]
 refine R_mix (E := [Ent.row 5 1 (.slice A_2 d0_1.length cap_1) d0_1.length cs_1]) (Hr := ((Ent.obj b0 (.cells #[.pointer A_1, .slice A_2 d0_1.length cap_1, .bool d0_2, .int .i64 d0_3] 50 (0, 0))) :: H)) [(0, true), (1, true), (2, true), (3, true), (5, true), (6, true), (7, true), (8, true), (9, true), (4, false), (10, false), (11, true)] p_1 (by kernel_rfl) (by kernel_rfl) rfl (by kernel_rfl) (Y0 default f 3 fun _ f => M_eq (v := .slice A_2 d0_1.length cap_1) f (by kernel_rfl) (by kernel_rfl) rfl rfl (fun _ pq => Y27 (v := .slice A_2 d0_1.length cap_1) rfl (ad := ⟨b0, 1, none⟩) (pq.ownCell 0 rfl 1)) fun _ f => Y0 default f 3 fun _ f => M_eq (v := .slice A_2 d0_1.length cap_1) f (by kernel_rfl) (by kernel_rfl) rfl rfl (fun _ pq => Y27 (v := .slice A_2 d0_1.length cap_1) rfl (ad := ⟨b0, 1, none⟩) (pq.ownCell 0 rfl 1)) fun _ f => Y0 default f 1 fun _ f => M_fix (E := [Ent.row 5 1 (.slice A_2 d0_1.length cap_1) d0_1.length cs_1]) fun w_1 p_2 => W_sliceData (v := .slice A_2 d0_1.length cap_1) f p_2 (by kernel_rfl) (by kernel_rfl) rfl rfl rfl (by kernel_rfl) (by kernel_rfl) fun q_1 w_2 p_3 hd_1 _ f => W_end rfl (M_go (M1 := M1) (E := [Ent.row 5 1 (.slice A_2 d0_1.length cap_1) d0_1.length cs_1]) (mR _) p_3 (M_fix (E := [Ent.row 5 1 (.slice A_2 d0_1.length cap_1) d0_1.length cs_1]) fun w_3 p_4 => ?_)))
 refine W_unsafeString (q := q_1) (v := .slice A_2 d0_1.length cap_1) (l := d0_1) (A := A_2) (cap := cap_1) rfl f p_4 hr_1 hd_1 (by kernel_rfl) (by kernel_rfl) rfl rfl rfl (by kernel_rfl) (by kernel_rfl) (by kernel_rfl) (by kernel_rfl) fun M_1 w_4 hM_1 p_5 h_1 _ f => W_end rfl (M_go (M1 := M_1) (E := []) hM_1 p_5 (Y0 default f 1 fun _ f => M_end rfl fun w_5 p_6 => T_n (wp_ret (E_ret1 f rfl (by kernel_rfl : Vc.look _ 2 = some (S d0_1)) ?_))))
 obtain rfl := sI hF
 exact ⟨_, rfl, M_1, _, hM_1, p_6, ⟨A_1, A_2, cap_1, rfl, rfl, hb_1, h_1⟩⟩
def print_text (n : Nat) (d0 : TA0) (d1 : Bool) : Option (List UInt8 × Int) :=
  (tree_Check n d0).bind fun x_1 =>
  bif (!(decide (x_1 = 0))) then
    (some ((([] : List UInt8), x_1)))
  else
    (tree_Sorted n d0).bind fun x_2 =>
    (print_writer_value n ([] : List UInt8) (d1) (0 : Int) x_2).bind fun x_3 =>
    (strings_Builder_Len n x_3.1 (x_3.2.1) x_3.2.2).bind fun x_4 =>
    bif (decide ((32768 : Int) < x_4.1)) then
      (some ((([] : List UInt8), (3 : Int))))
    else
      (strings_Builder_String_2 n x_4.2.1 (x_4.2.2.1) x_4.2.2.2).bind fun x_5 =>
      some ((x_5.1, (0 : Int)))
theorem print_text_ok (n : Nat) (M : Mem) (hG : GL M) (c0 : List Value) (d0 : TA0) (h0 : Rep M (emb_TA0 d0) c0) (d1 : Bool) (r : List UInt8 × Int) (hF : print_text n d0 d1 = some r) : Ok Tryd.prog M 17 [.agg c0.toArray, .bool d1] (fun _ v => v = .tuple #[S r.1, .int .i64 r.2]) := by
 unfold print_text at hF
 intro M1 hM0 w0 H w p0
 replace hG := GL.mono hM0 hG
 replace h0 := Rep.mono hM0 _ _ h0
 obtain ⟨A_1, cap_1, A_2, cap_2, rfl, h_1, h_2⟩ := TA0.opn h0
 refine R_enter 30 Tryd.func17 rfl rfl (by simp) fun a0 f0 => RR (Y10 (cs := #[.int .i8 d0.fKind, .bool d0.fBool, .int .i64 d0.fNum, S d0.fText, .slice A_1 d0.fList.length cap_1, .slice A_2 d0.fKeys.length cap_2]) (T := 26) f0 p0 fun b_1 M_1 w_1 hM_1 hc_1 p_1 _ f => ?_)
 have hc_2 := fz_box hc_1
 refine Y f 2 fun _ f => eT (R_seq (RR (Z (v := .agg #[.int .i8 d0.fKind, .bool d0.fBool, .int .i64 d0.fNum, S d0.fText, .slice A_1 d0.fList.length cap_1, .slice A_2 d0.fKeys.length cap_2]) f (Y28 (cs := [.int .i8 d0.fKind, .bool d0.fBool, .int .i64 d0.fNum, S d0.fText, .slice A_1 d0.fList.length cap_1, .slice A_2 d0.fKeys.length cap_2]) rfl (ad := ⟨b_1, 0, none⟩) (fun j v h => p_1.cell (hc_2 j v h))) fun _ f => ?_)))
 obtain ⟨x_1, hx_1, hF_1⟩ := bS hF
 refine Y15 f p_1 (tree_Check_ok n _ (GL.mono hM_1 hG) _ d0 (TA0.shutx (x := d0) (h_1.mono hM_1) (h_2.mono hM_1)) x_1 hx_1) fun w_2 p_2 _ f => Y f 1 fun _ f => eT (RR (Y f 2 fun _ f => eT (RcF f hF_1 (fun h_3 hF_2 => ?_) fun h_3 hF_3 => ?_)))
 ·have k_1 : ¬ (x_1 = 0) := (not_iff dI).1 h_3
  refine RR (Y f 3 fun _ f => eT (wp_ret (T_r (E_ret2 f rfl (by kernel_rfl : Vc.look _ 4 = some (S [])) (by kernel_rfl : Vc.look _ 5 = some (.int .i64 x_1)) ?_))))
  obtain rfl := sI hF_2
  exact ⟨_, rfl, M_1, hM_1, p_2, rfl⟩
 ·have k_2 : ¬ (¬ (x_1 = 0)) := iff_f (not_iff dI) h_3
  refine wp_skip (T_n (RR (Y f 2 fun _ f => Y9 f p_2 (.cells #[.pointer none, .slice none 0 0, .bool d1, .int .i64 0] 50 (0, 0)) fun b_2 w_3 p_3 _ f => Y f 1 fun _ f => eT (RR (Z (v := .agg #[.int .i8 d0.fKind, .bool d0.fBool, .int .i64 d0.fNum, S d0.fText, .slice A_1 d0.fList.length cap_1, .slice A_2 d0.fKeys.length cap_2]) f (Y28 (cs := [.int .i8 d0.fKind, .bool d0.fBool, .int .i64 d0.fNum, S d0.fText, .slice A_1 d0.fList.length cap_1, .slice A_2 d0.fKeys.length cap_2]) rfl (ad := ⟨b_1, 0, none⟩) (fun j v h => p_3.cell (hc_2 j v h))) fun _ f => ?_)))))
  obtain ⟨x_2, hx_2, hF_4⟩ := bS hF_3
  refine Y13 f p_3 (tree_Sorted_ok n _ (GL.mono hM_1 hG) _ d0 (TA0.shutx (x := d0) (h_1.mono hM_1) (h_2.mono hM_1)) x_2 hx_2) fun _ M_2 w_4 hM_2 p_4 q_1 _ f => ?_
  obtain ⟨c_1, rfl, hr_1⟩ := q_1
  obtain ⟨A_3, cap_3, A_4, cap_4, rfl, h_4, h_5⟩ := TA0.opn hr_1
  refine Y9 f p_4 (.cells #[.int .i8 0, .bool false, .int .i64 0, S [], .slice none 0 0, .slice none 0 0] 26 (0, 0)) fun b_3 w_5 p_5 _ f => Y24 (vs := [.int .i8 x_2.fKind, .bool x_2.fBool, .int .i64 x_2.fNum, S x_2.fText, .slice A_3 x_2.fList.length cap_3, .slice A_4 x_2.fKeys.length cap_4]) (j := 0) f p_5 rfl rfl (by simp [Value.oneCell', S]) (by simp) (by decide) (cs' := #[.int .i8 x_2.fKind, .bool x_2.fBool, .int .i64 x_2.fNum, S x_2.fText, .slice A_3 x_2.fList.length cap_3, .slice A_4 x_2.fKeys.length cap_4]) fun w_6 p_6 _ f => eT (RR (Y f 1 fun _ f => ?_))
  obtain ⟨M_3, hM_3, p_7, hc_3⟩ := p_6.fzOwn
  obtain ⟨A_5, cap_5, hv_1⟩ : ∃ A cap, Value.slice none 0 0 = .slice A ([] : List UInt8).length cap := ⟨none, 0, rfl⟩
  have p_8 : Hp w0 M_3 ((Ent.row 5 1 (.slice A_5 ([] : List UInt8).length cap_5) ([] : List UInt8).length []) :: (Ent.obj b_2 (.cells #[.pointer none, .slice A_5 ([] : List UInt8).length cap_5, .bool d1, .int .i64 0] 50 (0, 0))) :: H) w_6 := by rw [← hv_1]; exact p_7.nilRow 5 1
  have hr_2 : RepSeq M_3 (([] : List UInt8).map embB) [] := rfl
  obtain ⟨x_3, hx_3, hF_5⟩ := bS hF_4
  have p_10 := p_8.pl [1]
  refine Y14 (E := [Ent.obj b_2 (.cells #[.pointer none, .slice A_5 ([] : List UInt8).length cap_5, .bool d1, .int .i64 0] 50 (0, 0)), Ent.row 5 1 (.slice A_5 ([] : List UInt8).length cap_5) ([] : List UInt8).length []]) (H := (H)) f p_10 (print_writer_value_ok n _ (GL.mono ((hM_1.trans hM_2).trans hM_3) hG) b_2 none (.inl rfl) ([] : List UInt8) A_5 cap_5 [] hr_2 (d1) (0 : Int) (⟨b_3, 0, none⟩) [.int .i8 x_2.fKind, .bool x_2.fBool, .int .i64 x_2.fNum, S x_2.fText, .slice A_3 x_2.fList.length cap_3, .slice A_4 x_2.fKeys.length cap_4] x_2 (TA0.shutx (x := x_2) (h_4.mono hM_3) (h_5.mono hM_3)) (fz_at (hc_3) 0 rfl) x_3 hx_3) fun _ M_4 E_1 w_7 hM_4 p_9 q_2 _ f => ?_
  obtain ⟨A_6, A_7, cap_6, cs_1, rfl, rfl, hb_1, hr_3⟩ := q_2
  refine eT (R_seq (RR (Y f 3 fun _ f => ?_)))
  obtain ⟨x_4, hx_4, hF_6⟩ := bS hF_5
  refine Y14 (E := [Ent.obj b_2 (.cells #[.pointer A_6, .slice A_7 x_3.1.length cap_6, .bool x_3.2.1, .int .i64 x_3.2.2] 50 (0, 0)), Ent.row 5 1 (.slice A_7 x_3.1.length cap_6) x_3.1.length cs_1]) (H := (H)) f p_9 (strings_Builder_Len_ok n _ (GL.mono (((hM_1.trans hM_2).trans hM_3).trans hM_4) hG) b_2 A_6 hb_1 x_3.1 A_7 cap_6 cs_1 hr_3 (x_3.2.1) x_3.2.2 x_4 hx_4) fun _ M_5 E_2 w_8 hM_5 p_11 q_3 _ f => ?_
  obtain ⟨A_8, A_9, cap_7, cs_2, rfl, rfl, hb_2, hr_4⟩ := q_3
  refine Y f 1 fun _ f => eT (RcF f hF_6 (fun h_6 hF_7 => ?_) fun h_6 hF_8 => ?_)
  ·have k_3 := dI.1 h_6
   refine RR (Y f 2 fun _ f => eT (wp_ret (T_r (E_ret2 f rfl (by kernel_rfl : Vc.look _ 4 = some (S [])) (by kernel_rfl : Vc.look _ 5 = some (.int .i64 3)) ?_))))
   obtain rfl := sI hF_7
   exact ⟨_, rfl, M_5, ((((hM_1.trans hM_2).trans hM_3).trans hM_4).trans hM_5), (p_11.dropN 2), rfl⟩
  ·have k_4 := iff_f dI h_6
   refine wp_skip (T_n (RR (Y f 3 fun _ f => ?_)))
   obtain ⟨x_5, hx_5, hF_9⟩ := bS hF_8
   refine Y14 (E := [Ent.obj b_2 (.cells #[.pointer A_8, .slice A_9 x_4.2.1.length cap_7, .bool x_4.2.2.1, .int .i64 x_4.2.2.2] 50 (0, 0)), Ent.row 5 1 (.slice A_9 x_4.2.1.length cap_7) x_4.2.1.length cs_2]) (H := (H)) f p_11 (strings_Builder_String_2_ok n _ (GL.mono ((((hM_1.trans hM_2).trans hM_3).trans hM_4).trans hM_5) hG) b_2 A_8 hb_2 x_4.2.1 A_9 cap_7 cs_2 hr_4 (x_4.2.2.1) x_4.2.2.2 x_5 hx_5) fun _ M_6 E_3 w_9 hM_6 p_12 q_4 _ f => ?_
   obtain ⟨A_10, A_11, cap_8, rfl, rfl, hb_3, h_7⟩ := q_4
   refine Y f 2 fun _ f => eT (wp_ret (E_ret2 f rfl (by kernel_rfl : Vc.look _ 4 = some (S x_5.1)) (by kernel_rfl : Vc.look _ 5 = some (.int .i64 0)) ?_))
   obtain rfl := sI hF_9
   exact ⟨_, rfl, M_6, (((((hM_1.trans hM_2).trans hM_3).trans hM_4).trans hM_5).trans hM_6), (p_12.dropN 1), rfl⟩
def print_Print (n : Nat) (d0 : TA0) : Option (List UInt8 × Int) :=
  (print_text n d0 (false)).bind fun x_1 =>
  some ((x_1.1, x_1.2))
theorem print_Print_ok (n : Nat) (M : Mem) (hG : GL M) (c0 : List Value) (d0 : TA0) (h0 : Rep M (emb_TA0 d0) c0) (r : List UInt8 × Int) (hF : print_Print n d0 = some r) : Ok Tryd.prog M 9 [.agg c0.toArray] (fun _ v => v = .tuple #[S r.1, .int .i64 r.2]) := by
 unfold print_Print at hF
 intro M1 hM0 w0 H w p0
 replace hG := GL.mono hM0 hG
 replace h0 := Rep.mono hM0 _ _ h0
 obtain ⟨A_1, cap_1, A_2, cap_2, rfl, h_1, h_2⟩ := TA0.opn h0
 refine R_enter 8 Tryd.func9 rfl rfl (by simp) fun a0 f0 => RR (Y10 (cs := #[.int .i8 d0.fKind, .bool d0.fBool, .int .i64 d0.fNum, S d0.fText, .slice A_1 d0.fList.length cap_1, .slice A_2 d0.fKeys.length cap_2]) (T := 26) f0 p0 fun b_1 M_1 w_1 hM_1 hc_1 p_1 _ f => ?_)
 have hc_2 := fz_box hc_1
 refine Y f 2 fun _ f => eT (RR (Z (v := .agg #[.int .i8 d0.fKind, .bool d0.fBool, .int .i64 d0.fNum, S d0.fText, .slice A_1 d0.fList.length cap_1, .slice A_2 d0.fKeys.length cap_2]) f (Y28 (cs := [.int .i8 d0.fKind, .bool d0.fBool, .int .i64 d0.fNum, S d0.fText, .slice A_1 d0.fList.length cap_1, .slice A_2 d0.fKeys.length cap_2]) rfl (ad := ⟨b_1, 0, none⟩) (fun j v h => p_1.cell (hc_2 j v h))) fun _ f => ?_))
 obtain ⟨x_1, hx_1, hF_1⟩ := bS hF
 refine Y15 f p_1 (print_text_ok n _ (GL.mono hM_1 hG) _ d0 (TA0.shutx (x := d0) (h_1.mono hM_1) (h_2.mono hM_1)) (false) x_1 hx_1) fun w_2 p_2 _ f => Y f 4 fun _ f => eT (wp_ret (E_ret2 f rfl (by kernel_rfl : Vc.look _ 2 = some (S x_1.1)) (by kernel_rfl : Vc.look _ 3 = some (.int .i64 x_1.2)) ?_))
 obtain rfl := sI hF_1
 exact ⟨_, rfl, M_1, hM_1, p_2, rfl⟩
def print_Broad (n : Nat) (d0 : TA0) : Option (List UInt8 × Int) :=
  (print_text n d0 (true)).bind fun x_1 =>
  some ((x_1.1, x_1.2))
theorem print_Broad_ok (n : Nat) (M : Mem) (hG : GL M) (c0 : List Value) (d0 : TA0) (h0 : Rep M (emb_TA0 d0) c0) (r : List UInt8 × Int) (hF : print_Broad n d0 = some r) : Ok Tryd.prog M 10 [.agg c0.toArray] (fun _ v => v = .tuple #[S r.1, .int .i64 r.2]) := by
 unfold print_Broad at hF
 intro M1 hM0 w0 H w p0
 replace hG := GL.mono hM0 hG
 replace h0 := Rep.mono hM0 _ _ h0
 obtain ⟨A_1, cap_1, A_2, cap_2, rfl, h_1, h_2⟩ := TA0.opn h0
 refine R_enter 8 Tryd.func10 rfl rfl (by simp) fun a0 f0 => RR (Y10 (cs := #[.int .i8 d0.fKind, .bool d0.fBool, .int .i64 d0.fNum, S d0.fText, .slice A_1 d0.fList.length cap_1, .slice A_2 d0.fKeys.length cap_2]) (T := 26) f0 p0 fun b_1 M_1 w_1 hM_1 hc_1 p_1 _ f => ?_)
 have hc_2 := fz_box hc_1
 refine Y f 2 fun _ f => eT (RR (Z (v := .agg #[.int .i8 d0.fKind, .bool d0.fBool, .int .i64 d0.fNum, S d0.fText, .slice A_1 d0.fList.length cap_1, .slice A_2 d0.fKeys.length cap_2]) f (Y28 (cs := [.int .i8 d0.fKind, .bool d0.fBool, .int .i64 d0.fNum, S d0.fText, .slice A_1 d0.fList.length cap_1, .slice A_2 d0.fKeys.length cap_2]) rfl (ad := ⟨b_1, 0, none⟩) (fun j v h => p_1.cell (hc_2 j v h))) fun _ f => ?_))
 obtain ⟨x_1, hx_1, hF_1⟩ := bS hF
 refine Y15 f p_1 (print_text_ok n _ (GL.mono hM_1 hG) _ d0 (TA0.shutx (x := d0) (h_1.mono hM_1) (h_2.mono hM_1)) (true) x_1 hx_1) fun w_2 p_2 _ f => Y f 4 fun _ f => eT (wp_ret (E_ret2 f rfl (by kernel_rfl : Vc.look _ 2 = some (S x_1.1)) (by kernel_rfl : Vc.look _ 3 = some (.int .i64 x_1.2)) ?_))
 obtain rfl := sI hF_1
 exact ⟨_, rfl, M_1, hM_1, p_2, rfl⟩
def print_Len (n : Nat) (d0 : TA0) : Option Int :=
  (print_Print n d0).bind fun x_1 =>
  some ((x_1.1.length : Int))
theorem print_Len_ok (n : Nat) (M : Mem) (hG : GL M) (c0 : List Value) (d0 : TA0) (h0 : Rep M (emb_TA0 d0) c0) (r : Int) (hF : print_Len n d0 = some r) : Ok Tryd.prog M 16 [.agg c0.toArray] (fun _ v => v = .int .i64 r) := by
 unfold print_Len at hF
 intro M1 hM0 w0 H w p0
 replace hG := GL.mono hM0 hG
 replace h0 := Rep.mono hM0 _ _ h0
 obtain ⟨A_1, cap_1, A_2, cap_2, rfl, h_1, h_2⟩ := TA0.opn h0
 refine R_enter 12 Tryd.func16 rfl rfl (by simp) fun a0 f0 => RR (Y10 (cs := #[.int .i8 d0.fKind, .bool d0.fBool, .int .i64 d0.fNum, S d0.fText, .slice A_1 d0.fList.length cap_1, .slice A_2 d0.fKeys.length cap_2]) (T := 26) f0 p0 fun b_1 M_1 w_1 hM_1 hc_1 p_1 _ f => ?_)
 have hc_2 := fz_box hc_1
 refine Y f 1 fun _ f => eT (RR (Z (v := .agg #[.int .i8 d0.fKind, .bool d0.fBool, .int .i64 d0.fNum, S d0.fText, .slice A_1 d0.fList.length cap_1, .slice A_2 d0.fKeys.length cap_2]) f (Y28 (cs := [.int .i8 d0.fKind, .bool d0.fBool, .int .i64 d0.fNum, S d0.fText, .slice A_1 d0.fList.length cap_1, .slice A_2 d0.fKeys.length cap_2]) rfl (ad := ⟨b_1, 0, none⟩) (fun j v h => p_1.cell (hc_2 j v h))) fun _ f => ?_))
 obtain ⟨x_1, hx_1, hF_1⟩ := bS hF
 refine Y15 f p_1 (print_Print_ok n _ (GL.mono hM_1 hG) _ d0 (TA0.shutx (x := d0) (h_1.mono hM_1) (h_2.mono hM_1)) x_1 hx_1) fun w_2 p_2 _ f => Y f 5 fun _ f => eT (RR (Y f 3 fun _ f => eT (wp_ret (E_ret1 f rfl (by kernel_rfl : Vc.look _ 2 = some (.int .i64 (x_1.1.length : Int))) ?_))))
 obtain rfl := sI hF_1
 exact ⟨_, rfl, M_1, hM_1, p_2, rfl⟩
def law05_wakes (n : Nat) : Option Bool :=
  (print_Print n (⟨(5 : Int), (false), (0 : Int), ([] : List UInt8), [(⟨(4 : Int), (false), (0 : Int), ([] : List UInt8), [(⟨(2 : Int), (false), (1 : Int), ([] : List UInt8), ([] : List TA0), ([] : List (List UInt8))⟩ : TA0), z_TA0], ([] : List (List UInt8))⟩ : TA0), (⟨(3 : Int), (false), (0 : Int), ([] : List UInt8), ([] : List TA0), ([] : List (List UInt8))⟩ : TA0)], ([[98], [97]] : List (List UInt8))⟩ : TA0)).bind fun x_1 =>
  bif (decide (x_1.2 = 0)) then
    (bif (decide (x_1.1 = [123, 34, 97, 34, 58, 34, 34, 44, 34, 98, 34, 58, 91, 49, 44, 110, 117, 108, 108, 93, 125])) then
      ((print_Len n (⟨(5 : Int), (false), (0 : Int), ([] : List UInt8), [(⟨(4 : Int), (false), (0 : Int), ([] : List UInt8), [(⟨(2 : Int), (false), (1 : Int), ([] : List UInt8), ([] : List TA0), ([] : List (List UInt8))⟩ : TA0), z_TA0], ([] : List (List UInt8))⟩ : TA0), (⟨(3 : Int), (false), (0 : Int), ([] : List UInt8), ([] : List TA0), ([] : List (List UInt8))⟩ : TA0)], ([[98], [97]] : List (List UInt8))⟩ : TA0)).bind fun x_2 =>
      some ((decide (x_2 = (x_1.1.length : Int)))))
    else
      some ((false)))
  else
    some ((false))
theorem law05_wakes_ok (n : Nat) (M : Mem) (hG : GL M) (r : Bool) (hF : law05_wakes n = some r) : Ok Tryd.prog M 8 [] (fun _ v => v = .bool r) := by
 unfold law05_wakes at hF
 intro M1 hM0 w0 H w p0
 replace hG := GL.mono hM0 hG
 refine R_enter 30 Tryd.func8 rfl rfl (by simp) fun a0 f0 => RR (Y f0 1 fun _ f => eT (RR (V_allocS (k := 2) (c := 2) f p0 (.cells #[S [98], S [97]] 9 (0, 0)) (by kernel_rfl) (fun _ => by kernel_rfl) fun b_1 w_1 p_1 _ f => Y f 2 fun _ f => V_allocS (k := 2) (c := 2) f p_1 (.cells #[.int .i8 2, .bool false, .int .i64 1, S [], .slice none 0 0, .slice none 0 0, .int .i8 0, .bool false, .int .i64 0, S [], .slice none 0 0, .slice none 0 0] 26 (0, 0)) (by kernel_rfl) (fun _ => by kernel_rfl) fun b_2 w_2 p_2 _ f => Y f 2 fun _ f => V_allocS (k := 2) (c := 2) f p_2 (.cells #[.int .i8 4, .bool false, .int .i64 0, S [], .slice (some ⟨b_2, 0, none⟩) 2 2, .slice none 0 0, .int .i8 3, .bool false, .int .i64 0, S [], .slice none 0 0, .slice none 0 0] 26 (0, 0)) (by kernel_rfl) (fun _ => by kernel_rfl) fun b_3 w_3 p_3 _ f => Y f 1 fun _ f => Y9 f p_3 (.cells #[.int .i8 0, .bool false, .int .i64 0, S [], .slice none 0 0, .slice none 0 0] 26 (0, 0)) fun b_4 w_4 p_4 _ f => ?_)))
 have p_5 := p_4.pl [2]
 have hr_1 : RepSeq M1 ([(⟨(2 : Int), (false), (1 : Int), ([] : List UInt8), ([] : List TA0), ([] : List (List UInt8))⟩ : TA0), z_TA0].map emb_TA0) [.int .i8 2, .bool false, .int .i64 1, S [], .slice none 0 0, .slice none 0 0, .int .i8 0, .bool false, .int .i64 0, S [], .slice none 0 0, .slice none 0 0] := ⟨_, _, rfl, TA0.shut Sli.nil Sli.nil, ⟨_, _, rfl, TA0.shut Sli.nil Sli.nil, rfl⟩⟩
 have p_6 : Hp w0 M1 ((Ent.row 26 6 (.slice (some ⟨b_2, 0, none⟩) 2 2) [(⟨(2 : Int), (false), (1 : Int), ([] : List UInt8), ([] : List TA0), ([] : List (List UInt8))⟩ : TA0), z_TA0].length [.int .i8 2, .bool false, .int .i64 1, S [], .slice none 0 0, .slice none 0 0, .int .i8 0, .bool false, .int .i64 0, S [], .slice none 0 0, .slice none 0 0]) :: (Ent.obj b_4 (.cells #[.int .i8 0, .bool false, .int .i64 0, S [], .slice none 0 0, .slice none 0 0] 26 (0, 0))) :: (Ent.obj b_3 (.cells #[.int .i8 4, .bool false, .int .i64 0, S [], .slice (some ⟨b_2, 0, none⟩) 2 2, .slice none 0 0, .int .i8 3, .bool false, .int .i64 0, S [], .slice none 0 0, .slice none 0 0] 26 (0, 0))) :: (Ent.obj b_1 (.cells #[S [98], S [97]] 9 (0, 0))) :: H) w_4 := p_5.objRow (n := 2) (cap := 2) (size := 6) (by decide) (by decide) (blk_eq (by decide) rfl) rfl rfl
 obtain ⟨A_1, cap_1, M_1, hv_1, hM_1, p_7, h_1⟩ := p_6.rowSli (f := emb_TA0) (xs := [(⟨(2 : Int), (false), (1 : Int), ([] : List UInt8), ([] : List TA0), ([] : List (List UInt8))⟩ : TA0), z_TA0]) szd_TA0 hr_1
 have p_8 : Hp w0 M_1 ((Ent.obj b_4 (.cells #[.int .i8 0, .bool false, .int .i64 0, S [], .slice none 0 0, .slice none 0 0] 26 (0, 0))) :: (Ent.obj b_3 (.cells #[.int .i8 4, .bool false, .int .i64 0, S [], .slice A_1 [(⟨(2 : Int), (false), (1 : Int), ([] : List UInt8), ([] : List TA0), ([] : List (List UInt8))⟩ : TA0), z_TA0].length cap_1, .slice none 0 0, .int .i8 3, .bool false, .int .i64 0, S [], .slice none 0 0, .slice none 0 0] 26 (0, 0))) :: (Ent.obj b_1 (.cells #[S [98], S [97]] 9 (0, 0))) :: H) w_4 := by rw [hv_1] at p_7; exact p_7
 have p_9 := p_8.pl [1]
 have hr_2 : RepSeq M_1 ([(⟨(4 : Int), (false), (0 : Int), ([] : List UInt8), [(⟨(2 : Int), (false), (1 : Int), ([] : List UInt8), ([] : List TA0), ([] : List (List UInt8))⟩ : TA0), z_TA0], ([] : List (List UInt8))⟩ : TA0), (⟨(3 : Int), (false), (0 : Int), ([] : List UInt8), ([] : List TA0), ([] : List (List UInt8))⟩ : TA0)].map emb_TA0) [.int .i8 4, .bool false, .int .i64 0, S [], .slice A_1 [(⟨(2 : Int), (false), (1 : Int), ([] : List UInt8), ([] : List TA0), ([] : List (List UInt8))⟩ : TA0), z_TA0].length cap_1, .slice none 0 0, .int .i8 3, .bool false, .int .i64 0, S [], .slice none 0 0, .slice none 0 0] := ⟨_, _, rfl, TA0.shut h_1 Sli.nil, ⟨_, _, rfl, TA0.shut Sli.nil Sli.nil, rfl⟩⟩
 have p_10 : Hp w0 M_1 ((Ent.row 26 6 (.slice (some ⟨b_3, 0, none⟩) 2 2) [(⟨(4 : Int), (false), (0 : Int), ([] : List UInt8), [(⟨(2 : Int), (false), (1 : Int), ([] : List UInt8), ([] : List TA0), ([] : List (List UInt8))⟩ : TA0), z_TA0], ([] : List (List UInt8))⟩ : TA0), (⟨(3 : Int), (false), (0 : Int), ([] : List UInt8), ([] : List TA0), ([] : List (List UInt8))⟩ : TA0)].length [.int .i8 4, .bool false, .int .i64 0, S [], .slice A_1 [(⟨(2 : Int), (false), (1 : Int), ([] : List UInt8), ([] : List TA0), ([] : List (List UInt8))⟩ : TA0), z_TA0].length cap_1, .slice none 0 0, .int .i8 3, .bool false, .int .i64 0, S [], .slice none 0 0, .slice none 0 0]) :: (Ent.obj b_4 (.cells #[.int .i8 0, .bool false, .int .i64 0, S [], .slice none 0 0, .slice none 0 0] 26 (0, 0))) :: (Ent.obj b_1 (.cells #[S [98], S [97]] 9 (0, 0))) :: H) w_4 := p_9.objRow (n := 2) (cap := 2) (size := 6) (by decide) (by decide) (blk_eq (by decide) rfl) rfl rfl
 obtain ⟨A_2, cap_2, M_2, hv_2, hM_2, p_11, h_2⟩ := p_10.rowSli (f := emb_TA0) (xs := [(⟨(4 : Int), (false), (0 : Int), ([] : List UInt8), [(⟨(2 : Int), (false), (1 : Int), ([] : List UInt8), ([] : List TA0), ([] : List (List UInt8))⟩ : TA0), z_TA0], ([] : List (List UInt8))⟩ : TA0), (⟨(3 : Int), (false), (0 : Int), ([] : List UInt8), ([] : List TA0), ([] : List (List UInt8))⟩ : TA0)]) szd_TA0 hr_2
 have f := Frm.set f 11 (v := .agg #[.int .i8 5, .bool false, .int .i64 0, S [], .slice (some ⟨b_3, 0, none⟩) 2 2, .slice (some ⟨b_1, 0, none⟩) 2 2]) (v' := .agg #[.int .i8 5, .bool false, .int .i64 0, S [], .slice A_2 [(⟨(4 : Int), (false), (0 : Int), ([] : List UInt8), [(⟨(2 : Int), (false), (1 : Int), ([] : List UInt8), ([] : List TA0), ([] : List (List UInt8))⟩ : TA0), z_TA0], ([] : List (List UInt8))⟩ : TA0), (⟨(3 : Int), (false), (0 : Int), ([] : List UInt8), ([] : List TA0), ([] : List (List UInt8))⟩ : TA0)].length cap_2, .slice (some ⟨b_1, 0, none⟩) 2 2]) (by kernel_rfl) (by rw [hv_2])
 have p_12 := p_11.pl [1]
 have hr_3 : RepSeq M_2 (([[98], [97]] : List (List UInt8)).map Dat.str) [S [98], S [97]] := ⟨_, _, rfl, rfl, ⟨_, _, rfl, rfl, rfl⟩⟩
 have p_13 : Hp w0 M_2 ((Ent.row 9 1 (.slice (some ⟨b_1, 0, none⟩) 2 2) ([[98], [97]] : List (List UInt8)).length [S [98], S [97]]) :: (Ent.obj b_4 (.cells #[.int .i8 0, .bool false, .int .i64 0, S [], .slice none 0 0, .slice none 0 0] 26 (0, 0))) :: H) w_4 := p_12.objRow (n := 2) (cap := 2) (size := 1) (by decide) (by decide) (blk_eq (by decide) rfl) rfl rfl
 obtain ⟨A_3, cap_3, M_3, hv_3, hM_3, p_14, h_3⟩ := p_13.rowSli (f := Dat.str) (xs := ([[98], [97]] : List (List UInt8))) szd_str hr_3
 have f := Frm.set f 11 (v := .agg #[.int .i8 5, .bool false, .int .i64 0, S [], .slice A_2 [(⟨(4 : Int), (false), (0 : Int), ([] : List UInt8), [(⟨(2 : Int), (false), (1 : Int), ([] : List UInt8), ([] : List TA0), ([] : List (List UInt8))⟩ : TA0), z_TA0], ([] : List (List UInt8))⟩ : TA0), (⟨(3 : Int), (false), (0 : Int), ([] : List UInt8), ([] : List TA0), ([] : List (List UInt8))⟩ : TA0)].length cap_2, .slice (some ⟨b_1, 0, none⟩) 2 2]) (v' := .agg #[.int .i8 5, .bool false, .int .i64 0, S [], .slice A_2 [(⟨(4 : Int), (false), (0 : Int), ([] : List UInt8), [(⟨(2 : Int), (false), (1 : Int), ([] : List UInt8), ([] : List TA0), ([] : List (List UInt8))⟩ : TA0), z_TA0], ([] : List (List UInt8))⟩ : TA0), (⟨(3 : Int), (false), (0 : Int), ([] : List UInt8), ([] : List TA0), ([] : List (List UInt8))⟩ : TA0)].length cap_2, .slice A_3 ([[98], [97]] : List (List UInt8)).length cap_3]) (by kernel_rfl) (by rw [hv_3])
 refine Y24 (vs := [.int .i8 5, .bool false, .int .i64 0, S [], .slice A_2 [(⟨(4 : Int), (false), (0 : Int), ([] : List UInt8), [(⟨(2 : Int), (false), (1 : Int), ([] : List UInt8), ([] : List TA0), ([] : List (List UInt8))⟩ : TA0), z_TA0], ([] : List (List UInt8))⟩ : TA0), (⟨(3 : Int), (false), (0 : Int), ([] : List UInt8), ([] : List TA0), ([] : List (List UInt8))⟩ : TA0)].length cap_2, .slice A_3 ([[98], [97]] : List (List UInt8)).length cap_3]) (j := 0) f p_14 rfl rfl (by simp [Value.oneCell', S]) (by simp) (by decide) (cs' := #[.int .i8 5, .bool false, .int .i64 0, S [], .slice A_2 [(⟨(4 : Int), (false), (0 : Int), ([] : List UInt8), [(⟨(2 : Int), (false), (1 : Int), ([] : List UInt8), ([] : List TA0), ([] : List (List UInt8))⟩ : TA0), z_TA0], ([] : List (List UInt8))⟩ : TA0), (⟨(3 : Int), (false), (0 : Int), ([] : List UInt8), ([] : List TA0), ([] : List (List UInt8))⟩ : TA0)].length cap_2, .slice A_3 ([[98], [97]] : List (List UInt8)).length cap_3]) fun w_5 p_15 _ f => eT (RR (Z (v := .agg #[.int .i8 5, .bool false, .int .i64 0, S [], .slice A_2 [(⟨(4 : Int), (false), (0 : Int), ([] : List UInt8), [(⟨(2 : Int), (false), (1 : Int), ([] : List UInt8), ([] : List TA0), ([] : List (List UInt8))⟩ : TA0), z_TA0], ([] : List (List UInt8))⟩ : TA0), (⟨(3 : Int), (false), (0 : Int), ([] : List UInt8), ([] : List TA0), ([] : List (List UInt8))⟩ : TA0)].length cap_2, .slice A_3 ([[98], [97]] : List (List UInt8)).length cap_3]) f (Y28 (cs := [.int .i8 5, .bool false, .int .i64 0, S [], .slice A_2 [(⟨(4 : Int), (false), (0 : Int), ([] : List UInt8), [(⟨(2 : Int), (false), (1 : Int), ([] : List UInt8), ([] : List TA0), ([] : List (List UInt8))⟩ : TA0), z_TA0], ([] : List (List UInt8))⟩ : TA0), (⟨(3 : Int), (false), (0 : Int), ([] : List UInt8), ([] : List TA0), ([] : List (List UInt8))⟩ : TA0)].length cap_2, .slice A_3 ([[98], [97]] : List (List UInt8)).length cap_3]) rfl (ad := ⟨b_4, 0, none⟩) (own_cells (p_15.ownCell 0 rfl) 0 rfl)) fun _ f => ?_))
 obtain ⟨x_1, hx_1, hF_1⟩ := bS hF
 refine Y15 f p_15 (print_Print_ok n _ (GL.mono ((hM_1.trans hM_2).trans hM_3) hG) _ (⟨(5 : Int), (false), (0 : Int), ([] : List UInt8), [(⟨(4 : Int), (false), (0 : Int), ([] : List UInt8), [(⟨(2 : Int), (false), (1 : Int), ([] : List UInt8), ([] : List TA0), ([] : List (List UInt8))⟩ : TA0), z_TA0], ([] : List (List UInt8))⟩ : TA0), (⟨(3 : Int), (false), (0 : Int), ([] : List UInt8), ([] : List TA0), ([] : List (List UInt8))⟩ : TA0)], ([[98], [97]] : List (List UInt8))⟩ : TA0) (TA0.shut (h_2.mono hM_3) h_3) x_1 hx_1) fun w_6 p_16 _ f => Y f 5 fun _ f => eT (RR (Y f 3 fun _ f => ?_))
 rcases cE hF_1 with ⟨h_4, hF_2⟩ | ⟨h_4, hF_6⟩
 ·have k_1 := dI.1 h_4
  have f := f.st 19 (cB h_4)
  refine Y f 1 fun _ f => Z f (Y32 rfl (l := x_1.1) (m := [123, 34, 97, 34, 58, 34, 34, 44, 34, 98, 34, 58, 91, 49, 44, 110, 117, 108, 108, 93, 125])) fun _ f => Y f 2 fun _ f => ?_
  rcases cE hF_2 with ⟨h_5, hF_3⟩ | ⟨h_5, hF_5⟩
  ·have k_2 := dI.1 h_5
   have f := f.st 23 (cB h_5)
   refine Z (v := .agg #[.int .i8 5, .bool false, .int .i64 0, S [], .slice A_2 [(⟨(4 : Int), (false), (0 : Int), ([] : List UInt8), [(⟨(2 : Int), (false), (1 : Int), ([] : List UInt8), ([] : List TA0), ([] : List (List UInt8))⟩ : TA0), z_TA0], ([] : List (List UInt8))⟩ : TA0), (⟨(3 : Int), (false), (0 : Int), ([] : List UInt8), ([] : List TA0), ([] : List (List UInt8))⟩ : TA0)].length cap_2, .slice A_3 ([[98], [97]] : List (List UInt8)).length cap_3]) f (Y28 (cs := [.int .i8 5, .bool false, .int .i64 0, S [], .slice A_2 [(⟨(4 : Int), (false), (0 : Int), ([] : List UInt8), [(⟨(2 : Int), (false), (1 : Int), ([] : List UInt8), ([] : List TA0), ([] : List (List UInt8))⟩ : TA0), z_TA0], ([] : List (List UInt8))⟩ : TA0), (⟨(3 : Int), (false), (0 : Int), ([] : List UInt8), ([] : List TA0), ([] : List (List UInt8))⟩ : TA0)].length cap_2, .slice A_3 ([[98], [97]] : List (List UInt8)).length cap_3]) rfl (ad := ⟨b_4, 0, none⟩) (own_cells (p_16.ownCell 0 rfl) 0 rfl)) fun _ f => ?_
   obtain ⟨x_2, hx_2, hF_4⟩ := bS hF_3
   refine Y15 f p_16 (print_Len_ok n _ (GL.mono ((hM_1.trans hM_2).trans hM_3) hG) _ (⟨(5 : Int), (false), (0 : Int), ([] : List UInt8), [(⟨(4 : Int), (false), (0 : Int), ([] : List UInt8), [(⟨(2 : Int), (false), (1 : Int), ([] : List UInt8), ([] : List TA0), ([] : List (List UInt8))⟩ : TA0), z_TA0], ([] : List (List UInt8))⟩ : TA0), (⟨(3 : Int), (false), (0 : Int), ([] : List UInt8), ([] : List TA0), ([] : List (List UInt8))⟩ : TA0)], ([[98], [97]] : List (List UInt8))⟩ : TA0) (TA0.shut (h_2.mono hM_3) h_3) x_2 hx_2) fun w_7 p_17 _ f => Y f 5 fun _ f => eT (wp_ret (E_ret1 f rfl (by kernel_rfl : Vc.look _ 0 = some (.bool (decide (x_2 = (x_1.1.length : Int))))) ?_))
   obtain rfl := sI hF_4
   exact ⟨_, rfl, M_3, ((hM_1.trans hM_2).trans hM_3), (p_17.dropN 1), rfl⟩
  ·have k_3 := iff_f dI h_5
   have f := f.st 23 (cB h_5)
   refine Y f 7 fun _ f => eT (wp_ret (E_ret1 f rfl (by kernel_rfl : Vc.look _ 0 = some (.bool false)) ?_))
   obtain rfl := sI hF_5
   exact ⟨_, rfl, M_3, ((hM_1.trans hM_2).trans hM_3), (p_16.dropN 1), rfl⟩
 ·have k_4 := iff_f dI h_4
  have f := f.st 19 (cB h_4)
  refine Y f 11 fun _ f => eT (wp_ret (E_ret1 f rfl (by kernel_rfl : Vc.look _ 0 = some (.bool false)) ?_))
  obtain rfl := sI hF_6
  exact ⟨_, rfl, M_3, ((hM_1.trans hM_2).trans hM_3), (p_16.dropN 1), rfl⟩
end Go.Proofs.YtfaedhhjamaniaaDoor
end

section
namespace Go.Proofs.YtfaedhhjamaniaaDoor
open Go Go.Vc
theorem ws_run {n : Nat} {a s : List UInt8} {br : Bool} {d : Int} (h : a.length + s.length ≤ 10000000000000) : strings_Builder_WriteString_2 n a br d s = some ((s.length : Int), (), a ++ s, br, d) := by
 unfold strings_Builder_WriteString_2 strings_Builder_copyCheck_6 strings_Builder_copyCheck_4
 rw [bnd, need_t (by show (a.length + s.length) * 1 ≤ _; omega)]
theorem wb_run {n : Nat} {a : List UInt8} {br : Bool} {d : Int} (c : Int) (hc : 0 ≤ c ∧ c < 256) (h : a.length ≤ 10000000000000) : strings_Builder_WriteByte_2 n a br d c = some ((), a ++ [UInt8.ofNat c.toNat], br, d) := by
 unfold strings_Builder_WriteByte_2 strings_Builder_copyCheck_6 strings_Builder_copyCheck_4
 rw [bnd, need_t hc, need_t (by show (a.length + 1) * 1 ≤ _; omega)]
theorem wsL {n : Nat} {a s : List UInt8} (h : a.length + s.length ≤ 10000000000000) : strings_Builder_WriteString n a s = some ((s.length : Int), (), a ++ s) := by
 unfold strings_Builder_WriteString strings_Builder_copyCheck_3 strings_Builder_copyCheck
 rw [bnd, need_t (by omega)]
theorem wbL {n : Nat} {a : List UInt8} (c : Int) (hc : 0 ≤ c ∧ c < 256) (h : a.length ≤ 10000000000000) : strings_Builder_WriteByte n a c = some ((), a ++ [UInt8.ofNat c.toNat]) := by
 unfold strings_Builder_WriteByte strings_Builder_copyCheck_3 strings_Builder_copyCheck
 rw [bnd, need_t hc, need_t (by omega)]
theorem rep_two : ∀ d : Nat, Lib.repeatL [32, 32] d = List.replicate (2 * d) (32 : UInt8)
 | 0 => rfl
 | d + 1 => by
  rw [Lib.repeatL, rep_two d]
  have : 2 * (d + 1) = (2 * d + 1) + 1 := by omega
  rw [this, List.replicate_succ, List.replicate_succ]; rfl
theorem line_run {n : Nat} {a : List UInt8} {br : Bool} {d : Nat} (hd : d ≤ 1000) (h : a.length + (lineV br d).length ≤ 10000000000000) : print_writer_line n a br (d : Int) = some (a ++ lineV br d, br, (d : Int)) := by
 unfold print_writer_line
 cases br with
 | false => simp [lineV]
 | true =>
  have e : lineV true d = 10 :: List.replicate (2 * d) 32 := rfl
  rw [e] at h ⊢
  simp only [List.length_cons, List.length_replicate] at h
  simp only [cT]
  rw [wb_run 10 (by omega) (by omega), bnd]
  dsimp only
  unfold h_Repeat
  rw [need_t ⟨by omega, by omega, by decide⟩, bnd]
  have e2 : ((d : Int)).toNat = d := by omega
  rw [e2, rep_two, ws_run (by simp; omega), bnd]
  simp
def qtab : List (Int × Int) := mput (mput (mput (mput (mput (mput (mput ([] : List (Int × Int)) (34 : Int) (34 : Int)) (92 : Int) (92 : Int)) (8 : Int) (98 : Int)) (9 : Int) (116 : Int)) (10 : Int) (110 : Int)) (12 : Int) (102 : Int)) (13 : Int) (114 : Int)
def hexs : List UInt8 := [48, 49, 50, 51, 52, 53, 54, 55, 56, 57, 97, 98, 99, 100, 101, 102]
def okQ (i : Nat) : Bool :=
  if (mget qtab (i : Int)).isSome = true then decide (0 ≤ (mget qtab (i : Int)).getD 0 ∧ (mget qtab (i : Int)).getD 0 < 256) && decide ([92, UInt8.ofNat ((mget qtab (i : Int)).getD 0).toNat] = qb (UInt8.ofNat i))
  else if (i : Int) < 32 then decide (inR .u8 (48 + bShr .u8 (i : Int) 4)) && (decide (0 ≤ 48 + bShr .u8 (i : Int) 4 ∧ 48 + bShr .u8 (i : Int) 4 < 256) && (decide (getI hexs (bAnd .u8 (i : Int) 15) = some (hexs.getD (bAnd .u8 (i : Int) 15).toNat 0)) && decide ([92, 117, 48, 48, UInt8.ofNat (48 + bShr .u8 (i : Int) 4).toNat, UInt8.ofNat (((hexs.getD (bAnd .u8 (i : Int) 15).toNat 0).toNat : Int)).toNat] = qb (UInt8.ofNat i))))
  else decide ([UInt8.ofNat ((i : Int)).toNat] = qb (UInt8.ofNat i))
theorem okQ_all : (List.range 256).all okQ = true := by decide +kernel
theorem okQ_at (c : UInt8) : okQ c.toNat = true := List.all_eq_true.1 okQ_all _ (List.mem_range.2 c.toNat_lt)
theorem quote_loop {n : Nat} {s : List UInt8} (hs : s.length ≤ 5000) (hn : 6000 < n) : loopF (runes_Quote_s1 n s qtab) n ((0 : Int), [34]) = some (34 :: s.flatMap qb) := by
 have key := loop_all (n := n) (step := runes_Quote_s1 n s qtab) (fun k : Nat => ((k : Int), 34 :: (s.take k).flatMap qb)) s.length (34 :: s.flatMap qb) (fun k hk => ?_) ?_ (by omega)
 ·simpa using key
 ·have hfl := flat_len (s.take k)
  have htl : (s.take k).length ≤ 5000 := by rw [List.length_take]; omega
  have hi : inR .i64 ((k : Int) + 1) := inR_small (by omega) (by omega)
  have e1 : (s.take (k + 1)).flatMap qb = (s.take k).flatMap qb ++ qb (s.getD k 0) := by
   rw [List.take_add_one, List.flatMap_append]
   congr 1
   simp [List.getD, hk]
  show runes_Quote_s1 n s qtab ((k : Int), 34 :: (s.take k).flatMap qb) = some (.nx (((k + 1 : Nat) : Int), 34 :: (s.take (k + 1)).flatMap qb))
  rw [e1]
  generalize hA : (s.take k).flatMap qb = A at *
  have hAl : A.length ≤ 40000 := by omega
  have hq := okQ_at (s.getD k 0)
  unfold runes_Quote_s1
  simp only [decide_eq_true (by omega : (k : Int) < (s.length : Int)), cT, getI_at 0 hk, bnd]
  generalize s.getD k 0 = c at *
  have ec : UInt8.ofNat c.toNat = c := UInt8.ofNat_toNat
  unfold okQ at hq
  rw [ec] at hq
  by_cases h1 : (mget qtab (c.toNat : Int)).isSome = true
  ·rw [if_pos h1] at hq
   simp only [Bool.and_eq_true, decide_eq_true_eq] at hq
   rw [h1, cT, wbL 92 (by omega) (by simp; omega), bnd, wbL _ hq.1 (by simp; omega), bnd, need_t hi, ← hq.2]
   simp
  ·rw [if_neg h1] at hq
   have h1' : (mget qtab (c.toNat : Int)).isSome = false := by simpa using h1
   rw [h1', cF]
   by_cases h2 : (c.toNat : Int) < 32
   ·rw [if_pos h2] at hq
    simp only [Bool.and_eq_true, decide_eq_true_eq] at hq
    obtain ⟨q1, q2, q3, q4⟩ := hq
    rw [decide_eq_true h2, cT, wsL (by simp; omega), bnd, need_t q1, wbL _ q2 (by simp; omega), bnd]
    have q3' : getI ([48, 49, 50, 51, 52, 53, 54, 55, 56, 57, 97, 98, 99, 100, 101, 102] : List UInt8) (bAnd .u8 (c.toNat : Int) 15) = some (hexs.getD (bAnd .u8 (c.toNat : Int) 15).toNat 0) := q3
    rw [q3', bnd, wbL _ (by have := (hexs.getD (bAnd .u8 (c.toNat : Int) 15).toNat 0).toNat_lt; omega) (by simp; omega), bnd, need_t hi, ← q4]
    simp
   ·rw [if_neg h2] at hq
    simp only [decide_eq_true_eq] at hq
    rw [decide_eq_false h2, cF, wbL _ (by have := c.toNat_lt; omega) (by simp; omega), bnd, need_t hi, ← hq]
    simp
 ·show runes_Quote_s1 n s qtab ((s.length : Int), _) = _
  unfold runes_Quote_s1
  simp
theorem valid_run5 {n : Nat} {s : List UInt8} (hs : s.length ≤ 5000) : runes_Valid n s = some (Lib.validD s) := by
 unfold runes_Valid h_ValidString
 rw [need_t (by omega), bnd]
theorem Quote_run {n : Nat} {s : List UInt8} (hs : s.length ≤ 5000) (hn : 6000 < n) (hv : Lib.validD s = true) : runes_Quote n s = some (quoteV s, 0) := by
 unfold runes_Quote
 have hq := flat_len s
 rw [valid_run5 hs, bnd, hv]
 have e1 : runes_short n = some qtab := rfl
 simp only [Bool.not_true, cF, e1, bnd]
 rw [wbL 34 (by omega) (by simp), bnd]
 have e2 : ([] ++ [UInt8.ofNat (34 : Int).toNat] : List UInt8) = [34] := rfl
 rw [e2, quote_loop hs hn, bnd, wbL 34 (by omega) (by rw [List.length_cons]; omega), bnd]
 rfl
theorem quote_run {n : Nat} {a s : List UInt8} {br : Bool} {d : Int} (hs : s.length ≤ 5000) (hn : 6000 < n) (hv : Lib.validD s = true) (h : a.length + (quoteV s).length ≤ 10000000000000) : print_writer_quote n a br d s = some (a ++ quoteV s, br, d) := by
 unfold print_writer_quote
 rw [Quote_run hs hn hv, bnd, ws_run h, bnd]
theorem partsV_app (br : Bool) (d : Nat) (o : Bool) : ∀ (l m : List TA0) (ks : List (List UInt8)) (first : Bool), partsV br d o first ks (l ++ m) = partsV br d o first ks l ++ partsV br d o (first && decide (l.length = 0)) (ks.drop l.length) m
 | [], m, ks, first => by rw [partsV_nil]; simp
 | x :: l, m, ks, first => by
  rw [List.cons_append, partsV_cons, partsV_cons, partsV_app br d o l m ks.tail false]
  have e : ks.tail.drop l.length = ks.drop (x :: l).length := by
   rw [List.length_cons, ← List.drop_one, List.drop_drop, Nat.add_comm]
  rw [e, Bool.false_and, decide_eq_false (by simp : ¬ (x :: l).length = 0), Bool.and_false]
  simp only [List.append_assoc]
theorem parts_le (br : Bool) (d : Nat) (o : Bool) (l : List TA0) (ks : List (List UInt8)) (i : Nat) : (partsV br d o true ks (l.take i)).length ≤ (partsV br d o true ks l).length := by
 have h := partsV_app br d o (l.take i) (l.drop i) ks true
 rw [List.take_append_drop] at h
 rw [h, List.length_append]
 omega
theorem list_loop {n : Nat} (rec : List UInt8 → Bool → Int → TA0 → Option (List UInt8 × Bool × Int)) (v : TA0) (br : Bool) (d : Nat) (b : List UInt8) (hw : v.fList.length ≤ 3000) (hd : d ≤ 500) (hn : 6000 < n) (hL : b.length + (partsV br (d + 1) false true v.fKeys v.fList).length ≤ 10000000000000)
  (hr : ∀ x ∈ v.fList, ∀ a, a.length + (textV br (d + 1) x).length ≤ 10000000000000 → rec a br ((d + 1 : Nat) : Int) x = some (a ++ textV br (d + 1) x, br, ((d + 1 : Nat) : Int))) :
  loopF (print_writer_parts_2_s1 n rec v) n ((0 : Int), b, br, ((d + 1 : Nat) : Int)) = some (b ++ partsV br (d + 1) false true v.fKeys v.fList, br, ((d + 1 : Nat) : Int)) := by
 have key := loop_all (n := n) (step := print_writer_parts_2_s1 n rec v) (fun k : Nat => ((k : Int), b ++ partsV br (d + 1) false true v.fKeys (v.fList.take k), br, ((d + 1 : Nat) : Int))) v.fList.length (b ++ partsV br (d + 1) false true v.fKeys v.fList, br, ((d + 1 : Nat) : Int)) (fun k hk => ?_) ?_ (by omega)
 ·rw [List.take_zero, partsV_nil, List.append_nil] at key
  exact key
 ·have hi : inR .i64 ((k : Int) + 1) := inR_small (by omega) (by omega)
  have hx : v.fList[k]? = some v.fList[k] := List.getElem?_eq_getElem hk
  have hp := partsV_take br (d + 1) false v.fKeys hx
  have hle := parts_le br (d + 1) false v.fList v.fKeys (k + 1)
  rw [hp, List.length_append, List.length_append] at hle
  show print_writer_parts_2_s1 n rec v ((k : Int), b ++ partsV br (d + 1) false true v.fKeys (v.fList.take k), br, ((d + 1 : Nat) : Int)) = some (.nx (((k + 1 : Nat) : Int), b ++ partsV br (d + 1) false true v.fKeys (v.fList.take (k + 1)), br, ((d + 1 : Nat) : Int)))
  rw [hp]
  generalize hA : partsV br (d + 1) false true v.fKeys (v.fList.take k) = A at *
  have hg : getI v.fList (k : Int) = some v.fList[k] := by
   unfold getI
   rw [if_pos (by omega)]
   simp
  have hll : (leadV br (d + 1) false (decide (k = 0)) (v.fKeys.getD k [])).length = (if decide (k = 0) = true then ([] : List UInt8) else [44]).length + (lineV br (d + 1)).length := by
   unfold leadV headV
   simp
  unfold print_writer_parts_2_s1 print_writer_list_1
  simp only [decide_eq_true (by omega : (k : Int) < ((v.fList.length : Nat) : Int)), cT]
  have e1 : (bif decide ((0 : Int) < (k : Int)) then ((strings_Builder_WriteByte_2 n (b ++ A) br ((d + 1 : Nat) : Int) (44 : Int)).bind fun x_2 => some ((x_2.2.1, (x_2.2.2.1), x_2.2.2.2))) else some ((b ++ A, br, ((d + 1 : Nat) : Int))) : Option (List UInt8 × Bool × Int)) = some (b ++ A ++ (if decide (k = 0) = true then [] else [44]), br, ((d + 1 : Nat) : Int)) := by
   by_cases h0 : k = 0
   ·subst h0; simp
   ·rw [decide_eq_true (by omega : (0 : Int) < (k : Int)), cT, wb_run 44 (by omega) (by simp; omega), bnd, if_neg (by simpa using h0)]; rfl
  rw [e1, bnd, line_run (by omega) (by simp only [List.length_append]; omega), bnd, bnd, hg, bnd, hr _ (List.getElem_mem hk) _ (by simp only [List.length_append]; omega), bnd, need_t hi]
  congr 3
  unfold leadV headV
  simp
 ·show print_writer_parts_2_s1 n rec v ((v.fList.length : Int), _) = _
  unfold print_writer_parts_2_s1
  simp
theorem object_loop {n : Nat} (rec : List UInt8 → Bool → Int → TA0 → Option (List UInt8 × Bool × Int)) (v : TA0) (br : Bool) (d : Nat) (b : List UInt8) (hw : v.fList.length ≤ 3000) (hd : d ≤ 500) (hn : 6000 < n) (hL : b.length + (partsV br (d + 1) true true v.fKeys v.fList).length ≤ 10000000000000)
  (hk : v.fKeys.length = v.fList.length) (hkk : ∀ k ∈ v.fKeys, k.length ≤ 5000 ∧ Lib.validD k = true)
  (hr : ∀ x ∈ v.fList, ∀ a, a.length + (textV br (d + 1) x).length ≤ 10000000000000 → rec a br ((d + 1 : Nat) : Int) x = some (a ++ textV br (d + 1) x, br, ((d + 1 : Nat) : Int))) :
  loopF (print_writer_parts_s1 n rec v v) n ((0 : Int), b, br, ((d + 1 : Nat) : Int)) = some (b ++ partsV br (d + 1) true true v.fKeys v.fList, br, ((d + 1 : Nat) : Int)) := by
 have key := loop_all (n := n) (step := print_writer_parts_s1 n rec v v) (fun k : Nat => ((k : Int), b ++ partsV br (d + 1) true true v.fKeys (v.fList.take k), br, ((d + 1 : Nat) : Int))) v.fList.length (b ++ partsV br (d + 1) true true v.fKeys v.fList, br, ((d + 1 : Nat) : Int)) (fun k hk' => ?_) ?_ (by omega)
 ·rw [List.take_zero, partsV_nil, List.append_nil] at key
  exact key
 ·have hi : inR .i64 ((k : Int) + 1) := inR_small (by omega) (by omega)
  have hx : v.fList[k]? = some v.fList[k] := List.getElem?_eq_getElem hk'
  have hp := partsV_take br (d + 1) true v.fKeys hx
  have hle := parts_le br (d + 1) true v.fList v.fKeys (k + 1)
  rw [hp, List.length_append, List.length_append] at hle
  have hkey : v.fKeys.getD k [] ∈ v.fKeys := by
   have : k < v.fKeys.length := by omega
   simp [List.getD, this]
  have hkq := hkk _ hkey
  show print_writer_parts_s1 n rec v v ((k : Int), b ++ partsV br (d + 1) true true v.fKeys (v.fList.take k), br, ((d + 1 : Nat) : Int)) = some (.nx (((k + 1 : Nat) : Int), b ++ partsV br (d + 1) true true v.fKeys (v.fList.take (k + 1)), br, ((d + 1 : Nat) : Int)))
  rw [hp]
  generalize hA : partsV br (d + 1) true true v.fKeys (v.fList.take k) = A at *
  have hg : getI v.fList (k : Int) = some v.fList[k] := by
   unfold getI
   rw [if_pos (by omega)]
   simp
  have hgk : getI v.fKeys (k : Int) = some (v.fKeys.getD k []) := getI_at [] (by omega)
  have hll : (leadV br (d + 1) true (decide (k = 0)) (v.fKeys.getD k [])).length = (if decide (k = 0) = true then ([] : List UInt8) else [44]).length + (lineV br (d + 1)).length + (quoteV (v.fKeys.getD k [])).length + 1 + (if br = true then ([32] : List UInt8) else []).length := by
   unfold leadV headV
   simp only [if_pos, List.length_append, List.length_cons]
   omega
  unfold print_writer_parts_s1
  simp only [decide_eq_true (by omega : (k : Int) < ((v.fList.length : Nat) : Int)), cT]
  have e1 : (bif decide ((0 : Int) < (k : Int)) then ((strings_Builder_WriteByte_2 n (b ++ A) br ((d + 1 : Nat) : Int) (44 : Int)).bind fun x_2 => some ((x_2.2.1, (x_2.2.2.1), x_2.2.2.2))) else some ((b ++ A, br, ((d + 1 : Nat) : Int))) : Option (List UInt8 × Bool × Int)) = some (b ++ A ++ (if decide (k = 0) = true then [] else [44]), br, ((d + 1 : Nat) : Int)) := by
   by_cases h0 : k = 0
   ·subst h0; simp
   ·rw [decide_eq_true (by omega : (0 : Int) < (k : Int)), cT, wb_run 44 (by omega) (by simp; omega), bnd, if_neg (by simpa using h0)]; rfl
  have e2 : ∀ a : List UInt8, a.length + (quoteV (v.fKeys.getD k [])).length + 1 + (if br = true then ([32] : List UInt8) else []).length ≤ 10000000000000 → print_writer_object_1 n (k : Int) a br ((d + 1 : Nat) : Int) v = some (a ++ headV br true (v.fKeys.getD k []), br, ((d + 1 : Nat) : Int)) := fun a ha => by
   unfold print_writer_object_1
   rw [hgk, bnd, quote_run hkq.1 hn hkq.2 (by omega), bnd, wb_run 58 (by omega) (by simp only [List.length_append]; omega), bnd]
   cases br with
   | false => simp [headV]
   | true =>
    simp only [cT]
    rw [wb_run 32 (by omega) (by simp only [List.length_append, List.length_cons, List.length_nil, if_pos] at ha ⊢; omega), bnd]
    simp [headV]
  rw [e1, bnd, line_run (by omega) (by simp only [List.length_append]; omega), bnd, e2 _ (by simp only [List.length_append]; omega), bnd, hg, bnd, hr _ (List.getElem_mem hk') _ (by
   have e5 : (headV br true (v.fKeys.getD k [])).length = (quoteV (v.fKeys.getD k [])).length + 1 + (if br = true then ([32] : List UInt8) else []).length := by
    unfold headV
    simp only [if_pos, List.length_append, List.length_cons]
    omega
   simp only [List.length_append]; omega), bnd, need_t hi]
  congr 3
  unfold leadV
  simp only [List.append_assoc]
 ·show print_writer_parts_s1 n rec v v ((v.fList.length : Int), _) = _
  unfold print_writer_parts_s1
  simp
theorem value_run {n : Nat} (hn : 6000 < n) : ∀ (m k d : Nat) (v : TA0) (b : List UInt8) (br : Bool), m ≤ k → Small m v → OkV v → d + m ≤ 100 → b.length + (textV br d v).length ≤ 10000000000000 → print_writer_value_k n k b br (d : Int) v = some (b ++ textV br d v, br, (d : Int))
 | 0, _, _, _, _, _, _, h, _, _, _ => h.elim
 | m + 1, 0, _, _, _, _, hk, _, _, _, _ => absurd hk (by omega)
 | m + 1, k + 1, d, v, b, br, hk, hs, hv, hd, hL => by
  obtain ⟨hp, hno, hto, -⟩ := alone_ok (OkV_iff.1 hv).1
  have hw := hs.wide
  have h0 := hp.1
  have h5 := hp.2.1
  have hrec : ∀ x ∈ v.fList, ∀ a : List UInt8, a.length + (textV br (d + 1) x).length ≤ 10000000000000 → print_writer_value_k n k a br ((d + 1 : Nat) : Int) x = some (a ++ textV br (d + 1) x, br, ((d + 1 : Nat) : Int)) :=
   fun x hx a ha => value_run hn m k (d + 1) x a br (by omega) (hs.2.2.2.2 x hx) (hv.part hx) (by omega) ha
  have hd1 : inR .i64 ((d : Int) + 1) := inR_small (by omega) (by omega)
  have hd2 : inR .i64 (((d + 1 : Nat) : Int) - 1) := inR_small (by omega) (by omega)
  have ed : (((d + 1 : Nat) : Int) - 1) = (d : Int) := by omega
  have ed2 : ((d : Int) + 1) = ((d + 1 : Nat) : Int) := by omega
  rw [textV_eq] at hL ⊢
  show print_writer_value_b n (print_writer_value_k n k) b br (d : Int) v = _
  unfold print_writer_value_b
  rw [need_t (by omega)]
  by_cases k0 : v.fKind = 0
  ·rw [decide_eq_true k0, cT]
   have n1 : ¬ v.fKind = 1 := by omega
   have n2 : ¬ v.fKind = 2 := by omega
   have n3 : ¬ v.fKind = 3 := by omega
   have n4 : ¬ v.fKind = 4 := by omega
   have n5 : ¬ v.fKind = 5 := by omega
   rw [if_neg n1, if_neg n2, if_neg n3, if_neg n4, if_neg n5] at hL ⊢
   unfold print_writer_null
   rw [ws_run hL, bnd, bnd]
  ·rw [decide_eq_false k0, cF]
   by_cases k1 : v.fKind = 1
   ·rw [if_pos k1] at hL ⊢
    rw [decide_eq_true k1, cT]
    unfold print_writer_bool
    cases hb : v.fBool with
    | true =>
     rw [hb, if_pos rfl] at hL
     rw [cT, if_pos rfl, ws_run hL, bnd, bnd]
    | false =>
     rw [hb, if_neg (by simp)] at hL
     rw [cF, if_neg (by simp), ws_run hL, bnd, bnd]
   ·rw [if_neg k1] at hL ⊢
    rw [decide_eq_false k1, cF]
    by_cases k2 : v.fKind = 2
    ·rw [if_pos k2] at hL ⊢
     rw [decide_eq_true k2, cT]
     unfold print_writer_number h_numText
     have e3 : (Go.Num.text v.fNum).1 = numB v.fNum := rfl
     rw [bnd, e3, ws_run hL, bnd, bnd]
    ·rw [if_neg k2] at hL ⊢
     rw [decide_eq_false k2, cF]
     by_cases k3 : v.fKind = 3
     ·rw [if_pos k3] at hL ⊢
      rw [decide_eq_true k3, cT]
      unfold print_writer_text
      rw [quote_run hw.2.2.1 hn hto.1 hL, bnd, bnd]
     ·rw [if_neg k3] at hL ⊢
      rw [decide_eq_false k3, cF]
      by_cases k4 : v.fKind = 4
      ·rw [if_pos k4] at hL ⊢
       rw [decide_eq_true k4, cT]
       simp only [List.length_cons, List.length_append, List.length_nil] at hL
       unfold print_writer_list_2 print_writer_parts_2
       rw [wb_run 91 (by omega) (by omega), bnd, need_t hd1, ed2]
       simp only []
       rw [list_loop (print_writer_value_k n k) v br d _ hw.1 (by omega) hn (by simp only [List.length_append, List.length_cons, List.length_nil]; omega) hrec, bnd, need_t hd2, ed]
       have e9 : ∀ a : List UInt8, a.length + (if v.fList.length = 0 then ([] : List UInt8) else lineV br d).length ≤ 10000000000000 → (bif decide ((0 : Int) < ((v.fList.length : Nat) : Int)) then ((print_writer_line n a br (d : Int)).bind fun x_7 => some ((x_7.1, (x_7.2.1), x_7.2.2))) else some ((a, br, (d : Int))) : Option (List UInt8 × Bool × Int)) = some (a ++ (if v.fList.length = 0 then [] else lineV br d), br, (d : Int)) := fun a ha => by
        by_cases hz : v.fList.length = 0
        ·rw [decide_eq_false (by omega), cF, if_pos hz, List.append_nil]
        ·rw [if_neg hz] at ha ⊢
         rw [decide_eq_true (by omega), cT, line_run (by omega) ha, bnd]
       rw [e9 _ (by simp only [List.length_append, List.length_cons, List.length_nil]; omega), bnd, wb_run 93 (by omega) (by simp only [List.length_append, List.length_cons, List.length_nil]; omega), bnd, bnd, bnd]
       simp
      ·rw [if_neg k4] at hL ⊢
       have k5 : v.fKind = 5 := by omega
       rw [if_pos k5] at hL ⊢
       rw [decide_eq_false k4, cF]
       simp only [List.length_cons, List.length_append, List.length_nil] at hL
       unfold print_writer_object print_writer_parts
       rw [wb_run 123 (by omega) (by omega), bnd, need_t hd1, ed2]
       simp only []
       rw [object_loop (print_writer_value_k n k) v br d _ hw.1 (by omega) hn (by simp only [List.length_append, List.length_cons, List.length_nil]; omega) (plain_len hp k5) (fun q hq => ⟨hw.2.2.2 q hq, hto.2 q hq⟩) hrec, bnd, need_t hd2, ed]
       have e9 : ∀ a : List UInt8, a.length + (if v.fList.length = 0 then ([] : List UInt8) else lineV br d).length ≤ 10000000000000 → (bif decide ((0 : Int) < ((v.fList.length : Nat) : Int)) then ((print_writer_line n a br (d : Int)).bind fun x_7 => some ((x_7.1, (x_7.2.1), x_7.2.2))) else some ((a, br, (d : Int))) : Option (List UInt8 × Bool × Int)) = some (a ++ (if v.fList.length = 0 then [] else lineV br d), br, (d : Int)) := fun a ha => by
        by_cases hz : v.fList.length = 0
        ·rw [decide_eq_false (by omega), cF, if_pos hz, List.append_nil]
        ·rw [if_neg hz] at ha ⊢
         rw [decide_eq_true (by omega), cT, line_run (by omega) ha, bnd]
       rw [e9 _ (by simp only [List.length_append, List.length_cons, List.length_nil]; omega), bnd, wb_run 125 (by omega) (by simp only [List.length_append, List.length_cons, List.length_nil]; omega), bnd, bnd, bnd]
       simp
def printV (br : Bool) (v : TA0) : List UInt8 × Int :=
  if checkV v = 0 then (if 32768 < (textV br 0 (sortV v)).length then ([], 3) else (textV br 0 (sortV v), 0)) else ([], checkV v)
theorem text_run {n : Nat} (hn : 6000 < n) {v : TA0} (h : Fine v) (br : Bool) : print_text n v br = some (printV br v) := by
 unfold print_text printV
 rw [check_run hn h, bnd]
 by_cases hc : checkV v = 0
 ·have hok := (checkV_ok hc).1
  have hf := h.sort hok
  have hl := text_len_gen br 60 0 (sortV v) hf.small (by omega)
  have hfew := hf.few
  rw [decide_eq_true hc, if_pos hc]
  simp only [Bool.not_true, cF]
  have e1 : sortedV v = sortV v := by unfold sortedV; rw [if_pos hc]
  rw [Sorted_run hn h, bnd, e1]
  unfold print_writer_value
  have e2 : ((0 : Nat) : Int) = 0 := rfl
  rw [← e2, value_run hn 60 n 0 (sortV v) [] br (by omega) hf.small hok.sort (by omega) (by simp only [List.length_nil]; omega), bnd]
  unfold strings_Builder_Len strings_Builder_String_2
  simp only [List.nil_append, bnd]
  by_cases hlong : 32768 < (textV br 0 (sortV v)).length
  ·rw [decide_eq_true (by omega), cT, if_pos hlong]
  ·rw [decide_eq_false (by omega), cF, if_neg hlong]
 ·rw [decide_eq_false hc, if_neg hc]
  simp only [Bool.not_false, cT]
theorem Print_run {n : Nat} (hn : 6000 < n) {v : TA0} (h : Fine v) : print_Print n v = some (printV false v) := by
 unfold print_Print
 rw [text_run hn h, bnd]
theorem Broad_run {n : Nat} (hn : 6000 < n) {v : TA0} (h : Fine v) : print_Broad n v = some (printV true v) := by
 unfold print_Broad
 rw [text_run hn h, bnd]
theorem printV_ok {br : Bool} {v : TA0} (h : (printV br v).2 = 0) : checkV v = 0 ∧ (printV br v).1 = textV br 0 (sortV v) ∧ (textV br 0 (sortV v)).length ≤ 32768 := by
 unfold printV at h ⊢
 by_cases hc : checkV v = 0
 ·rw [if_pos hc] at h ⊢
  by_cases hl : 32768 < (textV br 0 (sortV v)).length
  ·rw [if_pos hl] at h; cases h
  ·rw [if_neg hl]; exact ⟨hc, rfl, by omega⟩
 ·rw [if_neg hc] at h; exact absurd h hc
theorem printV_long {br : Bool} {v : TA0} (hc : checkV v = 0) (h : (printV br v).2 ≠ 0) : (printV br v).2 = 3 := by
 unfold printV at h ⊢
 rw [if_pos hc] at h ⊢
 by_cases hl : 32768 < (textV br 0 (sortV v)).length
 ·rw [if_pos hl]
 ·rw [if_neg hl] at h; exact absurd rfl h
end Go.Proofs.YtfaedhhjamaniaaDoor
end

section
namespace Go.Proofs.YtfaedhhjamaniaaDoor
open Go Go.Vc Go.RowKit
def law05_PrintLines_s3 (n : Nat) (x_5 : List UInt8) (s_3 : Int) : Option (Lp Int (Sum Bool Unit)) :=
    bif (decide (s_3 < (x_5.length : Int))) then
      ((getI x_5 s_3).bind fun c_3 =>
      bif (decide (((c_3).toNat : Int) = 32)) then
        ((law05_wakes n).bind fun x_6 =>
        some (.br (.inl (x_6))))
      else
        need (inR .i64 (s_3 + 1)) <|
        some (.nx (s_3 + 1)))
    else
      some (.br (.inr ()))
def law05_PrintLines_s2 (n : Nat) (x_4 : TA0) (s_2 : Int) : Option (Lp Int (Sum Bool Unit)) :=
    bif (decide (s_2 < (((([x_4.fText] : List (List UInt8)) ++ x_4.fKeys).length : Nat) : Int))) then
      ((getI (([x_4.fText] : List (List UInt8)) ++ x_4.fKeys) s_2).bind fun x_5 =>
      (loopF (law05_PrintLines_s3 n x_5) n (0 : Int)).bind fun b_7 =>
      (match b_7 with 
      | .inl y_1 => some (.br (.inl (y_1))) 
      | .inr y_2 => need (inR .i64 (s_2 + 1)) <|
        some (.nx (s_2 + 1))))
    else
      some (.br (.inr ()))
def law05_PrintLines_s1 (n : Nat) (x_3 : List TA0) (s_1 : Int) : Option (Lp Int (Sum Bool Unit)) :=
    bif (decide (s_1 < ((x_3.length : Nat) : Int))) then
      ((getI x_3 s_1).bind fun x_4 =>
      need ((([x_4.fText] : List (List UInt8)).length + x_4.fKeys.length) * 16 ≤ 140737488355328) <|
      (loopF (law05_PrintLines_s2 n x_4) n (0 : Int)).bind fun b_5 =>
      (match b_5 with 
      | .inl y_3 => some (.br (.inl (y_3))) 
      | .inr y_4 => need (inR .i64 (s_1 + 1)) <|
        some (.nx (s_1 + 1))))
    else
      some (.br (.inr ()))
def law05_PrintLines_s4 (n : Nat) (x_8 : List UInt8 × Int) (s_4 : List UInt8 × Int) : Option (Lp (List UInt8 × Int) (List UInt8)) :=
    bif (decide (s_4.2 < (x_8.1.length : Int))) then
      ((((getI x_8.1 s_4.2).bind fun c_4 =>
        bif (!(decide (((c_4).toNat : Int) = 32))) then
          ((getI x_8.1 s_4.2).bind fun c_5 =>
          some ((!(decide (((c_5).toNat : Int) = 10)))))
        else
          some ((false)) : Option Bool)).bind fun y_9 =>
      bif y_9 then
        ((getI x_8.1 s_4.2).bind fun c_6 =>
        need ((s_4.1.length + 1) * 1 ≤ 140737488355328) <|
        need (inR .i64 (s_4.2 + 1)) <|
        some (.nx (s_4.1 ++ [c_6], s_4.2 + 1)))
      else
        need (inR .i64 (s_4.2 + 1)) <|
        some (.nx (s_4.1, s_4.2 + 1)))
    else
      some (.br s_4.1)
def law05_PrintLines (n : Nat) (d0 : TA0) : Option Bool :=
  (ref03_Great n d0).bind fun x_1 =>
  bif x_1 then
    ((law05_wakes n).bind fun x_2 =>
    some ((x_2)))
  else
    (ref03_Walk n d0).bind fun x_3 =>
    (loopF (law05_PrintLines_s1 n x_3) n (0 : Int)).bind fun b_2 =>
    (match b_2 with 
    | .inl y_5 => some ((y_5)) 
    | .inr y_6 => (print_Print n d0).bind fun x_7 =>
      (print_Broad n d0).bind fun x_8 =>
      ((bif (!(decide (x_7.2 = 0))) then
          (some ((true)))
        else
          some ((!(decide (x_8.2 = 0)))) : Option Bool)).bind fun y_7 =>
      bif y_7 then
        (((bif (!(decide (x_7.2 = 0))) then
            ((law05_wakes n).bind fun x_9 =>
            some ((x_9)))
          else
            bif (decide (x_8.2 = 3)) then
              ((law05_wakes n).bind fun x_10 =>
              some ((x_10)))
            else
              some ((false)) : Option Bool)).bind fun y_8 =>
        some ((y_8)))
      else
        (loopF (law05_PrintLines_s4 n x_8) n (([] : List UInt8), (0 : Int))).bind fun y_10 =>
        bif (decide (y_10 = x_7.1)) then
          ((law05_wakes n).bind fun x_11 =>
          some ((x_11)))
        else
          some ((false)))
set_option maxRecDepth 20000 in
theorem law05_PrintLines_ok (n : Nat) (M : Mem) (hG : GL M) (c0 : List Value) (d0 : TA0) (h0 : Rep M (emb_TA0 d0) c0) (r : Bool) (hF : law05_PrintLines n d0 = some r) : Ok Tryd.prog M 5 [.agg c0.toArray] (fun _ v => v = .bool r) := by
 unfold law05_PrintLines at hF
 intro M1 hM0 w0 H w p0
 replace hG := GL.mono hM0 hG
 replace h0 := Rep.mono hM0 _ _ h0
 obtain ⟨A_1, cap_1, A_2, cap_2, rfl, h_1, h_2⟩ := TA0.opn h0
 refine R_enter 102 Tryd.func5 rfl rfl (by simp) fun a0 f0 => RR (Y10 (cs := #[.int .i8 d0.fKind, .bool d0.fBool, .int .i64 d0.fNum, S d0.fText, .slice A_1 d0.fList.length cap_1, .slice A_2 d0.fKeys.length cap_2]) (T := 26) f0 p0 fun b_1 M_1 w_1 hM_1 hc_1 p_1 _ f => ?_)
 have hc_2 := fz_box hc_1
 refine Y f 1 fun _ f => eT (R_seq (RR (Z (v := .agg #[.int .i8 d0.fKind, .bool d0.fBool, .int .i64 d0.fNum, S d0.fText, .slice A_1 d0.fList.length cap_1, .slice A_2 d0.fKeys.length cap_2]) f (Y28 (cs := [.int .i8 d0.fKind, .bool d0.fBool, .int .i64 d0.fNum, S d0.fText, .slice A_1 d0.fList.length cap_1, .slice A_2 d0.fKeys.length cap_2]) rfl (ad := ⟨b_1, 0, none⟩) (fun j v h => p_1.cell (hc_2 j v h))) fun _ f => ?_)))
 obtain ⟨x_1, hx_1, hF_1⟩ := bS hF
 refine Y15 f p_1 (ref03_Great_ok n _ _ d0 (TA0.shutx (x := d0) (h_1.mono hM_1) (h_2.mono hM_1)) x_1 hx_1) fun w_2 p_2 _ f => eT (RcF f hF_1 (fun h_3 hF_2 => ?_) fun h_3 hF_4 => ?_)
 ·refine RR ?_
  obtain ⟨x_2, hx_2, hF_3⟩ := bS hF_2
  refine Y15 f p_2 (law05_wakes_ok n _ (GL.mono hM_1 hG) x_2 hx_2) fun w_3 p_3 _ f => Y f 1 fun _ f => eT (wp_ret (T_r (E_ret1 f rfl (by kernel_rfl : Vc.look _ 2 = some (.bool x_2)) ?_)))
  obtain rfl := sI hF_3
  exact ⟨_, rfl, M_1, hM_1, p_3, rfl⟩
 ·refine wp_skip (T_n (R_seq (RR (Z (v := .agg #[.int .i8 d0.fKind, .bool d0.fBool, .int .i64 d0.fNum, S d0.fText, .slice A_1 d0.fList.length cap_1, .slice A_2 d0.fKeys.length cap_2]) f (Y28 (cs := [.int .i8 d0.fKind, .bool d0.fBool, .int .i64 d0.fNum, S d0.fText, .slice A_1 d0.fList.length cap_1, .slice A_2 d0.fKeys.length cap_2]) rfl (ad := ⟨b_1, 0, none⟩) (fun j v h => p_2.cell (hc_2 j v h))) fun _ f => ?_))))
  obtain ⟨x_3, hx_3, hF_5⟩ := bS hF_4
  refine Y13 f p_2 (ref03_Walk_ok n _ _ d0 (TA0.shutx (x := d0) (h_1.mono hM_1) (h_2.mono hM_1)) x_3 hx_3) fun _ M_2 w_4 hM_2 p_4 q_1 _ f => ?_
  obtain ⟨A_3, cap_3, rfl, h_4⟩ := q_1
  refine Y f 2 fun _ f => eT (wp_block ?_)
  obtain ⟨b_2, hL_1, hF_6⟩ := bS hF_5
  refine wp_mono (Q := fun e a w => (e = .ret ∧ (∃ y_5 : Bool, b_2 = .inl y_5 ∧ ∃ M_10 : Mem, M_2.le M_10 ∧ Frm 102 [(2, .bool y_5)] a ∧ Hp w0 M_10 (H) w)) ∨ (e = .exit 0 ∧ (∃ y_6 : Unit, b_2 = .inr y_6 ∧ ∃ M_11 : Mem, M_2.le M_11 ∧ Frm 102 [(1, .pointer (some (⟨b_1, 0, none⟩)))] a ∧ Hp w0 M_11 (H) w))) (R_loop (n := 102) (w0 := w0) (M := M_2) (fun (x : Nat × Int) => match x with | (m_1, s_1) => [(1, .pointer (some (⟨b_1, 0, none⟩))), (18, .slice A_3 x_3.length cap_3), (19, .int .i64 ((x_3.length : Nat) : Int)), (20, .int .i64 s_1)]) (fun (x : Nat × Int) => match x with | (m_1, s_1) => (H)) (fun (x : Nat × Int) (MM : Mem) => match x with | (m_1, s_1) => loopF (law05_PrintLines_s1 n x_3) m_1 s_1 = some b_2) (fun (x : Nat × Int) => match x with | (m_1, s_1) => m_1) (n, (0 : Int)) (f.kp) p_4 hL_1 ?_) ?_
  ·rintro ⟨m_1, s_1⟩ M_3 _ w_5 hM_3 I_1 f p_5
   have I_1L := I_1
   obtain ⟨m_2, r_1, rfl, hs_1, hn_1⟩ := loop_step I_1L
   unfold law05_PrintLines_s1 at hs_1
   refine RR (Y f 1 fun _ f => eT (R_seq (RcF f hs_1 (fun h_5 hF_7 => ?_) fun h_5 hF_24 => ?_)))
   ·have k_3 := dI.1 h_5
    refine wp_skip (T_n (R_seq (wp_block (RR ?_))))
    obtain ⟨x_4, hx_4, hF_8⟩ := bS hF_7
    obtain ⟨ad_1, c_1, e_1, -, hr_1, hc_3⟩ := Sli.at_ (h_4.mono hM_3) hx_4
    obtain ⟨A_4, cap_4, A_5, cap_5, rfl, h_6, h_7⟩ := TA0.opn hr_1
    refine Z f (Y26 e_1 rfl (len := x_3.length) (cap := cap_3) (k := .i64) (i := s_1) (e := 26) (sz := 6) (getI_nn hx_4) (getI_lt hx_4)) fun _ f => Z (v := .agg #[.int .i8 x_4.fKind, .bool x_4.fBool, .int .i64 x_4.fNum, S x_4.fText, .slice A_4 x_4.fList.length cap_4, .slice A_5 x_4.fKeys.length cap_5]) f (Y28 (cs := [.int .i8 x_4.fKind, .bool x_4.fBool, .int .i64 x_4.fNum, S x_4.fText, .slice A_4 x_4.fList.length cap_4, .slice A_5 x_4.fKeys.length cap_5]) rfl (ad := ad_1.add (s_1.toNat * 6)) (fun j v h => p_5.cell (hc_3 j v h))) fun _ f => Y9 f p_5 (.cells #[.int .i8 0, .bool false, .int .i64 0, S [], .slice none 0 0, .slice none 0 0] 26 (0, 0)) fun b_3 w_6 p_6 _ f => Y24 (vs := [.int .i8 x_4.fKind, .bool x_4.fBool, .int .i64 x_4.fNum, S x_4.fText, .slice A_4 x_4.fList.length cap_4, .slice A_5 x_4.fKeys.length cap_5]) (j := 0) f p_6 rfl rfl (by simp [Value.oneCell', S]) (by simp) (by decide) (cs' := #[.int .i8 x_4.fKind, .bool x_4.fBool, .int .i64 x_4.fNum, S x_4.fText, .slice A_4 x_4.fList.length cap_4, .slice A_5 x_4.fKeys.length cap_5]) fun w_7 p_7 _ f => eT (RR (Y f 1 fun _ f => Z f (Y27 (v := S x_4.fText) rfl (ad := ⟨b_3, 3, none⟩) (p_7.ownCell 0 rfl 3)) fun _ f => V_allocS (k := 1) (c := 1) f p_7 (.cells #[S x_4.fText] 9 (0, 0)) (by kernel_rfl) (fun _ => by kernel_rfl) fun b_4 w_8 p_8 _ f => Y f 1 fun _ f => Z f (Y27 (v := .slice A_5 x_4.fKeys.length cap_5) rfl (ad := ⟨b_3, 5, none⟩) (p_8.ownCell 1 rfl 5)) fun _ f => ?_))
    have hr_2 : RepSeq M_3 (([x_4.fText] : List (List UInt8)).map Dat.str) [S x_4.fText] := ⟨_, _, rfl, rfl, rfl⟩
    have p_9 : Hp w0 M_3 ((Ent.row 9 1 (.slice (some ⟨b_4, 0, none⟩) 1 1) ([x_4.fText] : List (List UInt8)).length [S x_4.fText]) :: (Ent.obj b_3 (.cells #[.int .i8 x_4.fKind, .bool x_4.fBool, .int .i64 x_4.fNum, S x_4.fText, .slice A_4 x_4.fList.length cap_4, .slice A_5 x_4.fKeys.length cap_5] 26 (0, 0))) :: H) w_8 := p_8.objRow (n := 1) (cap := 1) (size := 1) (by decide) (by decide) (blk_eq (by decide) rfl) rfl rfl
    obtain ⟨g_1, hF_9⟩ := nS hF_8
    refine Y18 (z := S []) (f := Dat.str) (xs := ([x_4.fText] : List (List UInt8))) (ys := x_4.fKeys) (c := cap_5) f p_9 hr_2 h_7 rfl rfl rfl g_1 (by omega) fun A_6 cap_6 cs_1 w_9 p_10 hr_3 _ f => Y f 2 fun _ f => eT (wp_block ?_)
    obtain ⟨b_5, hL_2, hF_10⟩ := bS hF_9
    refine wp_mono (Q := fun e a w => (e = .ret ∧ (∃ y_3 : Bool, b_5 = .inl y_3 ∧ ∃ M_8 : Mem, M_3.le M_8 ∧ Frm 102 [(2, .bool y_3)] a ∧ Hp w0 M_8 ((Ent.row 9 1 (.slice A_6 (([x_4.fText] : List (List UInt8)) ++ x_4.fKeys).length cap_6) (([x_4.fText] : List (List UInt8)) ++ x_4.fKeys).length cs_1) :: (Ent.obj b_3 (.cells #[.int .i8 x_4.fKind, .bool x_4.fBool, .int .i64 x_4.fNum, S x_4.fText, .slice A_4 x_4.fList.length cap_4, .slice A_5 x_4.fKeys.length cap_5] 26 (0, 0))) :: H) w)) ∨ (e = .exit 2 ∧ (∃ y_4 : Unit, b_5 = .inr y_4 ∧ ∃ M_9 : Mem, M_3.le M_9 ∧ Frm 102 [(1, .pointer (some (⟨b_1, 0, none⟩))), (18, .slice A_3 x_3.length cap_3), (19, .int .i64 ((x_3.length : Nat) : Int)), (20, .int .i64 s_1)] a ∧ Hp w0 M_9 ((Ent.row 9 1 (.slice A_6 (([x_4.fText] : List (List UInt8)) ++ x_4.fKeys).length cap_6) (([x_4.fText] : List (List UInt8)) ++ x_4.fKeys).length cs_1) :: (Ent.obj b_3 (.cells #[.int .i8 x_4.fKind, .bool x_4.fBool, .int .i64 x_4.fNum, S x_4.fText, .slice A_4 x_4.fList.length cap_4, .slice A_5 x_4.fKeys.length cap_5] 26 (0, 0))) :: H) w))) (R_loop (n := 102) (w0 := w0) (M := M_3) (fun (x : Nat × Int) => match x with | (m_3, s_2) => [(1, .pointer (some (⟨b_1, 0, none⟩))), (18, .slice A_3 x_3.length cap_3), (19, .int .i64 ((x_3.length : Nat) : Int)), (20, .int .i64 s_1), (29, .slice A_6 (([x_4.fText] : List (List UInt8)) ++ x_4.fKeys).length cap_6), (30, .int .i64 (((([x_4.fText] : List (List UInt8)) ++ x_4.fKeys).length : Nat) : Int)), (31, .int .i64 s_2)]) (fun (x : Nat × Int) => match x with | (m_3, s_2) => ((Ent.row 9 1 (.slice A_6 (([x_4.fText] : List (List UInt8)) ++ x_4.fKeys).length cap_6) (([x_4.fText] : List (List UInt8)) ++ x_4.fKeys).length cs_1) :: (Ent.obj b_3 (.cells #[.int .i8 x_4.fKind, .bool x_4.fBool, .int .i64 x_4.fNum, S x_4.fText, .slice A_4 x_4.fList.length cap_4, .slice A_5 x_4.fKeys.length cap_5] 26 (0, 0))) :: H)) (fun (x : Nat × Int) (MM : Mem) => match x with | (m_3, s_2) => loopF (law05_PrintLines_s2 n x_4) m_3 s_2 = some b_5) (fun (x : Nat × Int) => match x with | (m_3, s_2) => m_3) (n, (0 : Int)) (f.kp) p_10 hL_2 ?_) ?_
    ·rintro ⟨m_3, s_2⟩ M_4 _ w_10 hM_4 I_2 f p_11
     have I_2L := I_2
     obtain ⟨m_4, r_2, rfl, hs_2, hn_2⟩ := loop_step I_2L
     unfold law05_PrintLines_s2 at hs_2
     refine RR (Y f 1 fun _ f => eT (R_seq (RcF f hs_2 (fun h_8 hF_11 => ?_) fun h_8 hF_22 => ?_)))
     ·have k_4 := dI.1 h_8
      refine wp_skip (T_n (R_seq (wp_block (RR ?_))))
      obtain ⟨x_5, hx_5, hF_12⟩ := bS hF_11
      obtain ⟨b_6, cap_7, hv_1, hcap_1⟩ := p_11.rowAddr 0 rfl (getI_pos hx_5)
      have f := f.st 29 (hv_1)
      refine Z f (Y25 rfl (ad := ⟨b_6, 0, none⟩) (len := (([x_4.fText] : List (List UInt8)) ++ x_4.fKeys).length) (cap := cap_7) (k := .i64) (i := s_2) (e := 9) (sz := 1) (getI_nn hx_5) (getI_lt hx_5)) fun _ f => ?_
      have f := f.st 29 (hv_1.symm)
      obtain ⟨c_2, -, hr_4, hc_4⟩ := RepSeq.get s_2.toNat (szd_all szd_str) (RepSeq.mono hM_4 _ _ hr_3) (getI_map hx_5)
      obtain rfl : c_2 = [S x_5] := hr_4
      refine Z f (Y27 (v := S x_5) rfl (ad := (⟨b_6, 0, none⟩ : Addr).add (s_2.toNat * 1)) (by simpa [Addr.add] using (fun j v h => row_at (p_11.rowCell 0 rfl hv_1) hc_4 j v h) 0 _ rfl)) fun _ f => Y f 1 fun _ f => eT (RR (Y f 1 fun _ f => eT (wp_block ?_)))
      obtain ⟨b_7, hL_3, hF_13⟩ := bS hF_12
      refine wp_mono (Q := fun e a w => (e = .ret ∧ (∃ y_1 : Bool, b_7 = .inl y_1 ∧ ∃ M_6 : Mem, M_4.le M_6 ∧ Frm 102 [(2, .bool y_1)] a ∧ Hp w0 M_6 ((Ent.row 9 1 (.slice A_6 (([x_4.fText] : List (List UInt8)) ++ x_4.fKeys).length cap_6) (([x_4.fText] : List (List UInt8)) ++ x_4.fKeys).length cs_1) :: (Ent.obj b_3 (.cells #[.int .i8 x_4.fKind, .bool x_4.fBool, .int .i64 x_4.fNum, S x_4.fText, .slice A_4 x_4.fList.length cap_4, .slice A_5 x_4.fKeys.length cap_5] 26 (0, 0))) :: H) w)) ∨ (e = .exit 4 ∧ (∃ y_2 : Unit, b_7 = .inr y_2 ∧ ∃ M_7 : Mem, M_4.le M_7 ∧ Frm 102 [(1, .pointer (some (⟨b_1, 0, none⟩))), (18, .slice A_3 x_3.length cap_3), (19, .int .i64 ((x_3.length : Nat) : Int)), (20, .int .i64 s_1), (29, .slice A_6 (([x_4.fText] : List (List UInt8)) ++ x_4.fKeys).length cap_6), (30, .int .i64 (((([x_4.fText] : List (List UInt8)) ++ x_4.fKeys).length : Nat) : Int)), (31, .int .i64 s_2)] a ∧ Hp w0 M_7 ((Ent.row 9 1 (.slice A_6 (([x_4.fText] : List (List UInt8)) ++ x_4.fKeys).length cap_6) (([x_4.fText] : List (List UInt8)) ++ x_4.fKeys).length cs_1) :: (Ent.obj b_3 (.cells #[.int .i8 x_4.fKind, .bool x_4.fBool, .int .i64 x_4.fNum, S x_4.fText, .slice A_4 x_4.fList.length cap_4, .slice A_5 x_4.fKeys.length cap_5] 26 (0, 0))) :: H) w))) (R_loop (n := 102) (w0 := w0) (M := M_4) (fun (x : Nat × Int) => match x with | (m_5, s_3) => [(1, .pointer (some (⟨b_1, 0, none⟩))), (6, S x_5), (7, .int .i64 s_3), (18, .slice A_3 x_3.length cap_3), (19, .int .i64 ((x_3.length : Nat) : Int)), (20, .int .i64 s_1), (29, .slice A_6 (([x_4.fText] : List (List UInt8)) ++ x_4.fKeys).length cap_6), (30, .int .i64 (((([x_4.fText] : List (List UInt8)) ++ x_4.fKeys).length : Nat) : Int)), (31, .int .i64 s_2)]) (fun (x : Nat × Int) => match x with | (m_5, s_3) => ((Ent.row 9 1 (.slice A_6 (([x_4.fText] : List (List UInt8)) ++ x_4.fKeys).length cap_6) (([x_4.fText] : List (List UInt8)) ++ x_4.fKeys).length cs_1) :: (Ent.obj b_3 (.cells #[.int .i8 x_4.fKind, .bool x_4.fBool, .int .i64 x_4.fNum, S x_4.fText, .slice A_4 x_4.fList.length cap_4, .slice A_5 x_4.fKeys.length cap_5] 26 (0, 0))) :: H)) (fun (x : Nat × Int) (MM : Mem) => match x with | (m_5, s_3) => loopF (law05_PrintLines_s3 n x_5) m_5 s_3 = some b_7) (fun (x : Nat × Int) => match x with | (m_5, s_3) => m_5) (n, (0 : Int)) (f.kp) p_11 hL_3 ?_) ?_
      ·rintro ⟨m_5, s_3⟩ M_5 _ w_11 hM_5 I_3 f p_12
       have I_3L := I_3
       obtain ⟨m_6, r_3, rfl, hs_3, hn_3⟩ := loop_step I_3L
       unfold law05_PrintLines_s3 at hs_3
       refine R_seq (RR (Y f 4 fun _ f => eT (RcF f hs_3 (fun h_9 hF_14 => ?_) fun h_9 hF_20 => ?_)))
       ·have k_5 := dI.1 h_9
        refine wp_skip (T_n (R_seq (wp_block (RR (Y f 2 fun _ f => ?_)))))
        obtain ⟨c_3, hx_6, hF_15⟩ := bS hF_14
        refine Z f (Y31 rfl (l := x_5) (k := .i64) (i := s_3) (getI_nn hx_6) (getI_lt hx_6)) fun _ f => ?_
        have f := Frm.set f 43 (v := .int .u8 ((x_5.getD s_3.toNat 0).toNat : Int)) (v' := .int .u8 ((c_3).toNat : Int)) (by kernel_rfl) (congrArg (fun c : UInt8 => Value.int .u8 ((c.toNat : Nat) : Int)) (getI_getD hx_6))
        refine Y f 1 fun _ f => eT (RcF f hF_15 (fun h_10 hF_16 => ?_) fun h_10 hF_18 => ?_)
        ·have k_6 := dI.1 h_10
         refine RR ?_
         obtain ⟨x_6, hx_7, hF_17⟩ := bS hF_16
         refine Y15 f p_12 (law05_wakes_ok n _ (GL.mono ((((hM_1.trans hM_2).trans hM_3).trans hM_4).trans hM_5) hG) x_6 hx_7) fun w_12 p_13 _ f => Y f 1 fun _ f => eT (wp_ret (B_r (T_r (T_r ?_))))
         obtain rfl := sI hF_17
         exact .inl ⟨rfl, (x_6), (sI hn_3).symm, M_5, hM_5, f.kp, p_13⟩
        ·have k_7 := iff_f dI h_10
         refine wp_skip (B_n (T_n (R_reg (Y f 1 fun _ f => ?_))))
         obtain ⟨g_2, hF_19⟩ := nS hF_18
         refine Y f 1 fun _ f => ?_
         have f := f.st 40 (congrArg (Value.int .i64) (inR_wrap g_2))
         refine Y f 1 fun _ f => eT ?_
         obtain rfl := sI hF_19
         exact ⟨⟨m_6, s_3 + 1⟩, Nat.lt_succ_self _, M_5, hM_5, hn_3, f.kp, p_12⟩
       ·have k_8 := iff_f dI h_9
        refine wp_exit (T_x (T_x ?_))
        obtain rfl := sI hF_20
        exact .inr ⟨rfl, (), (sI hn_3).symm, M_5, hM_5, f.kp, p_12⟩
      ·rintro _ _ w_15 (⟨rfl, y_1, rfl, M_6, hM_6, f, p_14⟩ | ⟨rfl, y_2, rfl, M_7, hM_7, f, p_15⟩)
       ·refine B_r (B_r (T_r (T_r ?_)))
        obtain rfl := sI hF_13
        exact .inl ⟨rfl, (y_1), (sI hn_2).symm, M_6, (hM_4.trans hM_6), f.kp, p_14⟩
       ·refine B_x (B_n (T_n (R_reg ?_)))
        obtain ⟨g_3, hF_21⟩ := nS hF_13
        refine Y f 1 fun _ f => ?_
        have f := f.st 46 (congrArg (Value.int .i64) (inR_wrap g_3))
        refine Y f 1 fun _ f => eT ?_
        obtain rfl := sI hF_21
        exact ⟨⟨m_4, s_2 + 1⟩, Nat.lt_succ_self _, M_7, (hM_4.trans hM_7), hn_2, f.kp, p_15⟩
     ·have k_9 := iff_f dI h_8
      refine wp_exit (T_x (T_x ?_))
      obtain rfl := sI hF_22
      exact .inr ⟨rfl, (), (sI hn_2).symm, M_4, hM_4, f.kp, p_11⟩
    ·rintro _ _ w_18 (⟨rfl, y_3, rfl, M_8, hM_8, f, p_16⟩ | ⟨rfl, y_4, rfl, M_9, hM_9, f, p_17⟩)
     ·refine B_r (B_r (T_r (T_r ?_)))
      obtain rfl := sI hF_10
      exact .inl ⟨rfl, (y_3), (sI hn_1).symm, M_8, (hM_3.trans hM_8), f.kp, (p_16.dropN 2)⟩
     ·refine B_x (B_n (T_n (R_reg ?_)))
      obtain ⟨g_4, hF_23⟩ := nS hF_10
      refine Y f 1 fun _ f => ?_
      have f := f.st 47 (congrArg (Value.int .i64) (inR_wrap g_4))
      refine Y f 1 fun _ f => eT ?_
      obtain rfl := sI hF_23
      exact ⟨⟨m_2, s_1 + 1⟩, Nat.lt_succ_self _, M_9, (hM_3.trans hM_9), hn_1, f.kp, (p_17.dropN 2)⟩
   ·have k_10 := iff_f dI h_5
    refine wp_exit (T_x (T_x ?_))
    obtain rfl := sI hF_24
    exact .inr ⟨rfl, (), (sI hn_1).symm, M_3, hM_3, f.kp, p_5⟩
  ·rintro _ _ w_21 (⟨rfl, y_5, rfl, M_10, hM_10, f, p_18⟩ | ⟨rfl, y_6, rfl, M_11, hM_11, f, p_19⟩)
   ·refine B_r (T_r (E_ret1 f rfl (by kernel_rfl : Vc.look _ 2 = some (.bool y_5)) ?_))
    obtain rfl := sI hF_6
    exact ⟨_, rfl, M_10, ((hM_1.trans hM_2).trans hM_10), p_18, rfl⟩
   ·refine B_x (T_n (RR (Z (v := .agg #[.int .i8 d0.fKind, .bool d0.fBool, .int .i64 d0.fNum, S d0.fText, .slice A_1 d0.fList.length cap_1, .slice A_2 d0.fKeys.length cap_2]) f (Y28 (cs := [.int .i8 d0.fKind, .bool d0.fBool, .int .i64 d0.fNum, S d0.fText, .slice A_1 d0.fList.length cap_1, .slice A_2 d0.fKeys.length cap_2]) rfl (ad := ⟨b_1, 0, none⟩) (fun j v h => p_19.cell ((fzu (hM_2.trans hM_11) hc_2) j v h))) fun _ f => ?_)))
    obtain ⟨x_7, hx_8, hF_25⟩ := bS hF_6
    refine Y15 f p_19 (print_Print_ok n _ (GL.mono ((hM_1.trans hM_2).trans hM_11) hG) _ d0 (TA0.shutx (x := d0) (h_1.mono ((hM_1.trans hM_2).trans hM_11)) (h_2.mono ((hM_1.trans hM_2).trans hM_11))) x_7 hx_8) fun w_22 p_20 _ f => Y f 5 fun _ f => eT (RR (Z (v := .agg #[.int .i8 d0.fKind, .bool d0.fBool, .int .i64 d0.fNum, S d0.fText, .slice A_1 d0.fList.length cap_1, .slice A_2 d0.fKeys.length cap_2]) f (Y28 (cs := [.int .i8 d0.fKind, .bool d0.fBool, .int .i64 d0.fNum, S d0.fText, .slice A_1 d0.fList.length cap_1, .slice A_2 d0.fKeys.length cap_2]) rfl (ad := ⟨b_1, 0, none⟩) (fun j v h => p_20.cell ((fzu (hM_2.trans hM_11) hc_2) j v h))) fun _ f => ?_))
    obtain ⟨x_8, hx_9, hF_26⟩ := bS hF_25
    refine Y15 f p_20 (print_Broad_ok n _ (GL.mono ((hM_1.trans hM_2).trans hM_11) hG) _ d0 (TA0.shutx (x := d0) (h_1.mono ((hM_1.trans hM_2).trans hM_11)) (h_2.mono ((hM_1.trans hM_2).trans hM_11))) x_8 hx_9) fun w_23 p_21 _ f => Y f 5 fun _ f => eT (R_seq (R_seq ?_))
    obtain ⟨j_1, hj_1, hF_27⟩ := bS hF_26
    refine R_mid (fun a_61 w_24 => ∃ y_7 : Bool, j_1 = y_7 ∧ ∃ M_12 : Mem, M_11.le M_12 ∧ Frm 102 [(8, S x_7.1), (9, .int .i64 x_7.2), (10, S x_8.1), (11, .int .i64 x_8.2), (63, .bool y_7)] a_61 ∧ Hp w0 M_12 (H) w_24) ?_ ?_
    ·refine R_reg (Y f 3 fun _ f => ?_)
     rcases cE hj_1 with ⟨h_11, hF_28⟩ | ⟨h_11, hF_29⟩
     ·have k_11 : ¬ (x_7.2 = 0) := (not_iff dI).1 h_11
      have f := f.st 60 (cB h_11)
      refine Y f 3 fun _ f => eT ?_
      exact ⟨(true), (sI hF_28).symm, M_11, (mR _), f.kp, p_21⟩
     ·have k_12 : ¬ (¬ (x_7.2 = 0)) := iff_f (not_iff dI) h_11
      have f := f.st 60 (cB h_11)
      refine Y f 3 fun _ f => eT ?_
      exact ⟨(!(decide (x_8.2 = 0))), (sI hF_29).symm, M_11, (mR _), f.kp, p_21⟩
    ·rintro a_61 w_24 ⟨y_7, hq_1, M_12, hM_12, f, p_22⟩
     subst j_1
     refine T_n (RcF f hF_27 (fun h_12 hF_30 => ?_) fun h_12 hF_38 => ?_)
     ·refine R_seq ?_
      obtain ⟨j_2, hj_2, hF_31⟩ := bS hF_30
      refine R_mid (fun a_70 w_27 => ∃ y_8 : Bool, j_2 = y_8 ∧ ∃ M_13 : Mem, M_12.le M_13 ∧ Frm 102 [(2, .bool y_8)] a_70 ∧ Hp w0 M_13 (H) w_27) ?_ ?_
      ·refine R_reg (Y f 3 fun _ f => ?_)
       rcases cE hj_2 with ⟨h_13, hF_32⟩ | ⟨h_13, hF_34⟩
       ·have k_14 : ¬ (x_7.2 = 0) := (not_iff dI).1 h_13
        have f := f.st 66 (cB h_13)
        refine Y f 4 fun _ f => ?_
        obtain ⟨x_9, hx_10, hF_33⟩ := bS hF_32
        refine Y15 f p_22 (law05_wakes_ok n _ (GL.mono (((hM_1.trans hM_2).trans hM_11).trans hM_12) hG) x_9 hx_10) fun w_25 p_23 _ f => Y f 2 fun _ f => eT ?_
        exact ⟨(x_9), (sI hF_33).symm, M_12, (mR _), f.kp, p_23⟩
       ·have k_15 : ¬ (¬ (x_7.2 = 0)) := iff_f (not_iff dI) h_13
        have f := f.st 66 (cB h_13)
        refine Y f 4 fun _ f => ?_
        rcases cE hF_34 with ⟨h_14, hF_35⟩ | ⟨h_14, hF_37⟩
        ·have k_16 := dI.1 h_14
         have f := f.st 70 (cB h_14)
         obtain ⟨x_10, hx_11, hF_36⟩ := bS hF_35
         refine Y15 f p_22 (law05_wakes_ok n _ (GL.mono (((hM_1.trans hM_2).trans hM_11).trans hM_12) hG) x_10 hx_11) fun w_26 p_24 _ f => Y f 2 fun _ f => eT ?_
         exact ⟨(x_10), (sI hF_36).symm, M_12, (mR _), f.kp, p_24⟩
        ·have k_17 := iff_f dI h_14
         have f := f.st 70 (cB h_14)
         refine Y f 3 fun _ f => eT ?_
         exact ⟨(false), (sI hF_37).symm, M_12, (mR _), f.kp, p_22⟩
      ·rintro a_70 w_27 ⟨y_8, hq_2, M_13, hM_13, f, p_25⟩
       subst j_2
       refine T_n (wp_ret (T_r (E_ret1 f rfl (by kernel_rfl : Vc.look _ 2 = some (.bool y_8)) ?_)))
       obtain rfl := sI hF_31
       exact ⟨_, rfl, M_13, ((((hM_1.trans hM_2).trans hM_11).trans hM_12).trans hM_13), p_25, rfl⟩
     ·refine wp_skip (T_n (RR (Y f 1 fun _ f => eT (R_seq (RR (Y f 1 fun _ f => eT (wp_block ?_)))))))
      obtain ⟨A_7, cap_8, hv_2⟩ : ∃ A cap, Value.slice none 0 0 = .slice A ([] : List UInt8).length cap := ⟨none, 0, rfl⟩
      have p_26 : Hp w0 M_12 ((Ent.row 5 1 (.slice A_7 ([] : List UInt8).length cap_8) ([] : List UInt8).length []) :: H) w_24 := by rw [← hv_2]; exact p_22.nilRow 5 1
      have f := f.st 12 (hv_2)
      have hr_5 : RepSeq M_12 (([] : List UInt8).map embB) [] := rfl
      obtain ⟨b_8, hL_4, hF_39⟩ := bS hF_38
      refine wp_mono (Q := fun e a w => (e = .exit 6 ∧ (∃ y_10 : List UInt8, b_8 = y_10 ∧ ∃ M_16 : Mem, M_12.le M_16 ∧ ∃ (A_10 : Option Addr), ∃ (cap_11 : Nat), ∃ (cs_4 : List Value), RepSeq M_16 (y_10.map embB) cs_4 ∧ Frm 102 [(8, S x_7.1), (12, .slice A_10 y_10.length cap_11)] a ∧ Hp w0 M_16 ((Ent.row 5 1 (.slice A_10 y_10.length cap_11) y_10.length cs_4) :: H) w))) (R_loop (n := 102) (w0 := w0) (M := M_12) (fun (x : Nat × (List UInt8 × Int) × (Option Addr) × Nat × (List Value)) => match x with | (m_7, s_4, A_8, cap_9, cs_2) => [(8, S x_7.1), (10, S x_8.1), (12, .slice A_8 s_4.1.length cap_9), (13, .int .i64 s_4.2)]) (fun (x : Nat × (List UInt8 × Int) × (Option Addr) × Nat × (List Value)) => match x with | (m_7, s_4, A_8, cap_9, cs_2) => ((Ent.row 5 1 (.slice A_8 s_4.1.length cap_9) s_4.1.length cs_2) :: H)) (fun (x : Nat × (List UInt8 × Int) × (Option Addr) × Nat × (List Value)) (MM : Mem) => match x with | (m_7, s_4, A_8, cap_9, cs_2) => loopF (law05_PrintLines_s4 n x_8) m_7 s_4 = some b_8 ∧ RepSeq MM (s_4.1.map embB) cs_2) (fun (x : Nat × (List UInt8 × Int) × (Option Addr) × Nat × (List Value)) => match x with | (m_7, s_4, A_8, cap_9, cs_2) => m_7) (n, (([] : List UInt8), (0 : Int)), A_7, cap_8, []) (f.kp) p_26 ⟨hL_4, hr_5⟩ ?_) ?_
      ·rintro ⟨m_7, s_4, A_8, cap_9, cs_2⟩ M_14 _ w_28 hM_14 I_4 f p_27
       obtain ⟨I_4L, hr_6⟩ := I_4
       obtain ⟨m_8, r_4, rfl, hs_4, hn_4⟩ := loop_step I_4L
       unfold law05_PrintLines_s4 at hs_4
       refine R_seq (RR (Y f 4 fun _ f => eT (RcF f hs_4 (fun h_15 hF_40 => ?_) fun h_15 hF_52 => ?_)))
       ·have k_19 := dI.1 h_15
        refine wp_skip (T_n (R_seq (wp_block (R_seq ?_))))
        obtain ⟨j_3, hj_3, hF_41⟩ := bS hF_40
        refine R_mid (fun a_82 w_29 => ∃ y_9 : Bool, j_3 = y_9 ∧ ∃ M_15 : Mem, M_14.le M_15 ∧ Frm 102 [(8, S x_7.1), (10, S x_8.1), (12, .slice A_8 s_4.1.length cap_9), (13, .int .i64 s_4.2), (88, .bool y_9)] a_82 ∧ Hp w0 M_15 ((Ent.row 5 1 (.slice A_8 s_4.1.length cap_9) s_4.1.length cs_2) :: H) w_29) ?_ ?_
        ·refine R_reg (Y f 2 fun _ f => ?_)
         obtain ⟨c_4, hx_12, hF_42⟩ := bS hj_3
         refine Z f (Y31 rfl (l := x_8.1) (k := .i64) (i := s_4.2) (getI_nn hx_12) (getI_lt hx_12)) fun _ f => ?_
         have f := Frm.set f 81 (v := .int .u8 ((x_8.1.getD s_4.2.toNat 0).toNat : Int)) (v' := .int .u8 ((c_4).toNat : Int)) (by kernel_rfl) (congrArg (fun c : UInt8 => Value.int .u8 ((c.toNat : Nat) : Int)) (getI_getD hx_12))
         refine Y f 2 fun _ f => ?_
         rcases cE hF_42 with ⟨h_16, hF_43⟩ | ⟨h_16, hF_45⟩
         ·have k_20 : ¬ (((c_4).toNat : Int) = 32) := (not_iff dI).1 h_16
          have f := f.st 83 (cB h_16)
          refine Y f 2 fun _ f => ?_
          obtain ⟨c_5, hx_13, hF_44⟩ := bS hF_43
          refine Z f (Y31 rfl (l := x_8.1) (k := .i64) (i := s_4.2) (getI_nn hx_13) (getI_lt hx_13)) fun _ f => ?_
          have f := Frm.set f 86 (v := .int .u8 ((x_8.1.getD s_4.2.toNat 0).toNat : Int)) (v' := .int .u8 ((c_5).toNat : Int)) (by kernel_rfl) (congrArg (fun c : UInt8 => Value.int .u8 ((c.toNat : Nat) : Int)) (getI_getD hx_13))
          refine Y f 2 fun _ f => eT ?_
          exact ⟨(!(decide (((c_5).toNat : Int) = 10))), (sI hF_44).symm, M_14, (mR _), f.kp, p_27⟩
         ·have k_21 : ¬ (¬ (((c_4).toNat : Int) = 32)) := iff_f (not_iff dI) h_16
          have f := f.st 83 (cB h_16)
          refine Y f 5 fun _ f => eT ?_
          exact ⟨(false), (sI hF_45).symm, M_14, (mR _), f.kp, p_27⟩
        ·rintro a_82 w_29 ⟨y_9, hq_3, M_15, hM_15, f, p_28⟩
         subst j_3
         refine T_n (RcF f hF_41 (fun h_17 hF_46 => ?_) fun h_17 hF_50 => ?_)
         ·refine R_reg (Y f 3 fun _ f => ?_)
          obtain ⟨c_6, hx_14, hF_47⟩ := bS hF_46
          refine Z f (Y31 rfl (l := x_8.1) (k := .i64) (i := s_4.2) (getI_nn hx_14) (getI_lt hx_14)) fun _ f => ?_
          have f := Frm.set f 92 (v := .int .u8 ((x_8.1.getD s_4.2.toNat 0).toNat : Int)) (v' := .int .u8 ((c_6).toNat : Int)) (by kernel_rfl) (congrArg (fun c : UInt8 => Value.int .u8 ((c.toNat : Nat) : Int)) (getI_getD hx_14))
          refine V_allocS (k := 1) (c := 1) f p_28 (.cells #[.int .u8 ((c_6).toNat : Int)] 5 (0, 0)) (by kernel_rfl) (fun _ => by kernel_rfl) fun b_9 w_30 p_29 _ f => ?_
          have p_30 := p_29.pl [1]
          obtain ⟨g_5, hF_48⟩ := nS hF_47
          refine Y17 (z := .int .u8 0) (f := embB) (xs := s_4.1) (ys := [c_6]) (news := [.int .u8 ((c_6).toNat : Int)]) (ad := ⟨b_9, 0, none⟩) (m := 1) (c := 1) f p_30 (RepSeq.mono hM_15 _ _ hr_6) (by exact ⟨_, _, rfl, rfl, rfl⟩) rfl rfl rfl rfl (own_cells (p_30.ownCell 1 rfl) 0 rfl) (by exact g_5) (by have hg_ := g_5; first | omega | (simp only [List.length_cons, List.length_nil] at *; omega)) fun A_9 cap_10 cs_3 w_31 p_31 hr_7 _ f => ?_
          have p_32 := p_31.pl [1]
          have p_33 := p_32.drop
          refine Y f 1 fun _ f => W_end rfl (B_n (T_n (R_reg (Y f 1 fun _ f => ?_))))
          obtain ⟨g_6, hF_49⟩ := nS hF_48
          refine Y f 1 fun _ f => ?_
          have f := f.st 78 (congrArg (Value.int .i64) (inR_wrap g_6))
          refine Y f 1 fun _ f => eT ?_
          obtain rfl := sI hF_49
          exact ⟨⟨m_8, (s_4.1 ++ [c_6], s_4.2 + 1), A_9, cap_10, cs_3⟩, Nat.lt_succ_self _, M_15, (hM_14.trans hM_15), ⟨hn_4, hr_7⟩, f.kp, p_33⟩
         ·refine wp_skip (B_n (T_n (R_reg (Y f 1 fun _ f => ?_))))
          obtain ⟨g_7, hF_51⟩ := nS hF_50
          refine Y f 1 fun _ f => ?_
          have f := f.st 78 (congrArg (Value.int .i64) (inR_wrap g_7))
          refine Y f 1 fun _ f => eT ?_
          obtain rfl := sI hF_51
          exact ⟨⟨m_8, (s_4.1, s_4.2 + 1), A_8, cap_9, cs_2⟩, Nat.lt_succ_self _, M_15, (hM_14.trans hM_15), ⟨hn_4, (RepSeq.mono hM_15 _ _ hr_6)⟩, f.kp, p_28⟩
       ·have k_24 := iff_f dI h_15
        refine wp_exit (T_x (T_x ?_))
        obtain rfl := sI hF_52
        exact ⟨rfl, s_4.1, (sI hn_4).symm, M_14, hM_14, A_8, cap_9, cs_2, hr_6, f.kp, p_27⟩
      ·rintro _ _ w_33 ⟨rfl, y_10, hq_, M_16, hM_16, A_10, cap_11, cs_4, hr_8, f, p_34⟩
       subst b_8
       refine B_x (T_n (RR (Y f 1 fun _ f => ?_)))
       have he_1 := RepSeq.bytes_eq hr_8
       refine Z (v := S y_10) f (X_string_row rfl (l := y_10) (v := .slice A_10 y_10.length cap_11) (by kernel_rfl) (e := 5) (by kernel_rfl) (by kernel_rfl) (by kernel_rfl) (by have h0 := p_34.rowAt 0 rfl; rw [he_1] at h0; exact h0)) fun _ f => Y f 1 fun _ f => Z f (Y32 rfl (l := y_10) (m := x_7.1)) fun _ f => Y f 1 fun _ f => ?_
       rcases cE hF_39 with ⟨h_18, hF_53⟩ | ⟨h_18, hF_55⟩
       ·have k_25 := dI.1 h_18
        have f := f.st 99 (cB h_18)
        obtain ⟨x_11, hx_15, hF_54⟩ := bS hF_53
        refine Y15 f p_34 (law05_wakes_ok n _ (GL.mono ((((hM_1.trans hM_2).trans hM_11).trans hM_12).trans hM_16) hG) x_11 hx_15) fun w_34 p_35 _ f => Y f 2 fun _ f => eT (wp_ret (E_ret1 f rfl (by kernel_rfl : Vc.look _ 2 = some (.bool x_11)) ?_))
        obtain rfl := sI hF_54
        exact ⟨_, rfl, M_16, ((((hM_1.trans hM_2).trans hM_11).trans hM_12).trans hM_16), (p_35.dropN 1), rfl⟩
       ·have k_26 := iff_f dI h_18
        have f := f.st 99 (cB h_18)
        refine Y f 3 fun _ f => eT (wp_ret (E_ret1 f rfl (by kernel_rfl : Vc.look _ 2 = some (.bool false)) ?_))
        obtain rfl := sI hF_55
        exact ⟨_, rfl, M_16, ((((hM_1.trans hM_2).trans hM_11).trans hM_12).trans hM_16), (p_34.dropN 1), rfl⟩
end Go.Proofs.YtfaedhhjamaniaaDoor
end
