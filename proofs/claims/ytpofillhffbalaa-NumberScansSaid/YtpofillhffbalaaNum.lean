/-
  Plain words on numbers as texts: what Scan, Read, Text tell. No program. Own work.
-/
namespace Go.Num
def dig (c : UInt8) : Bool := 48 ≤ c && c ≤ 57
/-- The place of the first byte that is no digit, k being the place of the list's head. -/
def nd : List UInt8 → Nat → Nat
  | [], k => k
  | c :: r, k => if dig c then nd r (k + 1) else k
/-- The value of the digits ahead, v read already. -/
def vl : List UInt8 → Nat → Nat
  | [], v => v
  | c :: r, v => if dig c then vl r (10 * v + (c.toNat - 48)) else v
def neg (l : List UInt8) : Bool := decide (l.getD 0 0 = 45)
def fst (l : List UInt8) : Nat := if neg l then 1 else 0
def big : Nat := 9007199254740992
def scanL (l : List UInt8) (at_ : Int) : Int × Int × Int :=
  let f := fst l
  let k := nd (l.drop f) f
  let v := vl (l.drop f) 0
  if l.getD f 0 = 48 ∧ f + 2 ≤ k then (0, at_ + (f + 1), 20)
  else if k = f ∨ l.getD k 0 = 46 ∨ l.getD k 0 = 101 ∨ l.getD k 0 = 69 then (0, at_ + k, 20)
  else if big < v ∨ (neg l = true ∧ v = 0) then (0, at_, 20)
  else (if neg l then -(v : Int) else v, at_ + k, 0)
def scan (s : List UInt8) (at_ : Int) : Int × Int × Int :=
  if at_ < 0 ∨ (s.length : Int) < at_ then (0, 0, 2) else scanL (s.drop at_.toNat) at_

theorem dig_iff (c : UInt8) : dig c = true ↔ 48 ≤ c.toNat ∧ c.toNat ≤ 57 := by
  simp [dig, UInt8.le_iff_toNat_le]
theorem nd_ge : ∀ (l : List UInt8) (k : Nat), k ≤ nd l k
  | [], k => Nat.le_refl _
  | c :: r, k => by
    simp only [nd]
    split
    · have := nd_ge r (k + 1); omega
    · exact Nat.le_refl _
theorem nd_le : ∀ (l : List UInt8) (k : Nat), nd l k ≤ k + l.length
  | [], k => by simp [nd]
  | c :: r, k => by
    simp only [nd, List.length_cons]
    split
    · have := nd_le r (k + 1); omega
    · omega
theorem drop_cons (l : List UInt8) (k : Nat) (h : k < l.length) : l.drop k = l.getD k 0 :: l.drop (k + 1) := by
  rw [List.drop_eq_getElem_cons h]; simp [List.getD, h]
theorem nd_step (l : List UInt8) (k : Nat) (h : k < l.length) (hd : dig (l.getD k 0) = true) : nd (l.drop k) k = nd (l.drop (k + 1)) (k + 1) := by
  rw [drop_cons l k h]; simp only [nd, hd, if_true]
theorem nd_stop (l : List UInt8) (k : Nat) (hd : dig (l.getD k 0) = false) : nd (l.drop k) k = k := by
  by_cases h : k < l.length
  · rw [drop_cons l k h]; simp only [nd, hd]; rfl
  · rw [List.drop_eq_nil_of_le (by omega)]; rfl
theorem vl_step (l : List UInt8) (k v : Nat) (h : k < l.length) (hd : dig (l.getD k 0) = true) : vl (l.drop k) v = vl (l.drop (k + 1)) (10 * v + ((l.getD k 0).toNat - 48)) := by
  rw [drop_cons l k h]; simp only [vl, hd, if_true]
theorem vl_stop (l : List UInt8) (k v : Nat) (hd : dig (l.getD k 0) = false) : vl (l.drop k) v = v := by
  by_cases h : k < l.length
  · rw [drop_cons l k h]; simp only [vl, hd]; rfl
  · rw [List.drop_eq_nil_of_le (by omega)]; rfl

/-- What holds at the head of either loop: at place k, v the value read, n what the loop keeps of it. -/
structure ScanI (l : List UInt8) (k : Nat) (v : Nat) : Prop where
  ge : fst l ≤ k
  le : k ≤ l.length
  nd : nd (l.drop k) k = nd (l.drop (fst l)) (fst l)
  vl : vl (l.drop k) v = vl (l.drop (fst l)) 0
  zero : fst l + 2 ≤ k → l.getD (fst l) 0 ≠ 48
  one : fst l + 1 ≤ k → dig (l.getD (fst l) 0) = true

theorem fst_le (l : List UInt8) : fst l ≤ l.length := by
  unfold fst neg
  split
  · rename_i h
    cases l with
    | nil => simp at h
    | cons c r => simp
  · omega
theorem ScanI.start (l : List UInt8) : ScanI l (fst l) 0 := ⟨Nat.le_refl _, fst_le l, rfl, rfl, fun h => by omega, fun h => by omega⟩
theorem ScanI.step {l : List UInt8} {k v : Nat} (h : ScanI l k v) (hd : dig (l.getD k 0) = true) (hk : k < l.length) (hz : ¬ (k = fst l + 1 ∧ l.getD (fst l) 0 = 48)) : ScanI l (k + 1) (10 * v + ((l.getD k 0).toNat - 48)) := by
  refine ⟨by have := h.ge; omega, by omega, by rw [← nd_step l k hk hd]; exact h.nd, by rw [← vl_step l k v hk hd]; exact h.vl, fun hge h0 => ?_, fun hge => ?_⟩
  · rcases Nat.lt_or_ge k (fst l + 2) with hlt | hge2
    · exact hz ⟨by omega, h0⟩
    · exact h.zero hge2 h0
  · rcases Nat.lt_or_ge k (fst l + 1) with hlt | hge2
    · have : k = fst l := by have := h.ge; omega
      subst this; exact hd
    · exact h.one hge2
theorem ScanI.lt {l : List UInt8} {k v : Nat} (_ : ScanI l k v) (hd : dig (l.getD k 0) = true) : k < l.length := by
  rcases Nat.lt_or_ge k l.length with h | h
  · exact h
  · have : l.getD k 0 = 0 := by simp [List.getD, List.getElem?_eq_none h]
    rw [this] at hd; simp [dig] at hd
/-- The early way out. -/
theorem ScanI.early {l : List UInt8} {k v : Nat} (h : ScanI l k v) (at_ : Int) (hd : dig (l.getD k 0) = true) (hk : k = fst l + 1) (h0 : l.getD (fst l) 0 = 48) : scanL l at_ = (0, at_ + k, 20) := by
  have h1 := h.nd
  rw [nd_step l k (h.lt hd) hd] at h1
  have h2 := nd_ge (l.drop (k + 1)) (k + 1)
  unfold scanL
  simp only []
  rw [if_pos ⟨h0, by omega⟩, hk]
  simp
/-- The loop's end. -/
theorem ScanI.stop {l : List UInt8} {k v : Nat} (h : ScanI l k v) (at_ : Int) (hd : dig (l.getD k 0) = false) :
    scanL l at_ = if k = fst l ∨ l.getD k 0 = 46 ∨ l.getD k 0 = 101 ∨ l.getD k 0 = 69 then (0, at_ + k, 20)
      else if big < v ∨ (neg l = true ∧ v = 0) then (0, at_, 20)
      else (if neg l then -(v : Int) else v, at_ + k, 0) := by
  have h1 := h.nd
  rw [nd_stop l k hd] at h1
  have h2 := h.vl
  rw [vl_stop l k v hd] at h2
  unfold scanL
  simp only []
  rw [← h1, ← h2, if_neg]
  rintro ⟨h3, h4⟩
  exact h.zero h4 h3
theorem fst_le1 (l : List UInt8) : fst l ≤ 1 := by unfold fst; split <;> omega
theorem byte_of {c : UInt8} {n : Int} (d : UInt8) (h : ((c.toNat : Nat) : Int) = n) (hd : (d.toNat : Int) = n) : c = d := UInt8.toNat_inj.1 (by omega)
theorem to_byte {c d : UInt8} {n : Int} (h : c = d) (hd : (d.toNat : Int) = n) : ((c.toNat : Nat) : Int) = n := by rw [h]; exact hd
theorem dig_prog (c : UInt8) : decide (((c.toNat : Int) - 48) % 256 < 10) = dig c := by
  rw [Bool.eq_iff_iff, dig_iff]
  have := c.toNat_lt
  simp only [decide_eq_true_eq]
  omega
theorem dig_ref (c : UInt8) : (decide ((48 : Int) ≤ (c.toNat : Int)) && decide ((c.toNat : Int) ≤ 57)) = dig c := by
  rw [Bool.eq_iff_iff, dig_iff]
  simp only [Bool.and_eq_true, decide_eq_true_eq]
  omega
/-- What the program's loop keeps of the value. -/
def KeepP (n : Int) (v : Nat) : Prop := 0 ≤ n ∧ n ≤ 90071992547409929 ∧ (v ≤ 9007199254740992 → n = v) ∧ (9007199254740992 < v → 9007199254740992 < n)
theorem KeepP.start : KeepP 0 0 := ⟨by omega, by omega, fun _ => rfl, fun h => by omega⟩
theorem KeepP.more {n : Int} {v : Nat} (c : UInt8) (h : KeepP n v) (hd : dig c = true) (hn : n ≤ 9007199254740992) : KeepP (10 * n + ((c.toNat : Int) - 48) % 256) (10 * v + (c.toNat - 48)) := by
  obtain ⟨h1, h2, h3, h4⟩ := h
  rw [dig_iff] at hd
  have hv : v ≤ 9007199254740992 := by
    rcases Nat.lt_or_ge 9007199254740992 v with h | h
    · have := h4 h; omega
    · exact h
  have := h3 hv
  refine ⟨by omega, by omega, fun _ => by omega, fun _ => by omega⟩
theorem KeepP.full {n : Int} {v d : Nat} (h : KeepP n v) (hn : ¬ n ≤ 9007199254740992) : KeepP n (10 * v + d) := by
  obtain ⟨h1, h2, h3, h4⟩ := h
  have hv : 9007199254740992 < v := by
    rcases Nat.lt_or_ge 9007199254740992 v with h | h
    · exact h
    · have := h3 h; omega
  exact ⟨h1, h2, fun h => by omega, fun _ => by omega⟩
theorem KeepP.fits {n : Int} {v : Nat} (h : KeepP n v) : (decide (-9007199254740992 ≤ n) && decide (n ≤ 9007199254740992)) = decide (v ≤ 9007199254740992) := by
  obtain ⟨h1, h2, h3, h4⟩ := h
  rw [Bool.eq_iff_iff]
  simp only [Bool.and_eq_true, decide_eq_true_eq]
  constructor
  · rintro ⟨_, h⟩
    rcases Nat.lt_or_ge 9007199254740992 v with h' | h'
    · have := h4 h'; omega
    · exact h'
  · intro h; have := h3 h; omega
theorem scan_inside {s : List UInt8} {at_ : Int} (h : ¬ (at_ < 0 ∨ (s.length : Int) < at_)) : scan s at_ = scanL (s.drop at_.toNat) at_ := by unfold scan; rw [if_neg h]
theorem scan_out {s : List UInt8} {at_ : Int} (h : at_ < 0 ∨ (s.length : Int) < at_) : scan s at_ = (0, 0, 2) := by unfold scan; rw [if_pos h]
def fitsB (n : Int) : Bool := decide (-9007199254740992 ≤ n ∧ n ≤ 9007199254740992)
theorem fits_eq (n : Int) : (decide ((-9007199254740992 : Int) ≤ n) && decide (n ≤ 9007199254740992)) = fitsB n := by simp [fitsB]
theorem fits_eqR (n : Int) : (decide ((-9007199254740992 : Int) ≤ n) && decide (n ≤ 9007199254740992)) = fitsB n := by simp [fitsB]
theorem neg_byte (l : List UInt8) : decide (((l.getD 0 0).toNat : Int) = 45) = neg l := by
  unfold neg
  rw [Bool.eq_iff_iff]
  simp only [decide_eq_true_eq]
  exact ⟨fun h => byte_of 45 h rfl, fun h => to_byte h rfl⟩
theorem fst_t {l : List UInt8} (h : neg l = true) : fst l = 1 := by simp [fst, h]
theorem fst_f {l : List UInt8} (h : neg l = false) : fst l = 0 := by simp [fst, h]
theorem notboth {l : List UInt8} {k : Nat} (h : ¬ ((k : Int) = (fst l : Int) + 1 ∧ ((l.getD (fst l) 0).toNat : Int) = 48)) : ¬ (k = fst l + 1 ∧ l.getD (fst l) 0 = 48) :=
  fun ⟨h1, h2⟩ => h ⟨by omega, to_byte h2 rfl⟩
theorem isboth {l : List UInt8} {k : Nat} (h : (k : Int) = (fst l : Int) + 1 ∧ ((l.getD (fst l) 0).toNat : Int) = 48) : k = fst l + 1 ∧ l.getD (fst l) 0 = 48 :=
  ⟨by omega, byte_of 48 h.2 rfl⟩
theorem KeepP.fitsEq {n : Int} {v : Nat} (h : KeepP n v) : fitsB n = decide (v ≤ 9007199254740992) := by rw [← fits_eq]; exact h.fits
section
variable {l : List UInt8} {k v : Nat} {n at_ sl : Int} (I : ScanI l k v) (hd : dig (l.getD k 0) = false)
include I hd
theorem ScanI.e1 (h : (k : Int) = (fst l : Int) ∨ (at_ + (k : Int) < sl ∧ (((l.getD k 0).toNat : Int) = 46 ∨ (((l.getD k 0).toNat : Int) = 101 ∨ ((l.getD k 0).toNat : Int) = 69)))) : scanL l at_ = (0, at_ + k, 20) := by
  rw [I.stop at_ hd, if_pos]
  rcases h with h | ⟨_, h | h | h⟩
  · exact .inl (by omega)
  · exact .inr (.inl (byte_of 46 h rfl))
  · exact .inr (.inr (.inl (byte_of 101 h rfl)))
  · exact .inr (.inr (.inr (byte_of 69 h rfl)))
omit I hd in
theorem ScanI.no (hsl : sl = at_ + l.length) (h : ¬ ((k : Int) = (fst l : Int) ∨ (at_ + (k : Int) < sl ∧ (((l.getD k 0).toNat : Int) = 46 ∨ (((l.getD k 0).toNat : Int) = 101 ∨ ((l.getD k 0).toNat : Int) = 69))))) :
    ¬ (k = fst l ∨ l.getD k 0 = 46 ∨ l.getD k 0 = 101 ∨ l.getD k 0 = 69) := by
  have hk : l.getD k 0 ≠ 0 → k < l.length := fun h0 => by
    rcases Nat.lt_or_ge k l.length with h | h
    · exact h
    · exact absurd (by simp [List.getD, List.getElem?_eq_none h]) h0
  rintro (h1 | h1 | h1 | h1)
  · exact h (.inl (by omega))
  · have := hk (by rw [h1]; decide); exact h (.inr ⟨by omega, .inl (to_byte h1 rfl)⟩)
  · have := hk (by rw [h1]; decide); exact h (.inr ⟨by omega, .inr (.inl (to_byte h1 rfl))⟩)
  · have := hk (by rw [h1]; decide); exact h (.inr ⟨by omega, .inr (.inr (to_byte h1 rfl))⟩)
theorem ScanI.e2 (hno : ¬ (k = fst l ∨ l.getD k 0 = 46 ∨ l.getD k 0 = 101 ∨ l.getD k 0 = 69)) (h : 9007199254740992 < v ∨ (neg l = true ∧ v = 0)) : scanL l at_ = (0, at_, 20) := by
  rw [I.stop at_ hd, if_neg hno, if_pos (by unfold big; exact h)]
theorem ScanI.e3 (hno : ¬ (k = fst l ∨ l.getD k 0 = 46 ∨ l.getD k 0 = 101 ∨ l.getD k 0 = 69)) (h : ¬ (9007199254740992 < v ∨ (neg l = true ∧ v = 0))) : scanL l at_ = (if neg l then -(v : Int) else v, at_ + k, 0) := by
  rw [I.stop at_ hd, if_neg hno, if_neg (by unfold big; exact h)]
end
theorem KeepP.bad {l : List UInt8} {n : Int} {v : Nat} (K : KeepP n v) : (¬ (fitsB n = true) ∨ (neg l = true ∧ n = 0)) ↔ (9007199254740992 < v ∨ (neg l = true ∧ v = 0)) := by
  rw [K.fitsEq]
  obtain ⟨h1, h2, h3, h4⟩ := K
  simp only [decide_eq_true_eq]
  constructor
  · rintro (h | ⟨a, h⟩)
    · exact .inl (by omega)
    · rcases Nat.lt_or_ge 9007199254740992 v with hv | hv
      · exact .inl hv
      · exact .inr ⟨a, by have := h3 hv; omega⟩
  · rintro (h | ⟨a, h⟩)
    · exact .inl (by omega)
    · exact .inr ⟨a, by have := h3 (by omega); omega⟩
theorem KeepP.val {n : Int} {v : Nat} {b : Prop} (K : KeepP n v) (h : ¬ (9007199254740992 < v ∨ b)) : n = v := by
  obtain ⟨h1, h2, h3, h4⟩ := K
  exact h3 (by have : ¬ 9007199254740992 < v := fun x => h (.inl x); omega)

/-! The reference's loop. -/
def KeepR (n : Int) (gr : Bool) (v : Nat) : Prop := 0 ≤ n ∧ n ≤ 9007199254740992 ∧ (v ≤ 9007199254740992 → n = v ∧ gr = false) ∧ (9007199254740992 < v → n = 9007199254740992 ∧ gr = true)
theorem KeepR.start : KeepR 0 false 0 := ⟨by omega, by omega, fun _ => ⟨rfl, rfl⟩, fun h => by omega⟩
theorem KeepR.over {n : Int} {gr : Bool} {v : Nat} {c : UInt8} (K : KeepR n gr v) (hd : dig c = true) (h : 9007199254740992 < n * 10 + ((c.toNat : Int) - 48) % 256) : KeepR 9007199254740992 true (10 * v + (c.toNat - 48)) := by
  obtain ⟨h1, h2, h3, h4⟩ := K
  rw [dig_iff] at hd
  refine ⟨by omega, by omega, fun hv => ?_, fun _ => ⟨rfl, rfl⟩⟩
  have := (h3 (by omega)).1
  omega
theorem KeepR.under {n : Int} {gr : Bool} {v : Nat} {c : UInt8} (K : KeepR n gr v) (hd : dig c = true) (h : ¬ 9007199254740992 < n * 10 + ((c.toNat : Int) - 48) % 256) : KeepR (n * 10 + ((c.toNat : Int) - 48) % 256) gr (10 * v + (c.toNat - 48)) := by
  obtain ⟨h1, h2, h3, h4⟩ := K
  rw [dig_iff] at hd
  have hv : v ≤ 9007199254740992 := by
    rcases Nat.lt_or_ge 9007199254740992 v with hv | hv
    · have := (h4 hv).1; omega
    · exact hv
  obtain ⟨h5, h6⟩ := h3 hv
  exact ⟨by omega, by omega, fun _ => ⟨by omega, h6⟩, fun hx => by omega⟩
theorem KeepR.bad {l : List UInt8} {n : Int} {gr : Bool} {v : Nat} (K : KeepR n gr v) : (gr = true ∨ (neg l = true ∧ n = 0)) ↔ (9007199254740992 < v ∨ (neg l = true ∧ v = 0)) := by
  obtain ⟨h1, h2, h3, h4⟩ := K
  constructor
  · rintro (h | ⟨a, h⟩)
    · rcases Nat.lt_or_ge 9007199254740992 v with hv | hv
      · exact .inl hv
      · rw [(h3 hv).2] at h; cases h
    · rcases Nat.lt_or_ge 9007199254740992 v with hv | hv
      · exact .inl hv
      · exact .inr ⟨a, by have := (h3 hv).1; omega⟩
  · rintro (h | ⟨a, h⟩)
    · exact .inl (h4 h).2
    · exact .inr ⟨a, by have := (h3 (by omega)).1; omega⟩
theorem KeepR.val {n : Int} {gr : Bool} {v : Nat} {b : Prop} (K : KeepR n gr v) (h : ¬ (9007199254740992 < v ∨ b)) : n = v := by
  obtain ⟨h1, h2, h3, h4⟩ := K
  exact (h3 (by have : ¬ 9007199254740992 < v := fun x => h (.inl x); omega)).1
theorem getD_at (s : List UInt8) (a i : Int) (k : Nat) (ha : 0 ≤ a) (hi : i = a + k) : s.getD i.toNat 0 = (s.drop a.toNat).getD k 0 := by
  have : i.toNat = a.toNat + k := by omega
  rw [this]
  simp [List.getD, List.getElem?_drop]
theorem not_dig_out {l : List UInt8} {k : Nat} {sl at_ : Int} (hsl : sl = at_ + l.length) (h : ¬ (at_ + (k : Int) < sl ∧ dig (l.getD k 0) = true)) : dig (l.getD k 0) = false := by
  cases hd : dig (l.getD k 0) with
  | false => rfl
  | true =>
    rcases Nat.lt_or_ge k l.length with hk | hk
    · exact absurd ⟨by omega, hd⟩ h
    · rw [show l.getD k 0 = 0 by simp [List.getD, List.getElem?_eq_none hk]] at hd; simp [dig] at hd
theorem neg_in {l : List UInt8} {sl at_ : Int} (hsl : sl = at_ + l.length) : (decide (at_ < sl) && decide (((l.getD 0 0).toNat : Int) = 45)) = neg l := by
  rw [neg_byte, Bool.eq_iff_iff]
  simp only [Bool.and_eq_true, decide_eq_true_eq]
  refine ⟨fun h => h.2, fun h => ⟨?_, h⟩⟩
  cases l with
  | nil => simp [neg] at h
  | cons c r => simp at hsl; omega
def read (s : List UInt8) : Int × Int := if (scan s 0).2.2 = 0 ∧ (scan s 0).2.1 = s.length then ((scan s 0).1, 0) else (0, 20)

/-! Texts of numbers. -/
def dch (n : Nat) : UInt8 := UInt8.ofNat (48 + n % 10)
def digsF : Nat → Nat → List UInt8
  | 0, _ => []
  | f + 1, n => if n < 10 then [dch n] else digsF f (n / 10) ++ [dch n]
def digs (n : Nat) : List UInt8 := digsF (n + 1) n
theorem digsF_more : ∀ (f g n : Nat), n < f → n < g → digsF f n = digsF g n
  | 0, _, n, h, _ => by omega
  | f + 1, 0, n, _, h => by omega
  | f + 1, g + 1, n, h1, h2 => by
    simp only [digsF]
    split
    · rfl
    · rw [digsF_more f g (n / 10) (by omega) (by omega)]
theorem digs_lt {n : Nat} (h : n < 10) : digs n = [dch n] := by unfold digs; simp only [digsF]; rw [if_pos h]
theorem digs_ge {n : Nat} (h : ¬ n < 10) : digs n = digs (n / 10) ++ [dch n] := by
  unfold digs
  rw [digsF, if_neg h, digsF_more n (n / 10 + 1) (n / 10) (by omega) (by omega)]
theorem dch_toNat (n : Nat) : (dch n).toNat = 48 + n % 10 := by
  unfold dch; rw [UInt8.toNat_ofNat']; omega
theorem dch_int (n : Nat) : (48 + (n : Int) % 10) % 256 = ((dch n).toNat : Int) := by rw [dch_toNat]; omega
theorem dch_mod (n : Nat) : dch (n % 10) = dch n := by unfold dch; rw [Nat.mod_mod]
theorem dch_small {n : Nat} (h : n < 10) : (48 + (n : Int)) % 256 = ((dch n).toNat : Int) := by rw [dch_toNat]; omega
theorem digs_len : ∀ (k n : Nat), n < 10 ^ (k + 1) → (digs n).length ≤ k + 1
  | 0, n, h => by rw [digs_lt (by omega)]; simp
  | k + 1, n, h => by
    by_cases h10 : n < 10
    · rw [digs_lt h10]; simp
    · rw [digs_ge h10]
      have := digs_len k (n / 10) (by rw [Nat.pow_succ] at h; omega)
      simp; omega
theorem digs_len16 {n : Nat} (h : n ≤ 9007199254740992) : (digs n).length ≤ 16 := digs_len 15 n (by omega)
def text (n : Int) : List UInt8 × Int := if fitsB n then (if n < 0 then 45 :: digs (-n).toNat else digs n.toNat, 0) else ([], 20)
theorem fitsB_iff {n : Int} : fitsB n = true ↔ -9007199254740992 ≤ n ∧ n ≤ 9007199254740992 := by simp [fitsB]
theorem text_no {n : Int} (h : fitsB n = false) : text n = ([], 20) := by simp [text, h]
theorem text_neg {n : Int} (h : fitsB n = true) (h0 : n < 0) : text n = (45 :: digs (-n).toNat, 0) := by simp [text, h, h0]
theorem text_pos {n : Int} (h : fitsB n = true) (h0 : ¬ n < 0) : text n = (digs n.toNat, 0) := by simp [text, h, h0]
end Go.Num
