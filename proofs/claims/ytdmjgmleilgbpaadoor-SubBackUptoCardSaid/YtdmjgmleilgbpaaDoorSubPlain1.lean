/-
  Chapter 12, plain: names. Own work.
-/
import Derived.Test.YtdmjgmleilgbpaaDoorQ7
import Derived.Test.YtdmjgmleilgbpaaDoorVp
namespace Go.Proofs.YtdmjgmleilgbpaaDoor
open Go Go.Vc

def isL (c : UInt8) : Bool := (decide (97 ≤ c.toNat) && decide (c.toNat ≤ 122)) || (decide (65 ≤ c.toNat) && decide (c.toNat ≤ 90))
def isD (c : UInt8) : Bool := decide (48 ≤ c.toNat) && decide (c.toNat ≤ 57)
def nameS (s : List UInt8) : Bool := decide (1 ≤ s.length) && decide (s.length ≤ 32) && isL (s.getD 0 0) && s.all fun c => isL c || isD c

theorem byte_lt (c : UInt8) : c.toNat < 256 := c.toNat_lt
theorem letter_eq (n : Nat) (c : UInt8) : ref01_letter n (c.toNat : Int) = some (isL c) := by
  unfold ref01_letter isL
  by_cases h1 : 97 ≤ c.toNat <;> by_cases h2 : c.toNat ≤ 122 <;> by_cases h3 : 65 ≤ c.toNat <;> by_cases h4 : c.toNat ≤ 90 <;>
    simp [h1, h2, h3, h4, show (97 : Int) ≤ (c.toNat : Int) ↔ 97 ≤ c.toNat by omega, show (c.toNat : Int) ≤ 122 ↔ c.toNat ≤ 122 by omega, show (65 : Int) ≤ (c.toNat : Int) ↔ 65 ≤ c.toNat by omega, show (c.toNat : Int) ≤ 90 ↔ c.toNat ≤ 90 by omega] <;> omega
theorem digit_eq (n : Nat) (c : UInt8) : ref01_digit n (c.toNat : Int) = some (isD c) := by
  unfold ref01_digit isD
  by_cases h1 : 48 ≤ c.toNat <;> by_cases h2 : c.toNat ≤ 57 <;>
    simp [h1, h2, show (48 : Int) ≤ (c.toNat : Int) ↔ 48 ≤ c.toNat by omega, show (c.toNat : Int) ≤ 57 ↔ c.toNat ≤ 57 by omega]

theorem name_ref {n : Nat} {s : List UInt8} (hn : s.length < n) (hs : s.length < 1000000) : ref01_Name n s = some (nameS s) := by
  unfold ref01_Name
  by_cases h1 : (s.length : Int) < 1
  · rw [decide_eq_true h1, cT, bnd, cT]
    have : ¬ 1 ≤ s.length := by omega
    simp [nameS, this]
  · rw [decide_eq_false h1, cF]
    by_cases h2 : (32 : Int) < (s.length : Int)
    · rw [decide_eq_true h2, cT, bnd, cT]
      have : ¬ s.length ≤ 32 := by omega
      simp [nameS, this]
    · rw [decide_eq_false h2, cF, getI_in (i := 0) 0 (by omega) (by omega), bnd, letter_eq, bnd, bnd, Int.toNat_zero]
      have e1 : 1 ≤ s.length := by omega
      have e2 : s.length ≤ 32 := by omega
      cases hl : isL (s.getD 0 0) with
      | false =>
        rw [Bool.not_false, cT]
        simp [nameS, hl, -List.getD_eq_getElem?_getD]
      | true =>
        rw [Bool.not_true, cF]
        have hloop := loop_any (n := n) (step := ref01_Name_s1 n s) (fun k => !(isL (s.getD k 0) || isD (s.getD k 0))) s.length (.inl ()) (.inr ()) (fun k hk => by
          unfold ref01_Name_s1
          rw [decide_eq_true (by omega : (k : Int) < (s.length : Int)), cT, getI_at 0 hk, bnd, letter_eq, bnd]
          cases isL (s.getD k 0) with
          | true =>
            rw [Bool.not_true, cF, need_i (by omega) (by omega)]
            simp
          | false =>
            rw [Bool.not_false, cT, bnd, digit_eq, bnd]
            cases isD (s.getD k 0) with
            | true =>
              rw [Bool.not_true, cF, need_i (by omega) (by omega)]
              simp
            | false => simp) (by
          unfold ref01_Name_s1
          rw [decide_eq_false (by omega), cF]) hn
        rw [hloop, bnd, any_range 0 (fun c => !(isL c || isD c)) s]
        have e3 : (s.any fun c => !(isL c || isD c)) = !(s.all fun c => isL c || isD c) := by
          rw [List.not_all_eq_any_not]
        rw [e3]
        cases hq : (s.all fun c => isL c || isD c) <;> simp [nameS, hl, hq, e1, e2, -List.getD_eq_getElem?_getD]

theorem or32 (c : UInt8) : bOr .u8 (c.toNat : Int) 32 = ((c ||| 32).toNat : Int) := by
  have h := byte_lt c
  have h2 : c.toNat ||| 32 < 256 := Nat.or_lt_two_pow (n := 8) h (by decide)
  have e : bOr .u8 (c.toNat : Int) 32 = IntKind.wrap .u8 (((c ||| 32).toNat : Nat) : Int) := by
    unfold bOr
    congr 1
    have e2 : (BitVec.ofInt IntKind.u8.bits (c.toNat : Int)) = BitVec.ofNat 8 c.toNat := by
      show BitVec.ofInt 8 _ = _
      simp
    rw [e2]
    show (((BitVec.ofNat 8 c.toNat ||| BitVec.ofInt 8 32).toNat : Nat) : Int) = _
    simp
  rw [e, wrap_byte _ (by simp) _]
theorem low_all : ((List.range 256).all fun m => (decide (97 ≤ (m ||| 32)) && decide ((m ||| 32) ≤ 122)) == ((decide (97 ≤ m) && decide (m ≤ 122)) || (decide (65 ≤ m) && decide (m ≤ 90)))) = true := by kernel_rfl
theorem low_L (c : UInt8) : (decide (97 ≤ (c ||| 32).toNat) && decide ((c ||| 32).toNat ≤ 122)) = isL c := by
  have h := List.all_eq_true.1 low_all c.toNat (List.mem_range.2 (byte_lt c))
  have e : (c ||| 32).toNat = c.toNat ||| 32 := by simp
  rw [e]
  exact eq_of_beq h

theorem name_sub {n : Nat} {s : List UInt8} (hn : s.length < n) (hs : s.length < 1000000) : runes_Name n s = some (nameS s) := by
  unfold runes_Name
  have hloop := loop_any (n := n) (step := runes_Name_s1 n s) (fun k => !(isL (s.getD k 0) || (!decide (k = 0) && isD (s.getD k 0)))) s.length (.inl ()) (.inr ()) (fun k hk => by
    unfold runes_Name_s1
    rw [decide_eq_true (by omega : (k : Int) < (s.length : Int)), cT, getI_at 0 hk, bnd, or32]
    have e1 : (bif decide ((97 : Int) ≤ ((s.getD k 0 ||| 32).toNat : Int)) then some (decide (((s.getD k 0 ||| 32).toNat : Int) ≤ 122)) else some false) = some (isL (s.getD k 0)) := by
      rw [← low_L]
      by_cases h1 : 97 ≤ (s.getD k 0 ||| 32).toNat
      · rw [decide_eq_true (by omega : (97 : Int) ≤ ((s.getD k 0 ||| 32).toNat : Int)), cT, decide_eq_true h1, Bool.true_and]
        congr 1
        rw [decide_eq_decide]
        omega
      · rw [decide_eq_false (by omega : ¬ (97 : Int) ≤ ((s.getD k 0 ||| 32).toNat : Int)), cF, decide_eq_false h1, Bool.false_and]
    rw [e1, bnd]
    cases isL (s.getD k 0) with
    | true =>
      rw [Bool.not_true, cF, need_i (by omega) (by omega)]
      simp
    | false =>
      rw [Bool.not_false, cT]
      by_cases h0 : k = 0
      · rw [decide_eq_true (by omega : (k : Int) = 0), cT]
        simp [h0]
      · rw [decide_eq_false (by omega : ¬ (k : Int) = 0), cF, bnd]
        by_cases h1 : 48 ≤ (s.getD k 0).toNat
        · rw [decide_eq_false (by omega : ¬ ((s.getD k 0).toNat : Int) < 48), cF, bnd]
          by_cases h2 : (s.getD k 0).toNat ≤ 57
          · rw [decide_eq_false (by omega : ¬ (57 : Int) < ((s.getD k 0).toNat : Int)), cF, need_i (by omega) (by omega)]
            simp only [isD, decide_eq_true h1, decide_eq_true h2, decide_eq_false h0]
            simp
          · rw [decide_eq_true (by omega : (57 : Int) < ((s.getD k 0).toNat : Int)), cT]
            simp only [isD, decide_eq_true h1, decide_eq_false h2, decide_eq_false h0]
            simp
        · rw [decide_eq_true (by omega : ((s.getD k 0).toNat : Int) < 48), cT]
          simp only [isD, decide_eq_false h1, decide_eq_false h0]
          simp) (by
    unfold runes_Name_s1
    rw [decide_eq_false (by omega), cF]) hn
  rw [hloop, bnd]
  have hq : ((List.range s.length).any fun k => !(isL (s.getD k 0) || (!decide (k = 0) && isD (s.getD k 0)))) = !(decide (s.length = 0) || (isL (s.getD 0 0) && s.all fun c => isL c || isD c)) := by
    cases s with
    | nil => rfl
    | cons c r =>
      rw [List.length_cons, List.range_succ_eq_map, List.any_cons, List.any_map]
      have h1 : ((fun k => !(isL ((c :: r).getD k 0) || (!decide (k = 0) && isD ((c :: r).getD k 0)))) ∘ Nat.succ) = fun k => !(isL (r.getD k 0) || isD (r.getD k 0)) := by
        funext k
        simp
      rw [h1, any_range 0 (fun c => !(isL c || isD c)) r]
      have h2 : (r.any fun c => !(isL c || isD c)) = !(r.all fun c => isL c || isD c) := by rw [List.not_all_eq_any_not]
      rw [h2]
      cases h3 : isL c <;> simp [h3]
  rw [hq]
  cases h4 : (decide (s.length = 0) || (isL (s.getD 0 0) && s.all fun c => isL c || isD c)) with
  | false =>
    rw [Bool.not_false, cT]
    simp only [Bool.or_eq_false_iff] at h4
    simp only [nameS, Bool.and_assoc, h4.2, Bool.and_false]
  | true =>
    rw [Bool.not_true, cF]
    by_cases h5 : 0 < s.length
    · rw [decide_eq_true (by omega : (0 : Int) < (s.length : Int)), cT]
      have h6 : decide (s.length = 0) = false := decide_eq_false (by omega)
      rw [h6, Bool.false_or] at h4
      simp only [nameS, Bool.and_assoc, h4, Bool.and_true, decide_eq_true (show 1 ≤ s.length from h5), Bool.true_and]
      congr 1
      rw [decide_eq_decide]
      omega
    · rw [decide_eq_false (by omega : ¬ (0 : Int) < (s.length : Int)), cF]
      simp only [nameS, decide_eq_false (show ¬ 1 ≤ s.length from h5), Bool.false_and]
end Go.Proofs.YtdmjgmleilgbpaaDoor
