/-
  The reference's Valid is utf8's. Own work.
-/
import Derived.Test.YtdmjgmleilgbpaaDoorQ1
import Derived.Test.YtdmjgmleilgbpaaDoorVu
namespace Go.Proofs.YtdmjgmleilgbpaaDoor
open Go Go.Vc

theorem and_tab : ((List.range 256).all fun c => bAnd .i64 (c : Int) 31 == ((c % 32 : Nat) : Int) && (bAnd .i64 (c : Int) 15 == ((c % 16 : Nat) : Int) && bAnd .i64 (c : Int) 7 == ((c % 8 : Nat) : Int))) = true := by kernel_rfl
theorem and_low (c : UInt8) : bAnd .i64 (c.toNat : Int) 31 = ((c.toNat % 32 : Nat) : Int) ∧ bAnd .i64 (c.toNat : Int) 15 = ((c.toNat % 16 : Nat) : Int) ∧ bAnd .i64 (c.toNat : Int) 7 = ((c.toNat % 8 : Nat) : Int) := by
  have h := List.all_eq_true.1 and_tab c.toNat (List.mem_range.2 c.toNat_lt)
  simp only [Bool.and_eq_true, beq_iff_eq] at h
  exact h

theorem one_s1 {n : Nat} {s : List UInt8} {i k : Nat} {y : Int × Int × Int} {r w : Nat} (hy : y.1 = (w : Int)) (hk : k < w) (hi : i + w ≤ s.length) (hs : s.length < 1000000) (hr : r < 1000000000) :
    ref01_One_s1 n s i y ((r : Int), (k : Int)) = some (if (s.getD (i + k) 0).toNat / 64 = 2 then .nx (((64 * r + (s.getD (i + k) 0).toNat % 64 : Nat) : Int), ((k + 1 : Nat) : Int)) else .br (.inl ())) := by
  unfold ref01_One_s1
  dsimp only
  have e : (i : Int) + (k : Int) = ((i + k : Nat) : Int) := by omega
  rw [hy, decide_eq_true (by omega : (k : Int) < (w : Int)), cT, need_i (by omega) (by omega), e, getI_at 0 (by omega), bnd]
  have hb := (s.getD (i + k) 0).toNat_lt
  generalize (s.getD (i + k) 0) = b at hb ⊢
  by_cases h1 : b.toNat < 128
  · rw [decide_eq_true (by omega : (b.toNat : Int) < 128), cT, bnd, cT, if_neg (by omega)]
  · rw [decide_eq_false (by omega : ¬ (b.toNat : Int) < 128), cF, bnd]
    by_cases h2 : 191 < b.toNat
    · rw [decide_eq_true (by omega : (191 : Int) < (b.toNat : Int)), cT, if_neg (by omega)]
    · rw [decide_eq_false (by omega : ¬ (191 : Int) < (b.toNat : Int)), cF, if_pos (by omega), need_i (by omega) (by omega), need_i (by omega) (by omega), need_i (by omega) (by omega), need_i (by omega) (by omega)]
      congr 3
      · omega
theorem one_s1e {n : Nat} {s : List UInt8} {i : Nat} {y : Int × Int × Int} {r : Int} {w : Nat} (hy : y.1 = (w : Int)) :
    ref01_One_s1 n s i y (r, (w : Int)) = some (.br (.inr r)) := by
  unfold ref01_One_s1
  dsimp only
  rw [hy, decide_eq_false (by omega : ¬ (w : Int) < (w : Int)), cF]
def contB (s : List UInt8) (i : Nat) : Bool := decide ((s.getD i 0).toNat / 64 = 2)
theorem one_l2 {n : Nat} {s : List UInt8} {i : Nat} {y : Int × Int × Int} {r : Nat} (hy : y.1 = 2) (hi : i + 2 ≤ s.length) (hs : s.length < 1000000) (hr : r < 100) (hn : 5 ≤ n) :
    loopF (ref01_One_s1 n s i y) n ((r : Int), (1 : Int)) = some (if contB s (i + 1) then .inr (((64 * r + (s.getD (i + 1) 0).toNat % 64 : Nat) : Int)) else .inl ()) := by
  obtain ⟨n, rfl⟩ : ∃ q, n = q + 5 := ⟨n - 5, by omega⟩
  have h1 := one_s1 (n := n + 5) (k := 1) (w := 2) hy (by omega) hi hs (by omega : r < 1000000000)
  rw [show ((1 : Nat) : Int) = 1 from rfl] at h1
  rw [loopF, h1, bnd]
  unfold contB
  by_cases h2 : (s.getD (i + 1) 0).toNat / 64 = 2
  · rw [if_pos h2, if_pos (by simpa using h2)]
    show loopF _ (n + 4) _ = _
    rw [loopF, one_s1e (w := 2) hy, bnd]
  · rw [if_neg h2, if_neg (by simpa using h2)]
theorem one_l3 {n : Nat} {s : List UInt8} {i : Nat} {y : Int × Int × Int} {r : Nat} (hy : y.1 = 3) (hi : i + 3 ≤ s.length) (hs : s.length < 1000000) (hr : r < 100) (hn : 5 ≤ n) :
    loopF (ref01_One_s1 n s i y) n ((r : Int), (1 : Int)) = some (if contB s (i + 1) && contB s (i + 2) then .inr (((64 * (64 * r + (s.getD (i + 1) 0).toNat % 64) + (s.getD (i + 2) 0).toNat % 64 : Nat) : Int)) else .inl ()) := by
  obtain ⟨n, rfl⟩ : ∃ q, n = q + 5 := ⟨n - 5, by omega⟩
  have h1 := one_s1 (n := n + 5) (k := 1) (w := 3) hy (by omega) hi hs (by omega : r < 1000000000)
  rw [show ((1 : Nat) : Int) = 1 from rfl] at h1
  rw [loopF, h1, bnd]
  unfold contB
  by_cases h2 : (s.getD (i + 1) 0).toNat / 64 = 2
  · rw [if_pos h2]
    show loopF _ (n + 4) _ = _
    rw [loopF, one_s1 (n := n + 5) (k := 2) (w := 3) hy (by omega) hi hs (by omega), bnd]
    by_cases h3 : (s.getD (i + 2) 0).toNat / 64 = 2
    · rw [if_pos h3, if_pos (by simp only [h2, h3]; rfl)]
      show loopF _ (n + 3) _ = _
      rw [loopF, one_s1e (w := 3) hy, bnd]
    · rw [if_neg h3, if_neg (by simp only [h2, h3]; decide)]
  · rw [if_neg h2, if_neg (by simp only [h2]; simp)]
theorem one_l4 {n : Nat} {s : List UInt8} {i : Nat} {y : Int × Int × Int} {r : Nat} (hy : y.1 = 4) (hi : i + 4 ≤ s.length) (hs : s.length < 1000000) (hr : r < 100) (hn : 5 ≤ n) :
    loopF (ref01_One_s1 n s i y) n ((r : Int), (1 : Int)) = some (if contB s (i + 1) && (contB s (i + 2) && contB s (i + 3)) then .inr (((64 * (64 * (64 * r + (s.getD (i + 1) 0).toNat % 64) + (s.getD (i + 2) 0).toNat % 64) + (s.getD (i + 3) 0).toNat % 64 : Nat) : Int)) else .inl ()) := by
  obtain ⟨n, rfl⟩ : ∃ q, n = q + 5 := ⟨n - 5, by omega⟩
  have h1 := one_s1 (n := n + 5) (k := 1) (w := 4) hy (by omega) hi hs (by omega : r < 1000000000)
  rw [show ((1 : Nat) : Int) = 1 from rfl] at h1
  rw [loopF, h1, bnd]
  unfold contB
  by_cases h2 : (s.getD (i + 1) 0).toNat / 64 = 2
  · rw [if_pos h2]
    show loopF _ (n + 4) _ = _
    rw [loopF, one_s1 (n := n + 5) (k := 2) (w := 4) hy (by omega) hi hs (by omega), bnd]
    by_cases h3 : (s.getD (i + 2) 0).toNat / 64 = 2
    · rw [if_pos h3]
      show loopF _ (n + 3) _ = _
      rw [loopF, one_s1 (n := n + 5) (k := 3) (w := 4) hy (by omega) hi hs (by omega), bnd]
      by_cases h4 : (s.getD (i + 3) 0).toNat / 64 = 2
      · rw [if_pos h4, if_pos (by simp only [h2, h3, h4]; rfl)]
        show loopF _ (n + 2) _ = _
        rw [loopF, one_s1e (w := 4) hy, bnd]
      · rw [if_neg h4, if_neg (by simp only [h2, h3, h4]; decide)]
    · rw [if_neg h3, if_neg (by simp only [h2, h3]; simp)]
  · rw [if_neg h2, if_neg (by simp only [h2]; simp)]

theorem one_ref {n : Nat} {s : List UInt8} {i : Nat} (hi : i < s.length) (hs : s.length < 1000000) (hn : 5 ≤ n) :
    ref01_One n s i = some (if (Lib.decodeL (s.drop i)).1 = 65533 ∧ (Lib.decodeL (s.drop i)).2 = 1 then (0, 0) else (((Lib.decodeL (s.drop i)).1 : Int), ((Lib.decodeL (s.drop i)).2 : Int))) := by
  rw [Lib.decodeL_N, List.length_drop, Lib.getD_dropU, Lib.getD_dropU, Lib.getD_dropU, Lib.getD_dropU, Nat.add_zero]
  unfold ref01_One
  rw [decide_eq_false (by omega : ¬ (i : Int) < 0), cF, decide_eq_false (by omega : ¬ (s.length : Int) ≤ (i : Int)), bnd, cF, getI_at 0 hi, bnd]
  have hb0 := (s.getD i 0).toNat_lt
  have hb1 := (s.getD (i + 1) 0).toNat_lt
  have hb2 := (s.getD (i + 2) 0).toNat_lt
  have hb3 := (s.getD (i + 3) 0).toNat_lt
  obtain ⟨a1, a2, a3⟩ := and_low (s.getD i 0)
  by_cases h0 : (s.getD i 0).toNat < 128
  · rw [decide_eq_true (by omega : ((s.getD i 0).toNat : Int) < 128), cT, Lib.decodeN_ascii _ _ _ _ _ h0]
    rw [mpS, bnd, jB, if_neg (by dsimp only; omega)]
    rfl
  rw [decide_eq_false (by omega : ¬ ((s.getD i 0).toNat : Int) < 128), cF]
  generalize hD : Lib.decodeN (s.length - i) (s.getD i 0).toNat (s.getD (i + 1) 0).toNat (s.getD (i + 2) 0).toNat (s.getD (i + 3) 0).toNat = D
  have hB : D = (65533, 1) → some ((0 : Int), (0 : Int)) = some (if D.1 = 65533 ∧ D.2 = 1 then (0, 0) else ((D.1 : Int), (D.2 : Int))) := fun e => by rw [e]; rfl
  have hG : ∀ (R w : Nat), D = (R, w) → 1 < w → some ((R : Int), (w : Int)) = some (if D.1 = 65533 ∧ D.2 = 1 then (0, 0) else ((D.1 : Int), (D.2 : Int))) := fun R w e hw => by rw [e, if_neg (by dsimp only; omega)]
  have bad : (s.getD i 0).toNat < 192 ∨ 248 ≤ (s.getD i 0).toNat → D = (65533, 1) := fun hb => by
    rw [← hD]
    unfold Lib.decodeN
    rw [if_neg h0, if_neg (by omega), if_neg (by omega), if_neg (by omega)]
  by_cases h1 : 192 ≤ (s.getD i 0).toNat
  case neg =>
    rw [decide_eq_false (by omega : ¬ (192 : Int) ≤ ((s.getD i 0).toNat : Int)), cF, bnd, cF, decide_eq_false (by omega : ¬ (224 : Int) ≤ ((s.getD i 0).toNat : Int)), cF, bnd, cF, decide_eq_false (by omega : ¬ (240 : Int) ≤ ((s.getD i 0).toNat : Int)), cF, bnd, cF, mpS, bnd, jB]
    exact hB (bad (by omega))
  rw [decide_eq_true (by omega : (192 : Int) ≤ ((s.getD i 0).toNat : Int)), cT]
  by_cases h2 : (s.getD i 0).toNat < 224
  · rw [decide_eq_true (by omega : ((s.getD i 0).toNat : Int) < 224), bnd, cT, a1, bnd]
    rw [jN]
    dsimp only
    rw [need_i (by omega) (by omega)]
    unfold Lib.decodeN at hD
    rw [if_neg h0] at hD
    by_cases hl : s.length < i + 2
    · rw [decide_eq_true (by omega : (s.length : Int) < (i : Int) + 2), cT]
      exact hB (by rw [← hD, if_neg (by omega), if_neg (by omega), if_neg (by omega)])
    rw [decide_eq_false (by omega : ¬ (s.length : Int) < (i : Int) + 2), cF, one_l2 rfl (by omega) hs (by omega) hn, bnd]
    unfold contB
    by_cases hc : (s.getD (i + 1) 0).toNat / 64 = 2
    · rw [if_pos (by simp only [hc]; rfl)]
      rw [if_pos ⟨by omega, by omega, hc⟩] at hD
      dsimp only
      generalize hR : (64 * ((s.getD i 0).toNat % 32) + (s.getD (i + 1) 0).toNat % 64) = R
      rw [show (s.getD i 0).toNat % 32 * 64 + (s.getD (i + 1) 0).toNat % 64 = R by omega] at hD
      have hR2 : R < 2048 := by omega
      by_cases hv : R ≥ 128
      · rw [if_pos hv] at hD
        rw [decide_eq_false (by omega : ¬ (R : Int) < 128), cF, decide_eq_false (by omega : ¬ (1114111 : Int) < (R : Int)), cF, decide_eq_false (by omega : ¬ (55296 : Int) ≤ (R : Int)), cF, bnd, cF]
        exact hG R 2 hD.symm (by omega)
      · rw [if_neg hv] at hD
        rw [decide_eq_true (by omega : (R : Int) < 128), cT, bnd, cT]
        exact hB hD.symm
    · rw [if_neg (by simp only [hc]; decide)]
      exact hB (by rw [← hD, if_neg (by omega), if_neg (by omega), if_neg (by omega)])
  rw [decide_eq_false (by omega : ¬ ((s.getD i 0).toNat : Int) < 224), bnd, cF, decide_eq_true (by omega : (224 : Int) ≤ ((s.getD i 0).toNat : Int)), cT]
  by_cases h3 : (s.getD i 0).toNat < 240
  · rw [decide_eq_true (by omega : ((s.getD i 0).toNat : Int) < 240), bnd, cT, a2, bnd]
    rw [jN]
    dsimp only
    rw [need_i (by omega) (by omega)]
    unfold Lib.decodeN at hD
    rw [if_neg h0, if_neg (by omega)] at hD
    by_cases hl : s.length < i + 3
    · rw [decide_eq_true (by omega : (s.length : Int) < (i : Int) + 3), cT]
      exact hB (by rw [← hD, if_neg (by omega), if_neg (by omega)])
    rw [decide_eq_false (by omega : ¬ (s.length : Int) < (i : Int) + 3), cF, one_l3 rfl (by omega) hs (by omega) hn, bnd]
    unfold contB
    by_cases hc : (s.getD (i + 1) 0).toNat / 64 = 2 ∧ (s.getD (i + 2) 0).toNat / 64 = 2
    · rw [if_pos (by simp only [hc]; rfl)]
      rw [if_pos ⟨by omega, ⟨by omega, hc.1⟩, by omega, hc.2⟩] at hD
      dsimp only
      generalize hR : (64 * (64 * ((s.getD i 0).toNat % 16) + (s.getD (i + 1) 0).toNat % 64) + (s.getD (i + 2) 0).toNat % 64) = R
      rw [show (s.getD i 0).toNat % 16 * 4096 + (s.getD (i + 1) 0).toNat % 64 * 64 + (s.getD (i + 2) 0).toNat % 64 = R by omega] at hD
      have hR2 : R < 65536 := by omega
      by_cases hv : R < 2048
      · rw [decide_eq_true (by omega : (R : Int) < 2048), cT, bnd, cT]
        exact hB (by rw [← hD, if_neg (by omega)])
      rw [decide_eq_false (by omega : ¬ (R : Int) < 2048), cF, decide_eq_false (by omega : ¬ (1114111 : Int) < (R : Int)), cF]
      by_cases hv2 : 55296 ≤ R
      · rw [decide_eq_true (by omega : (55296 : Int) ≤ (R : Int)), cT, bnd]
        by_cases hv3 : R ≤ 57343
        · rw [decide_eq_true (by omega : (R : Int) ≤ 57343), cT]
          exact hB (by rw [← hD, if_neg (by omega)])
        · rw [decide_eq_false (by omega : ¬ (R : Int) ≤ 57343), cF]
          exact hG R 3 (by rw [← hD, if_pos (by omega)]) (by omega)
      · rw [decide_eq_false (by omega : ¬ (55296 : Int) ≤ (R : Int)), cF, bnd, cF]
        exact hG R 3 (by rw [← hD, if_pos (by omega)]) (by omega)
    · rw [if_neg (by simp only [Bool.and_eq_true, decide_eq_true_eq]; exact hc)]
      exact hB (by rw [← hD, if_neg (by omega), if_neg (by omega)])
  rw [decide_eq_false (by omega : ¬ ((s.getD i 0).toNat : Int) < 240), bnd, cF, decide_eq_true (by omega : (240 : Int) ≤ ((s.getD i 0).toNat : Int)), cT]
  by_cases h4 : (s.getD i 0).toNat < 248
  · rw [decide_eq_true (by omega : ((s.getD i 0).toNat : Int) < 248), bnd, cT, a3, bnd]
    rw [jN]
    dsimp only
    rw [need_i (by omega) (by omega)]
    unfold Lib.decodeN at hD
    rw [if_neg h0, if_neg (by omega), if_neg (by omega)] at hD
    by_cases hl : s.length < i + 4
    · rw [decide_eq_true (by omega : (s.length : Int) < (i : Int) + 4), cT]
      exact hB (by rw [← hD, if_neg (by omega)])
    rw [decide_eq_false (by omega : ¬ (s.length : Int) < (i : Int) + 4), cF, one_l4 rfl (by omega) hs (by omega) hn, bnd]
    unfold contB
    by_cases hc : (s.getD (i + 1) 0).toNat / 64 = 2 ∧ (s.getD (i + 2) 0).toNat / 64 = 2 ∧ (s.getD (i + 3) 0).toNat / 64 = 2
    · rw [if_pos (by simp only [hc]; rfl)]
      rw [if_pos ⟨by omega, ⟨by omega, hc.1⟩, ⟨by omega, hc.2.1⟩, by omega, hc.2.2⟩] at hD
      dsimp only
      generalize hR : (64 * (64 * (64 * ((s.getD i 0).toNat % 8) + (s.getD (i + 1) 0).toNat % 64) + (s.getD (i + 2) 0).toNat % 64) + (s.getD (i + 3) 0).toNat % 64) = R
      rw [show (s.getD i 0).toNat % 8 * 262144 + (s.getD (i + 1) 0).toNat % 64 * 4096 + (s.getD (i + 2) 0).toNat % 64 * 64 + (s.getD (i + 3) 0).toNat % 64 = R by omega] at hD
      have hR2 : R < 16777216 := by omega
      by_cases hv : R < 65536
      · rw [decide_eq_true (by omega : (R : Int) < 65536), cT, bnd, cT]
        exact hB (by rw [← hD, if_neg (by omega)])
      rw [decide_eq_false (by omega : ¬ (R : Int) < 65536), cF]
      by_cases hv2 : 1114111 < R
      · rw [decide_eq_true (by omega : (1114111 : Int) < (R : Int)), cT, bnd, cT]
        exact hB (by rw [← hD, if_neg (by omega)])
      · rw [decide_eq_false (by omega : ¬ (1114111 : Int) < (R : Int)), cF, decide_eq_true (by omega : (55296 : Int) ≤ (R : Int)), cT, bnd, decide_eq_false (by omega : ¬ (R : Int) ≤ 57343), cF]
        exact hG R 4 (by rw [← hD, if_pos (by omega)]) (by omega)
    · rw [if_neg (by simp only [Bool.and_eq_true, decide_eq_true_eq]; exact hc)]
      exact hB (by rw [← hD, if_neg (by omega)])
  rw [decide_eq_false (by omega : ¬ ((s.getD i 0).toNat : Int) < 248), bnd, cF, mpS, bnd, jB]
  exact hB (bad (by omega))

theorem valid_loop {n : Nat} {s : List UInt8} (hs : s.length < 1000000) (hn : 5 ≤ n) : ∀ (m i : Nat), s.length ≤ i + m → i ≤ s.length → ∀ q, m < q → loopF (ref01_Valid_s1 n s) q (i : Int) = some (if Lib.validD (s.drop i) then .inr () else .inl ())
  | 0, i, hm, hi, q, hq => by
    obtain ⟨q, rfl⟩ : ∃ r, q = r + 1 := ⟨q - 1, by omega⟩
    have e : s.drop i = [] := List.drop_eq_nil_of_le (by omega)
    rw [loopF, e]
    unfold ref01_Valid_s1
    rw [decide_eq_false (by omega), cF, bnd]
    rfl
  | m + 1, i, hm, hi, q, hq => by
    obtain ⟨q, rfl⟩ : ∃ r, q = r + 1 := ⟨q - 1, by omega⟩
    by_cases hlt : i < s.length
    · have hne : s.drop i ≠ [] := fun e => by
        have := congrArg List.length e
        rw [List.length_drop] at this
        simp at this
        omega
      have hst : ref01_Valid_s1 n s (i : Int) = some (if (Lib.decodeL (s.drop i)).1 = 65533 ∧ (Lib.decodeL (s.drop i)).2 = 1 then .br (.inl ()) else .nx (((i + (Lib.decodeL (s.drop i)).2 : Nat) : Int))) := by
        unfold ref01_Valid_s1
        rw [decide_eq_true (by omega : (i : Int) < (s.length : Int)), cT, one_ref hlt hs hn, bnd]
        by_cases hb : (Lib.decodeL (s.drop i)).1 = 65533 ∧ (Lib.decodeL (s.drop i)).2 = 1
        · rw [if_pos hb, if_pos hb]
          rfl
        · rw [if_neg hb, if_neg hb]
          have hw := Lib.decodeL_width (s.drop i)
          have hw4 : (Lib.decodeL (s.drop i)).2 ≤ 4 := by
            rcases dec_cases (s.drop i) hne with ⟨e, _⟩ | ⟨r, w, e, h1, h2, h3, _⟩
            · rw [e]; decide
            · rw [e]; exact h3
          dsimp only
          rw [decide_eq_false (by omega), cF, need_i (by omega) (by omega)]
          rfl
      rw [loopF, hst, bnd, Lib.validD_step _ hne]
      by_cases hb : (Lib.decodeL (s.drop i)).1 = 65533 ∧ (Lib.decodeL (s.drop i)).2 = 1
      · rw [if_pos hb, if_pos hb]
        rfl
      · rw [if_neg hb, if_neg hb]
        have hw := Lib.decodeL_width (s.drop i)
        have hle : (Lib.decodeL (s.drop i)).2 ≤ s.length - i := by
          rcases dec_cases (s.drop i) hne with ⟨e, _⟩ | ⟨r, w, e, h1, _⟩
          · rw [e] at hb; exact absurd ⟨rfl, rfl⟩ hb
          · rw [e]; rw [List.length_drop] at h1; exact h1
        dsimp only
        rw [valid_loop hs hn m _ (by omega) (by omega) q (by omega), List.drop_drop]
    · have e : s.drop i = [] := List.drop_eq_nil_of_le (by omega)
      rw [loopF, e]
      unfold ref01_Valid_s1
      rw [decide_eq_false (by omega), cF, bnd]
      rfl
theorem valid_ref {n : Nat} {s : List UInt8} (hs : s.length < 1000000) (hn : 5 ≤ n) (hl : s.length < n) : ref01_Valid n s = some (Lib.validD s) := by
  unfold ref01_Valid
  have h := valid_loop hs hn s.length 0 (by omega) (by omega) n hl
  rw [show ((0 : Nat) : Int) = 0 from rfl, List.drop_zero] at h
  rw [h, bnd]
  cases Lib.validD s <;> rfl
end Go.Proofs.YtdmjgmleilgbpaaDoor
