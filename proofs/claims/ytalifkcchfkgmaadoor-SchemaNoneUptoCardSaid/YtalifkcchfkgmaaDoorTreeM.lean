/-
  Texts of this claim, merged: TreeP1, UtfA, TreeP2, TreeS1, TreeS2, TreeS3, TreeS4, TreeS5, TreeS6, TreeS7. Own work.
-/
import Derived.Test.YtalifkcchfkgmaaDoorQ2a
import Derived.Test.YtalifkcchfkgmaaDoorWalkIt
import Derived.Test.YtalifkcchfkgmaaDoorVp
import Derived.Test.YtalifkcchfkgmaaDoorQ1
import Derived.Test.YtalifkcchfkgmaaDoorVu
import Derived.Test.YtalifkcchfkgmaaDoorSort1
import Derived.Test.YtalifkcchfkgmaaDoorQ2e
import Derived.Test.YtalifkcchfkgmaaDoorQ4b
import Derived.Test.YtalifkcchfkgmaaDoorQ4i
import Derived.Test.YtalifkcchfkgmaaDoorQ4h
import Derived.Test.YtalifkcchfkgmaaDoorQ4d
section
namespace Go.Proofs.YtalifkcchfkgmaaDoor
open Go Go.Vc Go.RowKit

/-- A tree of bounded height and width. -/
def Small : Nat → T_api_Value → Prop
  | 0, _ => False
  | d + 1, v => v.fList.length ≤ 3000 ∧ v.fKeys.length ≤ 3000 ∧ v.fText.length ≤ 5000 ∧ (∀ k ∈ v.fKeys, k.length ≤ 5000) ∧ ∀ x ∈ v.fList, Small d x
theorem walkVs_app : ∀ (l m : List T_api_Value), walkVs (l ++ m) = walkVs l ++ walkVs m
  | [], m => by simp [walkVs]
  | x :: r, m => by simp [walkVs, walkVs_app r m]
theorem walkVs_take {l : List T_api_Value} {i : Nat} {x : T_api_Value} (h : l[i]? = some x) : walkVs (l.take (i + 1)) = walkVs (l.take i) ++ walkV x := by
  rw [List.take_add_one, h, walkVs_app]
  simp [walkVs]

theorem weight_ok {n : Nat} (hn : 3000 < n) : ∀ (k d : Nat) (v : T_api_Value), d < k → d ≤ 1000 → ∃ W : Int, ref03_weight_k n k v (d : Int) = some W ∧ 0 ≤ W ∧ W ≤ 30010001 + 10000 * d ∧ (W ≤ 5000 → Small d v ∧ ((walkV v).length : Int) ≤ W)
  | 0, d, v, h, _ => absurd h (by omega)
  | k + 1, d, v, h, hd => by
    show ∃ W : Int, ref03_weight_b n (ref03_weight_k n k) v (d : Int) = some W ∧ _
    unfold ref03_weight_b
    by_cases h0 : d = 0 ∨ 3000 < v.fList.length ∨ 3000 < v.fKeys.length
    · have e : (bif decide ((d : Int) = 0) then some true else bif decide ((3000 : Int) < ((v.fList.length : Nat) : Int)) then some true else some (decide ((3000 : Int) < ((v.fKeys.length : Nat) : Int))) : Option Bool) = some true := by
        by_cases a : (d : Int) = 0
        · rw [decide_eq_true a, cT]
        · rw [decide_eq_false a, cF]
          by_cases b : (3000 : Int) < ((v.fList.length : Nat) : Int)
          · rw [decide_eq_true b, cT]
          · rw [decide_eq_false b, cF, decide_eq_true (by omega)]
      rw [e, bnd, cT]
      exact ⟨10000, rfl, by omega, by omega, fun h => absurd h (by omega)⟩
    · have e : (bif decide ((d : Int) = 0) then some true else bif decide ((3000 : Int) < ((v.fList.length : Nat) : Int)) then some true else some (decide ((3000 : Int) < ((v.fKeys.length : Nat) : Int))) : Option Bool) = some false := by
        rw [decide_eq_false (by omega), cF, decide_eq_false (by omega), cF, decide_eq_false (by omega)]
      rw [e, bnd, cF]
      obtain ⟨base, hbase⟩ : ∃ base : Int, base = (1 : Int) + (min (v.fText.length : Int) (10000 : Int)) := ⟨_, rfl⟩
      rw [← hbase, need_i (by omega) (by omega)]
      obtain ⟨y, hy, hy1, hy2, hy3⟩ := loop_inv (step := ref03_weight_s1 n v) (n := n) (s0 := (base, (0 : Int)))
        (fun k s => s.2 = (k : Int) ∧ base ≤ s.1 ∧ s.1 ≤ base + 10000 * k ∧ (s.1 ≤ 5000 → ∀ j, j < k → (v.fKeys.getD j []).length ≤ 5000))
        (fun b => base ≤ b ∧ b ≤ base + 10000 * v.fKeys.length ∧ (b ≤ 5000 → ∀ j, j < v.fKeys.length → (v.fKeys.getD j []).length ≤ 5000)) v.fKeys.length
        ⟨rfl, Int.le_refl _, by simp, fun _ j hj => absurd hj (by omega)⟩
        (fun q s hq hI => by
          obtain ⟨t, i⟩ := s
          obtain ⟨h1, h2, h3, h4⟩ := hI
          have h1' : i = (q : Int) := h1
          subst h1'
          left
          refine ⟨(t + min ((v.fKeys.getD q []).length : Int) 10000, (q : Int) + 1), ?_, by simp, ?_, ?_, ?_⟩
          · show ref03_weight_s1 n v (t, (q : Int)) = _
            unfold ref03_weight_s1
            dsimp only at h2 h3 ⊢
            rw [decide_eq_true (by omega), cT, getI_at [] hq, bnd, need_i (by omega) (by omega), need_i (by omega) (by omega)]
          · dsimp only at h2 ⊢; omega
          · dsimp only at h3 ⊢; push_cast; omega
          · dsimp only at h4 ⊢
            intro hle j hj
            by_cases hjq : j = q
            · subst hjq; omega
            · exact h4 (by omega) j (by omega))
        (fun s hI => by
          obtain ⟨t, i⟩ := s
          obtain ⟨h1, h2, h3, h4⟩ := hI
          have h1' : i = (v.fKeys.length : Int) := h1
          subst h1'
          refine ⟨t, ?_, h2, h3, h4⟩
          unfold ref03_weight_s1
          dsimp only
          rw [decide_eq_false (by omega), cF])
        (by omega)
      rw [hy, bnd]
      obtain ⟨z, hz, hz1, hz2, hz3⟩ := loop_inv (step := ref03_weight_s2 n (ref03_weight_k n k) v (d : Int)) (n := n) (s0 := (y, (0 : Int)))
        (fun k s => s.2 = (k : Int) ∧ y ≤ s.1 ∧ s.1 ≤ 30010001 + 10000 * d ∧ (s.1 ≤ 5000 → (∀ j x, j < k → v.fList[j]? = some x → Small (d - 1) x) ∧ ((walkVs (v.fList.take k)).length : Int) + 1 ≤ s.1))
        (fun b => y ≤ b ∧ b ≤ 30010001 + 10000 * d ∧ (b ≤ 5000 → (∀ j x, j < v.fList.length → v.fList[j]? = some x → Small (d - 1) x) ∧ ((walkVs v.fList).length : Int) + 1 ≤ b)) v.fList.length
        ⟨rfl, Int.le_refl _, by omega, fun _ => ⟨fun j x hj => absurd hj (by omega), by simp [walkVs]; omega⟩⟩
        (fun q s hq hI => by
          obtain ⟨t, i⟩ := s
          obtain ⟨h1, h2, h3, h4⟩ := hI
          have h1' : i = (q : Int) := h1
          subst h1'
          dsimp only at h2 h3 h4
          by_cases ht : t ≤ 10000
          · left
            have hx : v.fList[q]? = some v.fList[q] := List.getElem?_eq_getElem hq
            obtain ⟨W, w1, w2, w3, w4⟩ := weight_ok hn k (d - 1) v.fList[q] (by omega) (by omega)
            have hd1 : ((d - 1 : Nat) : Int) = (d : Int) - 1 := by omega
            rw [hd1] at w1
            refine ⟨(t + W, (q : Int) + 1), ?_, by simp, ?_, ?_, ?_⟩
            · show ref03_weight_s2 n (ref03_weight_k n k) v (d : Int) (t, (q : Int)) = _
              unfold ref03_weight_s2
              dsimp only
              have hg : getI v.fList (q : Int) = some v.fList[q] := by simp [getI]
              rw [decide_eq_true (by omega), cT, bnd, decide_eq_true ht, cT, hg, bnd, need_i (by omega) (by omega), w1, bnd, need_i (by omega) (by omega), need_i (by omega) (by omega)]
            · dsimp only; omega
            · dsimp only; omega
            · dsimp only
              intro hle
              obtain ⟨s1, s2⟩ := h4 (by omega)
              obtain ⟨c1, c2⟩ := w4 (by omega)
              refine ⟨fun j x hj hjx => ?_, ?_⟩
              · by_cases hjq : j = q
                · subst hjq
                  rw [hx] at hjx
                  exact Option.some.inj hjx ▸ c1
                · exact s1 j x (by omega) hjx
              · rw [walkVs_take hx, List.length_append]
                omega
          · right
            refine ⟨t, ?_, h2, h3, fun hle => absurd hle (by omega)⟩
            unfold ref03_weight_s2
            dsimp only
            rw [decide_eq_true (by omega), cT, bnd, decide_eq_false ht, cF])
        (fun s hI => by
          obtain ⟨t, i⟩ := s
          obtain ⟨h1, h2, h3, h4⟩ := hI
          have h1' : i = (v.fList.length : Int) := h1
          subst h1'
          dsimp only at h2 h3 h4
          rw [List.take_length] at h4
          refine ⟨t, ?_, h2, h3, h4⟩
          unfold ref03_weight_s2
          dsimp only
          rw [decide_eq_false (by omega), cF, bnd, cF])
        (by omega)
      rw [hz, bnd]
      refine ⟨z, rfl, by omega, hz2, fun hle => ?_⟩
      obtain ⟨s1, s2⟩ := hz3 hle
      have s3 := hy3 (by omega)
      obtain ⟨d, rfl⟩ : ∃ e, d = e + 1 := ⟨d - 1, by omega⟩
      refine ⟨⟨by omega, by omega, by omega, fun q hq => ?_, fun x hx => ?_⟩, ?_⟩
      · obtain ⟨j, hj, rfl⟩ := List.getElem_of_mem hq
        have := s3 j hj
        simpa [hj] using this
      · obtain ⟨j, hj, rfl⟩ := List.getElem_of_mem hx
        exact s1 j _ hj (List.getElem?_eq_getElem hj)
      · rw [walkV_eq, List.length_cons]
        push_cast
        omega
end Go.Proofs.YtalifkcchfkgmaaDoor
end

section
namespace Go.Proofs.YtalifkcchfkgmaaDoor
open Go Go.Vc

theorem and_tab : ((List.range 256).all fun c => bAnd .i64 (c : Int) 31 == ((c % 32 : Nat) : Int) && (bAnd .i64 (c : Int) 15 == ((c % 16 : Nat) : Int) && bAnd .i64 (c : Int) 7 == ((c % 8 : Nat) : Int))) = true := by kernel_rfl
theorem and_low (c : UInt8) : bAnd .i64 (c.toNat : Int) 31 = ((c.toNat % 32 : Nat) : Int) ∧ bAnd .i64 (c.toNat : Int) 15 = ((c.toNat % 16 : Nat) : Int) ∧ bAnd .i64 (c.toNat : Int) 7 = ((c.toNat % 8 : Nat) : Int) := by
  have h := List.all_eq_true.1 and_tab c.toNat (List.mem_range.2 c.toNat_lt)
  simp only [Bool.and_eq_true, beq_iff_eq] at h
  exact h

theorem one_s1 {n : Nat} {s : List UInt8} {i k : Nat} {y : Int × Int × Int} {r w : Nat} (hy : y.1 = (w : Int)) (hk : k < w) (hi : i + w ≤ s.length) (hs : s.length < 1000000) (hr : r < 1000000000) :
    ref01_One_s1 n s i y ((r : Int), (k : Int)) = some (if (s.getD (i + k) 0).toNat / 64 = 2 then .nx (((64 * r + (s.getD (i + k) 0).toNat % 64 : Nat) : Int), ((k + 1 : Nat) : Int)) else .br (.inl ())) := by
  unfold ref01_One_s1
  dsimp only
  have e : (i : Int) + (k : Int) = ((i + k : Nat) : Int) := by omega
  rw [hy, decide_eq_true (by omega : (k : Int) < (w : Int)), cT, need_i (by omega) (by omega), e, getI_at 0 (by omega), bnd]
  have hb := (s.getD (i + k) 0).toNat_lt
  generalize (s.getD (i + k) 0) = b at hb ⊢
  by_cases h1 : b.toNat < 128
  · rw [decide_eq_true (by omega : (b.toNat : Int) < 128), cT, bnd, cT, if_neg (by omega)]
  · rw [decide_eq_false (by omega : ¬ (b.toNat : Int) < 128), cF, bnd]
    by_cases h2 : 191 < b.toNat
    · rw [decide_eq_true (by omega : (191 : Int) < (b.toNat : Int)), cT, if_neg (by omega)]
    · rw [decide_eq_false (by omega : ¬ (191 : Int) < (b.toNat : Int)), cF, if_pos (by omega), need_i (by omega) (by omega), need_i (by omega) (by omega), need_i (by omega) (by omega), need_i (by omega) (by omega)]
      congr 3
      · omega
theorem one_s1e {n : Nat} {s : List UInt8} {i : Nat} {y : Int × Int × Int} {r : Int} {w : Nat} (hy : y.1 = (w : Int)) :
    ref01_One_s1 n s i y (r, (w : Int)) = some (.br (.inr r)) := by
  unfold ref01_One_s1
  dsimp only
  rw [hy, decide_eq_false (by omega : ¬ (w : Int) < (w : Int)), cF]
def contB (s : List UInt8) (i : Nat) : Bool := decide ((s.getD i 0).toNat / 64 = 2)
theorem one_l2 {n : Nat} {s : List UInt8} {i : Nat} {y : Int × Int × Int} {r : Nat} (hy : y.1 = 2) (hi : i + 2 ≤ s.length) (hs : s.length < 1000000) (hr : r < 100) (hn : 5 ≤ n) :
    loopF (ref01_One_s1 n s i y) n ((r : Int), (1 : Int)) = some (if contB s (i + 1) then .inr (((64 * r + (s.getD (i + 1) 0).toNat % 64 : Nat) : Int)) else .inl ()) := by
  obtain ⟨n, rfl⟩ : ∃ q, n = q + 5 := ⟨n - 5, by omega⟩
  have h1 := one_s1 (n := n + 5) (k := 1) (w := 2) hy (by omega) hi hs (by omega : r < 1000000000)
  rw [show ((1 : Nat) : Int) = 1 from rfl] at h1
  rw [loopF, h1, bnd]
  unfold contB
  by_cases h2 : (s.getD (i + 1) 0).toNat / 64 = 2
  · rw [if_pos h2, if_pos (by simpa using h2)]
    show loopF _ (n + 4) _ = _
    rw [loopF, one_s1e (w := 2) hy, bnd]
  · rw [if_neg h2, if_neg (by simpa using h2)]
theorem one_l3 {n : Nat} {s : List UInt8} {i : Nat} {y : Int × Int × Int} {r : Nat} (hy : y.1 = 3) (hi : i + 3 ≤ s.length) (hs : s.length < 1000000) (hr : r < 100) (hn : 5 ≤ n) :
    loopF (ref01_One_s1 n s i y) n ((r : Int), (1 : Int)) = some (if contB s (i + 1) && contB s (i + 2) then .inr (((64 * (64 * r + (s.getD (i + 1) 0).toNat % 64) + (s.getD (i + 2) 0).toNat % 64 : Nat) : Int)) else .inl ()) := by
  obtain ⟨n, rfl⟩ : ∃ q, n = q + 5 := ⟨n - 5, by omega⟩
  have h1 := one_s1 (n := n + 5) (k := 1) (w := 3) hy (by omega) hi hs (by omega : r < 1000000000)
  rw [show ((1 : Nat) : Int) = 1 from rfl] at h1
  rw [loopF, h1, bnd]
  unfold contB
  by_cases h2 : (s.getD (i + 1) 0).toNat / 64 = 2
  · rw [if_pos h2]
    show loopF _ (n + 4) _ = _
    rw [loopF, one_s1 (n := n + 5) (k := 2) (w := 3) hy (by omega) hi hs (by omega), bnd]
    by_cases h3 : (s.getD (i + 2) 0).toNat / 64 = 2
    · rw [if_pos h3, if_pos (by simp only [h2, h3]; rfl)]
      show loopF _ (n + 3) _ = _
      rw [loopF, one_s1e (w := 3) hy, bnd]
    · rw [if_neg h3, if_neg (by simp only [h2, h3]; decide)]
  · rw [if_neg h2, if_neg (by simp only [h2]; simp)]
theorem one_l4 {n : Nat} {s : List UInt8} {i : Nat} {y : Int × Int × Int} {r : Nat} (hy : y.1 = 4) (hi : i + 4 ≤ s.length) (hs : s.length < 1000000) (hr : r < 100) (hn : 5 ≤ n) :
    loopF (ref01_One_s1 n s i y) n ((r : Int), (1 : Int)) = some (if contB s (i + 1) && (contB s (i + 2) && contB s (i + 3)) then .inr (((64 * (64 * (64 * r + (s.getD (i + 1) 0).toNat % 64) + (s.getD (i + 2) 0).toNat % 64) + (s.getD (i + 3) 0).toNat % 64 : Nat) : Int)) else .inl ()) := by
  obtain ⟨n, rfl⟩ : ∃ q, n = q + 5 := ⟨n - 5, by omega⟩
  have h1 := one_s1 (n := n + 5) (k := 1) (w := 4) hy (by omega) hi hs (by omega : r < 1000000000)
  rw [show ((1 : Nat) : Int) = 1 from rfl] at h1
  rw [loopF, h1, bnd]
  unfold contB
  by_cases h2 : (s.getD (i + 1) 0).toNat / 64 = 2
  · rw [if_pos h2]
    show loopF _ (n + 4) _ = _
    rw [loopF, one_s1 (n := n + 5) (k := 2) (w := 4) hy (by omega) hi hs (by omega), bnd]
    by_cases h3 : (s.getD (i + 2) 0).toNat / 64 = 2
    · rw [if_pos h3]
      show loopF _ (n + 3) _ = _
      rw [loopF, one_s1 (n := n + 5) (k := 3) (w := 4) hy (by omega) hi hs (by omega), bnd]
      by_cases h4 : (s.getD (i + 3) 0).toNat / 64 = 2
      · rw [if_pos h4, if_pos (by simp only [h2, h3, h4]; rfl)]
        show loopF _ (n + 2) _ = _
        rw [loopF, one_s1e (w := 4) hy, bnd]
      · rw [if_neg h4, if_neg (by simp only [h2, h3, h4]; decide)]
    · rw [if_neg h3, if_neg (by simp only [h2, h3]; simp)]
  · rw [if_neg h2, if_neg (by simp only [h2]; simp)]

theorem one_ref {n : Nat} {s : List UInt8} {i : Nat} (hi : i < s.length) (hs : s.length < 1000000) (hn : 5 ≤ n) :
    ref01_One n s i = some (if (Lib.decodeL (s.drop i)).1 = 65533 ∧ (Lib.decodeL (s.drop i)).2 = 1 then (0, 0) else (((Lib.decodeL (s.drop i)).1 : Int), ((Lib.decodeL (s.drop i)).2 : Int))) := by
  rw [Lib.decodeL_N, List.length_drop, Lib.getD_dropU, Lib.getD_dropU, Lib.getD_dropU, Lib.getD_dropU, Nat.add_zero]
  unfold ref01_One
  rw [decide_eq_false (by omega : ¬ (i : Int) < 0), cF, decide_eq_false (by omega : ¬ (s.length : Int) ≤ (i : Int)), bnd, cF, getI_at 0 hi, bnd]
  have hb0 := (s.getD i 0).toNat_lt
  have hb1 := (s.getD (i + 1) 0).toNat_lt
  have hb2 := (s.getD (i + 2) 0).toNat_lt
  have hb3 := (s.getD (i + 3) 0).toNat_lt
  obtain ⟨a1, a2, a3⟩ := and_low (s.getD i 0)
  by_cases h0 : (s.getD i 0).toNat < 128
  · rw [decide_eq_true (by omega : ((s.getD i 0).toNat : Int) < 128), cT, Lib.decodeN_ascii _ _ _ _ _ h0]
    rw [mpS, bnd, jB, if_neg (by dsimp only; omega)]
    rfl
  rw [decide_eq_false (by omega : ¬ ((s.getD i 0).toNat : Int) < 128), cF]
  generalize hD : Lib.decodeN (s.length - i) (s.getD i 0).toNat (s.getD (i + 1) 0).toNat (s.getD (i + 2) 0).toNat (s.getD (i + 3) 0).toNat = D
  have hB : D = (65533, 1) → some ((0 : Int), (0 : Int)) = some (if D.1 = 65533 ∧ D.2 = 1 then (0, 0) else ((D.1 : Int), (D.2 : Int))) := fun e => by rw [e]; rfl
  have hG : ∀ (R w : Nat), D = (R, w) → 1 < w → some ((R : Int), (w : Int)) = some (if D.1 = 65533 ∧ D.2 = 1 then (0, 0) else ((D.1 : Int), (D.2 : Int))) := fun R w e hw => by rw [e, if_neg (by dsimp only; omega)]
  have bad : (s.getD i 0).toNat < 192 ∨ 248 ≤ (s.getD i 0).toNat → D = (65533, 1) := fun hb => by
    rw [← hD]
    unfold Lib.decodeN
    rw [if_neg h0, if_neg (by omega), if_neg (by omega), if_neg (by omega)]
  by_cases h1 : 192 ≤ (s.getD i 0).toNat
  case neg =>
    rw [decide_eq_false (by omega : ¬ (192 : Int) ≤ ((s.getD i 0).toNat : Int)), cF, bnd, cF, decide_eq_false (by omega : ¬ (224 : Int) ≤ ((s.getD i 0).toNat : Int)), cF, bnd, cF, decide_eq_false (by omega : ¬ (240 : Int) ≤ ((s.getD i 0).toNat : Int)), cF, bnd, cF, mpS, bnd, jB]
    exact hB (bad (by omega))
  rw [decide_eq_true (by omega : (192 : Int) ≤ ((s.getD i 0).toNat : Int)), cT]
  by_cases h2 : (s.getD i 0).toNat < 224
  · rw [decide_eq_true (by omega : ((s.getD i 0).toNat : Int) < 224), bnd, cT, a1, bnd]
    rw [jN]
    dsimp only
    rw [need_i (by omega) (by omega)]
    unfold Lib.decodeN at hD
    rw [if_neg h0] at hD
    by_cases hl : s.length < i + 2
    · rw [decide_eq_true (by omega : (s.length : Int) < (i : Int) + 2), cT]
      exact hB (by rw [← hD, if_neg (by omega), if_neg (by omega), if_neg (by omega)])
    rw [decide_eq_false (by omega : ¬ (s.length : Int) < (i : Int) + 2), cF, one_l2 rfl (by omega) hs (by omega) hn, bnd]
    unfold contB
    by_cases hc : (s.getD (i + 1) 0).toNat / 64 = 2
    · rw [if_pos (by simp only [hc]; rfl)]
      rw [if_pos ⟨by omega, by omega, hc⟩] at hD
      dsimp only
      generalize hR : (64 * ((s.getD i 0).toNat % 32) + (s.getD (i + 1) 0).toNat % 64) = R
      rw [show (s.getD i 0).toNat % 32 * 64 + (s.getD (i + 1) 0).toNat % 64 = R by omega] at hD
      have hR2 : R < 2048 := by omega
      by_cases hv : R ≥ 128
      · rw [if_pos hv] at hD
        rw [decide_eq_false (by omega : ¬ (R : Int) < 128), cF, decide_eq_false (by omega : ¬ (1114111 : Int) < (R : Int)), cF, decide_eq_false (by omega : ¬ (55296 : Int) ≤ (R : Int)), cF, bnd, cF]
        exact hG R 2 hD.symm (by omega)
      · rw [if_neg hv] at hD
        rw [decide_eq_true (by omega : (R : Int) < 128), cT, bnd, cT]
        exact hB hD.symm
    · rw [if_neg (by simp only [hc]; decide)]
      exact hB (by rw [← hD, if_neg (by omega), if_neg (by omega), if_neg (by omega)])
  rw [decide_eq_false (by omega : ¬ ((s.getD i 0).toNat : Int) < 224), bnd, cF, decide_eq_true (by omega : (224 : Int) ≤ ((s.getD i 0).toNat : Int)), cT]
  by_cases h3 : (s.getD i 0).toNat < 240
  · rw [decide_eq_true (by omega : ((s.getD i 0).toNat : Int) < 240), bnd, cT, a2, bnd]
    rw [jN]
    dsimp only
    rw [need_i (by omega) (by omega)]
    unfold Lib.decodeN at hD
    rw [if_neg h0, if_neg (by omega)] at hD
    by_cases hl : s.length < i + 3
    · rw [decide_eq_true (by omega : (s.length : Int) < (i : Int) + 3), cT]
      exact hB (by rw [← hD, if_neg (by omega), if_neg (by omega)])
    rw [decide_eq_false (by omega : ¬ (s.length : Int) < (i : Int) + 3), cF, one_l3 rfl (by omega) hs (by omega) hn, bnd]
    unfold contB
    by_cases hc : (s.getD (i + 1) 0).toNat / 64 = 2 ∧ (s.getD (i + 2) 0).toNat / 64 = 2
    · rw [if_pos (by simp only [hc]; rfl)]
      rw [if_pos ⟨by omega, ⟨by omega, hc.1⟩, by omega, hc.2⟩] at hD
      dsimp only
      generalize hR : (64 * (64 * ((s.getD i 0).toNat % 16) + (s.getD (i + 1) 0).toNat % 64) + (s.getD (i + 2) 0).toNat % 64) = R
      rw [show (s.getD i 0).toNat % 16 * 4096 + (s.getD (i + 1) 0).toNat % 64 * 64 + (s.getD (i + 2) 0).toNat % 64 = R by omega] at hD
      have hR2 : R < 65536 := by omega
      by_cases hv : R < 2048
      · rw [decide_eq_true (by omega : (R : Int) < 2048), cT, bnd, cT]
        exact hB (by rw [← hD, if_neg (by omega)])
      rw [decide_eq_false (by omega : ¬ (R : Int) < 2048), cF, decide_eq_false (by omega : ¬ (1114111 : Int) < (R : Int)), cF]
      by_cases hv2 : 55296 ≤ R
      · rw [decide_eq_true (by omega : (55296 : Int) ≤ (R : Int)), cT, bnd]
        by_cases hv3 : R ≤ 57343
        · rw [decide_eq_true (by omega : (R : Int) ≤ 57343), cT]
          exact hB (by rw [← hD, if_neg (by omega)])
        · rw [decide_eq_false (by omega : ¬ (R : Int) ≤ 57343), cF]
          exact hG R 3 (by rw [← hD, if_pos (by omega)]) (by omega)
      · rw [decide_eq_false (by omega : ¬ (55296 : Int) ≤ (R : Int)), cF, bnd, cF]
        exact hG R 3 (by rw [← hD, if_pos (by omega)]) (by omega)
    · rw [if_neg (by simp only [Bool.and_eq_true, decide_eq_true_eq]; exact hc)]
      exact hB (by rw [← hD, if_neg (by omega), if_neg (by omega)])
  rw [decide_eq_false (by omega : ¬ ((s.getD i 0).toNat : Int) < 240), bnd, cF, decide_eq_true (by omega : (240 : Int) ≤ ((s.getD i 0).toNat : Int)), cT]
  by_cases h4 : (s.getD i 0).toNat < 248
  · rw [decide_eq_true (by omega : ((s.getD i 0).toNat : Int) < 248), bnd, cT, a3, bnd]
    rw [jN]
    dsimp only
    rw [need_i (by omega) (by omega)]
    unfold Lib.decodeN at hD
    rw [if_neg h0, if_neg (by omega), if_neg (by omega)] at hD
    by_cases hl : s.length < i + 4
    · rw [decide_eq_true (by omega : (s.length : Int) < (i : Int) + 4), cT]
      exact hB (by rw [← hD, if_neg (by omega)])
    rw [decide_eq_false (by omega : ¬ (s.length : Int) < (i : Int) + 4), cF, one_l4 rfl (by omega) hs (by omega) hn, bnd]
    unfold contB
    by_cases hc : (s.getD (i + 1) 0).toNat / 64 = 2 ∧ (s.getD (i + 2) 0).toNat / 64 = 2 ∧ (s.getD (i + 3) 0).toNat / 64 = 2
    · rw [if_pos (by simp only [hc]; rfl)]
      rw [if_pos ⟨by omega, ⟨by omega, hc.1⟩, ⟨by omega, hc.2.1⟩, by omega, hc.2.2⟩] at hD
      dsimp only
      generalize hR : (64 * (64 * (64 * ((s.getD i 0).toNat % 8) + (s.getD (i + 1) 0).toNat % 64) + (s.getD (i + 2) 0).toNat % 64) + (s.getD (i + 3) 0).toNat % 64) = R
      rw [show (s.getD i 0).toNat % 8 * 262144 + (s.getD (i + 1) 0).toNat % 64 * 4096 + (s.getD (i + 2) 0).toNat % 64 * 64 + (s.getD (i + 3) 0).toNat % 64 = R by omega] at hD
      have hR2 : R < 16777216 := by omega
      by_cases hv : R < 65536
      · rw [decide_eq_true (by omega : (R : Int) < 65536), cT, bnd, cT]
        exact hB (by rw [← hD, if_neg (by omega)])
      rw [decide_eq_false (by omega : ¬ (R : Int) < 65536), cF]
      by_cases hv2 : 1114111 < R
      · rw [decide_eq_true (by omega : (1114111 : Int) < (R : Int)), cT, bnd, cT]
        exact hB (by rw [← hD, if_neg (by omega)])
      · rw [decide_eq_false (by omega : ¬ (1114111 : Int) < (R : Int)), cF, decide_eq_true (by omega : (55296 : Int) ≤ (R : Int)), cT, bnd, decide_eq_false (by omega : ¬ (R : Int) ≤ 57343), cF]
        exact hG R 4 (by rw [← hD, if_pos (by omega)]) (by omega)
    · rw [if_neg (by simp only [Bool.and_eq_true, decide_eq_true_eq]; exact hc)]
      exact hB (by rw [← hD, if_neg (by omega)])
  rw [decide_eq_false (by omega : ¬ ((s.getD i 0).toNat : Int) < 248), bnd, cF, mpS, bnd, jB]
  exact hB (bad (by omega))

theorem valid_loop {n : Nat} {s : List UInt8} (hs : s.length < 1000000) (hn : 5 ≤ n) : ∀ (m i : Nat), s.length ≤ i + m → i ≤ s.length → ∀ q, m < q → loopF (ref01_Valid_s1 n s) q (i : Int) = some (if Lib.validD (s.drop i) then .inr () else .inl ())
  | 0, i, hm, hi, q, hq => by
    obtain ⟨q, rfl⟩ : ∃ r, q = r + 1 := ⟨q - 1, by omega⟩
    have e : s.drop i = [] := List.drop_eq_nil_of_le (by omega)
    rw [loopF, e]
    unfold ref01_Valid_s1
    rw [decide_eq_false (by omega), cF, bnd]
    rfl
  | m + 1, i, hm, hi, q, hq => by
    obtain ⟨q, rfl⟩ : ∃ r, q = r + 1 := ⟨q - 1, by omega⟩
    by_cases hlt : i < s.length
    · have hne : s.drop i ≠ [] := fun e => by
        have := congrArg List.length e
        rw [List.length_drop] at this
        simp at this
        omega
      have hst : ref01_Valid_s1 n s (i : Int) = some (if (Lib.decodeL (s.drop i)).1 = 65533 ∧ (Lib.decodeL (s.drop i)).2 = 1 then .br (.inl ()) else .nx (((i + (Lib.decodeL (s.drop i)).2 : Nat) : Int))) := by
        unfold ref01_Valid_s1
        rw [decide_eq_true (by omega : (i : Int) < (s.length : Int)), cT, one_ref hlt hs hn, bnd]
        by_cases hb : (Lib.decodeL (s.drop i)).1 = 65533 ∧ (Lib.decodeL (s.drop i)).2 = 1
        · rw [if_pos hb, if_pos hb]
          rfl
        · rw [if_neg hb, if_neg hb]
          have hw := Lib.decodeL_width (s.drop i)
          have hw4 : (Lib.decodeL (s.drop i)).2 ≤ 4 := by
            rcases dec_cases (s.drop i) hne with ⟨e, _⟩ | ⟨r, w, e, h1, h2, h3, _⟩
            · rw [e]; decide
            · rw [e]; exact h3
          dsimp only
          rw [decide_eq_false (by omega), cF, need_i (by omega) (by omega)]
          rfl
      rw [loopF, hst, bnd, Lib.validD_step _ hne]
      by_cases hb : (Lib.decodeL (s.drop i)).1 = 65533 ∧ (Lib.decodeL (s.drop i)).2 = 1
      · rw [if_pos hb, if_pos hb]
        rfl
      · rw [if_neg hb, if_neg hb]
        have hw := Lib.decodeL_width (s.drop i)
        have hle : (Lib.decodeL (s.drop i)).2 ≤ s.length - i := by
          rcases dec_cases (s.drop i) hne with ⟨e, _⟩ | ⟨r, w, e, h1, _⟩
          · rw [e] at hb; exact absurd ⟨rfl, rfl⟩ hb
          · rw [e]; rw [List.length_drop] at h1; exact h1
        dsimp only
        rw [valid_loop hs hn m _ (by omega) (by omega) q (by omega), List.drop_drop]
    · have e : s.drop i = [] := List.drop_eq_nil_of_le (by omega)
      rw [loopF, e]
      unfold ref01_Valid_s1
      rw [decide_eq_false (by omega), cF, bnd]
      rfl
theorem valid_ref {n : Nat} {s : List UInt8} (hs : s.length < 1000000) (hn : 5 ≤ n) (hl : s.length < n) : ref01_Valid n s = some (Lib.validD s) := by
  unfold ref01_Valid
  have h := valid_loop hs hn s.length 0 (by omega) (by omega) n hl
  rw [show ((0 : Nat) : Int) = 0 from rfl, List.drop_zero] at h
  rw [h, bnd]
  cases Lib.validD s <;> rfl
end Go.Proofs.YtalifkcchfkgmaaDoor
end

section
namespace Go.Proofs.YtalifkcchfkgmaaDoor
open Go Go.Vc Go.RowKit

theorem great_ok {n : Nat} (hn : 3000 < n) (v : T_api_Value) : ∃ g, ref03_Great n v = some g ∧ (g = false → Small 30 v ∧ (walkV v).length ≤ 5000) := by
  obtain ⟨W, w1, w2, w3, w4⟩ := weight_ok hn n 30 v (by omega) (by omega)
  refine ⟨decide ((5000 : Int) < W), ?_, fun h => ?_⟩
  · unfold ref03_Great ref03_weight
    have e : ((30 : Nat) : Int) = 30 := rfl
    rw [e] at w1
    rw [w1, bnd]
  · have h' := of_decide_eq_false h
    obtain ⟨a, b⟩ := w4 (by omega)
    exact ⟨a, by omega⟩

theorem wvs_mem : ∀ {l : List T_api_Value} {x : T_api_Value}, x ∈ l → (walkV x).length ≤ (walkVs l).length
  | y :: r, x, h => by
    rw [walkVs, List.length_append]
    rcases List.mem_cons.1 h with rfl | h
    · omega
    · have := wvs_mem h
      omega
theorem walkVs_le (l : List T_api_Value) (i : Nat) : (walkVs (l.take i)).length ≤ (walkVs l).length := by
  have := congrArg List.length (walkVs_app (l.take i) (l.drop i))
  rw [List.take_append_drop, List.length_append] at this
  omega

theorem walkV_small : ∀ (d : Nat) (v x : T_api_Value), Small d v → x ∈ walkV v → ∃ e, e ≤ d ∧ Small e x
  | 0, v, x, h, _ => h.elim
  | d + 1, v, x, h, hx => by
    rw [walkV_eq] at hx
    rcases List.mem_cons.1 hx with rfl | hx
    · exact ⟨d + 1, Nat.le_refl _, h⟩
    · have : ∀ l : List T_api_Value, x ∈ walkVs l → ∃ y ∈ l, x ∈ walkV y := by
        intro l
        induction l with
        | nil => intro h; simp [walkVs] at h
        | cons y r ih =>
          intro h
          rw [walkVs, List.mem_append] at h
          rcases h with h | h
          · exact ⟨y, List.mem_cons_self, h⟩
          · obtain ⟨z, hz, hx⟩ := ih h
            exact ⟨z, List.mem_cons_of_mem _ hz, hx⟩
      obtain ⟨y, hy, hxy⟩ := this _ hx
      obtain ⟨e, he, hs⟩ := walkV_small d y x (h.2.2.2.2 y hy) hxy
      exact ⟨e, by omega, hs⟩
end Go.Proofs.YtalifkcchfkgmaaDoor
end

section
namespace Go.Proofs.YtalifkcchfkgmaaDoor
open Go Go.Vc Go.RowKit

/-- the first that is not 0 -/
def thenC (a b : Int) : Int := bif decide (a = 0) then b else a
def cmpI (a b : Int) : Int := bif decide (a < b) then -1 else bif decide (b < a) then 1 else 0
def bitI (b : Bool) : Int := bif b then 1 else 0
theorem thenC0 (b : Int) : thenC 0 b = b := rfl
theorem thenCn {a : Int} (b : Int) (h : a ≠ 0) : thenC a b = a := by unfold thenC; rw [decide_eq_false h, cF]
mutual
/-- the order of two values, part by part -/
def cmpV : T_api_Value → T_api_Value → Int
  | ⟨k, b, n, t, l, ks⟩, w => thenC (cmpI k w.fKind) (thenC (cmpI (bitI b) (bitI w.fBool)) (thenC (cmpI n w.fNum) (thenC (Lib.compareBytes t w.fText) (cmpVs (decide (k = 5)) l ks w.fList w.fKeys))))
def cmpVs (o : Bool) : List T_api_Value → List (List UInt8) → List T_api_Value → List (List UInt8) → Int
  | [], _, [], _ => 0
  | [], _, _ :: _, _ => -1
  | _ :: _, _, [], _ => 1
  | x :: l, ks, y :: m, js => thenC (bif o then Lib.compareBytes (ks.headD []) (js.headD []) else 0) (thenC (cmpV x y) (cmpVs o l ks.tail m js.tail))
end
theorem cmpV_eq (v w : T_api_Value) : cmpV v w = thenC (cmpI v.fKind w.fKind) (thenC (cmpI (bitI v.fBool) (bitI w.fBool)) (thenC (cmpI v.fNum w.fNum) (thenC (Lib.compareBytes v.fText w.fText) (cmpVs (decide (v.fKind = 5)) v.fList v.fKeys w.fList w.fKeys)))) := by
  cases v; rw [cmpV]

def Tr (a b c : Int) : Prop := (a ≤ 0 → b ≤ 0 → c ≤ 0) ∧ (a ≤ 0 → b ≤ 0 → a < 0 ∨ b < 0 → c < 0) ∧ (a = 0 → b = 0 → c = 0)
theorem Tr.then {a b c a' b' c' : Int} (h : Tr a b c) (h' : a = 0 → b = 0 → Tr a' b' c') : Tr (thenC a a') (thenC b b') (thenC c c') := by
  obtain ⟨h1, h2, h3⟩ := h
  by_cases ha : a = 0
  · by_cases hb : b = 0
    · have hc := h3 ha hb
      subst ha hb hc
      rw [thenC0, thenC0, thenC0]
      exact h' rfl rfl
    · subst ha
      rw [thenC0, thenCn b' hb]
      by_cases hc : c = 0
      · exact ⟨fun x y => by have := h2 (by omega) y (.inr (by omega)); omega, fun x y _ => by have := h2 (by omega) y (.inr (by omega)); omega, fun _ y => absurd y hb⟩
      · rw [thenCn c' hc]
        exact ⟨fun x y => by have := h2 (by omega) y (.inr (by omega)); omega, fun x y _ => by have := h2 (by omega) y (.inr (by omega)); omega, fun _ y => absurd y hb⟩
  · rw [thenCn a' ha]
    have key : a ≤ 0 → thenC b b' ≤ 0 → c < 0 := fun x y => by
      by_cases hb : b = 0
      · exact h2 x (by omega) (.inl (by omega))
      · rw [thenCn b' hb] at y
        exact h2 x y (.inl (by omega))
    have key2 : a ≤ 0 → thenC b b' ≤ 0 → thenC c c' < 0 := fun x y => by
      have := key x y
      rw [thenCn c' (by omega)]
      exact this
    exact ⟨fun x y => Int.le_of_lt (key2 x y), fun x y _ => key2 x y, fun x _ => absurd x ha⟩
theorem cmpI_cases (a b : Int) : (a < b ∧ cmpI a b = -1) ∨ (a = b ∧ cmpI a b = 0) ∨ (b < a ∧ cmpI a b = 1) := by
  unfold cmpI
  rcases Int.lt_trichotomy a b with h | h | h
  · exact .inl ⟨h, by rw [decide_eq_true h, cT]⟩
  · subst h; exact .inr (.inl ⟨rfl, by rw [decide_eq_false (by omega), cF, cF]⟩)
  · exact .inr (.inr ⟨h, by rw [decide_eq_false (by omega), cF, decide_eq_true h, cT]⟩)
theorem cmpI_tr (a b c : Int) : Tr (cmpI a b) (cmpI b c) (cmpI a c) := by
  unfold Tr
  have h1 := cmpI_cases a b
  have h2 := cmpI_cases b c
  have h3 := cmpI_cases a c
  omega
theorem cb_tr (a b c : List UInt8) : Tr (Lib.compareBytes a b) (Lib.compareBytes b c) (Lib.compareBytes a c) := by
  refine ⟨fun h1 h2 => (cb_trans a b c h1 h2).1, fun h1 h2 h => (cb_trans a b c h1 h2).2 h, fun h1 h2 => ?_⟩
  rw [cb_eq _ _ h1, cb_eq _ _ h2, cb_self]
theorem cmpI_zero {a b : Int} (h : cmpI a b = 0) : a = b := by
  unfold cmpI at h
  by_cases h1 : a < b
  · rw [decide_eq_true h1, cT] at h; omega
  · rw [decide_eq_false h1, cF] at h
    by_cases h2 : b < a
    · rw [decide_eq_true h2, cT] at h; omega
    · omega
theorem cmpI_self (a : Int) : cmpI a a = 0 := by unfold cmpI; rw [decide_eq_false (by omega), cF, cF]
theorem cmpI_anti (a b : Int) : cmpI b a = - cmpI a b := by
  unfold cmpI
  rcases Int.lt_trichotomy a b with h | h | h
  · rw [decide_eq_true h, decide_eq_false (by omega), cT, cF, cT]; rfl
  · subst h; rw [decide_eq_false (by omega), cF, cF]; rfl
  · rw [decide_eq_true h, decide_eq_false (by omega), cT, cF, cT]
theorem bitI_inj {a b : Bool} (h : bitI a = bitI b) : a = b := by cases a <;> cases b <;> first | rfl | (unfold bitI at h; simp at h)
theorem thenC_anti {a b a' b' : Int} (h : a' = - a) (h' : a = 0 → b' = - b) : thenC a' b' = - thenC a b := by
  by_cases e : a = 0
  · subst e
    have : a' = 0 := by omega
    subst this
    rw [thenC0, thenC0]
    exact h' rfl
  · rw [thenCn b e, thenCn b' (by omega)]; exact h
theorem thenC_zero {a b : Int} (h : thenC a b = 0) : a = 0 ∧ b = 0 := by
  by_cases e : a = 0
  · subst e; exact ⟨rfl, h⟩
  · rw [thenCn b e] at h; exact absurd h e
mutual
theorem cmpV_anti : ∀ v w : T_api_Value, cmpV w v = - cmpV v w
  | ⟨k, b, n, t, l, ks⟩, w => by
    rw [cmpV_eq, cmpV_eq]
    refine thenC_anti (cmpI_anti _ _) fun h1 => thenC_anti (cmpI_anti _ _) fun _ => thenC_anti (cmpI_anti _ _) fun _ => thenC_anti (cb_anti _ _) fun _ => ?_
    have := cmpI_zero h1
    rw [← this]
    exact cmpVs_anti _ l ks w.fList w.fKeys
theorem cmpVs_anti (o : Bool) : ∀ (l : List T_api_Value) (ks : List (List UInt8)) (m : List T_api_Value) (js : List (List UInt8)), cmpVs o m js l ks = - cmpVs o l ks m js
  | [], _, [], _ => by simp [cmpVs]
  | [], _, _ :: _, _ => by simp [cmpVs]
  | _ :: _, _, [], _ => by simp [cmpVs]
  | x :: l, ks, y :: m, js => by
    rw [cmpVs, cmpVs]
    refine thenC_anti ?_ fun _ => thenC_anti (cmpV_anti x y) fun _ => cmpVs_anti o l ks.tail m js.tail
    cases o with
    | true => rw [cT, cT]; exact cb_anti _ _
    | false => rw [cF, cF]; rfl
end
theorem tr_neg1 (b c : Int) (h : b ≤ 0 → c < 0) : Tr (-1) b c := ⟨fun _ y => by have := h y; omega, fun _ y _ => h y, fun x => by omega⟩
theorem tr_pos (a b c : Int) (h : 0 < a ∨ 0 < b) : Tr a b c := ⟨fun x y => by omega, fun x y => by omega, fun x y => by omega⟩
mutual
theorem cmpV_tr : ∀ u v w : T_api_Value, Tr (cmpV u v) (cmpV v w) (cmpV u w)
  | ⟨k, b, n, t, l, ks⟩, v, w => by
    rw [cmpV_eq, cmpV_eq v w, cmpV_eq ⟨k, b, n, t, l, ks⟩ w]
    refine (cmpI_tr _ _ _).then fun h1 _ => (cmpI_tr _ _ _).then fun _ _ => (cmpI_tr _ _ _).then fun _ _ => (cb_tr _ _ _).then fun _ _ => ?_
    have := cmpI_zero h1
    rw [← this]
    exact cmpVs_tr _ l ks _ _ _ _
theorem cmpVs_tr (o : Bool) : ∀ (l : List T_api_Value) (ks : List (List UInt8)) (m : List T_api_Value) (js : List (List UInt8)) (q : List T_api_Value) (hs : List (List UInt8)), Tr (cmpVs o l ks m js) (cmpVs o m js q hs) (cmpVs o l ks q hs)
  | [], _, [], _, [], _ => by simp [cmpVs, Tr]
  | [], _, [], _, _ :: _, _ => by simp [cmpVs, Tr]
  | [], _, _ :: _, _, [], _ => by simp [cmpVs, Tr]
  | [], _, _ :: _, _, _ :: _, _ => by rw [cmpVs]; exact tr_neg1 _ _ fun _ => by simp [cmpVs]
  | _ :: _, _, [], _, _, _ => by rw [cmpVs]; exact tr_pos _ _ _ (.inl (by omega))
  | _ :: _, _, _ :: _, _, [], _ => by
    refine tr_pos _ _ _ (.inr ?_)
    rw [cmpVs]; omega
  | x :: l, ks, y :: m, js, z :: q, hs => by
    rw [cmpVs, cmpVs, cmpVs]
    refine Tr.then ?_ fun _ _ => (cmpV_tr x y z).then fun _ _ => cmpVs_tr o l ks.tail m js.tail q hs.tail
    cases o with
    | true => rw [cT, cT, cT]; exact cb_tr _ _ _
    | false => rw [cF, cF, cF]; simp [Tr]
end
theorem cmpV_self (v : T_api_Value) : cmpV v v = 0 := by
  have := cmpV_anti v v
  omega
theorem cmpI_range (a b : Int) : -1 ≤ cmpI a b ∧ cmpI a b ≤ 1 := by
  have := cmpI_cases a b
  omega
theorem cb_range : ∀ a b : List UInt8, -1 ≤ Lib.compareBytes a b ∧ Lib.compareBytes a b ≤ 1
  | [], [] => by simp [Lib.compareBytes]
  | [], _ :: _ => by simp [Lib.compareBytes]
  | _ :: _, [] => by simp [Lib.compareBytes]
  | x :: r, y :: s => by
    have := cb_range r s
    unfold Lib.compareBytes
    split
    · omega
    · split <;> omega
theorem thenC_range {a b : Int} (h : -1 ≤ a ∧ a ≤ 1) (h' : -1 ≤ b ∧ b ≤ 1) : -1 ≤ thenC a b ∧ thenC a b ≤ 1 := by
  by_cases e : a = 0
  · subst e; exact h'
  · rw [thenCn b e]; exact h
mutual
theorem cmpV_range : ∀ v w : T_api_Value, -1 ≤ cmpV v w ∧ cmpV v w ≤ 1
  | ⟨k, b, n, t, l, ks⟩, w => by
    rw [cmpV_eq]
    exact thenC_range (cmpI_range _ _) (thenC_range (cmpI_range _ _) (thenC_range (cmpI_range _ _) (thenC_range (cb_range _ _) (cmpVs_range _ l ks _ _))))
theorem cmpVs_range (o : Bool) : ∀ (l : List T_api_Value) (ks : List (List UInt8)) (m : List T_api_Value) (js : List (List UInt8)), -1 ≤ cmpVs o l ks m js ∧ cmpVs o l ks m js ≤ 1
  | [], _, [], _ => by simp [cmpVs]
  | [], _, _ :: _, _ => by simp [cmpVs]
  | _ :: _, _, [], _ => by simp [cmpVs]
  | x :: l, ks, y :: m, js => by
    rw [cmpVs]
    refine thenC_range ?_ (thenC_range (cmpV_range x y) (cmpVs_range o l ks.tail m js.tail))
    cases o with
    | true => rw [cT]; exact cb_range _ _
    | false => rw [cF]; omega
end
end Go.Proofs.YtalifkcchfkgmaaDoor
end

section
namespace Go.Proofs.YtalifkcchfkgmaaDoor
open Go Go.Vc Go.RowKit

/-- has a value what its kind names alone? -/
def PlainV (v : T_api_Value) : Prop := 0 ≤ v.fKind ∧ v.fKind ≤ 5 ∧ (v.fBool = true → v.fKind = 1) ∧ (v.fNum ≠ 0 → v.fKind = 2) ∧ (v.fText ≠ [] → v.fKind = 3) ∧ (v.fList.length ≠ 0 → v.fKind = 4 ∨ v.fKind = 5) ∧ (v.fKind = 5 → v.fKeys.length = v.fList.length) ∧ (v.fKind ≠ 5 → v.fKeys.length = 0)
instance (v : T_api_Value) : Decidable (PlainV v) := by unfold PlainV; exact inferInstance
/-- its first fault, but for its parts' -/
def aloneV (v : T_api_Value) : Int :=
  if PlainV v then (if v.fNum < -9007199254740992 ∨ 9007199254740992 < v.fNum then 20 else if Lib.validD v.fText = true ∧ ∀ k ∈ v.fKeys, Lib.validD k = true then (if v.fKeys.Nodup then 0 else 41) else 10) else 2

def NumOut (v : T_api_Value) : Prop := v.fNum < -9007199254740992 ∨ 9007199254740992 < v.fNum
def TextsOk (v : T_api_Value) : Prop := Lib.validD v.fText = true ∧ ∀ k ∈ v.fKeys, Lib.validD k = true
theorem alone_2 {v : T_api_Value} (h : ¬ PlainV v) : aloneV v = 2 := if_neg h
theorem alone_20 {v : T_api_Value} (h : PlainV v) (hn : NumOut v) : aloneV v = 20 := (if_pos h).trans (if_pos hn)
theorem alone_10 {v : T_api_Value} (h : PlainV v) (hn : ¬ NumOut v) (ht : ¬ TextsOk v) : aloneV v = 10 := ((if_pos h).trans (if_neg hn)).trans (if_neg ht)
theorem alone_41 {v : T_api_Value} (h : PlainV v) (hn : ¬ NumOut v) (ht : TextsOk v) (hd : ¬ v.fKeys.Nodup) : aloneV v = 41 := (((if_pos h).trans (if_neg hn)).trans (if_pos ht)).trans (if_neg hd)
theorem alone_0 {v : T_api_Value} (h : PlainV v) (hn : ¬ NumOut v) (ht : TextsOk v) (hd : v.fKeys.Nodup) : aloneV v = 0 := (((if_pos h).trans (if_neg hn)).trans (if_pos ht)).trans (if_pos hd)
theorem alone_ok {v : T_api_Value} (h : aloneV v = 0) : PlainV v ∧ ¬ NumOut v ∧ TextsOk v ∧ v.fKeys.Nodup := by
  by_cases h1 : PlainV v
  · by_cases h2 : NumOut v
    · rw [alone_20 h1 h2] at h; omega
    · by_cases h3 : TextsOk v
      · by_cases h4 : v.fKeys.Nodup
        · exact ⟨h1, h2, h3, h4⟩
        · rw [alone_41 h1 h2 h3 h4] at h; omega
      · rw [alone_10 h1 h2 h3] at h; omega
  · rw [alone_2 h1] at h; omega

/-- what is let into a value's own fields -/
def Wide (v : T_api_Value) : Prop := v.fList.length ≤ 3000 ∧ v.fKeys.length ≤ 3000 ∧ v.fText.length ≤ 5000 ∧ ∀ k ∈ v.fKeys, k.length ≤ 5000
theorem Small.wide : ∀ {d : Nat} {v : T_api_Value}, Small d v → Wide v
  | _ + 1, _, h => ⟨h.1, h.2.1, h.2.2.1, h.2.2.2.1⟩

theorem plain_ref {n : Nat} (v : T_api_Value) : ref03_plain n v = some (decide (PlainV v)) := by
  unfold ref03_plain
  by_cases h0 : v.fKind < 0
  · rw [decide_eq_true h0, cT, bnd, cT, decide_eq_false (fun h => by have := h.1; omega)]
  rw [decide_eq_false h0, cF, bnd]
  by_cases h5 : 5 < v.fKind
  · rw [decide_eq_true h5, cT, decide_eq_false (fun h => by have := h.2.1; omega)]
  rw [decide_eq_false h5, cF]
  have key : ((bif v.fBool then
        (bif (!(decide (v.fKind = 1))) then
          (some ((true)))
        else
          bif (!(decide (v.fNum = 0))) then
            (bif (!(decide (v.fKind = 2))) then
              (some ((true)))
            else
              bif (!(decide (v.fText = []))) then
                (some ((!(decide (v.fKind = 3)))))
              else
                some ((false)))
          else
            bif (!(decide (v.fText = []))) then
              (some ((!(decide (v.fKind = 3)))))
            else
              some ((false)))
      else
        bif (!(decide (v.fNum = 0))) then
          (bif (!(decide (v.fKind = 2))) then
            (some ((true)))
          else
            bif (!(decide (v.fText = []))) then
              (some ((!(decide (v.fKind = 3)))))
            else
              some ((false)))
        else
          bif (!(decide (v.fText = []))) then
            (some ((!(decide (v.fKind = 3)))))
          else
            some ((false)) : Option Bool)) = some (!decide ((v.fBool = true → v.fKind = 1) ∧ (v.fNum ≠ 0 → v.fKind = 2) ∧ (v.fText ≠ [] → v.fKind = 3))) := by
    cases v.fBool <;> by_cases h1 : v.fKind = 1 <;> by_cases h2 : v.fKind = 2 <;> by_cases h3 : v.fKind = 3 <;> by_cases hn : v.fNum = 0 <;> by_cases ht : v.fText = [] <;> simp [h1, h2, h3, hn, ht]
  rw [key, bnd]
  by_cases hk : (v.fBool = true → v.fKind = 1) ∧ (v.fNum ≠ 0 → v.fKind = 2) ∧ (v.fText ≠ [] → v.fKind = 3)
  · rw [decide_eq_true hk, Bool.not_true, cF]
    by_cases hl : v.fList.length = 0
    · rw [decide_eq_false (by omega), cF, bnd, cF]
      by_cases e5 : v.fKind = 5
      · rw [decide_eq_true e5, cT]
        refine congrArg some (decide_eq_decide.2 ?_)
        unfold PlainV
        constructor
        · intro h; exact ⟨by omega, by omega, hk.1, hk.2.1, hk.2.2, fun h => absurd hl h, fun _ => by omega, fun h => absurd e5 h⟩
        · intro h; have := h.2.2.2.2.2.2.1 e5; omega
      · rw [decide_eq_false e5, cF]
        refine congrArg some (decide_eq_decide.2 ?_)
        unfold PlainV
        constructor
        · intro h; exact ⟨by omega, by omega, hk.1, hk.2.1, hk.2.2, fun h => absurd hl h, fun h => absurd h e5, fun _ => by omega⟩
        · intro h; have := h.2.2.2.2.2.2.2 e5; omega
    · rw [decide_eq_true (by omega), cT]
      by_cases e4 : v.fKind = 4
      · rw [decide_eq_true e4, Bool.not_true, cF, bnd, cF, decide_eq_false (by omega), cF]
        refine congrArg some (decide_eq_decide.2 ?_)
        unfold PlainV
        constructor
        · intro h; exact ⟨by omega, by omega, hk.1, hk.2.1, hk.2.2, fun h => .inl e4, fun h => by omega, fun _ => by omega⟩
        · intro h; have := h.2.2.2.2.2.2.2 (by omega); omega
      · rw [decide_eq_false e4, Bool.not_false, cT]
        by_cases e5 : v.fKind = 5
        · rw [decide_eq_true e5, Bool.not_true, bnd, cF, cT]
          refine congrArg some (decide_eq_decide.2 ?_)
          unfold PlainV
          constructor
          · intro h; exact ⟨by omega, by omega, hk.1, hk.2.1, hk.2.2, fun h => .inr e5, fun _ => by omega, fun h => absurd e5 h⟩
          · intro h; have := h.2.2.2.2.2.2.1 e5; omega
        · rw [decide_eq_false e5, Bool.not_false, bnd, cT, decide_eq_false]
          intro h
          have := h.2.2.2.2.2.1 hl
          omega
  · rw [decide_eq_false hk, Bool.not_false, cT, decide_eq_false]
    intro h
    exact hk ⟨h.2.2.1, h.2.2.2.1, h.2.2.2.2.1⟩

theorem mem_take_succ {α : Type} {l : List α} {i : Nat} {x : α} (h : l[i]? = some x) (y : α) : y ∈ l.take (i + 1) ↔ y ∈ l.take i ∨ y = x := by
  rw [List.take_add_one, h, List.mem_append]
  simp
theorem nodup_take_succ {α : Type} {l : List α} {i : Nat} {x : α} (h : l[i]? = some x) : (l.take (i + 1)).Nodup ↔ (l.take i).Nodup ∧ x ∉ l.take i := by
  rw [List.take_add_one, h]
  simp only [Option.toList_some, List.nodup_append]
  constructor
  · rintro ⟨h1, _, h3⟩
    exact ⟨h1, fun hx => h3 x hx x (by simp) rfl⟩
  · rintro ⟨h1, h2⟩
    refine ⟨h1, by simp, fun a ha b hb => ?_⟩
    simp only [List.mem_singleton] at hb
    subst hb
    intro e
    exact h2 (e ▸ ha)
theorem nodup_of_take {α : Type} {l : List α} (i : Nat) (h : l.Nodup) : (l.take i).Nodup := (List.take_sublist i l).nodup h

theorem keys_ref {n : Nat} (hn : 6000 < n) {v : T_api_Value} (hw : Wide v) : loopF (ref03_wrong_s1 n v) n (0 : Int) = some (bif v.fKeys.any (fun k => !Lib.validD k) then .inl () else .inr ()) := by
  rw [← any_range [] (fun k => !Lib.validD k) v.fKeys]
  refine loop_any (fun k => !Lib.validD (v.fKeys.getD k [])) v.fKeys.length _ _ (fun k hk => ?_) ?_ (by have := hw.2.1; omega)
  · unfold ref03_wrong_s1
    have hm : v.fKeys.getD k [] ∈ v.fKeys := by simp [List.getD, hk]
    have hl := hw.2.2.2 _ hm
    rw [decide_eq_true (by omega), cT, getI_at [] hk, bnd, valid_ref (by omega) (by omega) (by omega), bnd]
    cases Lib.validD (v.fKeys.getD k []) with
    | true => rw [Bool.not_true, cF, need_i (by omega) (by have := hw.2.1; omega)]; simp
    | false => rw [Bool.not_false, cT]; simp
  · unfold ref03_wrong_s1
    rw [decide_eq_false (by omega), cF]
theorem twice_in {n : Nat} (hn : 6000 < n) {v : T_api_Value} (hw : Wide v) {i : Nat} (hi : i < v.fKeys.length) : loopF (ref03_wrong_s3 n v (i : Int)) n (0 : Int) = some (bif (List.range i).any (fun k => decide (v.fKeys.getD k [] = v.fKeys.getD i [])) then .inl () else .inr ()) := by
  refine loop_any (fun k => decide (v.fKeys.getD k [] = v.fKeys.getD i [])) i _ _ (fun k hk => ?_) ?_ (by have := hw.2.1; omega)
  · unfold ref03_wrong_s3
    rw [decide_eq_true (by omega), cT, getI_at [] (by omega), bnd, getI_at [] hi, bnd]
    by_cases h : v.fKeys.getD k [] = v.fKeys.getD i []
    · rw [decide_eq_true h, cT]; simp
    · rw [decide_eq_false h, cF, need_i (by omega) (by have := hw.2.1; omega)]; simp
  · unfold ref03_wrong_s3
    rw [decide_eq_false (by omega), cF]
theorem any_take {l : List (List UInt8)} {i : Nat} (hi : i < l.length) : (List.range i).any (fun k => decide (l.getD k [] = l.getD i [])) = decide (l[i] ∈ l.take i) := by
  rw [Bool.eq_iff_iff, List.any_eq_true, decide_eq_true_eq, List.mem_take_iff_getElem]
  constructor
  · rintro ⟨k, hk, h⟩
    have hk' : k < i := by simpa using hk
    refine ⟨k, by omega, ?_⟩
    have := of_decide_eq_true h
    simpa [List.getD, hi, (by omega : k < l.length)] using this
  · rintro ⟨k, hk, h⟩
    refine ⟨k, List.mem_range.2 (by omega), ?_⟩
    simpa [List.getD, hi, (by omega : k < l.length)] using h
theorem twice_ref {n : Nat} (hn : 6000 < n) {v : T_api_Value} (hw : Wide v) : loopF (ref03_wrong_s2 n v) n (0 : Int) = some (bif decide v.fKeys.Nodup then .inr () else .inl ()) := by
  obtain ⟨b, hb, hp⟩ := loop_inv (step := ref03_wrong_s2 n v) (n := n) (s0 := (0 : Int)) (fun k s => s = (k : Int) ∧ (v.fKeys.take k).Nodup)
    (fun b => b = bif decide v.fKeys.Nodup then .inr () else .inl ()) v.fKeys.length ⟨rfl, by simp⟩
    (fun q s hq hI => by
      obtain ⟨rfl, hnd⟩ := hI
      unfold ref03_wrong_s2
      rw [decide_eq_true (by omega), cT, twice_in hn hw hq, bnd, any_take hq]
      have hx : v.fKeys[q]? = some v.fKeys[q] := List.getElem?_eq_getElem hq
      by_cases hm : v.fKeys[q] ∈ v.fKeys.take q
      · rw [decide_eq_true hm, cT]
        refine .inr ⟨_, rfl, ?_⟩
        rw [decide_eq_false, cF]
        intro h
        exact ((nodup_take_succ hx).1 (nodup_of_take (q + 1) h)).2 hm
      · rw [decide_eq_false hm, cF]
        dsimp only
        rw [need_i (by omega) (by have := hw.2.1; omega)]
        exact .inl ⟨_, rfl, by omega, (nodup_take_succ hx).2 ⟨hnd, hm⟩⟩)
    (fun s hI => by
      obtain ⟨rfl, hnd⟩ := hI
      rw [List.take_length] at hnd
      unfold ref03_wrong_s2
      rw [decide_eq_false (by omega), cF]
      exact ⟨_, rfl, by rw [decide_eq_true hnd, cT]⟩) (by have := hw.2.1; omega)
  rw [hb, hp]

/-- the first fault of some -/
def faultL : List T_api_Value → Int
  | [] => 0
  | x :: r => if aloneV x = 0 then faultL r else aloneV x
theorem faultL_app : ∀ l m : List T_api_Value, faultL (l ++ m) = if faultL l = 0 then faultL m else faultL l
  | [], m => by simp [faultL]
  | x :: l, m => by
    rw [List.cons_append, faultL, faultL, faultL_app l m]
    by_cases h : aloneV x = 0
    · rw [if_pos h, if_pos h]
    · rw [if_neg h, if_neg h, if_neg h]
theorem faultL_cons_walk (v : T_api_Value) : faultL (walkV v) = if aloneV v = 0 then faultL (walkVs v.fList) else aloneV v := by rw [walkV_eq, faultL]
theorem faultL_take {l : List T_api_Value} {i : Nat} {x : T_api_Value} (h : l[i]? = some x) : faultL (walkVs (l.take (i + 1))) = if faultL (walkVs (l.take i)) = 0 then faultL (walkV x) else faultL (walkVs (l.take i)) := by rw [walkVs_take h, faultL_app]

theorem wrong_ref {n : Nat} (hn : 6000 < n) : ∀ (k d : Nat) (v : T_api_Value), d ≤ k → Small d v → ref03_wrong_k n k v = some (faultL (walkV v))
  | _, 0, v, _, h => h.elim
  | 0, d + 1, v, h, _ => absurd h (by omega)
  | k + 1, d + 1, v, hk, hs => by
    have hw := hs.wide
    obtain ⟨h1, h2, h3, h4, h5⟩ := hs
    show ref03_wrong_b n (ref03_wrong_k n k) v = _
    unfold ref03_wrong_b
    rw [faultL_cons_walk, plain_ref, bnd]
    by_cases hp : PlainV v
    · rw [decide_eq_true hp, Bool.not_true, cF]
      by_cases hnum : NumOut v
      · rw [alone_20 hp hnum, if_neg (by decide)]
        rcases hnum with hm | hm
        · rw [decide_eq_true hm, cT, bnd, cT]
        · by_cases hm' : v.fNum < -9007199254740992
          · omega
          · rw [decide_eq_false hm', cF, bnd, decide_eq_true hm, cT]
      · have hnum' : ¬ (v.fNum < -9007199254740992 ∨ 9007199254740992 < v.fNum) := hnum
        rw [decide_eq_false (by omega), cF, bnd, decide_eq_false (by omega), cF, valid_ref (by omega) (by omega) (by omega), bnd, keys_ref hn hw, twice_ref hn hw]
        cases hv : Lib.validD v.fText with
        | false =>
          rw [Bool.not_false, cT, alone_10 hp hnum (fun h => by rw [h.1] at hv; cases hv), if_neg (by decide)]
        | true =>
          rw [Bool.not_true, cF, bnd]
          by_cases ha : ∀ k ∈ v.fKeys, Lib.validD k = true
          · have : v.fKeys.any (fun k => !Lib.validD k) = false := by
              rw [List.any_eq_false]
              intro x hx
              simp [ha x hx]
            rw [this, cF]
            dsimp only
            rw [bnd]
            by_cases hd : v.fKeys.Nodup
            · rw [decide_eq_true hd, cT, alone_0 hp hnum ⟨hv, ha⟩ hd, if_pos rfl]
              dsimp only
              obtain ⟨b, hb, hpost⟩ := loop_inv (step := ref03_wrong_s4 n (ref03_wrong_k n k) v) (n := n) (s0 := (0 : Int)) (fun q s => s = (q : Int) ∧ faultL (walkVs (v.fList.take q)) = 0)
                (fun b => match b with | .inl e => e = faultL (walkVs v.fList) | .inr () => faultL (walkVs v.fList) = 0) v.fList.length ⟨rfl, by simp [walkVs, faultL]⟩
                (fun q s hq hI => by
                  obtain ⟨rfl, hf⟩ := hI
                  have hx : v.fList[q]? = some v.fList[q] := List.getElem?_eq_getElem hq
                  have hg : getI v.fList (q : Int) = some v.fList[q] := by simp [getI]
                  have hft := faultL_take hx
                  rw [if_pos hf] at hft
                  unfold ref03_wrong_s4
                  rw [decide_eq_true (by omega), cT, hg, bnd, wrong_ref hn k d _ (by omega) (h5 _ (List.getElem_mem hq)), bnd]
                  by_cases he : faultL (walkV v.fList[q]) = 0
                  · rw [decide_eq_true he, Bool.not_true, cF, need_i (by omega) (by omega)]
                    exact .inl ⟨_, rfl, by omega, by rw [hft]; exact he⟩
                  · rw [decide_eq_false he, Bool.not_false, cT]
                    refine .inr ⟨_, rfl, ?_⟩
                    have hsplit : walkVs v.fList = walkVs (v.fList.take (q + 1)) ++ walkVs (v.fList.drop (q + 1)) := by rw [← walkVs_app, List.take_append_drop]
                    dsimp only
                    rw [hsplit, faultL_app, hft, if_neg he])
                (fun s hI => by
                  obtain ⟨rfl, hf⟩ := hI
                  rw [List.take_length] at hf
                  unfold ref03_wrong_s4
                  rw [decide_eq_false (by omega), cF]
                  exact ⟨_, rfl, hf⟩) (by omega)
              rw [hb, bnd]
              cases b with
              | inl e => dsimp only at hpost ⊢; rw [hpost]
              | inr u => dsimp only at hpost ⊢; rw [hpost]
            · rw [decide_eq_false hd, cF, alone_41 hp hnum ⟨hv, ha⟩ hd, if_neg (by decide)]
          · rw [alone_10 hp hnum (fun h => ha h.2), if_neg (by decide)]
            have : v.fKeys.any (fun k => !Lib.validD k) = true := by
              rw [List.any_eq_true]
              apply Classical.byContradiction
              intro h
              apply ha
              intro k hk
              cases hvk : Lib.validD k with
              | true => rfl
              | false => exact absurd ⟨k, hk, by simp [hvk]⟩ h
            rw [this, cT]
    · rw [decide_eq_false hp, Bool.not_false, cT, alone_2 hp, if_neg (by decide)]
end Go.Proofs.YtalifkcchfkgmaaDoor
end

section
namespace Go.Proofs.YtalifkcchfkgmaaDoor
open Go Go.Vc Go.RowKit

theorem valid_run {n : Nat} {s : List UInt8} (h : s.length < 1000000) : runes_Valid n s = some (Lib.validD s) := by
  unfold runes_Valid h_ValidString
  rw [need_t (by omega), bnd]
theorem contains_run {n : Nat} (hn : 6000 < n) {v : T_api_Value} (hw : Wide v) : slices_ContainsFuncstring_string n v.fKeys = some (v.fKeys.any (fun k => !Lib.validD k)) := by
  unfold slices_ContainsFuncstring_string slices_IndexFuncstring_string
  have hl := hw.2.1
  have hd : ∀ k : Nat, k < v.fKeys.length → slices_IndexFuncstring_string_s1 n v.fKeys (k : Int) = some (if !Lib.validD (v.fKeys.getD k []) then .br (.inl (k : Int)) else .nx ((k : Int) + 1)) := fun k hk => by
    unfold slices_IndexFuncstring_string_s1 tree_alone_1
    have hm : v.fKeys.getD k [] ∈ v.fKeys := by simp [List.getD, hk]
    have := hw.2.2.2 _ hm
    rw [decide_eq_true (by omega), cT, getI_at [] hk, bnd, valid_run (by omega), bnd, bnd]
    cases Lib.validD (v.fKeys.getD k []) with
    | true => rw [Bool.not_true, cF, need_i (by omega) (by omega)]; rfl
    | false => rw [Bool.not_false, cT]; rfl
  obtain ⟨b, hb, hp⟩ := loop_inv (step := slices_IndexFuncstring_string_s1 n v.fKeys) (n := n) (s0 := (0 : Int)) (fun q s => s = (q : Int) ∧ ∀ k ∈ v.fKeys.take q, Lib.validD k = true)
    (fun b => match b with | .inl i => 0 ≤ i ∧ v.fKeys.any (fun k => !Lib.validD k) = true | .inr () => v.fKeys.any (fun k => !Lib.validD k) = false) v.fKeys.length ⟨rfl, by simp⟩
    (fun q s hq hI => by
      obtain ⟨rfl, hf⟩ := hI
      have hx : v.fKeys[q]? = some v.fKeys[q] := List.getElem?_eq_getElem hq
      rw [hd q hq]
      have hg : v.fKeys.getD q [] = v.fKeys[q] := by simp [List.getD, hq]
      rw [hg]
      cases hv : Lib.validD v.fKeys[q] with
      | true =>
        refine .inl ⟨_, rfl, by omega, fun k hk => ?_⟩
        rcases (mem_take_succ hx k).1 hk with h | h
        · exact hf k h
        · rw [h]; exact hv
      | false =>
        refine .inr ⟨_, rfl, by omega, ?_⟩
        rw [List.any_eq_true]
        exact ⟨_, List.getElem_mem hq, by simp [hv]⟩)
    (fun s hI => by
      obtain ⟨rfl, hf⟩ := hI
      rw [List.take_length] at hf
      unfold slices_IndexFuncstring_string_s1
      rw [decide_eq_false (by omega), cF]
      refine ⟨_, rfl, ?_⟩
      dsimp only
      rw [List.any_eq_false]
      intro x hx
      simp [hf x hx]) (by omega)
  rw [hb, bnd]
  cases b with
  | inl i => dsimp only at hp ⊢; rw [bnd, hp.2, decide_eq_true hp.1]
  | inr u => dsimp only at hp ⊢; rw [bnd, hp]; rfl
theorem twice_run {n : Nat} (hn : 6000 < n) {v : T_api_Value} (hw : Wide v) : ∃ b, loopF (tree_alone_s1 n v) n ((0 : Int), ([] : List ((List UInt8) × Bool))) = some b ∧ (match b with | .inl _ => ¬ v.fKeys.Nodup | .inr _ => v.fKeys.Nodup) := by
  have hl := hw.2.1
  refine loop_inv (step := tree_alone_s1 n v) (n := n) (fun q s => s.1 = (q : Int) ∧ (∀ x, (mget s.2 x).getD false = decide (x ∈ v.fKeys.take q)) ∧ (v.fKeys.take q).Nodup)
    (fun b => match b with | .inl _ => ¬ v.fKeys.Nodup | .inr _ => v.fKeys.Nodup) v.fKeys.length ⟨rfl, fun x => by simp [mget], by simp⟩
    (fun q s hq hI => ?_) (fun s hI => ?_) (by omega)
  · obtain ⟨i, m⟩ := s
    obtain ⟨h1, h2, h3⟩ := hI
    have h1' : i = (q : Int) := h1
    subst h1'
    dsimp only at h2
    have hx : v.fKeys[q]? = some v.fKeys[q] := List.getElem?_eq_getElem hq
    have hg : getI v.fKeys (q : Int) = some v.fKeys[q] := by simp [getI]
    unfold tree_alone_s1
    dsimp only
    rw [decide_eq_true (by omega), cT, hg, bnd, h2]
    by_cases hm : v.fKeys[q] ∈ v.fKeys.take q
    · rw [decide_eq_true hm, cT]
      exact .inr ⟨_, rfl, fun h => ((nodup_take_succ hx).1 (nodup_of_take (q + 1) h)).2 hm⟩
    · rw [decide_eq_false hm, cF, need_i (by omega) (by omega)]
      refine .inl ⟨_, rfl, by dsimp only; omega, fun x => ?_, (nodup_take_succ hx).2 ⟨h3, hm⟩⟩
      dsimp only
      rw [mget_mput]
      by_cases hxe : v.fKeys[q] = x
      · rw [if_pos hxe, decide_eq_true ((mem_take_succ hx x).2 (.inr hxe.symm))]; rfl
      · rw [if_neg hxe, h2]
        refine decide_eq_decide.2 ?_
        rw [mem_take_succ hx]
        exact ⟨.inl, fun h => h.elim id fun h => absurd h.symm hxe⟩
  · obtain ⟨i, m⟩ := s
    obtain ⟨h1, h2, h3⟩ := hI
    have h1' : i = (v.fKeys.length : Int) := h1
    subst h1'
    rw [List.take_length] at h3
    unfold tree_alone_s1
    dsimp only
    rw [decide_eq_false (by omega), cF]
    exact ⟨_, rfl, h3⟩

theorem alone_run {n : Nat} (hn : 6000 < n) {v : T_api_Value} (hw : Wide v) : tree_alone n v = some (aloneV v) := by
  obtain ⟨hl, hk, ht, hkk⟩ := id hw
  unfold tree_alone
  -- the rest: either 2 at once, or what is left
  have tail : ∀ y : Bool × Int × List UInt8 × List T_api_Value × List (List UInt8), y.2.2.2.1.length ≤ 3000 → y.2.2.2.2.length ≤ 3000 → (PlainV v ↔ (y.1 = false ∧ y.2.1 = 0 ∧ y.2.2.1 = [] ∧ y.2.2.2.1.length = 0 ∧ y.2.2.2.2.length = 0)) →
      (((((bif y.1 then
        (some ((true)))
      else
        bif (!(decide (y.2.1 = 0))) then
          (some ((true)))
        else
          bif (!(decide (y.2.2.1 = []))) then
            (some ((true)))
          else
            need (inR .i64 (((y.2.2.2.1.length : Nat) : Int) + ((y.2.2.2.2.length : Nat) : Int))) <|
            some ((decide ((0 : Int) < (((y.2.2.2.1.length : Nat) : Int) + ((y.2.2.2.2.length : Nat) : Int))))) : Option Bool)).bind fun y_2 =>
    bif y_2 then
      (((some ((2 : Int)) : Option Int)).map Lp.br)
    else
      ((bif (decide (v.fNum < (-9007199254740992))) then
          (some ((true)))
        else
          some ((decide ((9007199254740992 : Int) < v.fNum))) : Option Bool)).bind fun y_3 =>
      bif y_3 then
        (((some ((20 : Int)) : Option Int)).map Lp.br)
      else
        (runes_Valid n v.fText).bind fun x_1 =>
        bif !x_1 then
          (((some ((10 : Int)) : Option Int)).map Lp.br)
        else
          (slices_ContainsFuncstring_string n v.fKeys).bind fun x_2 =>
          bif x_2 then
            (((some ((10 : Int)) : Option Int)).map Lp.br)
          else
            some (.nx ()) : Option (Lp Unit Int))).bind fun j => joinF j fun _ =>
  (loopF (tree_alone_s1 n v) n ((0 : Int), ([] : List ((List UInt8) × Bool)))).bind fun b_2 =>
  (match b_2 with 
  | .inl y_5 => some ((41 : Int)) 
  | .inr y_6 => some ((0 : Int)))) = some (aloneV v) := by
    intro y hy1 hy2 hy
    have e : (bif y.1 then
        (some ((true)))
      else
        bif (!(decide (y.2.1 = 0))) then
          (some ((true)))
        else
          bif (!(decide (y.2.2.1 = []))) then
            (some ((true)))
          else
            need (inR .i64 (((y.2.2.2.1.length : Nat) : Int) + ((y.2.2.2.2.length : Nat) : Int))) <|
            some ((decide ((0 : Int) < (((y.2.2.2.1.length : Nat) : Int) + ((y.2.2.2.2.length : Nat) : Int))))) : Option Bool) = some (!decide (PlainV v)) := by
      rw [need_i (by omega) (by omega)]
      by_cases hp : PlainV v
      · obtain ⟨a1, a2, a3, a4, a5⟩ := hy.1 hp
        rw [a1, cF, decide_eq_true a2, Bool.not_true, cF, decide_eq_true a3, Bool.not_true, cF, decide_eq_false (by omega), decide_eq_true hp]; rfl
      · rw [decide_eq_false hp, Bool.not_false]
        cases hb : y.1 with
        | true => rw [cT]
        | false =>
          rw [cF]
          by_cases h2 : y.2.1 = 0
          · rw [decide_eq_true h2, Bool.not_true, cF]
            by_cases h3 : y.2.2.1 = []
            · rw [decide_eq_true h3, Bool.not_true, cF, decide_eq_true]
              by_cases h4 : y.2.2.2.1.length = 0
              · by_cases h5 : y.2.2.2.2.length = 0
                · exact absurd (hy.2 ⟨hb, h2, h3, h4, h5⟩) hp
                · omega
              · omega
            · rw [decide_eq_false h3, Bool.not_false, cT]
          · rw [decide_eq_false h2, Bool.not_false, cT]
    rw [e, bnd]
    by_cases hp : PlainV v
    · rw [decide_eq_true hp, Bool.not_true, cF]
      by_cases hnum : NumOut v
      · rw [alone_20 hp hnum]
        rcases hnum with hm | hm
        · rw [decide_eq_true hm, cT, bnd, cT, mpS, bnd, jB]
        · by_cases hm' : v.fNum < -9007199254740992
          · omega
          · rw [decide_eq_false hm', cF, bnd, decide_eq_true hm, cT, mpS, bnd, jB]
      · have hnum' : ¬ (v.fNum < -9007199254740992 ∨ 9007199254740992 < v.fNum) := hnum
        rw [decide_eq_false (by omega), cF, bnd, decide_eq_false (by omega), cF, valid_run (by omega), bnd, contains_run hn hw]
        cases hv : Lib.validD v.fText with
        | false => rw [Bool.not_false, cT, mpS, bnd, jB, alone_10 hp hnum (fun h => by rw [h.1] at hv; cases hv)]
        | true =>
          rw [Bool.not_true, cF, bnd]
          by_cases ha : ∀ k ∈ v.fKeys, Lib.validD k = true
          · have : v.fKeys.any (fun k => !Lib.validD k) = false := by
              rw [List.any_eq_false]
              intro x hx
              simp [ha x hx]
            rw [this, cF, bnd, jN]
            obtain ⟨b, hb, hpost⟩ := twice_run hn hw
            rw [hb, bnd]
            cases b with
            | inl m => dsimp only at hpost ⊢; rw [alone_41 hp hnum ⟨hv, ha⟩ hpost]
            | inr m => dsimp only at hpost ⊢; rw [alone_0 hp hnum ⟨hv, ha⟩ hpost]
          · have : v.fKeys.any (fun k => !Lib.validD k) = true := by
              rw [List.any_eq_true]
              apply Classical.byContradiction
              intro h
              apply ha
              intro k hk
              cases hvk : Lib.validD k with
              | true => rfl
              | false => exact absurd ⟨k, hk, by simp [hvk]⟩ h
            rw [this, cT, mpS, bnd, jB, alone_10 hp hnum (fun h => ha h.2)]
    · rw [decide_eq_false hp, Bool.not_false, cT, mpS, bnd, jB, alone_2 hp]
  have len0 : ∀ {α : Type} {l : List α}, l = [] ↔ l.length = 0 := fun {α l} => by simp
  by_cases h0 : v.fKind = 0
  · rw [decide_eq_true h0, cT, bnd, jN]
    refine tail _ hl hk ?_
    unfold PlainV
    dsimp only
    rw [h0]
    constructor
    · rintro ⟨_, _, a, b, c, d, _, e⟩
      refine ⟨?_, ?_, ?_, ?_, e (by omega)⟩
      · cases hb : v.fBool with
        | false => rfl
        | true => have := a hb; omega
      · apply Classical.byContradiction; intro h; have := b h; omega
      · apply Classical.byContradiction; intro h; have := c h; omega
      · apply Classical.byContradiction; intro h; have := d h; omega
    · rintro ⟨a, b, c, d, e⟩
      exact ⟨by omega, by omega, fun h => (by rw [a] at h; cases h), fun h => absurd b h, fun h => absurd c h, fun h => absurd d h, fun h => by omega, fun _ => e⟩
  rw [decide_eq_false h0, cF]
  by_cases h1 : v.fKind = 1
  · rw [decide_eq_true h1, cT, bnd, jN]
    refine tail _ hl hk ?_
    unfold PlainV
    dsimp only
    rw [h1]
    constructor
    · rintro ⟨_, _, a, b, c, d, _, e⟩
      refine ⟨rfl, ?_, ?_, ?_, e (by omega)⟩
      · apply Classical.byContradiction; intro h; have := b h; omega
      · apply Classical.byContradiction; intro h; have := c h; omega
      · apply Classical.byContradiction; intro h; have := d h; omega
    · rintro ⟨_, b, c, d, e⟩
      exact ⟨by omega, by omega, fun _ => rfl, fun h => absurd b h, fun h => absurd c h, fun h => absurd d h, fun h => by omega, fun _ => e⟩
  rw [decide_eq_false h1, cF]
  by_cases h2 : v.fKind = 2
  · rw [decide_eq_true h2, cT, bnd, jN]
    refine tail _ hl hk ?_
    unfold PlainV
    dsimp only
    rw [h2]
    constructor
    · rintro ⟨_, _, a, b, c, d, _, e⟩
      refine ⟨?_, rfl, ?_, ?_, e (by omega)⟩
      · cases hb : v.fBool with
        | false => rfl
        | true => have := a hb; omega
      · apply Classical.byContradiction; intro h; have := c h; omega
      · apply Classical.byContradiction; intro h; have := d h; omega
    · rintro ⟨a, _, c, d, e⟩
      exact ⟨by omega, by omega, fun h => (by rw [a] at h; cases h), fun _ => rfl, fun h => absurd c h, fun h => absurd d h, fun h => by omega, fun _ => e⟩
  rw [decide_eq_false h2, cF]
  by_cases h3 : v.fKind = 3
  · rw [decide_eq_true h3, cT, bnd, jN]
    refine tail _ hl hk ?_
    unfold PlainV
    dsimp only
    rw [h3]
    constructor
    · rintro ⟨_, _, a, b, c, d, _, e⟩
      refine ⟨?_, ?_, rfl, ?_, e (by omega)⟩
      · cases hb : v.fBool with
        | false => rfl
        | true => have := a hb; omega
      · apply Classical.byContradiction; intro h; have := b h; omega
      · apply Classical.byContradiction; intro h; have := d h; omega
    · rintro ⟨a, b, _, d, e⟩
      exact ⟨by omega, by omega, fun h => (by rw [a] at h; cases h), fun h => absurd b h, fun _ => rfl, fun h => absurd d h, fun h => by omega, fun _ => e⟩
  rw [decide_eq_false h3, cF]
  by_cases h4 : v.fKind = 4
  · rw [decide_eq_true h4, cT, bnd, jN]
    refine tail _ (by simp) hk ?_
    unfold PlainV
    dsimp only
    rw [h4]
    constructor
    · rintro ⟨_, _, a, b, c, d, _, e⟩
      refine ⟨?_, ?_, ?_, rfl, e (by omega)⟩
      · cases hb : v.fBool with
        | false => rfl
        | true => have := a hb; omega
      · apply Classical.byContradiction; intro h; have := b h; omega
      · apply Classical.byContradiction; intro h; have := c h; omega
    · rintro ⟨a, b, c, _, e⟩
      exact ⟨by omega, by omega, fun h => (by rw [a] at h; cases h), fun h => absurd b h, fun h => absurd c h, fun _ => .inl rfl, fun h => by omega, fun _ => e⟩
  rw [decide_eq_false h4, cF]
  by_cases h5 : v.fKind = 5
  · rw [decide_eq_true h5, cT]
    by_cases hkl : v.fKeys.length = v.fList.length
    · rw [decide_eq_true (by omega), Bool.not_true, cF, bnd, jN]
      refine tail _ (by simp) (by simp) ?_
      unfold PlainV
      dsimp only
      rw [h5]
      constructor
      · rintro ⟨_, _, a, b, c, d, _, e⟩
        refine ⟨?_, ?_, ?_, rfl, rfl⟩
        · cases hb : v.fBool with
          | false => rfl
          | true => have := a hb; omega
        · apply Classical.byContradiction; intro h; have := b h; omega
        · apply Classical.byContradiction; intro h; have := c h; omega
      · rintro ⟨a, b, c, _, _⟩
        exact ⟨by omega, by omega, fun h => (by rw [a] at h; cases h), fun h => absurd b h, fun h => absurd c h, fun _ => .inr rfl, fun _ => hkl, fun h => absurd rfl h⟩
    · rw [decide_eq_false (by omega), Bool.not_false, cT, mpS, bnd, jB, alone_2 (fun h => hkl (h.2.2.2.2.2.2.1 h5))]
  · rw [decide_eq_false h5, cF, mpS, bnd, jB, alone_2]
    intro h
    have a := h.1
    have b := h.2.1
    omega
end Go.Proofs.YtalifkcchfkgmaaDoor
end

section
namespace Go.Proofs.YtalifkcchfkgmaaDoor
open Go Go.Vc Go.RowKit

mutual
def depthV : T_api_Value → Nat
  | ⟨_, _, _, _, l, _⟩ => depthVs l + 1
def depthVs : List T_api_Value → Nat
  | [] => 0
  | x :: r => max (depthV x) (depthVs r)
end
theorem depthV_eq (v : T_api_Value) : depthV v = depthVs v.fList + 1 := by cases v; rw [depthV]
theorem depthVs_app : ∀ l m : List T_api_Value, depthVs (l ++ m) = max (depthVs l) (depthVs m)
  | [], m => by simp [depthVs]
  | x :: l, m => by rw [List.cons_append, depthVs, depthVs, depthVs_app l m]; omega
theorem depthVs_take {l : List T_api_Value} {i : Nat} {x : T_api_Value} (h : l[i]? = some x) : depthVs (l.take (i + 1)) = max (depthVs (l.take i)) (depthV x) := by
  rw [List.take_add_one, h, depthVs_app]
  simp [depthVs]
theorem depthVs_mem : ∀ {l : List T_api_Value} {x : T_api_Value}, x ∈ l → depthV x ≤ depthVs l
  | y :: r, x, h => by
    rw [depthVs]
    rcases List.mem_cons.1 h with rfl | h
    · omega
    · have := depthVs_mem h
      omega
theorem depthVs_le {l : List T_api_Value} {m : Nat} (h : ∀ x ∈ l, depthV x ≤ m) : depthVs l ≤ m := by
  induction l with
  | nil => simp [depthVs]
  | cons y r ih =>
    rw [depthVs]
    have := h y List.mem_cons_self
    have := ih fun x hx => h x (List.mem_cons_of_mem _ hx)
    omega
theorem depth_small : ∀ {d : Nat} {v : T_api_Value}, Small d v → depthV v ≤ d
  | d + 1, v, h => by
    rw [depthV_eq]
    have := depthVs_le (l := v.fList) (m := d) fun x hx => depth_small (h.2.2.2.2 x hx)
    omega
theorem depthV_pos (v : T_api_Value) : 1 ≤ depthV v := by rw [depthV_eq]; omega

theorem depth_run {n : Nat} (hn : 6000 < n) : ∀ (k d : Nat) (v : T_api_Value) (left : Nat), d ≤ k → Small d v → left ≤ 1000 → tree_depth_k n k v (left : Int) = some ((min (depthV v) (left + 1) : Nat) : Int)
  | _, 0, v, _, _, h, _ => h.elim
  | 0, d + 1, v, _, h, _, _ => absurd h (by omega)
  | k + 1, d + 1, v, left, hk, hs, hle => by
    obtain ⟨h1, h2, h3, h4, h5⟩ := hs
    show tree_depth_b n (tree_depth_k n k) v left = _
    unfold tree_depth_b
    have := loop_all (step := tree_depth_s1 n (tree_depth_k n k) v (left : Int)) (n := n) (fun q => (((min (depthVs (v.fList.take q)) left : Nat) : Int), (q : Int))) v.fList.length ((min (depthVs v.fList) left : Nat) : Int) (fun q hq => by
      have hx : v.fList[q]? = some v.fList[q] := List.getElem?_eq_getElem hq
      have hg : getI v.fList (q : Int) = some v.fList[q] := by simp [getI]
      unfold tree_depth_s1
      dsimp only
      rw [decide_eq_true (by omega), cT]
      by_cases hl : left = 0
      · subst hl
        rw [decide_eq_false (by omega), cF, need_i (by omega) (by omega)]
        simp
      · have hl1 : ((left : Nat) : Int) - 1 = ((left - 1 : Nat) : Int) := by omega
        rw [decide_eq_true (by omega), cT, hg, bnd, need_i (by omega) (by omega), hl1, depth_run hn k d _ (left - 1) (by omega) (h5 _ (List.getElem_mem hq)) (by omega), bnd, need_i (by omega) (by omega), depthVs_take hx]
        congr 3
        omega) (by
      unfold tree_depth_s1
      dsimp only
      rw [decide_eq_false (by omega), cF, List.take_length]) (by omega)
    have e0 : ((0 : Nat) : Int) = 0 := rfl
    simp only [List.take_zero, depthVs, Nat.zero_min, e0] at this
    rw [this, bnd, need_i (by omega) (by omega), depthV_eq]
    congr 1
    omega
theorem deeper_ref {n : Nat} (hn : 6000 < n) : ∀ (k d : Nat) (v : T_api_Value) (left : Nat), d ≤ k → Small d v → left ≤ 1000 → ref03_deeper_k n k v (left : Int) = some (decide (left < depthV v))
  | _, 0, v, _, _, h, _ => h.elim
  | 0, d + 1, v, _, h, _, _ => absurd h (by omega)
  | k + 1, d + 1, v, left, hk, hs, hle => by
    obtain ⟨h1, h2, h3, h4, h5⟩ := hs
    show ref03_deeper_b n (ref03_deeper_k n k) v left = _
    unfold ref03_deeper_b
    by_cases hl : left = 0
    · subst hl
      have := depthV_pos v
      rw [decide_eq_true (by omega), cT, decide_eq_true (by omega)]
    rw [decide_eq_false (by omega), cF]
    obtain ⟨b, hb, hp⟩ := loop_inv (step := ref03_deeper_s1 n (ref03_deeper_k n k) v (left : Int)) (n := n) (s0 := (0 : Int)) (fun q s => s = (q : Int) ∧ depthVs (v.fList.take q) < left) (fun b => match b with | .inl _ => left ≤ depthVs v.fList | .inr _ => depthVs v.fList < left) v.fList.length ⟨rfl, by simp [depthVs]; omega⟩ (fun q s hq hI => by
      obtain ⟨rfl, hI⟩ := hI
      have hx : v.fList[q]? = some v.fList[q] := List.getElem?_eq_getElem hq
      have hg : getI v.fList (q : Int) = some v.fList[q] := by simp [getI]
      have hm : v.fList[q] ∈ v.fList := List.getElem_mem hq
      have hdm := depthVs_mem hm
      unfold ref03_deeper_s1
      have hl1 : ((left : Nat) : Int) - 1 = ((left - 1 : Nat) : Int) := by omega
      rw [decide_eq_true (by omega), cT, hg, bnd, need_i (by omega) (by omega), hl1, deeper_ref hn k d _ (left - 1) (by omega) (h5 _ hm) (by omega), bnd]
      by_cases hd : left - 1 < depthV v.fList[q]
      · rw [decide_eq_true hd, cT]
        refine .inr ⟨_, rfl, ?_⟩
        dsimp only
        omega
      · rw [decide_eq_false hd, cF, need_i (by omega) (by omega)]
        refine .inl ⟨_, rfl, by omega, ?_⟩
        rw [depthVs_take hx]
        omega) (fun s hI => by
      obtain ⟨rfl, hI⟩ := hI
      rw [List.take_length] at hI
      unfold ref03_deeper_s1
      rw [decide_eq_false (by omega), cF]
      exact ⟨_, rfl, hI⟩) (by omega)
    rw [hb, bnd]
    have := depthV_eq v
    cases b with
    | inl u => dsimp only at hp ⊢; rw [decide_eq_true (by omega)]
    | inr u => dsimp only at hp ⊢; rw [decide_eq_false (by omega)]
theorem count_ref {n : Nat} (hn : 6000 < n) : ∀ (k d : Nat) (v : T_api_Value), d ≤ k → Small d v → (walkV v).length ≤ 5900 → ref03_Count_k n k v = some ((walkV v).length : Int)
  | _, 0, v, _, h, _ => h.elim
  | 0, d + 1, v, h, _, _ => absurd h (by omega)
  | k + 1, d + 1, v, hk, hs, hlen => by
    obtain ⟨h1, h2, h3, h4, h5⟩ := hs
    show ref03_Count_b n (ref03_Count_k n k) v = _
    unfold ref03_Count_b
    have hwl : (walkV v).length = (walkVs v.fList).length + 1 := by rw [walkV_eq, List.length_cons]
    have := loop_all (step := ref03_Count_s1 n (ref03_Count_k n k) v) (n := n) (fun q => (((walkVs (v.fList.take q)).length : Int) + 1, (q : Int))) v.fList.length ((walkVs v.fList).length + 1 : Int) (fun q hq => by
      have hx : v.fList[q]? = some v.fList[q] := List.getElem?_eq_getElem hq
      have hg : getI v.fList (q : Int) = some v.fList[q] := by simp [getI]
      have hm : v.fList[q] ∈ v.fList := List.getElem_mem hq
      have hw1 := walkVs_mem hm
      have hw2 : (walkVs (v.fList.take q)).length ≤ (walkVs v.fList).length := by
        have := congrArg List.length (walkVs_app (v.fList.take q) (v.fList.drop q))
        rw [List.take_append_drop, List.length_append] at this
        omega
      unfold ref03_Count_s1
      dsimp only
      rw [decide_eq_true (by omega), cT, hg, bnd, count_ref hn k d _ (by omega) (h5 _ hm) (by omega), bnd, need_i (by omega) (by omega), need_i (by omega) (by omega), walkVs_take hx, List.length_append]
      congr 3
      push_cast
      omega) (by
      unfold ref03_Count_s1
      dsimp only
      rw [decide_eq_false (by omega), cF, List.take_length]) (by omega)
    have e0 : ((0 : Nat) : Int) = 0 := rfl
    have e1 : (0 : Int) + 1 = 1 := rfl
    simp only [List.take_zero, walkVs, List.length_nil, e0, e1] at this
    rw [this, bnd, hwl]
    rfl

/-- not great -/
structure Fine (v : T_api_Value) : Prop where
  small : Small 60 v
  few : (walkV v).length ≤ 5900
theorem Small.le : ∀ {d e : Nat} {v : T_api_Value}, d ≤ e → Small d v → Small e v
  | 0, _, _, _, h => h.elim
  | d + 1, 0, _, hde, _ => absurd hde (by omega)
  | d + 1, e + 1, _, hde, h => ⟨h.1, h.2.1, h.2.2.1, h.2.2.2.1, fun x hx => Small.le (by omega) (h.2.2.2.2 x hx)⟩
theorem Fine.wide {v : T_api_Value} (h : Fine v) : Wide v := h.small.wide
theorem Fine.part {v x : T_api_Value} (h : Fine v) (hx : x ∈ v.fList) : Fine x := by
  refine ⟨Small.le (d := 59) (by omega) (h.small.2.2.2.2 x hx), ?_⟩
  have := walkVs_mem hx
  have := h.few
  rw [walkV_eq, List.length_cons] at this
  omega
theorem small_walk : ∀ {d : Nat} {v x : T_api_Value}, Small d v → x ∈ walkV v → Small d x
  | d + 1, v, x, h, hx => by
    rw [walkV_eq] at hx
    rcases List.mem_cons.1 hx with rfl | hx
    · exact h
    · have key : ∀ l : List T_api_Value, (∀ y ∈ l, Small d y) → x ∈ walkVs l → Small d x := by
        intro l
        induction l with
        | nil => intro _ hx; simp [walkVs] at hx
        | cons y r ih =>
          intro hl hx
          rw [walkVs, List.mem_append] at hx
          rcases hx with hx | hx
          · exact small_walk (hl y List.mem_cons_self) hx
          · exact ih (fun z hz => hl z (List.mem_cons_of_mem _ hz)) hx
      exact Small.le (by omega) (key _ h.2.2.2.2 hx)

/-- what Check tells -/
def checkV (v : T_api_Value) : Int := if 24 < depthV v then 30 else if faultL (walkV v) = 0 then (if 4096 < (walkV v).length then 3 else 0) else faultL (walkV v)
theorem check_ref {n : Nat} (hn : 6000 < n) {v : T_api_Value} (h : Fine v) : ref03_Check n v = some (checkV v) := by
  unfold ref03_Check ref03_deeper ref03_wrong ref03_Count checkV
  have e : ((24 : Nat) : Int) = 24 := rfl
  have := deeper_ref hn n 60 v 24 (by omega) h.small (by omega)
  rw [e] at this
  rw [this, bnd]
  by_cases hd : 24 < depthV v
  · rw [decide_eq_true hd, cT, if_pos hd]
  · rw [decide_eq_false hd, cF, if_neg hd, wrong_ref hn n 60 v (by omega) h.small, bnd]
    by_cases hf : faultL (walkV v) = 0
    · rw [if_pos hf, decide_eq_true hf, Bool.not_true, cF, count_ref hn n 60 v (by omega) h.small h.few, bnd]
      by_cases hc : 4096 < (walkV v).length
      · rw [if_pos hc, decide_eq_true (by omega), cT]
      · rw [if_neg hc, decide_eq_false (by omega), cF]
    · rw [if_neg hf, decide_eq_false hf, Bool.not_false, cT]
theorem check_fold {n : Nat} (hn : 6000 < n) : ∀ (l : List T_api_Value) (s : Nat), (∀ x ∈ l, Wide x) → s + l.length ≤ 6000 → ∃ j, foldY (tree_Check_s1 n) l (s : Int) = some j ∧ (match j with | .nx t => faultL l = 0 ∧ t = ((s + l.length : Nat) : Int) | .br b => faultL l ≠ 0 ∧ b.2 = faultL l)
  | [], s, _, _ => ⟨_, rfl, rfl, by simp⟩
  | x :: r, s, hw, hl => by
    rw [List.length_cons] at hl
    unfold foldY faultL
    have e : tree_Check_s1 n (s : Int) x = if aloneV x = 0 then some (.nx ((s + 1 : Nat) : Int)) else some (.br ((s : Int), aloneV x)) := by
      unfold tree_Check_s1
      have ex : (⟨x.fKind, (x.fBool), x.fNum, x.fText, x.fList, x.fKeys⟩ : T_api_Value) = x := by cases x; rfl
      try rw [ex]
      rw [alone_run hn (hw x List.mem_cons_self), bnd]
      by_cases h : aloneV x = 0
      · rw [if_pos h, decide_eq_true h, Bool.not_true, cF, need_i (by omega) (by omega)]
        congr 2
      · rw [if_neg h, decide_eq_false h, Bool.not_false, cT]
    rw [e]
    by_cases h : aloneV x = 0
    · rw [if_pos h, if_pos h, bnd]
      obtain ⟨j, hj, hp⟩ := check_fold hn r (s + 1) (fun y hy => hw y (List.mem_cons_of_mem _ hy)) (by omega)
      refine ⟨j, hj, ?_⟩
      cases j with
      | nx t => dsimp only at hp ⊢; exact ⟨hp.1, by rw [hp.2, List.length_cons]; omega⟩
      | br b => exact hp
    · rw [if_neg h, if_neg h, bnd]
      exact ⟨_, rfl, h, rfl⟩
theorem check_run {n : Nat} (hn : 6000 < n) {v : T_api_Value} (h : Fine v) : tree_Check n v = some (checkV v) := by
  unfold tree_Check tree_depth checkV
  have e : ((24 : Nat) : Int) = 24 := rfl
  have hd0 := depth_run hn n 60 v 24 (by omega) h.small (by omega)
  rw [e] at hd0
  rw [hd0, bnd]
  by_cases hd : 24 < depthV v
  · rw [decide_eq_true (by omega), cT, if_pos hd]
  · rw [decide_eq_false (by omega), cF, if_neg hd, need_t (by have := h.few; omega)]
    obtain ⟨j, hj, hp⟩ := check_fold hn (walkV v) 0 (fun x hx => (small_walk h.small hx).wide) (by have := h.few; omega)
    have e0 : ((0 : Nat) : Int) = 0 := rfl
    rw [e0] at hj
    rw [hj, bnd]
    cases j with
    | nx t =>
      dsimp only at hp ⊢
      rw [if_pos hp.1]
      by_cases hc : 4096 < (walkV v).length
      · rw [if_pos hc, decide_eq_true (by omega), cT]
      · rw [if_neg hc, decide_eq_false (by omega), cF]
    | br b =>
      dsimp only at hp ⊢
      rw [if_neg hp.1, hp.2]
theorem Count_ref {n : Nat} (hn : 6000 < n) {v : T_api_Value} (h : Fine v) : ref03_Count n v = some ((walkV v).length : Int) := count_ref hn n 60 v (by omega) h.small h.few
end Go.Proofs.YtalifkcchfkgmaaDoor
end

section
set_option linter.unusedSimpArgs false
set_option linter.unusedVariables false
namespace Go.Proofs.YtalifkcchfkgmaaDoor
open Go Go.Vc Go.RowKit

theorem less_cb : ∀ a b : List UInt8, Op.bytesLess a b = decide (Lib.compareBytes a b < 0)
  | [], [] => by simp [Op.bytesLess, Lib.compareBytes]
  | [], _ :: _ => by simp [Op.bytesLess, Lib.compareBytes]
  | _ :: _, [] => by simp [Op.bytesLess, Lib.compareBytes]
  | x :: r, y :: s => by
    unfold Op.bytesLess Lib.compareBytes
    rw [less_cb r s]
    by_cases h1 : x < y
    · simp [h1]
    · by_cases h2 : y < x
      · have hne : (x == y) = false := by
          rw [beq_eq_false_iff_ne]
          intro e
          rw [e, UInt8.lt_iff_toNat_lt] at h2
          omega
        simp [h1, h2, hne]
      · have hxy : x = y := UInt8.toNat_inj.1 (by rw [UInt8.lt_iff_toNat_lt] at h1 h2; omega)
        simp [h1, h2, hxy]
abbrev KV := List UInt8 × T_api_Value
/-- not above -/
def leK (p q : KV) : Bool := !(decide (Lib.compareBytes q.1 p.1 < 0))
def insP (p : KV) : List KV → List KV
  | [] => [p]
  | q :: r => bif leK p q then p :: q :: r else q :: insP p r
def isortP : List KV → List KV
  | [] => []
  | p :: r => insP p (isortP r)
theorem insP_perm (p : KV) : ∀ l, (insP p l).Perm (p :: l)
  | [] => List.Perm.refl _
  | q :: r => by
    unfold insP
    cases leK p q with
    | true => exact List.Perm.refl _
    | false => exact ((insP_perm p r).cons q).trans (List.Perm.swap p q r)
theorem isortP_perm : ∀ l, (isortP l).Perm l
  | [] => List.Perm.refl _
  | p :: r => (insP_perm p _).trans ((isortP_perm r).cons p)
theorem leK_iff {p q : KV} : leK p q = true ↔ Lib.compareBytes p.1 q.1 ≤ 0 := by
  have := cb_anti p.1 q.1
  simp only [leK, Bool.not_eq_true', decide_eq_false_iff_not]
  omega
theorem leK_trans {a b c : KV} (h1 : leK a b = true) (h2 : leK b c = true) : leK a c = true := leK_iff.2 (cb_trans _ _ _ (leK_iff.1 h1) (leK_iff.1 h2)).1
theorem leK_total (a b : KV) : leK a b = true ∨ leK b a = true := by
  rw [leK_iff, leK_iff]
  have := cb_anti a.1 b.1
  omega
theorem insP_sorted (x : KV) : ∀ l, l.Pairwise (fun a b => leK a b = true) → (insP x l).Pairwise (fun a b => leK a b = true)
  | [], _ => by simp [insP]
  | y :: r, h => by
    obtain ⟨h1, h2⟩ := List.pairwise_cons.1 h
    unfold insP
    cases hxy : leK x y with
    | true => exact List.pairwise_cons.2 ⟨fun z hz => by
        rcases List.mem_cons.1 hz with rfl | hz
        · exact hxy
        · exact leK_trans hxy (h1 z hz), h⟩
    | false =>
      refine List.pairwise_cons.2 ⟨fun z hz => ?_, insP_sorted x r h2⟩
      rcases List.mem_cons.1 ((insP_perm x r).mem_iff.1 hz) with rfl | hz
      · exact (leK_total z y).resolve_left (by simp [hxy])
      · exact h1 z hz
theorem isortP_sorted : ∀ l, (isortP l).Pairwise (fun a b => leK a b = true)
  | [] => List.Pairwise.nil
  | x :: r => insP_sorted x _ (isortP_sorted r)
theorem nodup_key : ∀ {l : List KV} {p q : KV}, (l.map (·.1)).Nodup → p ∈ l → q ∈ l → p.1 = q.1 → p = q
  | x :: r, p, q, h, hp, hq, e => by
    rw [List.map_cons, List.nodup_cons] at h
    rcases List.mem_cons.1 hp with hp | hp <;> rcases List.mem_cons.1 hq with hq | hq
    · rw [hp, hq]
    · have : x.1 ∈ r.map (·.1) := by rw [← hp, e]; exact List.mem_map_of_mem hq
      exact absurd this h.1
    · have : x.1 ∈ r.map (·.1) := by rw [← hq, ← e]; exact List.mem_map_of_mem hp
      exact absurd this h.1
    · exact nodup_key h.2 hp hq e
/-- rows with unlike keys have one sorted order -/
theorem sorted_one {l m : List KV} (hn : (m.map (·.1)).Nodup) (hp : l.Perm m) (hl : l.Pairwise (fun a b => leK a b = true)) : l = isortP m := by
  refine List.Perm.eq_of_pairwise (le := fun a b => leK a b = true) (fun a b ha hb h1 h2 => ?_) hl (isortP_sorted m) (hp.trans (isortP_perm m).symm)
  have ia := hp.mem_iff.1 ha
  have ib := (isortP_perm m).mem_iff.1 hb
  have e1 := leK_iff.1 h1
  have e2 := leK_iff.1 h2
  have e3 := cb_anti a.1 b.1
  exact nodup_key hn ia ib (cb_eq _ _ (by omega))
theorem ins_map (keys : List (List UInt8)) (f : Int → KV) (hf : ∀ i, (f i).1 = keys.getD i.toNat []) (x : Int) : ∀ l, (ins (keyLe keys) x l).map f = insP (f x) (l.map f)
  | [] => rfl
  | y :: r => by
    have e : leK (f x) (f y) = keyLe keys x y := by unfold leK keyLe; rw [hf, hf]
    unfold ins
    rw [List.map_cons, insP, e]
    cases keyLe keys x y with
    | true => rfl
    | false => rw [cF, cF, List.map_cons, ins_map keys f hf x r]
theorem isort_map (keys : List (List UInt8)) (f : Int → KV) (hf : ∀ i, (f i).1 = keys.getD i.toNat []) : ∀ l, (isort (keyLe keys) l).map f = isortP (l.map f)
  | [] => rfl
  | x :: r => by
    unfold isort
    rw [ins_map keys f hf, isort_map keys f hf r, List.map_cons, isortP]
mutual
/-- a value, sorted -/
def sortV : T_api_Value → T_api_Value
  | ⟨k, b, n, t, l, ks⟩ => bif decide (k = 5) then ⟨k, b, n, t, (isortP (ks.zip (sortVs l))).map (·.2), (isortP (ks.zip (sortVs l))).map (·.1)⟩ else ⟨k, b, n, t, sortVs l, []⟩
def sortVs : List T_api_Value → List T_api_Value
  | [] => []
  | x :: r => sortV x :: sortVs r
end
theorem sortVs_map : ∀ l, sortVs l = l.map sortV
  | [] => rfl
  | x :: r => by rw [sortVs, sortVs_map r, List.map_cons]
def pairsV (v : T_api_Value) : List KV := isortP (v.fKeys.zip (v.fList.map sortV))
theorem sortV_5 {v : T_api_Value} (h : v.fKind = 5) : sortV v = ⟨v.fKind, v.fBool, v.fNum, v.fText, (pairsV v).map (·.2), (pairsV v).map (·.1)⟩ := by
  cases v with
  | mk k b n t l ks =>
    dsimp only at h
    rw [sortV, sortVs_map, decide_eq_true h, cT]
    rfl
theorem sortV_n {v : T_api_Value} (h : v.fKind ≠ 5) : sortV v = ⟨v.fKind, v.fBool, v.fNum, v.fText, v.fList.map sortV, []⟩ := by
  cases v with
  | mk k b n t l ks =>
    dsimp only at h
    rw [sortV, sortVs_map, decide_eq_false h, cF]

/-- all its parts may be, each by itself -/
def OkV (v : T_api_Value) : Prop := faultL (walkV v) = 0
theorem faultL_zero : ∀ {l : List T_api_Value}, faultL l = 0 ↔ ∀ x ∈ l, aloneV x = 0
  | [] => by simp [faultL]
  | x :: r => by
    rw [faultL]
    by_cases h : aloneV x = 0
    · rw [if_pos h, faultL_zero (l := r)]
      simp [h]
    · rw [if_neg h]
      constructor
      · intro e; exact absurd e h
      · intro e; exact absurd (e x List.mem_cons_self) h
theorem mem_walkVs {x : T_api_Value} : ∀ {l : List T_api_Value}, x ∈ walkVs l ↔ ∃ y ∈ l, x ∈ walkV y
  | [] => by simp [walkVs]
  | y :: r => by
    rw [walkVs, List.mem_append, mem_walkVs (l := r)]
    simp
theorem OkV_iff {v : T_api_Value} : OkV v ↔ aloneV v = 0 ∧ ∀ x ∈ v.fList, OkV x := by
  unfold OkV
  rw [faultL_zero, walkV_eq]
  constructor
  · intro h
    refine ⟨h v List.mem_cons_self, fun x hx => ?_⟩
    rw [faultL_zero]
    intro y hy
    exact h y (List.mem_cons_of_mem _ (mem_walkVs.2 ⟨x, hx, hy⟩))
  · rintro ⟨h1, h2⟩ x hx
    rcases List.mem_cons.1 hx with rfl | hx
    · exact h1
    · obtain ⟨y, hy, hxy⟩ := mem_walkVs.1 hx
      exact faultL_zero.1 (h2 y hy) x hxy
theorem checkV_ok {v : T_api_Value} (h : checkV v = 0) : OkV v ∧ depthV v ≤ 24 ∧ (walkV v).length ≤ 4096 := by
  unfold checkV at h
  by_cases h1 : 24 < depthV v
  · rw [if_pos h1] at h; omega
  · rw [if_neg h1] at h
    by_cases h2 : faultL (walkV v) = 0
    · rw [if_pos h2] at h
      by_cases h3 : 4096 < (walkV v).length
      · rw [if_pos h3] at h; omega
      · exact ⟨h2, by omega, by omega⟩
    · rw [if_neg h2] at h; exact absurd h h2
theorem checkV_of {v : T_api_Value} (h1 : OkV v) (h2 : depthV v ≤ 24) (h3 : (walkV v).length ≤ 4096) : checkV v = 0 := by
  unfold checkV
  unfold OkV at h1
  rw [if_neg (by omega), if_pos h1, if_neg (by omega)]

/-- the places of keys -/
def upto (n : Nat) : List Int := (List.range n).map Int.ofNat
theorem upto_succ (q : Nat) : upto (q + 1) = upto q ++ [(q : Int)] := by unfold upto; rw [List.range_succ, List.map_append]; rfl
theorem upto_len (q : Nat) : (upto q).length = q := by simp [upto]
theorem order_run {n : Nat} (hn : 6000 < n) {v : T_api_Value} (hw : v.fKeys.length ≤ 3000) (hd : v.fKeys.Nodup) : tree_order n v = some (isort (keyLe v.fKeys) (upto v.fKeys.length)) := by
  unfold tree_order
  rw [need_t ⟨by omega, by omega, by omega⟩]
  have := loop_all (step := tree_order_s1 n v) (n := n) (fun q => (upto q ++ List.replicate (v.fKeys.length - q) (0 : Int), (q : Int))) v.fKeys.length (upto v.fKeys.length) (fun q hq => by
    unfold tree_order_s1
    dsimp only
    have hll : (List.replicate ((v.fKeys.length : Nat) : Int).toNat (0 : Int)).length = v.fKeys.length := by simp
    have hg : getI (upto q ++ List.replicate (v.fKeys.length - q) (0 : Int)) (q : Int) = some 0 := by
      rw [getI_at (k := q) 0 (by simp [upto_len]; omega)]
      rw [List.getD_eq_getElem?_getD, List.getElem?_append_right (by rw [upto_len]; omega), upto_len]
      simp [(by omega : 0 < v.fKeys.length - q)]
    rw [hll, decide_eq_true (by omega), cT, hg, bnd, need_i (by omega) (by omega)]
    congr 3
    have e : v.fKeys.length - q = (v.fKeys.length - (q + 1)) + 1 := by omega
    rw [Int.toNat_natCast, e, List.replicate_succ, List.set_append_right _ _ (by rw [upto_len]; omega), upto_len, Nat.sub_self, List.set_cons_zero, upto_succ, List.append_assoc]
    rfl) (by
    unfold tree_order_s1
    dsimp only
    have hll : (List.replicate ((v.fKeys.length : Nat) : Int).toNat (0 : Int)).length = v.fKeys.length := by simp
    rw [hll, decide_eq_false (by omega), cF, Nat.sub_self, List.replicate_zero, List.append_nil]) (by omega)
  have e0 : ((0 : Nat) : Int) = 0 := rfl
  have e1 : upto 0 = [] := rfl
  simp only [e1, e0, Nat.sub_zero, List.nil_append] at this
  rw [Int.toNat_natCast, this, bnd]
  unfold h_sortKeys
  rw [need_t, need_t (by rw [upto_len]; omega), bnd]
  refine ⟨hd, fun i hi => ?_⟩
  simp only [upto, List.mem_map, List.mem_range] at hi
  obtain ⟨j, hj, rfl⟩ := hi
  have : Int.ofNat j = (j : Int) := rfl
  omega
theorem map_take_succ {α β : Type} (f : α → β) {l : List α} {i : Nat} {x : α} (h : l[i]? = some x) : (l.take (i + 1)).map f = (l.take i).map f ++ [f x] := by
  rw [List.take_add_one, h]
  simp
theorem zip_upto (ks : List (List UInt8)) (l : List T_api_Value) (hl : ks.length = l.length) (g : T_api_Value → T_api_Value) (z : T_api_Value) : (upto ks.length).map (fun i => (ks.getD i.toNat [], g (l.getD i.toNat z))) = ks.zip (l.map g) := by
  apply List.ext_getElem
  · simp [upto, hl]
  · intro i h1 h2
    simp [upto_len] at h1
    have h3 : i < l.length := by omega
    simp [upto, List.getD, h1, h3]
theorem sorted_run {n : Nat} (hn : 6000 < n) : ∀ (k d : Nat) (v : T_api_Value), d ≤ k → Small d v → OkV v → tree_sorted_k n k v = some (sortV v)
  | _, 0, v, _, h, _ => h.elim
  | 0, d + 1, v, h, _, _ => absurd h (by omega)
  | k + 1, d + 1, v, hk, hs, hok => by
    obtain ⟨h1, h2, h3, h4, h5⟩ := hs
    obtain ⟨ha, hl⟩ := OkV_iff.1 hok
    obtain ⟨hp, _, _, hnd⟩ := alone_ok ha
    show tree_sorted_b n (tree_sorted_k n k) v = _
    unfold tree_sorted_b
    have ih : ∀ x ∈ v.fList, tree_sorted_k n k x = some (sortV x) := fun x hx => sorted_run hn k d x (by omega) (h5 x hx) (hl x hx)
    by_cases hkind : v.fKind = 5
    · have hkl : v.fKeys.length = v.fList.length := hp.2.2.2.2.2.2.1 hkind
      rw [decide_eq_true hkind, cT, order_run hn h2 hnd, bnd]
      obtain ⟨idx, hidx⟩ : ∃ idx, idx = isort (keyLe v.fKeys) (upto v.fKeys.length) := ⟨_, rfl⟩
      rw [← hidx]
      have hperm : idx.Perm (upto v.fKeys.length) := hidx ▸ isort_perm _ _
      have hlen : idx.length = v.fKeys.length := by rw [hperm.length_eq, upto_len]
      have hin : ∀ i ∈ idx, ∃ j : Nat, i = (j : Int) ∧ j < v.fKeys.length := fun i hi => by
        have := hperm.mem_iff.1 hi
        simp only [upto, List.mem_map, List.mem_range] at this
        obtain ⟨j, hj, rfl⟩ := this
        exact ⟨j, rfl, hj⟩
      obtain ⟨f, hf⟩ : ∃ f : Int → KV, f = fun i => (v.fKeys.getD i.toNat [], sortV (v.fList.getD i.toNat v)) := ⟨_, rfl⟩
      have := loop_all (step := tree_sorted_s1 n (tree_sorted_k n k) v idx) (n := n) (fun q => ((q : Int), ((idx.take q).map f).map (·.2), ((idx.take q).map f).map (·.1))) idx.length ((idx.map f).map (·.2), (idx.map f).map (·.1)) (fun q hq => by
        have hx : idx[q]? = some idx[q] := List.getElem?_eq_getElem hq
        obtain ⟨j, hj, hjl⟩ := hin _ (List.getElem_mem hq)
        rw [hj] at hx
        have hg : getI idx (q : Int) = some (j : Int) := by simp [getI, hx]
        have hgk : getI v.fKeys (j : Int) = some (f j).1 := by rw [getI_at [] hjl, hf]; rfl
        have hgl : getI v.fList (j : Int) = some (v.fList.getD j v) := getI_at v (by omega)
        have hm : v.fList.getD j v ∈ v.fList := by simp [List.getD, (by omega : j < v.fList.length)]
        have ef : sortV (v.fList.getD j v) = (f j).2 := by rw [hf]; rfl
        unfold tree_sorted_s1
        dsimp only
        have ev : ∀ x : T_api_Value, (⟨x.fKind, (x.fBool), x.fNum, x.fText, x.fList, x.fKeys⟩ : T_api_Value) = x := fun x => by cases x; rfl
        have hlq : ((idx.take q).map f).length ≤ 3000 := by simp; omega
        rw [decide_eq_true (by omega), cT, hg, bnd, hgk, bnd, need_t (by rw [List.length_map]; omega), bnd, hgl, bnd, ih _ hm, bnd, need_t (by rw [List.length_map]; omega), bnd, need_i (by omega) (by omega), ev, ef, map_take_succ f hx, List.map_append, List.map_append]
        rfl) (by
        unfold tree_sorted_s1
        dsimp only
        rw [decide_eq_false (by omega), cF, List.take_length]) (by omega)
      have e0 : ((0 : Nat) : Int) = 0 := rfl
      simp only [List.take_zero, List.map_nil, e0] at this
      rw [this, bnd, sortV_5 hkind]
      have e : idx.map f = pairsV v := by
        rw [hidx, isort_map v.fKeys f (fun i => by rw [hf]), hf]
        unfold pairsV
        rw [zip_upto v.fKeys v.fList hkl sortV v]
      rw [e]
    · rw [decide_eq_false hkind, cF]
      have := loop_all (step := tree_sorted_s2 n (tree_sorted_k n k) v) (n := n) (fun q => ((q : Int), (v.fList.take q).map sortV)) v.fList.length (v.fList.map sortV) (fun q hq => by
        have hx : v.fList[q]? = some v.fList[q] := List.getElem?_eq_getElem hq
        have hg : getI v.fList (q : Int) = some v.fList[q] := by simp [getI]
        unfold tree_sorted_s2
        dsimp only
        have ev : ∀ x : T_api_Value, (⟨x.fKind, (x.fBool), x.fNum, x.fText, x.fList, x.fKeys⟩ : T_api_Value) = x := fun x => by cases x; rfl
        rw [decide_eq_true (by omega), cT, hg, bnd, ih _ (List.getElem_mem hq), bnd, need_t (by simp; omega), bnd, need_i (by omega) (by omega), ev, map_take_succ sortV hx]
        rfl) (by
        unfold tree_sorted_s2
        dsimp only
        rw [decide_eq_false (by omega), cF, List.take_length]) (by omega)
      have e0 : ((0 : Nat) : Int) = 0 := rfl
      simp only [List.take_zero, List.map_nil, e0] at this
      rw [this, bnd, sortV_n hkind]
end Go.Proofs.YtalifkcchfkgmaaDoor
end

section
set_option linter.unusedSimpArgs false
set_option linter.unusedVariables false
namespace Go.Proofs.YtalifkcchfkgmaaDoor
open Go Go.Vc Go.RowKit

theorem pairs_perm (v : T_api_Value) : (pairsV v).Perm (v.fKeys.zip (v.fList.map sortV)) := isortP_perm _
theorem pairs_snd {v : T_api_Value} (h : v.fKeys.length = v.fList.length) : ((pairsV v).map (·.2)).Perm (v.fList.map sortV) := by
  have := (pairs_perm v).map (·.2)
  rwa [List.map_snd_zip (by simp [h])] at this
theorem pairs_fst {v : T_api_Value} (h : v.fKeys.length = v.fList.length) : ((pairsV v).map (·.1)).Perm v.fKeys := by
  have := (pairs_perm v).map (·.1)
  rwa [List.map_fst_zip (by simp [h])] at this
theorem plain_len {v : T_api_Value} (h : PlainV v) (hk : v.fKind = 5) : v.fKeys.length = v.fList.length := h.2.2.2.2.2.2.1 hk
theorem sort_perm {v : T_api_Value} (h : PlainV v) : (sortV v).fList.Perm (v.fList.map sortV) := by
  by_cases hk : v.fKind = 5
  · rw [sortV_5 hk]; exact pairs_snd (plain_len h hk)
  · rw [sortV_n hk]
theorem sort_keys {v : T_api_Value} (h : PlainV v) : (sortV v).fKeys.Perm v.fKeys := by
  by_cases hk : v.fKind = 5
  · rw [sortV_5 hk]; exact pairs_fst (plain_len h hk)
  · rw [sortV_n hk]
    have := h.2.2.2.2.2.2.2 hk
    have e : v.fKeys = [] := by simpa using this
    rw [e]
theorem sort_kind (v : T_api_Value) : (sortV v).fKind = v.fKind := by
  by_cases hk : v.fKind = 5
  · rw [sortV_5 hk]
  · rw [sortV_n hk]
theorem sort_bool (v : T_api_Value) : (sortV v).fBool = v.fBool := by
  by_cases hk : v.fKind = 5
  · rw [sortV_5 hk]
  · rw [sortV_n hk]
theorem sort_num (v : T_api_Value) : (sortV v).fNum = v.fNum := by
  by_cases hk : v.fKind = 5
  · rw [sortV_5 hk]
  · rw [sortV_n hk]
theorem sort_text (v : T_api_Value) : (sortV v).fText = v.fText := by
  by_cases hk : v.fKind = 5
  · rw [sortV_5 hk]
  · rw [sortV_n hk]
theorem OkV.plain {v : T_api_Value} (h : OkV v) : PlainV v := (alone_ok (OkV_iff.1 h).1).1
theorem OkV.part {v x : T_api_Value} (h : OkV v) (hx : x ∈ v.fList) : OkV x := (OkV_iff.1 h).2 x hx
theorem sort_small : ∀ {d : Nat} {v : T_api_Value}, Small d v → OkV v → Small d (sortV v)
  | d + 1, v, h, hok => by
    have hp := hok.plain
    have h1 := sort_perm hp
    have h2 := sort_keys hp
    refine ⟨by rw [h1.length_eq, List.length_map]; exact h.1, by rw [h2.length_eq]; exact h.2.1, by rw [sort_text]; exact h.2.2.1, fun k hk => h.2.2.2.1 k (h2.mem_iff.1 hk), fun x hx => ?_⟩
    obtain ⟨y, hy, rfl⟩ := List.mem_map.1 (h1.mem_iff.1 hx)
    exact sort_small (h.2.2.2.2 y hy) (hok.part hy)
theorem sort_ok : ∀ (m : Nat) {v : T_api_Value}, SizeOf.sizeOf v < m → OkV v → OkV (sortV v)
  | 0, v, hm, _ => absurd hm (by omega)
  | m + 1, v, hm, hok => by
    have hp := hok.plain
    obtain ⟨_, hn, ht, hd⟩ := alone_ok (OkV_iff.1 hok).1
    have h1 := sort_perm hp
    have h2 := sort_keys hp
    rw [OkV_iff]
    constructor
    · refine alone_0 ?_ ?_ ?_ ?_
      · obtain ⟨a, b, c, d, e, f, g, i⟩ := hp
        refine ⟨by rw [sort_kind]; exact a, by rw [sort_kind]; exact b, by rw [sort_kind, sort_bool]; exact c, by rw [sort_kind, sort_num]; exact d, by rw [sort_kind, sort_text]; exact e, ?_, ?_, ?_⟩
        · rw [sort_kind, h1.length_eq, List.length_map]; exact f
        · rw [sort_kind, h1.length_eq, List.length_map, h2.length_eq]; exact g
        · rw [sort_kind, h2.length_eq]; exact i
      · unfold NumOut; rw [sort_num]; exact hn
      · unfold TextsOk; rw [sort_text]; exact ⟨ht.1, fun k hk => ht.2 k (h2.mem_iff.1 hk)⟩
      · exact h2.nodup_iff.2 hd
    · intro x hx
      obtain ⟨y, hy, rfl⟩ := List.mem_map.1 (h1.mem_iff.1 hx)
      exact sort_ok m (by have := part_small hy; omega) (hok.part hy)
theorem OkV.sort {v : T_api_Value} (h : OkV v) : OkV (sortV v) := sort_ok _ (Nat.lt_succ_self _) h
def lenW (l : List T_api_Value) : List Nat := l.map fun x => (walkV x).length
theorem walkVs_sum : ∀ l : List T_api_Value, (walkVs l).length = (lenW l).sum
  | [] => rfl
  | x :: r => by rw [walkVs, List.length_append, walkVs_sum r]; rfl
theorem sort_count : ∀ (m : Nat) {v : T_api_Value}, SizeOf.sizeOf v < m → OkV v → (walkV (sortV v)).length = (walkV v).length
  | 0, v, hm, _ => absurd hm (by omega)
  | m + 1, v, hm, hok => by
    rw [walkV_eq, walkV_eq v, List.length_cons, List.length_cons, walkVs_sum, walkVs_sum]
    have h1 := (sort_perm hok.plain).map fun x => (walkV x).length
    have e : (lenW (sortV v).fList).sum = (lenW (v.fList.map sortV)).sum := h1.sum_nat
    rw [e]
    unfold lenW
    rw [List.map_map]
    congr 2
    refine List.map_congr_left fun x hx => ?_
    exact sort_count m (by have := part_small hx; omega) (hok.part hx)
theorem depthVs_perm {l m : List T_api_Value} (h : l.Perm m) : depthVs l = depthVs m := by
  induction h with
  | nil => rfl
  | cons x _ ih => rw [depthVs, depthVs, ih]
  | swap x y l => rw [depthVs, depthVs, depthVs, depthVs]; omega
  | trans _ _ ih1 ih2 => rw [ih1, ih2]
theorem sort_depth : ∀ (m : Nat) {v : T_api_Value}, SizeOf.sizeOf v < m → OkV v → depthV (sortV v) = depthV v
  | 0, v, hm, _ => absurd hm (by omega)
  | m + 1, v, hm, hok => by
    rw [depthV_eq, depthV_eq v, depthVs_perm (sort_perm hok.plain)]
    congr 1
    have key : ∀ l : List T_api_Value, (∀ x ∈ l, depthV (sortV x) = depthV x) → depthVs (l.map sortV) = depthVs l := by
      intro l
      induction l with
      | nil => intro _; rfl
      | cons x r ih => intro h; rw [List.map_cons, depthVs, depthVs, h x List.mem_cons_self, ih fun y hy => h y (List.mem_cons_of_mem _ hy)]
    exact key _ fun x hx => sort_depth m (by have := part_small hx; omega) (hok.part hx)
theorem sort_check {v : T_api_Value} (h : checkV v = 0) : checkV (sortV v) = 0 := by
  obtain ⟨h1, h2, h3⟩ := checkV_ok h
  exact checkV_of h1.sort (by rw [sort_depth _ (Nat.lt_succ_self _) h1]; exact h2) (by rw [sort_count _ (Nat.lt_succ_self _) h1]; exact h3)
theorem Fine.sort {v : T_api_Value} (h : Fine v) (hok : OkV v) : Fine (sortV v) := ⟨sort_small h.small hok, by rw [sort_count _ (Nat.lt_succ_self _) hok]; exact h.few⟩
theorem zip_unzip (l : List KV) : (l.map (·.1)).zip (l.map (·.2)) = l := by
  induction l with
  | nil => rfl
  | cons p r ih => rw [List.map_cons, List.map_cons, List.zip_cons_cons, ih]
theorem sort_sort : ∀ (m : Nat) {v : T_api_Value}, SizeOf.sizeOf v < m → OkV v → sortV (sortV v) = sortV v
  | 0, v, hm, _ => absurd hm (by omega)
  | m + 1, v, hm, hok => by
    have hp := hok.plain
    obtain ⟨_, _, _, hd⟩ := alone_ok (OkV_iff.1 hok).1
    have ih : (sortV v).fList.map sortV = (sortV v).fList := by
      refine (List.map_congr_left (g := id) fun x hx => ?_).trans (List.map_id _)
      obtain ⟨y, hy, rfl⟩ := List.mem_map.1 ((sort_perm hp).mem_iff.1 hx)
      exact sort_sort m (by have := part_small hy; omega) (hok.part hy)
    by_cases hk : v.fKind = 5
    · have hk' : (sortV v).fKind = 5 := by rw [sort_kind]; exact hk
      rw [sortV_5 hk']
      have e : pairsV (sortV v) = pairsV v := by
        unfold pairsV
        rw [ih, sortV_5 hk]
        dsimp only
        rw [zip_unzip]
        refine (sorted_one ?_ (List.Perm.refl _) (isortP_sorted _)).symm
        have := pairs_fst (plain_len hp hk)
        exact this.nodup_iff.2 hd
      rw [e, sortV_5 hk]
    · have hk' : (sortV v).fKind ≠ 5 := by rw [sort_kind]; exact hk
      rw [sortV_n hk', ih, sortV_n hk]
theorem sorts_once {v : T_api_Value} (h : OkV v) : sortV (sortV v) = sortV v := sort_sort _ (Nat.lt_succ_self _) h
/-- keys that rise -/
theorem sort_rise {v : T_api_Value} (h : OkV v) : (sortV v).fKeys.Pairwise fun a b => Lib.compareBytes a b < 0 := by
  by_cases hk : v.fKind = 5
  · have h1 := isortP_sorted (v.fKeys.zip (v.fList.map sortV))
    have hnd : ((pairsV v).map (·.1)).Nodup := (pairs_fst (plain_len h.plain hk)).nodup_iff.2 (alone_ok (OkV_iff.1 h).1).2.2.2
    rw [sortV_5 hk]
    dsimp only
    have h1' : ((pairsV v).map (·.1)).Pairwise fun a b => Lib.compareBytes a b ≤ 0 := List.pairwise_map.2 (h1.imp fun {a b} hab => leK_iff.1 hab)
    refine (h1'.and hnd).imp fun {a b} hab => ?_
    by_cases e : Lib.compareBytes a b = 0
    · exact absurd (cb_eq _ _ e) hab.2
    · have := hab.1; omega
  · rw [sortV_n hk]
    exact List.Pairwise.nil

/-- comparing with nothing of 0 tells sameness -/
theorem cmp_same : ∀ (m : Nat) {v w : T_api_Value}, SizeOf.sizeOf v < m → OkV v → OkV w → cmpV v w = 0 → v = w
  | 0, v, w, hm, _, _, _ => absurd hm (by omega)
  | m + 1, v, w, hm, hv, hw, h => by
    rw [cmpV_eq] at h
    obtain ⟨a, h⟩ := thenC_zero h
    obtain ⟨b, h⟩ := thenC_zero h
    obtain ⟨c, h⟩ := thenC_zero h
    obtain ⟨d, h⟩ := thenC_zero h
    have a := cmpI_zero a
    have b := bitI_inj (cmpI_zero b)
    have c := cmpI_zero c
    have d := cb_eq _ _ d
    have key : ∀ (o : Bool) (l : List T_api_Value) (ks : List (List UInt8)) (q : List T_api_Value) (js : List (List UInt8)), (∀ x ∈ l, SizeOf.sizeOf x < m ∧ OkV x) → (∀ x ∈ q, OkV x) → (if o = true then ks.length = l.length ∧ js.length = q.length else ks = [] ∧ js = []) → cmpVs o l ks q js = 0 → l = q ∧ ks = js := by
      intro o l
      induction l with
      | nil =>
        intro ks q js h1 h2 h3 h4
        cases q with
        | nil =>
          refine ⟨rfl, ?_⟩
          cases o with
          | true =>
            rw [if_pos rfl] at h3
            have e1 : ks = [] := by simpa using h3.1
            have e2 : js = [] := by simpa using h3.2
            rw [e1, e2]
          | false => rw [if_neg (by decide)] at h3; rw [h3.1, h3.2]
        | cons y q => rw [cmpVs] at h4; omega
      | cons x l ih =>
        intro ks q js h1 h2 h3 h4
        cases q with
        | nil => rw [cmpVs] at h4; omega
        | cons y q =>
          rw [cmpVs] at h4
          obtain ⟨e1, h4⟩ := thenC_zero h4
          obtain ⟨e2, h4⟩ := thenC_zero h4
          have hx := h1 x List.mem_cons_self
          have e3 := cmp_same m hx.1 hx.2 (h2 y List.mem_cons_self) e2
          cases o with
          | true =>
            rw [if_pos rfl] at h3
            rw [cT] at e1
            cases ks with
            | nil => simp at h3
            | cons k ks =>
              cases js with
              | nil => simp at h3
              | cons j js =>
                simp only [List.headD_cons, List.tail_cons] at e1 h4
                have := ih ks q js (fun z hz => h1 z (List.mem_cons_of_mem _ hz)) (fun z hz => h2 z (List.mem_cons_of_mem _ hz)) (by rw [if_pos rfl]; simpa using h3) h4
                rw [e3, this.1, this.2, cb_eq _ _ e1]
                exact ⟨rfl, rfl⟩
          | false =>
            rw [if_neg (by decide)] at h3
            obtain ⟨rfl, rfl⟩ := h3
            have := ih [] q [] (fun z hz => h1 z (List.mem_cons_of_mem _ hz)) (fun z hz => h2 z (List.mem_cons_of_mem _ hz)) (by rw [if_neg (by decide)]; exact ⟨rfl, rfl⟩) h4
            rw [e3, this.1]
            exact ⟨rfl, rfl⟩
    have := key _ _ _ _ _ (fun x hx => ⟨by have := part_small hx; omega, hv.part hx⟩) (fun x hx => hw.part hx) (by
      by_cases hk : v.fKind = 5
      · rw [decide_eq_true hk, if_pos rfl]
        exact ⟨plain_len hv.plain hk, plain_len hw.plain (by rw [← a]; exact hk)⟩
      · rw [decide_eq_false hk, if_neg (by decide)]
        have h1 := hv.plain.2.2.2.2.2.2.2 hk
        have h2 := hw.plain.2.2.2.2.2.2.2 (by rw [← a]; exact hk)
        exact ⟨by simpa using h1, by simpa using h2⟩) h
    cases v
    cases w
    dsimp only at a b c d this
    rw [a, b, c, d, this.1, this.2]

theorem cmpC_run {n : Nat} (a b : Int) : cmp_Compare n a b = some (cmpI a b) := by
  unfold cmp_Compare cmp_isNaN cmpI
  rw [bnd, bnd, cF, cF]
  by_cases h : a < b
  · rw [decide_eq_true h, cT, cT]
  · rw [decide_eq_false h, cF, cF]
    by_cases h2 : b < a
    · rw [decide_eq_true h2, cT, cT]
    · rw [decide_eq_false h2, cF, cF]
theorem cmpC2_run {n : Nat} (a b : Int) : cmp_Compare_2 n a b = some (cmpI a b) := by
  unfold cmp_Compare_2 cmp_isNaN_2 cmpI
  rw [bnd, bnd, cF, cF]
  by_cases h : a < b
  · rw [decide_eq_true h, cT, cT]
  · rw [decide_eq_false h, cF, cF]
    by_cases h2 : b < a
    · rw [decide_eq_true h2, cT, cT]
    · rw [decide_eq_false h2, cF, cF]
theorem bit_run {n : Nat} (a : Bool) : tree_bit n a = some (bitI a) := by unfold tree_bit bitI; cases a <;> rfl
theorem or_run {n : Nat} (hn : 6000 < n) (a b c d : Int) : cmp_Or n [a, b, c, d] = some (thenC a (thenC b (thenC c d))) := by
  obtain ⟨m, rfl⟩ : ∃ m, n = m + 5 := ⟨n - 5, by omega⟩
  have st : ∀ (x : Int) (i : Nat), [a, b, c, d][i]? = some x → cmp_Or_s1 (m + 5) [a, b, c, d] (i : Int) = bif decide (x = 0) then some (.nx ((i : Int) + 1)) else some (.br (.inl x)) := fun x i hx => by
    have hi : i < 4 := by
      have := (List.getElem?_eq_some_iff.1 hx).1
      simpa using this
    unfold cmp_Or_s1
    have hg : getI [a, b, c, d] (i : Int) = some x := by simp [getI, hx]
    rw [decide_eq_true (by simp; omega), cT, hg, bnd]
    by_cases h : x = 0
    · rw [decide_eq_true h, Bool.not_true, cF, cT, need_i (by omega) (by omega)]
    · rw [decide_eq_false h, Bool.not_false, cT, cF]
  have s0 := st a 0 rfl
  have s1 := st b 1 rfl
  have s2 := st c 2 rfl
  have s3 := st d 3 rfl
  have e0 : ((0 : Nat) : Int) = 0 := rfl
  have e1 : ((0 : Nat) : Int) + 1 = ((1 : Nat) : Int) := rfl
  have e2 : ((1 : Nat) : Int) + 1 = ((2 : Nat) : Int) := rfl
  have e3 : ((2 : Nat) : Int) + 1 = ((3 : Nat) : Int) := rfl
  have e4 : ((3 : Nat) : Int) + 1 = 4 := rfl
  rw [e1] at s0
  rw [e2] at s1
  rw [e3] at s2
  rw [e4] at s3
  have s4 : cmp_Or_s1 (m + 5) [a, b, c, d] 4 = some (.br (.inr ())) := by
    unfold cmp_Or_s1
    rw [decide_eq_false (by simp), cF]
  unfold cmp_Or
  rw [← e0]
  unfold loopF
  rw [s0]
  by_cases ha : a = 0
  · rw [decide_eq_true ha, cT, bnd, ha, thenC0]
    dsimp only
    unfold loopF
    rw [← ha, s1]
    by_cases hb : b = 0
    · rw [decide_eq_true hb, cT, bnd]
      have : thenC b (thenC c d) = thenC c d := by rw [hb, thenC0]
      rw [this]
      dsimp only
      unfold loopF
      rw [s2]
      by_cases hc : c = 0
      · rw [decide_eq_true hc, cT, bnd]
        have : thenC c d = d := by rw [hc, thenC0]
        rw [this]
        dsimp only
        unfold loopF
        rw [s3]
        by_cases hd : d = 0
        · rw [decide_eq_true hd, cT, bnd]
          dsimp only
          unfold loopF
          rw [s4, bnd]
          dsimp only
          rw [bnd, hd]
          rfl
        · rw [decide_eq_false hd, cF, bnd]
          dsimp only
          rw [bnd]
      · rw [decide_eq_false hc, cF, bnd, thenCn d hc]
        dsimp only
        rw [bnd]
    · rw [decide_eq_false hb, cF, bnd, thenCn _ hb]
      dsimp only
      rw [bnd]
  · rw [decide_eq_false ha, cF, bnd, thenCn _ ha]
    dsimp only
    rw [bnd]
theorem cmpVs_drop (o : Bool) {l : List T_api_Value} {ks : List (List UInt8)} {m : List T_api_Value} {js : List (List UInt8)} {q : Nat} (h1 : q < l.length) (h2 : q < m.length) :
    cmpVs o (l.drop q) (ks.drop q) (m.drop q) (js.drop q) = thenC (bif o then Lib.compareBytes (ks.getD q []) (js.getD q []) else 0) (thenC (cmpV l[q] m[q]) (cmpVs o (l.drop (q + 1)) (ks.drop (q + 1)) (m.drop (q + 1)) (js.drop (q + 1)))) := by
  have hh : ∀ ks : List (List UInt8), (ks.drop q).headD [] = ks.getD q [] := fun ks => by
    rw [List.headD_eq_head?_getD, List.head?_drop, List.getD_eq_getElem?_getD]
  rw [List.drop_eq_getElem_cons h1, List.drop_eq_getElem_cons h2, cmpVs, hh, hh, List.tail_drop, List.tail_drop]
theorem cmpVs_end (o : Bool) {l : List T_api_Value} {ks : List (List UInt8)} {m : List T_api_Value} {js : List (List UInt8)} {q : Nat} (h : q = min l.length m.length) :
    cmpVs o (l.drop q) (ks.drop q) (m.drop q) (js.drop q) = cmpI (l.length : Int) (m.length : Int) := by
  rcases Nat.lt_trichotomy l.length m.length with hl | hl | hl
  · rw [List.drop_of_length_le (l := l) (by omega), List.drop_eq_getElem_cons (l := m) (by omega : q < m.length), cmpVs]
    have := cmpI_cases (l.length : Int) (m.length : Int)
    omega
  · rw [List.drop_of_length_le (l := l) (by omega), List.drop_of_length_le (l := m) (by omega), cmpVs]
    have := cmpI_cases (l.length : Int) (m.length : Int)
    omega
  · rw [List.drop_of_length_le (l := m) (by omega), List.drop_eq_getElem_cons (l := l) (by omega : q < l.length), cmpVs]
    have := cmpI_cases (l.length : Int) (m.length : Int)
    omega
theorem compare_loop {n : Nat} (hn : 6000 < n) (rec : T_api_Value → T_api_Value → Option Int) (v w : T_api_Value) (hv : v.fList.length ≤ 3000) (hk : v.fKind = 5 → v.fKeys.length = v.fList.length ∧ w.fKeys.length = w.fList.length) (hr : ∀ x ∈ v.fList, ∀ y ∈ w.fList, rec x y = some (cmpV x y)) :
    ∃ b, loopF (tree_compare_s1 n rec v w) n (0 : Int) = some b ∧ (match b with | .inl c => c ≠ 0 ∧ cmpVs (decide (v.fKind = 5)) v.fList v.fKeys w.fList w.fKeys = c | .inr _ => cmpVs (decide (v.fKind = 5)) v.fList v.fKeys w.fList w.fKeys = cmpI (v.fList.length : Int) (w.fList.length : Int)) := by
  refine loop_inv (step := tree_compare_s1 n rec v w) (n := n) (fun q s => s = (q : Int) ∧ cmpVs (decide (v.fKind = 5)) v.fList v.fKeys w.fList w.fKeys = cmpVs (decide (v.fKind = 5)) (v.fList.drop q) (v.fKeys.drop q) (w.fList.drop q) (w.fKeys.drop q)) _ (min v.fList.length w.fList.length) ⟨rfl, by simp only [List.drop_zero]⟩ (fun q s hq hI => ?_) (fun s hI => ?_) (by omega)
  · obtain ⟨rfl, hI⟩ := hI
    have h1 : q < v.fList.length := by omega
    have h2 : q < w.fList.length := by omega
    rw [cmpVs_drop _ h1 h2] at hI
    have hg1 : getI v.fList (q : Int) = some v.fList[q] := by simp [getI]
    have hg2 : getI w.fList (q : Int) = some w.fList[q] := by simp [getI]
    have tail : ∀ (h0 : cmpVs (decide (v.fKind = 5)) v.fList v.fKeys w.fList w.fKeys = thenC (cmpV v.fList[q] w.fList[q]) (cmpVs (decide (v.fKind = 5)) (v.fList.drop (q + 1)) (v.fKeys.drop (q + 1)) (w.fList.drop (q + 1)) (w.fKeys.drop (q + 1)))) (t : Option (Lp Int (Sum Int Unit))), t = ((getI v.fList (q : Int)).bind fun x_10 =>
      (getI w.fList (q : Int)).bind fun x_11 =>
      (rec x_10 x_11).bind fun x_12 =>
      bif (!(decide (x_12 = 0))) then
        (some (.br (.inl x_12)))
      else
        need (inR .i64 ((q : Int) + 1)) <|
        some (.nx ((q : Int) + 1))) → (∃ s', t = some (.nx s') ∧ (s' = ((q + 1 : Nat) : Int) ∧ cmpVs (decide (v.fKind = 5)) v.fList v.fKeys w.fList w.fKeys = cmpVs (decide (v.fKind = 5)) (v.fList.drop (q + 1)) (v.fKeys.drop (q + 1)) (w.fList.drop (q + 1)) (w.fKeys.drop (q + 1)))) ∨ ∃ b, t = some (.br b) ∧ (match b with | .inl c => c ≠ 0 ∧ cmpVs (decide (v.fKind = 5)) v.fList v.fKeys w.fList w.fKeys = c | .inr _ => cmpVs (decide (v.fKind = 5)) v.fList v.fKeys w.fList w.fKeys = cmpI (v.fList.length : Int) (w.fList.length : Int)) := by
      intro h0 t ht
      rw [hg1, bnd, hg2, bnd, hr _ (List.getElem_mem h1) _ (List.getElem_mem h2), bnd] at ht
      by_cases hc : cmpV v.fList[q] w.fList[q] = 0
      · rw [decide_eq_true hc, Bool.not_true, cF, need_i (by omega) (by omega)] at ht
        rw [hc, thenC0] at h0
        exact .inl ⟨_, ht, by omega, h0⟩
      · rw [decide_eq_false hc, Bool.not_false, cT] at ht
        rw [thenCn _ hc] at h0
        exact .inr ⟨_, ht, hc, h0⟩
    unfold tree_compare_s1
    rw [decide_eq_true (by omega), cT]
    by_cases hkind : v.fKind = 5
    · obtain ⟨k1, k2⟩ := hk hkind
      rw [decide_eq_true hkind, cT] at hI
      rw [decide_eq_true hkind, cT, getI_at [] (by omega), bnd, getI_at [] (by omega), bnd]
      unfold h_Compare
      rw [bnd]
      by_cases hc : Lib.compareBytes (v.fKeys.getD q []) (w.fKeys.getD q []) = 0
      · rw [decide_eq_true hc, Bool.not_true, cF, bnd, jN]
        rw [hc, thenC0] at hI
        have := tail (by rw [decide_eq_true hkind]; exact hI) _ rfl
        rw [decide_eq_true hkind] at this
        exact this
      · rw [decide_eq_false hc, Bool.not_false, cT, mpS, bnd, jB]
        rw [thenCn _ hc] at hI
        exact .inr ⟨_, rfl, hc, hI⟩
    · rw [decide_eq_false hkind, cF] at hI
      rw [decide_eq_false hkind, cF, bnd, jN]
      rw [thenC0] at hI
      have := tail (by rw [decide_eq_false hkind]; exact hI) _ rfl
      rw [decide_eq_false hkind] at this
      exact this
  · obtain ⟨rfl, hI⟩ := hI
    unfold tree_compare_s1
    rw [decide_eq_false (by omega), cF]
    refine ⟨_, rfl, ?_⟩
    dsimp only
    rw [hI, cmpVs_end _ rfl]
theorem bit_cmp (a b : Bool) : bitI a - bitI b = cmpI (bitI a) (bitI b) := by cases a <;> cases b <;> rfl
theorem compare_b {n : Nat} (hn : 6000 < n) (rec : T_api_Value → T_api_Value → Option Int) (v w : T_api_Value) (hv : v.fList.length ≤ 3000) (hok : OkV v) (how : OkV w) (hr : ∀ x ∈ v.fList, ∀ y ∈ w.fList, rec x y = some (cmpV x y)) : tree_compare_b n rec v w = some (cmpV v w) := by
  unfold tree_compare_b h_Compare
  rw [cmpC_run, bnd, bit_run, bnd, bit_run, bnd, bit_cmp, need_i (by have := cmpI_range (bitI v.fBool) (bitI w.fBool); omega) (by have := cmpI_range (bitI v.fBool) (bitI w.fBool); omega), cmpC2_run, bnd, bnd, or_run hn, bnd, cmpV_eq]
  generalize hA : cmpI v.fKind w.fKind = A
  generalize hB : cmpI (bitI v.fBool) (bitI w.fBool) = B
  generalize hC : cmpI v.fNum w.fNum = C
  generalize hD : Lib.compareBytes v.fText w.fText = D
  have assoc : ∀ E, thenC A (thenC B (thenC C (thenC D E))) = thenC (thenC A (thenC B (thenC C D))) E := fun E => by
    by_cases a : A = 0
    · subst a
      rw [thenC0, thenC0]
      by_cases b : B = 0
      · rw [b, thenC0, thenC0]
        by_cases c : C = 0
        · rw [c, thenC0, thenC0]
        · rw [thenCn _ c, thenCn D c, thenCn _ c]
      · rw [thenCn _ b, thenCn _ b, thenCn _ b]
    · rw [thenCn _ a, thenCn _ a, thenCn _ a]
  rw [assoc]
  by_cases hx : thenC A (thenC B (thenC C D)) = 0
  · have ha := (thenC_zero hx).1
    rw [decide_eq_true hx, Bool.not_true, cF, hx, thenC0]
    have hkk : v.fKind = w.fKind := cmpI_zero (hA.trans ha)
    obtain ⟨b, hb, hp⟩ := compare_loop hn rec v w hv (fun hk => ⟨plain_len hok.plain hk, plain_len how.plain (by rw [← hkk]; exact hk)⟩) hr
    rw [hb, bnd]
    cases b with
    | inl c => dsimp only at hp ⊢; rw [hp.2]
    | inr u => dsimp only at hp ⊢; rw [cmpC2_run, bnd, hp]
  · rw [decide_eq_false hx, Bool.not_false, cT, thenCn _ hx]
theorem compare_run {n : Nat} (hn : 6000 < n) : ∀ (k d : Nat) (v w : T_api_Value), d ≤ k → Small d v → OkV v → OkV w → tree_compare_k n k v w = some (cmpV v w)
  | _, 0, v, _, _, h, _, _ => h.elim
  | 0, d + 1, v, _, h, _, _, _ => absurd h (by omega)
  | k + 1, d + 1, v, w, hk, hs, hok, how => compare_b hn _ v w hs.1 hok how fun x hx y hy => compare_run hn k d x y (by omega) (hs.2.2.2.2 x hx) (hok.part hx) (how.part hy)
end Go.Proofs.YtalifkcchfkgmaaDoor
end

section
set_option linter.unusedSimpArgs false
set_option linter.unusedVariables false
namespace Go.Proofs.YtalifkcchfkgmaaDoor
open Go Go.Vc Go.RowKit

theorem evV (x : T_api_Value) : (⟨x.fKind, (x.fBool), x.fNum, x.fText, x.fList, x.fKeys⟩ : T_api_Value) = x := by cases x; rfl
/-- what Great tells -/
theorem great_fine {n : Nat} (hn : 6000 < n) (v : T_api_Value) : ∃ g, ref03_Great n v = some g ∧ (g = false → Fine v ∧ Small 30 v ∧ (walkV v).length ≤ 5000) := by
  obtain ⟨g, h1, h2⟩ := great_ok (n := n) (by omega) v
  exact ⟨g, h1, fun h => ⟨⟨Small.le (by omega) (h2 h).1, by have := (h2 h).2; omega⟩, h2 h⟩⟩

/-- equal -/
def eqV (a b : T_api_Value) : Bool := decide (checkV a = 0) && (decide (checkV b = 0) && decide (cmpV (sortV a) (sortV b) = 0))
def ltV (a b : T_api_Value) : Bool := decide (checkV a = 0) && (decide (checkV b = 0) && decide (cmpV (sortV a) (sortV b) < 0))
def sortedV (a : T_api_Value) : T_api_Value := if checkV a = 0 then sortV a else a

theorem sortedT_run {n : Nat} (hn : 6000 < n) {v : T_api_Value} (h : Fine v) (hok : OkV v) : tree_sorted n v = some (sortV v) := sorted_run hn n 60 v (by omega) h.small hok
theorem compareT_run {n : Nat} (hn : 6000 < n) {v w : T_api_Value} (h : Fine v) (hok : OkV v) (how : OkV w) : tree_compare n v w = some (cmpV v w) := compare_run hn n 60 v w (by omega) h.small hok how
theorem compare2_run {n : Nat} (hn : 6000 < n) {v w : T_api_Value} (h : Fine v) (hok : OkV v) (how : OkV w) : ∃ z, tree_compare_2 n v.fKind (v.fBool) v.fNum v.fText v.fList v.fKeys w.fKind (w.fBool) w.fNum w.fText w.fList w.fKeys = some z ∧ z.1 = cmpV v w := by
  have key : (tree_compare_2 n v.fKind (v.fBool) v.fNum v.fText v.fList v.fKeys w.fKind (w.fBool) w.fNum w.fText w.fList w.fKeys).map (·.1) = tree_compare_b n (tree_compare n) v w := by
    have hs : tree_compare_2_s1 n v.fKind v.fList v.fKeys w.fList w.fKeys = tree_compare_s1 n (tree_compare n) v w := rfl
    unfold tree_compare_2 tree_compare_b
    rw [hs, cmpC_run, bnd, bnd, bit_run, bnd, bnd, bit_run, bnd, bnd]
    unfold need
    split
    · rw [cmpC2_run, bnd, bnd]
      unfold h_Compare
      rw [bnd, bnd, or_run hn, bnd, bnd]
      generalize thenC _ _ = x
      by_cases hx : x = 0
      · rw [decide_eq_true hx, Bool.not_true, cF, cF]
        cases loopF (tree_compare_s1 n (tree_compare n) v w) n (0 : Int) with
        | none => rfl
        | some b =>
          rw [bnd, bnd]
          cases b with
          | inl c => rfl
          | inr u => dsimp only; rw [cmpC2_run, bnd, bnd]; rfl
      · rw [decide_eq_false hx, Bool.not_false, cT, cT]; rfl
    · rfl
  rw [compare_b hn (tree_compare n) v w h.wide.1 hok how (fun x hx y hy => compareT_run hn (h.part hx) (hok.part hx) (how.part hy))] at key
  obtain ⟨z, hz, e⟩ := Option.map_eq_some_iff.1 key
  exact ⟨z, hz, e⟩
theorem both_run {n : Nat} (hn : 6000 < n) {v w : T_api_Value} (h : Fine v) (h' : Fine w) : tree_both n v w = some (if checkV v = 0 ∧ checkV w = 0 then (cmpV (sortV v) (sortV w), true) else (0, false)) := by
  unfold tree_both
  rw [check_run hn h, bnd]
  by_cases a : checkV v = 0
  · rw [decide_eq_true a, Bool.not_true, cF, check_run hn h', bnd]
    by_cases b : checkV w = 0
    · rw [decide_eq_true b, Bool.not_true, bnd, cF, if_pos ⟨a, b⟩]
      have oa := (checkV_ok a).1
      have ob := (checkV_ok b).1
      rw [sortedT_run hn h oa, bnd, sortedT_run hn h' ob, bnd]
      obtain ⟨z, hz, e⟩ := compare2_run hn (h.sort oa) oa.sort ob.sort
      rw [hz, bnd, e]
    · rw [decide_eq_false b, Bool.not_false, bnd, cT, if_neg (fun x => b x.2)]
  · rw [decide_eq_false a, Bool.not_false, cT, bnd, cT, if_neg (fun x => a x.1)]
theorem Equal_run {n : Nat} (hn : 6000 < n) {v w : T_api_Value} (h : Fine v) (h' : Fine w) : tree_Equal n v w = some (eqV v w) := by
  unfold tree_Equal eqV
  rw [both_run hn h h', bnd]
  by_cases a : checkV v = 0
  · by_cases b : checkV w = 0
    · rw [if_pos ⟨a, b⟩, decide_eq_true a, decide_eq_true b]; rfl
    · rw [if_neg (fun x => b x.2), decide_eq_true a, decide_eq_false b]; rfl
  · rw [if_neg (fun x => a x.1), decide_eq_false a]; rfl
theorem Fine.sorted {v : T_api_Value} (h : Fine v) : Fine (sortedV v) := by
  unfold sortedV
  by_cases a : checkV v = 0
  · rw [if_pos a]; exact h.sort (checkV_ok a).1
  · rw [if_neg a]; exact h
/-- the place of a key -/
def placeV (key : List UInt8) : List (List UInt8) → Option Nat
  | [] => none
  | k :: r => if k = key then some 0 else (placeV key r).map (· + 1)
theorem place_some : ∀ {key : List UInt8} {l : List (List UInt8)} {i : Nat}, placeV key l = some i → l[i]? = some key ∧ ∀ j, j < i → l[j]? ≠ some key
  | key, k :: r, i, h => by
    rw [placeV] at h
    by_cases e : k = key
    · rw [if_pos e] at h
      obtain rfl := Option.some.inj h
      exact ⟨by rw [e]; rfl, fun j hj => absurd hj (by omega)⟩
    · rw [if_neg e] at h
      obtain ⟨j, hj, rfl⟩ := Option.map_eq_some_iff.1 h
      obtain ⟨h1, h2⟩ := place_some hj
      refine ⟨by simpa using h1, fun q hq => ?_⟩
      cases q with
      | zero => simpa using e
      | succ q => simpa using h2 q (by omega)
theorem place_none : ∀ {key : List UInt8} {l : List (List UInt8)}, placeV key l = none → key ∉ l
  | key, [], _ => by simp
  | key, k :: r, h => by
    rw [placeV] at h
    by_cases e : k = key
    · rw [if_pos e] at h; cases h
    · rw [if_neg e] at h
      have := place_none (Option.map_eq_none_iff.1 h)
      simp only [List.mem_cons, not_or]
      exact ⟨fun h => e h.symm, this⟩
theorem place_lt {key : List UInt8} {l : List (List UInt8)} {i : Nat} (h : placeV key l = some i) : i < l.length := (List.getElem?_eq_some_iff.1 (place_some h).1).1
/-- the value of a key -/
def getV (v : T_api_Value) (key : List UInt8) : T_api_Value × Bool :=
  if v.fKind = 5 ∧ v.fKeys.length = v.fList.length then (match placeV key v.fKeys with | some i => (v.fList.getD i v, true) | none => (z_T_api_Value, false)) else (z_T_api_Value, false)
theorem place_first {key : List UInt8} {l : List (List UInt8)} {q : Nat} (hq : l[q]? = some key) (hf : ∀ j, j < q → l[j]? ≠ some key) : placeV key l = some q := by
  cases h : placeV key l with
  | none => exact absurd (List.mem_of_getElem? hq) (place_none h)
  | some i =>
    obtain ⟨a, b⟩ := place_some h
    rcases Nat.lt_trichotomy i q with hl | hl | hl
    · exact absurd a (hf i hl)
    · rw [hl]
    · exact absurd hq (b q hl)
theorem small_zero : Small 1 z_T_api_Value := ⟨by simp, by simp, by simp, fun k hk => by simp at hk, fun x hx => by simp at hx⟩
theorem get_small {d : Nat} {v : T_api_Value} (h : Small (d + 1) v) (key : List UInt8) : Small (d + 1) (getV v key).1 := by
  unfold getV
  split
  · rename_i hc
    cases hpl : placeV key v.fKeys with
    | none => exact Small.le (by omega) small_zero
    | some i =>
      have := place_lt hpl
      have hm : v.fList.getD i v ∈ v.fList := by simp [List.getD, (by omega : i < v.fList.length)]
      exact Small.le (by omega) (h.2.2.2.2 _ hm)
  · exact Small.le (by omega) small_zero

end Go.Proofs.YtalifkcchfkgmaaDoor
end
