/-
  Texts of this claim, packed (what nothing names is left out): TreeM, S6, VkG, AllM, AllH, S1, S2, S3, SchemaP2, S5, SchemaP3, SchemaP4, SchemaP5, Q2h, Q2g, Q2i, TreeR, AllN, SchemaP6, Num. Own work, partly printed by own programs. No condition.
-/
import Derived.Test.YtocefedhenhbfaaDoorPkK2
import Derived.Test.YtocefedhenhbfaaDoorPkK1
import Derived.Test.YtocefedhenhbfaaDoorRows
set_option linter.unusedVariables false
set_option linter.unusedSimpArgs false
set_option maxHeartbeats 2000000
section
section
namespace Go.Proofs.YtocefedhenhbfaaDoor
open Go Go.Vc Go.RowKit
def Small : Nat → TD0 → Prop
  | 0, _ => False
  | d + 1, v => v.fList.length ≤ 3000 ∧ v.fKeys.length ≤ 3000 ∧ v.fText.length ≤ 5000 ∧ (∀ k ∈ v.fKeys, k.length ≤ 5000) ∧ ∀ x ∈ v.fList, Small d x
theorem walkVs_app : ∀ (l m : List TD0), walkVs (l ++ m) = walkVs l ++ walkVs m
 | [], m => by simp [walkVs]
 | x :: r, m => by simp [walkVs, walkVs_app r m]
theorem walkVs_take {l : List TD0} {i : Nat} {x : TD0} (h : l[i]? = some x) : walkVs (l.take (i + 1)) = walkVs (l.take i) ++ walkV x := by
 rw [List.take_add_one, h, walkVs_app]
 simp [walkVs]
theorem weight_ok {n : Nat} (hn : 3000 < n) : ∀ (k d : Nat) (v : TD0), d < k → d ≤ 1000 → ∃ W : Int, ref03_weight_k n k v (d : Int) = some W ∧ 0 ≤ W ∧ W ≤ 30010001 + 10000 * d ∧ (W ≤ 5000 → Small d v ∧ ((walkV v).length : Int) ≤ W)
 | 0, d, v, h, _ => absurd h (by omega)
 | k + 1, d, v, h, hd => by
  show ∃ W : Int, ref03_weight_b n (ref03_weight_k n k) v (d : Int) = some W ∧ _
  unfold ref03_weight_b
  by_cases h0 : d = 0 ∨ 3000 < v.fList.length ∨ 3000 < v.fKeys.length
  ·have e : (bif decide ((d : Int) = 0) then some true else bif decide ((3000 : Int) < ((v.fList.length : Nat) : Int)) then some true else some (decide ((3000 : Int) < ((v.fKeys.length : Nat) : Int))) : Option Bool) = some true := by
    by_cases a : (d : Int) = 0
    ·rw [decide_eq_true a, cT]
    ·rw [decide_eq_false a, cF]
     by_cases b : (3000 : Int) < ((v.fList.length : Nat) : Int)
     ·rw [decide_eq_true b, cT]
     ·rw [decide_eq_false b, cF, decide_eq_true (by omega)]
   rw [e, bnd, cT]
   exact ⟨10000, rfl, by omega, by omega, fun h => absurd h (by omega)⟩
  ·have e : (bif decide ((d : Int) = 0) then some true else bif decide ((3000 : Int) < ((v.fList.length : Nat) : Int)) then some true else some (decide ((3000 : Int) < ((v.fKeys.length : Nat) : Int))) : Option Bool) = some false := by
    rw [decide_eq_false (by omega), cF, decide_eq_false (by omega), cF, decide_eq_false (by omega)]
   rw [e, bnd, cF]
   obtain ⟨base, hbase⟩ : ∃ base : Int, base = (1 : Int) + (min (v.fText.length : Int) (10000 : Int)) := ⟨_, rfl⟩
   rw [← hbase, need_i (by omega) (by omega)]
   obtain ⟨y, hy, hy1, hy2, hy3⟩ := loop_inv (step := ref03_weight_s1 n v) (n := n) (s0 := (base, (0 : Int)))
    (fun k s => s.2 = (k : Int) ∧ base ≤ s.1 ∧ s.1 ≤ base + 10000 * k ∧ (s.1 ≤ 5000 → ∀ j, j < k → (v.fKeys.getD j []).length ≤ 5000))
    (fun b => base ≤ b ∧ b ≤ base + 10000 * v.fKeys.length ∧ (b ≤ 5000 → ∀ j, j < v.fKeys.length → (v.fKeys.getD j []).length ≤ 5000)) v.fKeys.length
    ⟨rfl, Int.le_refl _, by simp, fun _ j hj => absurd hj (by omega)⟩
    (fun q s hq hI => by
     obtain ⟨t, i⟩ := s
     obtain ⟨h1, h2, h3, h4⟩ := hI
     have h1' : i = (q : Int) := h1
     subst h1'
     left
     refine ⟨(t + min ((v.fKeys.getD q []).length : Int) 10000, (q : Int) + 1), ?_, by simp, ?_, ?_, ?_⟩
     ·show ref03_weight_s1 n v (t, (q : Int)) = _
      unfold ref03_weight_s1
      dsimp only at h2 h3 ⊢
      rw [decide_eq_true (by omega), cT, getI_at [] hq, bnd, need_i (by omega) (by omega), need_i (by omega) (by omega)]
     ·dsimp only at h2 ⊢; omega
     ·dsimp only at h3 ⊢; push_cast; omega
     ·dsimp only at h4 ⊢
      intro hle j hj
      by_cases hjq : j = q
      ·subst hjq; omega
      ·exact h4 (by omega) j (by omega))
    (fun s hI => by
     obtain ⟨t, i⟩ := s
     obtain ⟨h1, h2, h3, h4⟩ := hI
     have h1' : i = (v.fKeys.length : Int) := h1
     subst h1'
     refine ⟨t, ?_, h2, h3, h4⟩
     unfold ref03_weight_s1
     dsimp only
     rw [decide_eq_false (by omega), cF])
    (by omega)
   rw [hy, bnd]
   obtain ⟨z, hz, hz1, hz2, hz3⟩ := loop_inv (step := ref03_weight_s2 n (ref03_weight_k n k) v (d : Int)) (n := n) (s0 := (y, (0 : Int)))
    (fun k s => s.2 = (k : Int) ∧ y ≤ s.1 ∧ s.1 ≤ 30010001 + 10000 * d ∧ (s.1 ≤ 5000 → (∀ j x, j < k → v.fList[j]? = some x → Small (d - 1) x) ∧ ((walkVs (v.fList.take k)).length : Int) + 1 ≤ s.1))
    (fun b => y ≤ b ∧ b ≤ 30010001 + 10000 * d ∧ (b ≤ 5000 → (∀ j x, j < v.fList.length → v.fList[j]? = some x → Small (d - 1) x) ∧ ((walkVs v.fList).length : Int) + 1 ≤ b)) v.fList.length
    ⟨rfl, Int.le_refl _, by omega, fun _ => ⟨fun j x hj => absurd hj (by omega), by simp [walkVs]; omega⟩⟩
    (fun q s hq hI => by
     obtain ⟨t, i⟩ := s
     obtain ⟨h1, h2, h3, h4⟩ := hI
     have h1' : i = (q : Int) := h1
     subst h1'
     dsimp only at h2 h3 h4
     by_cases ht : t ≤ 10000
     ·left
      have hx : v.fList[q]? = some v.fList[q] := List.getElem?_eq_getElem hq
      obtain ⟨W, w1, w2, w3, w4⟩ := weight_ok hn k (d - 1) v.fList[q] (by omega) (by omega)
      have hd1 : ((d - 1 : Nat) : Int) = (d : Int) - 1 := by omega
      rw [hd1] at w1
      refine ⟨(t + W, (q : Int) + 1), ?_, by simp, ?_, ?_, ?_⟩
      ·show ref03_weight_s2 n (ref03_weight_k n k) v (d : Int) (t, (q : Int)) = _
       unfold ref03_weight_s2
       dsimp only
       have hg : getI v.fList (q : Int) = some v.fList[q] := by simp [getI]
       rw [decide_eq_true (by omega), cT, bnd, decide_eq_true ht, cT, hg, bnd, need_i (by omega) (by omega), w1, bnd, need_i (by omega) (by omega), need_i (by omega) (by omega)]
      ·dsimp only; omega
      ·dsimp only; omega
      ·dsimp only
       intro hle
       obtain ⟨s1, s2⟩ := h4 (by omega)
       obtain ⟨c1, c2⟩ := w4 (by omega)
       refine ⟨fun j x hj hjx => ?_, ?_⟩
       ·by_cases hjq : j = q
        ·subst hjq
         rw [hx] at hjx
         exact Option.some.inj hjx ▸ c1
        ·exact s1 j x (by omega) hjx
       ·rw [walkVs_take hx, List.length_append]
        omega
     ·right
      refine ⟨t, ?_, h2, h3, fun hle => absurd hle (by omega)⟩
      unfold ref03_weight_s2
      dsimp only
      rw [decide_eq_true (by omega), cT, bnd, decide_eq_false ht, cF])
    (fun s hI => by
     obtain ⟨t, i⟩ := s
     obtain ⟨h1, h2, h3, h4⟩ := hI
     have h1' : i = (v.fList.length : Int) := h1
     subst h1'
     dsimp only at h2 h3 h4
     rw [List.take_length] at h4
     refine ⟨t, ?_, h2, h3, h4⟩
     unfold ref03_weight_s2
     dsimp only
     rw [decide_eq_false (by omega), cF, bnd, cF])
    (by omega)
   rw [hz, bnd]
   refine ⟨z, rfl, by omega, hz2, fun hle => ?_⟩
   obtain ⟨s1, s2⟩ := hz3 hle
   have s3 := hy3 (by omega)
   obtain ⟨d, rfl⟩ : ∃ e, d = e + 1 := ⟨d - 1, by omega⟩
   refine ⟨⟨by omega, by omega, by omega, fun q hq => ?_, fun x hx => ?_⟩, ?_⟩
   ·obtain ⟨j, hj, rfl⟩ := List.getElem_of_mem hq
    have := s3 j hj
    simpa [hj] using this
   ·obtain ⟨j, hj, rfl⟩ := List.getElem_of_mem hx
    exact s1 j _ hj (List.getElem?_eq_getElem hj)
   ·rw [walkV_eq, List.length_cons]
    push_cast
    omega
end Go.Proofs.YtocefedhenhbfaaDoor
end
section
namespace Go.Proofs.YtocefedhenhbfaaDoor
open Go Go.Vc
theorem and_tab : ((List.range 256).all fun c => bAnd .i64 (c : Int) 31 == ((c % 32 : Nat) : Int) && (bAnd .i64 (c : Int) 15 == ((c % 16 : Nat) : Int) && bAnd .i64 (c : Int) 7 == ((c % 8 : Nat) : Int))) = true := by kernel_rfl
theorem and_low (c : UInt8) : bAnd .i64 (c.toNat : Int) 31 = ((c.toNat % 32 : Nat) : Int) ∧ bAnd .i64 (c.toNat : Int) 15 = ((c.toNat % 16 : Nat) : Int) ∧ bAnd .i64 (c.toNat : Int) 7 = ((c.toNat % 8 : Nat) : Int) := by
 have h := List.all_eq_true.1 and_tab c.toNat (List.mem_range.2 c.toNat_lt)
 simp only [Bool.and_eq_true, beq_iff_eq] at h
 exact h
theorem one_s1 {n : Nat} {s : List UInt8} {i k : Nat} {y : Int × Int × Int} {r w : Nat} (hy : y.1 = (w : Int)) (hk : k < w) (hi : i + w ≤ s.length) (hs : s.length < 1000000) (hr : r < 1000000000) :
  ref01_One_s1 n s i y ((r : Int), (k : Int)) = some (if (s.getD (i + k) 0).toNat / 64 = 2 then .nx (((64 * r + (s.getD (i + k) 0).toNat % 64 : Nat) : Int), ((k + 1 : Nat) : Int)) else .br (.inl ())) := by
 unfold ref01_One_s1
 dsimp only
 have e : (i : Int) + (k : Int) = ((i + k : Nat) : Int) := by omega
 rw [hy, decide_eq_true (by omega : (k : Int) < (w : Int)), cT, need_i (by omega) (by omega), e, getI_at 0 (by omega), bnd]
 have hb := (s.getD (i + k) 0).toNat_lt
 generalize (s.getD (i + k) 0) = b at hb ⊢
 by_cases h1 : b.toNat < 128
 ·rw [decide_eq_true (by omega : (b.toNat : Int) < 128), cT, bnd, cT, if_neg (by omega)]
 ·rw [decide_eq_false (by omega : ¬ (b.toNat : Int) < 128), cF, bnd]
  by_cases h2 : 191 < b.toNat
  ·rw [decide_eq_true (by omega : (191 : Int) < (b.toNat : Int)), cT, if_neg (by omega)]
  ·rw [decide_eq_false (by omega : ¬ (191 : Int) < (b.toNat : Int)), cF, if_pos (by omega), need_i (by omega) (by omega), need_i (by omega) (by omega), need_i (by omega) (by omega), need_i (by omega) (by omega)]
   congr 3
   ·omega
theorem one_s1e {n : Nat} {s : List UInt8} {i : Nat} {y : Int × Int × Int} {r : Int} {w : Nat} (hy : y.1 = (w : Int)) :
  ref01_One_s1 n s i y (r, (w : Int)) = some (.br (.inr r)) := by
 unfold ref01_One_s1
 dsimp only
 rw [hy, decide_eq_false (by omega : ¬ (w : Int) < (w : Int)), cF]
def contB (s : List UInt8) (i : Nat) : Bool := decide ((s.getD i 0).toNat / 64 = 2)
theorem one_l2 {n : Nat} {s : List UInt8} {i : Nat} {y : Int × Int × Int} {r : Nat} (hy : y.1 = 2) (hi : i + 2 ≤ s.length) (hs : s.length < 1000000) (hr : r < 100) (hn : 5 ≤ n) :
  loopF (ref01_One_s1 n s i y) n ((r : Int), (1 : Int)) = some (if contB s (i + 1) then .inr (((64 * r + (s.getD (i + 1) 0).toNat % 64 : Nat) : Int)) else .inl ()) := by
 obtain ⟨n, rfl⟩ : ∃ q, n = q + 5 := ⟨n - 5, by omega⟩
 have h1 := one_s1 (n := n + 5) (k := 1) (w := 2) hy (by omega) hi hs (by omega : r < 1000000000)
 rw [show ((1 : Nat) : Int) = 1 from rfl] at h1
 rw [loopF, h1, bnd]
 unfold contB
 by_cases h2 : (s.getD (i + 1) 0).toNat / 64 = 2
 ·rw [if_pos h2, if_pos (by simpa using h2)]
  show loopF _ (n + 4) _ = _
  rw [loopF, one_s1e (w := 2) hy, bnd]
 ·rw [if_neg h2, if_neg (by simpa using h2)]
theorem one_l3 {n : Nat} {s : List UInt8} {i : Nat} {y : Int × Int × Int} {r : Nat} (hy : y.1 = 3) (hi : i + 3 ≤ s.length) (hs : s.length < 1000000) (hr : r < 100) (hn : 5 ≤ n) :
  loopF (ref01_One_s1 n s i y) n ((r : Int), (1 : Int)) = some (if contB s (i + 1) && contB s (i + 2) then .inr (((64 * (64 * r + (s.getD (i + 1) 0).toNat % 64) + (s.getD (i + 2) 0).toNat % 64 : Nat) : Int)) else .inl ()) := by
 obtain ⟨n, rfl⟩ : ∃ q, n = q + 5 := ⟨n - 5, by omega⟩
 have h1 := one_s1 (n := n + 5) (k := 1) (w := 3) hy (by omega) hi hs (by omega : r < 1000000000)
 rw [show ((1 : Nat) : Int) = 1 from rfl] at h1
 rw [loopF, h1, bnd]
 unfold contB
 by_cases h2 : (s.getD (i + 1) 0).toNat / 64 = 2
 ·rw [if_pos h2]
  show loopF _ (n + 4) _ = _
  rw [loopF, one_s1 (n := n + 5) (k := 2) (w := 3) hy (by omega) hi hs (by omega), bnd]
  by_cases h3 : (s.getD (i + 2) 0).toNat / 64 = 2
  ·rw [if_pos h3, if_pos (by simp only [h2, h3]; rfl)]
   show loopF _ (n + 3) _ = _
   rw [loopF, one_s1e (w := 3) hy, bnd]
  ·rw [if_neg h3, if_neg (by simp only [h2, h3]; decide)]
 ·rw [if_neg h2, if_neg (by simp only [h2]; simp)]
theorem one_l4 {n : Nat} {s : List UInt8} {i : Nat} {y : Int × Int × Int} {r : Nat} (hy : y.1 = 4) (hi : i + 4 ≤ s.length) (hs : s.length < 1000000) (hr : r < 100) (hn : 5 ≤ n) :
  loopF (ref01_One_s1 n s i y) n ((r : Int), (1 : Int)) = some (if contB s (i + 1) && (contB s (i + 2) && contB s (i + 3)) then .inr (((64 * (64 * (64 * r + (s.getD (i + 1) 0).toNat % 64) + (s.getD (i + 2) 0).toNat % 64) + (s.getD (i + 3) 0).toNat % 64 : Nat) : Int)) else .inl ()) := by
 obtain ⟨n, rfl⟩ : ∃ q, n = q + 5 := ⟨n - 5, by omega⟩
 have h1 := one_s1 (n := n + 5) (k := 1) (w := 4) hy (by omega) hi hs (by omega : r < 1000000000)
 rw [show ((1 : Nat) : Int) = 1 from rfl] at h1
 rw [loopF, h1, bnd]
 unfold contB
 by_cases h2 : (s.getD (i + 1) 0).toNat / 64 = 2
 ·rw [if_pos h2]
  show loopF _ (n + 4) _ = _
  rw [loopF, one_s1 (n := n + 5) (k := 2) (w := 4) hy (by omega) hi hs (by omega), bnd]
  by_cases h3 : (s.getD (i + 2) 0).toNat / 64 = 2
  ·rw [if_pos h3]
   show loopF _ (n + 3) _ = _
   rw [loopF, one_s1 (n := n + 5) (k := 3) (w := 4) hy (by omega) hi hs (by omega), bnd]
   by_cases h4 : (s.getD (i + 3) 0).toNat / 64 = 2
   ·rw [if_pos h4, if_pos (by simp only [h2, h3, h4]; rfl)]
    show loopF _ (n + 2) _ = _
    rw [loopF, one_s1e (w := 4) hy, bnd]
   ·rw [if_neg h4, if_neg (by simp only [h2, h3, h4]; decide)]
  ·rw [if_neg h3, if_neg (by simp only [h2, h3]; simp)]
 ·rw [if_neg h2, if_neg (by simp only [h2]; simp)]
theorem one_ref {n : Nat} {s : List UInt8} {i : Nat} (hi : i < s.length) (hs : s.length < 1000000) (hn : 5 ≤ n) :
  ref01_One n s i = some (if (Lib.decodeL (s.drop i)).1 = 65533 ∧ (Lib.decodeL (s.drop i)).2 = 1 then (0, 0) else (((Lib.decodeL (s.drop i)).1 : Int), ((Lib.decodeL (s.drop i)).2 : Int))) := by
 rw [Lib.decodeL_N, List.length_drop, Lib.getD_dropU, Lib.getD_dropU, Lib.getD_dropU, Lib.getD_dropU, Nat.add_zero]
 unfold ref01_One
 rw [decide_eq_false (by omega : ¬ (i : Int) < 0), cF, decide_eq_false (by omega : ¬ (s.length : Int) ≤ (i : Int)), bnd, cF, getI_at 0 hi, bnd]
 have hb0 := (s.getD i 0).toNat_lt
 have hb1 := (s.getD (i + 1) 0).toNat_lt
 have hb2 := (s.getD (i + 2) 0).toNat_lt
 have hb3 := (s.getD (i + 3) 0).toNat_lt
 obtain ⟨a1, a2, a3⟩ := and_low (s.getD i 0)
 by_cases h0 : (s.getD i 0).toNat < 128
 ·rw [decide_eq_true (by omega : ((s.getD i 0).toNat : Int) < 128), cT, Lib.decodeN_ascii _ _ _ _ _ h0]
  rw [mpS, bnd, jB, if_neg (by dsimp only; omega)]
  rfl
 rw [decide_eq_false (by omega : ¬ ((s.getD i 0).toNat : Int) < 128), cF]
 generalize hD : Lib.decodeN (s.length - i) (s.getD i 0).toNat (s.getD (i + 1) 0).toNat (s.getD (i + 2) 0).toNat (s.getD (i + 3) 0).toNat = D
 have hB : D = (65533, 1) → some ((0 : Int), (0 : Int)) = some (if D.1 = 65533 ∧ D.2 = 1 then (0, 0) else ((D.1 : Int), (D.2 : Int))) := fun e => by rw [e]; rfl
 have hG : ∀ (R w : Nat), D = (R, w) → 1 < w → some ((R : Int), (w : Int)) = some (if D.1 = 65533 ∧ D.2 = 1 then (0, 0) else ((D.1 : Int), (D.2 : Int))) := fun R w e hw => by rw [e, if_neg (by dsimp only; omega)]
 have bad : (s.getD i 0).toNat < 192 ∨ 248 ≤ (s.getD i 0).toNat → D = (65533, 1) := fun hb => by
  rw [← hD]
  unfold Lib.decodeN
  rw [if_neg h0, if_neg (by omega), if_neg (by omega), if_neg (by omega)]
 by_cases h1 : 192 ≤ (s.getD i 0).toNat
 case neg =>
  rw [decide_eq_false (by omega : ¬ (192 : Int) ≤ ((s.getD i 0).toNat : Int)), cF, bnd, cF, decide_eq_false (by omega : ¬ (224 : Int) ≤ ((s.getD i 0).toNat : Int)), cF, bnd, cF, decide_eq_false (by omega : ¬ (240 : Int) ≤ ((s.getD i 0).toNat : Int)), cF, bnd, cF, mpS, bnd, jB]
  exact hB (bad (by omega))
 rw [decide_eq_true (by omega : (192 : Int) ≤ ((s.getD i 0).toNat : Int)), cT]
 by_cases h2 : (s.getD i 0).toNat < 224
 ·rw [decide_eq_true (by omega : ((s.getD i 0).toNat : Int) < 224), bnd, cT, a1, bnd]
  rw [jN]
  dsimp only
  rw [need_i (by omega) (by omega)]
  unfold Lib.decodeN at hD
  rw [if_neg h0] at hD
  by_cases hl : s.length < i + 2
  ·rw [decide_eq_true (by omega : (s.length : Int) < (i : Int) + 2), cT]
   exact hB (by rw [← hD, if_neg (by omega), if_neg (by omega), if_neg (by omega)])
  rw [decide_eq_false (by omega : ¬ (s.length : Int) < (i : Int) + 2), cF, one_l2 rfl (by omega) hs (by omega) hn, bnd]
  unfold contB
  by_cases hc : (s.getD (i + 1) 0).toNat / 64 = 2
  ·rw [if_pos (by simp only [hc]; rfl)]
   rw [if_pos ⟨by omega, by omega, hc⟩] at hD
   dsimp only
   generalize hR : (64 * ((s.getD i 0).toNat % 32) + (s.getD (i + 1) 0).toNat % 64) = R
   rw [show (s.getD i 0).toNat % 32 * 64 + (s.getD (i + 1) 0).toNat % 64 = R by omega] at hD
   have hR2 : R < 2048 := by omega
   by_cases hv : R ≥ 128
   ·rw [if_pos hv] at hD
    rw [decide_eq_false (by omega : ¬ (R : Int) < 128), cF, decide_eq_false (by omega : ¬ (1114111 : Int) < (R : Int)), cF, decide_eq_false (by omega : ¬ (55296 : Int) ≤ (R : Int)), cF, bnd, cF]
    exact hG R 2 hD.symm (by omega)
   ·rw [if_neg hv] at hD
    rw [decide_eq_true (by omega : (R : Int) < 128), cT, bnd, cT]
    exact hB hD.symm
  ·rw [if_neg (by simp only [hc]; decide)]
   exact hB (by rw [← hD, if_neg (by omega), if_neg (by omega), if_neg (by omega)])
 rw [decide_eq_false (by omega : ¬ ((s.getD i 0).toNat : Int) < 224), bnd, cF, decide_eq_true (by omega : (224 : Int) ≤ ((s.getD i 0).toNat : Int)), cT]
 by_cases h3 : (s.getD i 0).toNat < 240
 ·rw [decide_eq_true (by omega : ((s.getD i 0).toNat : Int) < 240), bnd, cT, a2, bnd]
  rw [jN]
  dsimp only
  rw [need_i (by omega) (by omega)]
  unfold Lib.decodeN at hD
  rw [if_neg h0, if_neg (by omega)] at hD
  by_cases hl : s.length < i + 3
  ·rw [decide_eq_true (by omega : (s.length : Int) < (i : Int) + 3), cT]
   exact hB (by rw [← hD, if_neg (by omega), if_neg (by omega)])
  rw [decide_eq_false (by omega : ¬ (s.length : Int) < (i : Int) + 3), cF, one_l3 rfl (by omega) hs (by omega) hn, bnd]
  unfold contB
  by_cases hc : (s.getD (i + 1) 0).toNat / 64 = 2 ∧ (s.getD (i + 2) 0).toNat / 64 = 2
  ·rw [if_pos (by simp only [hc]; rfl)]
   rw [if_pos ⟨by omega, ⟨by omega, hc.1⟩, by omega, hc.2⟩] at hD
   dsimp only
   generalize hR : (64 * (64 * ((s.getD i 0).toNat % 16) + (s.getD (i + 1) 0).toNat % 64) + (s.getD (i + 2) 0).toNat % 64) = R
   rw [show (s.getD i 0).toNat % 16 * 4096 + (s.getD (i + 1) 0).toNat % 64 * 64 + (s.getD (i + 2) 0).toNat % 64 = R by omega] at hD
   have hR2 : R < 65536 := by omega
   by_cases hv : R < 2048
   ·rw [decide_eq_true (by omega : (R : Int) < 2048), cT, bnd, cT]
    exact hB (by rw [← hD, if_neg (by omega)])
   rw [decide_eq_false (by omega : ¬ (R : Int) < 2048), cF, decide_eq_false (by omega : ¬ (1114111 : Int) < (R : Int)), cF]
   by_cases hv2 : 55296 ≤ R
   ·rw [decide_eq_true (by omega : (55296 : Int) ≤ (R : Int)), cT, bnd]
    by_cases hv3 : R ≤ 57343
    ·rw [decide_eq_true (by omega : (R : Int) ≤ 57343), cT]
     exact hB (by rw [← hD, if_neg (by omega)])
    ·rw [decide_eq_false (by omega : ¬ (R : Int) ≤ 57343), cF]
     exact hG R 3 (by rw [← hD, if_pos (by omega)]) (by omega)
   ·rw [decide_eq_false (by omega : ¬ (55296 : Int) ≤ (R : Int)), cF, bnd, cF]
    exact hG R 3 (by rw [← hD, if_pos (by omega)]) (by omega)
  ·rw [if_neg (by simp only [Bool.and_eq_true, decide_eq_true_eq]; exact hc)]
   exact hB (by rw [← hD, if_neg (by omega), if_neg (by omega)])
 rw [decide_eq_false (by omega : ¬ ((s.getD i 0).toNat : Int) < 240), bnd, cF, decide_eq_true (by omega : (240 : Int) ≤ ((s.getD i 0).toNat : Int)), cT]
 by_cases h4 : (s.getD i 0).toNat < 248
 ·rw [decide_eq_true (by omega : ((s.getD i 0).toNat : Int) < 248), bnd, cT, a3, bnd]
  rw [jN]
  dsimp only
  rw [need_i (by omega) (by omega)]
  unfold Lib.decodeN at hD
  rw [if_neg h0, if_neg (by omega), if_neg (by omega)] at hD
  by_cases hl : s.length < i + 4
  ·rw [decide_eq_true (by omega : (s.length : Int) < (i : Int) + 4), cT]
   exact hB (by rw [← hD, if_neg (by omega)])
  rw [decide_eq_false (by omega : ¬ (s.length : Int) < (i : Int) + 4), cF, one_l4 rfl (by omega) hs (by omega) hn, bnd]
  unfold contB
  by_cases hc : (s.getD (i + 1) 0).toNat / 64 = 2 ∧ (s.getD (i + 2) 0).toNat / 64 = 2 ∧ (s.getD (i + 3) 0).toNat / 64 = 2
  ·rw [if_pos (by simp only [hc]; rfl)]
   rw [if_pos ⟨by omega, ⟨by omega, hc.1⟩, ⟨by omega, hc.2.1⟩, by omega, hc.2.2⟩] at hD
   dsimp only
   generalize hR : (64 * (64 * (64 * ((s.getD i 0).toNat % 8) + (s.getD (i + 1) 0).toNat % 64) + (s.getD (i + 2) 0).toNat % 64) + (s.getD (i + 3) 0).toNat % 64) = R
   rw [show (s.getD i 0).toNat % 8 * 262144 + (s.getD (i + 1) 0).toNat % 64 * 4096 + (s.getD (i + 2) 0).toNat % 64 * 64 + (s.getD (i + 3) 0).toNat % 64 = R by omega] at hD
   have hR2 : R < 16777216 := by omega
   by_cases hv : R < 65536
   ·rw [decide_eq_true (by omega : (R : Int) < 65536), cT, bnd, cT]
    exact hB (by rw [← hD, if_neg (by omega)])
   rw [decide_eq_false (by omega : ¬ (R : Int) < 65536), cF]
   by_cases hv2 : 1114111 < R
   ·rw [decide_eq_true (by omega : (1114111 : Int) < (R : Int)), cT, bnd, cT]
    exact hB (by rw [← hD, if_neg (by omega)])
   ·rw [decide_eq_false (by omega : ¬ (1114111 : Int) < (R : Int)), cF, decide_eq_true (by omega : (55296 : Int) ≤ (R : Int)), cT, bnd, decide_eq_false (by omega : ¬ (R : Int) ≤ 57343), cF]
    exact hG R 4 (by rw [← hD, if_pos (by omega)]) (by omega)
  ·rw [if_neg (by simp only [Bool.and_eq_true, decide_eq_true_eq]; exact hc)]
   exact hB (by rw [← hD, if_neg (by omega)])
 rw [decide_eq_false (by omega : ¬ ((s.getD i 0).toNat : Int) < 248), bnd, cF, mpS, bnd, jB]
 exact hB (bad (by omega))
theorem valid_loop {n : Nat} {s : List UInt8} (hs : s.length < 1000000) (hn : 5 ≤ n) : ∀ (m i : Nat), s.length ≤ i + m → i ≤ s.length → ∀ q, m < q → loopF (ref01_Valid_s1 n s) q (i : Int) = some (if Lib.validD (s.drop i) then .inr () else .inl ())
 | 0, i, hm, hi, q, hq => by
  obtain ⟨q, rfl⟩ : ∃ r, q = r + 1 := ⟨q - 1, by omega⟩
  have e : s.drop i = [] := List.drop_eq_nil_of_le (by omega)
  rw [loopF, e]
  unfold ref01_Valid_s1
  rw [decide_eq_false (by omega), cF, bnd]
  rfl
 | m + 1, i, hm, hi, q, hq => by
  obtain ⟨q, rfl⟩ : ∃ r, q = r + 1 := ⟨q - 1, by omega⟩
  by_cases hlt : i < s.length
  ·have hne : s.drop i ≠ [] := fun e => by
    have := congrArg List.length e
    rw [List.length_drop] at this
    simp at this
    omega
   have hst : ref01_Valid_s1 n s (i : Int) = some (if (Lib.decodeL (s.drop i)).1 = 65533 ∧ (Lib.decodeL (s.drop i)).2 = 1 then .br (.inl ()) else .nx (((i + (Lib.decodeL (s.drop i)).2 : Nat) : Int))) := by
    unfold ref01_Valid_s1
    rw [decide_eq_true (by omega : (i : Int) < (s.length : Int)), cT, one_ref hlt hs hn, bnd]
    by_cases hb : (Lib.decodeL (s.drop i)).1 = 65533 ∧ (Lib.decodeL (s.drop i)).2 = 1
    ·rw [if_pos hb, if_pos hb]
     rfl
    ·rw [if_neg hb, if_neg hb]
     have hw := Lib.decodeL_width (s.drop i)
     have hw4 : (Lib.decodeL (s.drop i)).2 ≤ 4 := by
      rcases dec_cases (s.drop i) hne with ⟨e, _⟩ | ⟨r, w, e, h1, h2, h3, _⟩
      ·rw [e]; decide
      ·rw [e]; exact h3
     dsimp only
     rw [decide_eq_false (by omega), cF, need_i (by omega) (by omega)]
     rfl
   rw [loopF, hst, bnd, Lib.validD_step _ hne]
   by_cases hb : (Lib.decodeL (s.drop i)).1 = 65533 ∧ (Lib.decodeL (s.drop i)).2 = 1
   ·rw [if_pos hb, if_pos hb]
    rfl
   ·rw [if_neg hb, if_neg hb]
    have hw := Lib.decodeL_width (s.drop i)
    have hle : (Lib.decodeL (s.drop i)).2 ≤ s.length - i := by
     rcases dec_cases (s.drop i) hne with ⟨e, _⟩ | ⟨r, w, e, h1, _⟩
     ·rw [e] at hb; exact absurd ⟨rfl, rfl⟩ hb
     ·rw [e]; rw [List.length_drop] at h1; exact h1
    dsimp only
    rw [valid_loop hs hn m _ (by omega) (by omega) q (by omega), List.drop_drop]
  ·have e : s.drop i = [] := List.drop_eq_nil_of_le (by omega)
   rw [loopF, e]
   unfold ref01_Valid_s1
   rw [decide_eq_false (by omega), cF, bnd]
   rfl
theorem valid_ref {n : Nat} {s : List UInt8} (hs : s.length < 1000000) (hn : 5 ≤ n) (hl : s.length < n) : ref01_Valid n s = some (Lib.validD s) := by
 unfold ref01_Valid
 have h := valid_loop hs hn s.length 0 (by omega) (by omega) n hl
 rw [show ((0 : Nat) : Int) = 0 from rfl, List.drop_zero] at h
 rw [h, bnd]
 cases Lib.validD s <;> rfl
end Go.Proofs.YtocefedhenhbfaaDoor
end
section
namespace Go.Proofs.YtocefedhenhbfaaDoor
open Go Go.Vc Go.RowKit
theorem great_ok {n : Nat} (hn : 3000 < n) (v : TD0) : ∃ g, ref03_Great n v = some g ∧ (g = false → Small 30 v ∧ (walkV v).length ≤ 5000) := by
 obtain ⟨W, w1, w2, w3, w4⟩ := weight_ok hn n 30 v (by omega) (by omega)
 refine ⟨decide ((5000 : Int) < W), ?_, fun h => ?_⟩
 ·unfold ref03_Great ref03_weight
  have e : ((30 : Nat) : Int) = 30 := rfl
  rw [e] at w1
  rw [w1, bnd]
 ·have h' := of_decide_eq_false h
  obtain ⟨a, b⟩ := w4 (by omega)
  exact ⟨a, by omega⟩
theorem wvs_mem : ∀ {l : List TD0} {x : TD0}, x ∈ l → (walkV x).length ≤ (walkVs l).length
 | y :: r, x, h => by
  rw [walkVs, List.length_append]
  rcases List.mem_cons.1 h with rfl | h
  ·omega
  ·have := wvs_mem h
   omega
theorem walkVs_le (l : List TD0) (i : Nat) : (walkVs (l.take i)).length ≤ (walkVs l).length := by
 have := congrArg List.length (walkVs_app (l.take i) (l.drop i))
 rw [List.take_append_drop, List.length_append] at this
 omega
theorem walk_k_ok {n : Nat} (hn : 3000 < n) : ∀ (k d : Nat) (v : TD0), d ≤ k → Small d v → (walkV v).length ≤ 5000 → ref03_Walk_k n k v = some (walkV v)
 | _, 0, v, _, h, _ => h.elim
 | 0, d + 1, v, h, _, _ => absurd h (by omega)
 | k + 1, d + 1, v, hk, hs, hl => by
  obtain ⟨h1, h2, h3, h4, h5⟩ := hs
  show ref03_Walk_b n (ref03_Walk_k n k) v = _
  unfold ref03_Walk_b
  have hw : (walkV v).length = (walkVs v.fList).length + 1 := by rw [walkV_eq, List.length_cons]
  have := loop_all (step := ref03_Walk_s1 n (ref03_Walk_k n k) v) (n := n) (fun q => (v :: walkVs (v.fList.take q), (q : Int))) v.fList.length (walkV v) (fun q hq => by
   have hx : v.fList[q]? = some v.fList[q] := List.getElem?_eq_getElem hq
   have hg : getI v.fList (q : Int) = some v.fList[q] := by simp [getI]
   have hm : v.fList[q] ∈ v.fList := List.getElem_mem hq
   have hml := wvs_mem hm
   have htl := walkVs_le v.fList q
   unfold ref03_Walk_s1
   dsimp only
   rw [decide_eq_true (by omega), cT, hg, bnd, walk_k_ok hn k d v.fList[q] (by omega) (h5 _ hm) (by omega), bnd, need_t (by rw [List.length_cons]; omega), need_i (by omega) (by omega), walkVs_take hx]
   rfl) (by
   unfold ref03_Walk_s1
   dsimp only
   rw [decide_eq_false (by omega), cF, List.take_length, walkV_eq]) (by omega)
  have e0 : ((0 : Nat) : Int) = 0 := rfl
  simp only [List.take_zero, walkVs, e0] at this
  have ev : (⟨v.fKind, (v.fBool), v.fNum, v.fText, v.fList, v.fKeys⟩ : TD0) = v := by cases v; rfl
  rw [ev]
  rw [this, bnd]
end Go.Proofs.YtocefedhenhbfaaDoor
end
section
namespace Go.Proofs.YtocefedhenhbfaaDoor
open Go Go.Vc Go.RowKit
def thenC (a b : Int) : Int := bif decide (a = 0) then b else a
def cmpI (a b : Int) : Int := bif decide (a < b) then -1 else bif decide (b < a) then 1 else 0
def bitI (b : Bool) : Int := bif b then 1 else 0
theorem thenC0 (b : Int) : thenC 0 b = b := rfl
theorem thenCn {a : Int} (b : Int) (h : a ≠ 0) : thenC a b = a := by unfold thenC; rw [decide_eq_false h, cF]
mutual
def cmpV : TD0 → TD0 → Int
  | ⟨k, b, n, t, l, ks⟩, w => thenC (cmpI k w.fKind) (thenC (cmpI (bitI b) (bitI w.fBool)) (thenC (cmpI n w.fNum) (thenC (Lib.compareBytes t w.fText) (cmpVs (decide (k = 5)) l ks w.fList w.fKeys))))
def cmpVs (o : Bool) : List TD0 → List (List UInt8) → List TD0 → List (List UInt8) → Int
  | [], _, [], _ => 0
  | [], _, _ :: _, _ => -1
  | _ :: _, _, [], _ => 1
  | x :: l, ks, y :: m, js => thenC (bif o then Lib.compareBytes (ks.headD []) (js.headD []) else 0) (thenC (cmpV x y) (cmpVs o l ks.tail m js.tail))
end
theorem cmpV_eq (v w : TD0) : cmpV v w = thenC (cmpI v.fKind w.fKind) (thenC (cmpI (bitI v.fBool) (bitI w.fBool)) (thenC (cmpI v.fNum w.fNum) (thenC (Lib.compareBytes v.fText w.fText) (cmpVs (decide (v.fKind = 5)) v.fList v.fKeys w.fList w.fKeys)))) := by
 cases v; rw [cmpV]
def Tr (a b c : Int) : Prop := (a ≤ 0 → b ≤ 0 → c ≤ 0) ∧ (a ≤ 0 → b ≤ 0 → a < 0 ∨ b < 0 → c < 0) ∧ (a = 0 → b = 0 → c = 0)
theorem Tr.then {a b c a' b' c' : Int} (h : Tr a b c) (h' : a = 0 → b = 0 → Tr a' b' c') : Tr (thenC a a') (thenC b b') (thenC c c') := by
 obtain ⟨h1, h2, h3⟩ := h
 by_cases ha : a = 0
 ·by_cases hb : b = 0
  ·have hc := h3 ha hb
   subst ha hb hc
   rw [thenC0, thenC0, thenC0]
   exact h' rfl rfl
  ·subst ha
   rw [thenC0, thenCn b' hb]
   by_cases hc : c = 0
   ·exact ⟨fun x y => by have := h2 (by omega) y (.inr (by omega)); omega, fun x y _ => by have := h2 (by omega) y (.inr (by omega)); omega, fun _ y => absurd y hb⟩
   ·rw [thenCn c' hc]
    exact ⟨fun x y => by have := h2 (by omega) y (.inr (by omega)); omega, fun x y _ => by have := h2 (by omega) y (.inr (by omega)); omega, fun _ y => absurd y hb⟩
 ·rw [thenCn a' ha]
  have key : a ≤ 0 → thenC b b' ≤ 0 → c < 0 := fun x y => by
   by_cases hb : b = 0
   ·exact h2 x (by omega) (.inl (by omega))
   ·rw [thenCn b' hb] at y
    exact h2 x y (.inl (by omega))
  have key2 : a ≤ 0 → thenC b b' ≤ 0 → thenC c c' < 0 := fun x y => by
   have := key x y
   rw [thenCn c' (by omega)]
   exact this
  exact ⟨fun x y => Int.le_of_lt (key2 x y), fun x y _ => key2 x y, fun x _ => absurd x ha⟩
theorem cmpI_cases (a b : Int) : (a < b ∧ cmpI a b = -1) ∨ (a = b ∧ cmpI a b = 0) ∨ (b < a ∧ cmpI a b = 1) := by
 unfold cmpI
 rcases Int.lt_trichotomy a b with h | h | h
 ·exact .inl ⟨h, by rw [decide_eq_true h, cT]⟩
 ·subst h; exact .inr (.inl ⟨rfl, by rw [decide_eq_false (by omega), cF, cF]⟩)
 ·exact .inr (.inr ⟨h, by rw [decide_eq_false (by omega), cF, decide_eq_true h, cT]⟩)
theorem cmpI_zero {a b : Int} (h : cmpI a b = 0) : a = b := by
 unfold cmpI at h
 by_cases h1 : a < b
 ·rw [decide_eq_true h1, cT] at h; omega
 ·rw [decide_eq_false h1, cF] at h
  by_cases h2 : b < a
  ·rw [decide_eq_true h2, cT] at h; omega
  ·omega
theorem thenC_zero {a b : Int} (h : thenC a b = 0) : a = 0 ∧ b = 0 := by
 by_cases e : a = 0
 ·subst e; exact ⟨rfl, h⟩
 ·rw [thenCn b e] at h; exact absurd h e
theorem cmpI_range (a b : Int) : -1 ≤ cmpI a b ∧ cmpI a b ≤ 1 := by
 have := cmpI_cases a b
 omega
theorem cb_range : ∀ a b : List UInt8, -1 ≤ Lib.compareBytes a b ∧ Lib.compareBytes a b ≤ 1
 | [], [] => by simp [Lib.compareBytes]
 | [], _ :: _ => by simp [Lib.compareBytes]
 | _ :: _, [] => by simp [Lib.compareBytes]
 | x :: r, y :: s => by
  have := cb_range r s
  unfold Lib.compareBytes
  split
  ·omega
  ·split <;> omega
end Go.Proofs.YtocefedhenhbfaaDoor
end
section
namespace Go.Proofs.YtocefedhenhbfaaDoor
open Go Go.Vc Go.RowKit
def PlainV (v : TD0) : Prop := 0 ≤ v.fKind ∧ v.fKind ≤ 5 ∧ (v.fBool = true → v.fKind = 1) ∧ (v.fNum ≠ 0 → v.fKind = 2) ∧ (v.fText ≠ [] → v.fKind = 3) ∧ (v.fList.length ≠ 0 → v.fKind = 4 ∨ v.fKind = 5) ∧ (v.fKind = 5 → v.fKeys.length = v.fList.length) ∧ (v.fKind ≠ 5 → v.fKeys.length = 0)
instance (v : TD0) : Decidable (PlainV v) := by unfold PlainV; exact inferInstance
def aloneV (v : TD0) : Int :=
  if PlainV v then (if v.fNum < -9007199254740992 ∨ 9007199254740992 < v.fNum then 20 else if Lib.validD v.fText = true ∧ ∀ k ∈ v.fKeys, Lib.validD k = true then (if v.fKeys.Nodup then 0 else 41) else 10) else 2
def NumOut (v : TD0) : Prop := v.fNum < -9007199254740992 ∨ 9007199254740992 < v.fNum
def TextsOk (v : TD0) : Prop := Lib.validD v.fText = true ∧ ∀ k ∈ v.fKeys, Lib.validD k = true
theorem alone_2 {v : TD0} (h : ¬ PlainV v) : aloneV v = 2 := if_neg h
theorem alone_20 {v : TD0} (h : PlainV v) (hn : NumOut v) : aloneV v = 20 := (if_pos h).trans (if_pos hn)
theorem alone_10 {v : TD0} (h : PlainV v) (hn : ¬ NumOut v) (ht : ¬ TextsOk v) : aloneV v = 10 := ((if_pos h).trans (if_neg hn)).trans (if_neg ht)
theorem alone_41 {v : TD0} (h : PlainV v) (hn : ¬ NumOut v) (ht : TextsOk v) (hd : ¬ v.fKeys.Nodup) : aloneV v = 41 := (((if_pos h).trans (if_neg hn)).trans (if_pos ht)).trans (if_neg hd)
theorem alone_0 {v : TD0} (h : PlainV v) (hn : ¬ NumOut v) (ht : TextsOk v) (hd : v.fKeys.Nodup) : aloneV v = 0 := (((if_pos h).trans (if_neg hn)).trans (if_pos ht)).trans (if_pos hd)
theorem alone_ok {v : TD0} (h : aloneV v = 0) : PlainV v ∧ ¬ NumOut v ∧ TextsOk v ∧ v.fKeys.Nodup := by
 by_cases h1 : PlainV v
 ·by_cases h2 : NumOut v
  ·rw [alone_20 h1 h2] at h; omega
  ·by_cases h3 : TextsOk v
   ·by_cases h4 : v.fKeys.Nodup
    ·exact ⟨h1, h2, h3, h4⟩
    ·rw [alone_41 h1 h2 h3 h4] at h; omega
   ·rw [alone_10 h1 h2 h3] at h; omega
 ·rw [alone_2 h1] at h; omega
def Wide (v : TD0) : Prop := v.fList.length ≤ 3000 ∧ v.fKeys.length ≤ 3000 ∧ v.fText.length ≤ 5000 ∧ ∀ k ∈ v.fKeys, k.length ≤ 5000
theorem Small.wide : ∀ {d : Nat} {v : TD0}, Small d v → Wide v
 | _ + 1, _, h => ⟨h.1, h.2.1, h.2.2.1, h.2.2.2.1⟩
theorem plain_ref {n : Nat} (v : TD0) : ref03_plain n v = some (decide (PlainV v)) := by
  unfold ref03_plain
  by_cases h0 : v.fKind < 0
  · rw [decide_eq_true h0, cT, bnd, cT, decide_eq_false (fun h => by have := h.1; omega)]
  rw [decide_eq_false h0, cF, bnd]
  by_cases h5 : 5 < v.fKind
  · rw [decide_eq_true h5, cT, decide_eq_false (fun h => by have := h.2.1; omega)]
  rw [decide_eq_false h5, cF]
  have key : ((bif v.fBool then
        (bif (!(decide (v.fKind = 1))) then
          (some ((true)))
        else
          bif (!(decide (v.fNum = 0))) then
            (bif (!(decide (v.fKind = 2))) then
              (some ((true)))
            else
              bif (!(decide (v.fText = []))) then
                (some ((!(decide (v.fKind = 3)))))
              else
                some ((false)))
          else
            bif (!(decide (v.fText = []))) then
              (some ((!(decide (v.fKind = 3)))))
            else
              some ((false)))
      else
        bif (!(decide (v.fNum = 0))) then
          (bif (!(decide (v.fKind = 2))) then
            (some ((true)))
          else
            bif (!(decide (v.fText = []))) then
              (some ((!(decide (v.fKind = 3)))))
            else
              some ((false)))
        else
          bif (!(decide (v.fText = []))) then
            (some ((!(decide (v.fKind = 3)))))
          else
            some ((false)) : Option Bool)) = some (!decide ((v.fBool = true → v.fKind = 1) ∧ (v.fNum ≠ 0 → v.fKind = 2) ∧ (v.fText ≠ [] → v.fKind = 3))) := by
    cases v.fBool <;> by_cases h1 : v.fKind = 1 <;> by_cases h2 : v.fKind = 2 <;> by_cases h3 : v.fKind = 3 <;> by_cases hn : v.fNum = 0 <;> by_cases ht : v.fText = [] <;> simp [h1, h2, h3, hn, ht]
  rw [key, bnd]
  by_cases hk : (v.fBool = true → v.fKind = 1) ∧ (v.fNum ≠ 0 → v.fKind = 2) ∧ (v.fText ≠ [] → v.fKind = 3)
  · rw [decide_eq_true hk, Bool.not_true, cF]
    by_cases hl : v.fList.length = 0
    · rw [decide_eq_false (by omega), cF, bnd, cF]
      by_cases e5 : v.fKind = 5
      · rw [decide_eq_true e5, cT]
        refine congrArg some (decide_eq_decide.2 ?_)
        unfold PlainV
        constructor
        · intro h; exact ⟨by omega, by omega, hk.1, hk.2.1, hk.2.2, fun h => absurd hl h, fun _ => by omega, fun h => absurd e5 h⟩
        · intro h; have := h.2.2.2.2.2.2.1 e5; omega
      · rw [decide_eq_false e5, cF]
        refine congrArg some (decide_eq_decide.2 ?_)
        unfold PlainV
        constructor
        · intro h; exact ⟨by omega, by omega, hk.1, hk.2.1, hk.2.2, fun h => absurd hl h, fun h => absurd h e5, fun _ => by omega⟩
        · intro h; have := h.2.2.2.2.2.2.2 e5; omega
    · rw [decide_eq_true (by omega), cT]
      by_cases e4 : v.fKind = 4
      · rw [decide_eq_true e4, Bool.not_true, cF, bnd, cF, decide_eq_false (by omega), cF]
        refine congrArg some (decide_eq_decide.2 ?_)
        unfold PlainV
        constructor
        · intro h; exact ⟨by omega, by omega, hk.1, hk.2.1, hk.2.2, fun h => .inl e4, fun h => by omega, fun _ => by omega⟩
        · intro h; have := h.2.2.2.2.2.2.2 (by omega); omega
      · rw [decide_eq_false e4, Bool.not_false, cT]
        by_cases e5 : v.fKind = 5
        · rw [decide_eq_true e5, Bool.not_true, bnd, cF, cT]
          refine congrArg some (decide_eq_decide.2 ?_)
          unfold PlainV
          constructor
          · intro h; exact ⟨by omega, by omega, hk.1, hk.2.1, hk.2.2, fun h => .inr e5, fun _ => by omega, fun h => absurd e5 h⟩
          · intro h; have := h.2.2.2.2.2.2.1 e5; omega
        · rw [decide_eq_false e5, Bool.not_false, bnd, cT, decide_eq_false]
          intro h
          have := h.2.2.2.2.2.1 hl
          omega
  · rw [decide_eq_false hk, Bool.not_false, cT, decide_eq_false]
    intro h
    exact hk ⟨h.2.2.1, h.2.2.2.1, h.2.2.2.2.1⟩
theorem mem_take_succ {α : Type} {l : List α} {i : Nat} {x : α} (h : l[i]? = some x) (y : α) : y ∈ l.take (i + 1) ↔ y ∈ l.take i ∨ y = x := by
 rw [List.take_add_one, h, List.mem_append]
 simp
theorem nodup_take_succ {α : Type} {l : List α} {i : Nat} {x : α} (h : l[i]? = some x) : (l.take (i + 1)).Nodup ↔ (l.take i).Nodup ∧ x ∉ l.take i := by
 rw [List.take_add_one, h]
 simp only [Option.toList_some, List.nodup_append]
 constructor
 ·rintro ⟨h1, _, h3⟩
  exact ⟨h1, fun hx => h3 x hx x (by simp) rfl⟩
 ·rintro ⟨h1, h2⟩
  refine ⟨h1, by simp, fun a ha b hb => ?_⟩
  simp only [List.mem_singleton] at hb
  subst hb
  intro e
  exact h2 (e ▸ ha)
theorem nodup_of_take {α : Type} {l : List α} (i : Nat) (h : l.Nodup) : (l.take i).Nodup := (List.take_sublist i l).nodup h
theorem keys_ref {n : Nat} (hn : 6000 < n) {v : TD0} (hw : Wide v) : loopF (ref03_wrong_s1 n v) n (0 : Int) = some (bif v.fKeys.any (fun k => !Lib.validD k) then .inl () else .inr ()) := by
 rw [← any_range [] (fun k => !Lib.validD k) v.fKeys]
 refine loop_any (fun k => !Lib.validD (v.fKeys.getD k [])) v.fKeys.length _ _ (fun k hk => ?_) ?_ (by have := hw.2.1; omega)
 ·unfold ref03_wrong_s1
  have hm : v.fKeys.getD k [] ∈ v.fKeys := by simp [List.getD, hk]
  have hl := hw.2.2.2 _ hm
  rw [decide_eq_true (by omega), cT, getI_at [] hk, bnd, valid_ref (by omega) (by omega) (by omega), bnd]
  cases Lib.validD (v.fKeys.getD k []) with
  | true => rw [Bool.not_true, cF, need_i (by omega) (by have := hw.2.1; omega)]; simp
  | false => rw [Bool.not_false, cT]; simp
 ·unfold ref03_wrong_s1
  rw [decide_eq_false (by omega), cF]
theorem twice_in {n : Nat} (hn : 6000 < n) {v : TD0} (hw : Wide v) {i : Nat} (hi : i < v.fKeys.length) : loopF (ref03_wrong_s3 n v (i : Int)) n (0 : Int) = some (bif (List.range i).any (fun k => decide (v.fKeys.getD k [] = v.fKeys.getD i [])) then .inl () else .inr ()) := by
 refine loop_any (fun k => decide (v.fKeys.getD k [] = v.fKeys.getD i [])) i _ _ (fun k hk => ?_) ?_ (by have := hw.2.1; omega)
 ·unfold ref03_wrong_s3
  rw [decide_eq_true (by omega), cT, getI_at [] (by omega), bnd, getI_at [] hi, bnd]
  by_cases h : v.fKeys.getD k [] = v.fKeys.getD i []
  ·rw [decide_eq_true h, cT]; simp
  ·rw [decide_eq_false h, cF, need_i (by omega) (by have := hw.2.1; omega)]; simp
 ·unfold ref03_wrong_s3
  rw [decide_eq_false (by omega), cF]
theorem any_take {l : List (List UInt8)} {i : Nat} (hi : i < l.length) : (List.range i).any (fun k => decide (l.getD k [] = l.getD i [])) = decide (l[i] ∈ l.take i) := by
 rw [Bool.eq_iff_iff, List.any_eq_true, decide_eq_true_eq, List.mem_take_iff_getElem]
 constructor
 ·rintro ⟨k, hk, h⟩
  have hk' : k < i := by simpa using hk
  refine ⟨k, by omega, ?_⟩
  have := of_decide_eq_true h
  simpa [List.getD, hi, (by omega : k < l.length)] using this
 ·rintro ⟨k, hk, h⟩
  refine ⟨k, List.mem_range.2 (by omega), ?_⟩
  simpa [List.getD, hi, (by omega : k < l.length)] using h
theorem twice_ref {n : Nat} (hn : 6000 < n) {v : TD0} (hw : Wide v) : loopF (ref03_wrong_s2 n v) n (0 : Int) = some (bif decide v.fKeys.Nodup then .inr () else .inl ()) := by
 obtain ⟨b, hb, hp⟩ := loop_inv (step := ref03_wrong_s2 n v) (n := n) (s0 := (0 : Int)) (fun k s => s = (k : Int) ∧ (v.fKeys.take k).Nodup)
  (fun b => b = bif decide v.fKeys.Nodup then .inr () else .inl ()) v.fKeys.length ⟨rfl, by simp⟩
  (fun q s hq hI => by
   obtain ⟨rfl, hnd⟩ := hI
   unfold ref03_wrong_s2
   rw [decide_eq_true (by omega), cT, twice_in hn hw hq, bnd, any_take hq]
   have hx : v.fKeys[q]? = some v.fKeys[q] := List.getElem?_eq_getElem hq
   by_cases hm : v.fKeys[q] ∈ v.fKeys.take q
   ·rw [decide_eq_true hm, cT]
    refine .inr ⟨_, rfl, ?_⟩
    rw [decide_eq_false, cF]
    intro h
    exact ((nodup_take_succ hx).1 (nodup_of_take (q + 1) h)).2 hm
   ·rw [decide_eq_false hm, cF]
    dsimp only
    rw [need_i (by omega) (by have := hw.2.1; omega)]
    exact .inl ⟨_, rfl, by omega, (nodup_take_succ hx).2 ⟨hnd, hm⟩⟩)
  (fun s hI => by
   obtain ⟨rfl, hnd⟩ := hI
   rw [List.take_length] at hnd
   unfold ref03_wrong_s2
   rw [decide_eq_false (by omega), cF]
   exact ⟨_, rfl, by rw [decide_eq_true hnd, cT]⟩) (by have := hw.2.1; omega)
 rw [hb, hp]
def faultL : List TD0 → Int
  | [] => 0
  | x :: r => if aloneV x = 0 then faultL r else aloneV x
theorem faultL_app : ∀ l m : List TD0, faultL (l ++ m) = if faultL l = 0 then faultL m else faultL l
 | [], m => by simp [faultL]
 | x :: l, m => by
  rw [List.cons_append, faultL, faultL, faultL_app l m]
  by_cases h : aloneV x = 0
  ·rw [if_pos h, if_pos h]
  ·rw [if_neg h, if_neg h, if_neg h]
theorem faultL_cons_walk (v : TD0) : faultL (walkV v) = if aloneV v = 0 then faultL (walkVs v.fList) else aloneV v := by rw [walkV_eq, faultL]
theorem faultL_take {l : List TD0} {i : Nat} {x : TD0} (h : l[i]? = some x) : faultL (walkVs (l.take (i + 1))) = if faultL (walkVs (l.take i)) = 0 then faultL (walkV x) else faultL (walkVs (l.take i)) := by rw [walkVs_take h, faultL_app]
theorem wrong_ref {n : Nat} (hn : 6000 < n) : ∀ (k d : Nat) (v : TD0), d ≤ k → Small d v → ref03_wrong_k n k v = some (faultL (walkV v))
 | _, 0, v, _, h => h.elim
 | 0, d + 1, v, h, _ => absurd h (by omega)
 | k + 1, d + 1, v, hk, hs => by
  have hw := hs.wide
  obtain ⟨h1, h2, h3, h4, h5⟩ := hs
  show ref03_wrong_b n (ref03_wrong_k n k) v = _
  unfold ref03_wrong_b
  rw [faultL_cons_walk, plain_ref, bnd]
  by_cases hp : PlainV v
  ·rw [decide_eq_true hp, Bool.not_true, cF]
   by_cases hnum : NumOut v
   ·rw [alone_20 hp hnum, if_neg (by decide)]
    rcases hnum with hm | hm
    ·rw [decide_eq_true hm, cT, bnd, cT]
    ·by_cases hm' : v.fNum < -9007199254740992
     ·omega
     ·rw [decide_eq_false hm', cF, bnd, decide_eq_true hm, cT]
   ·have hnum' : ¬ (v.fNum < -9007199254740992 ∨ 9007199254740992 < v.fNum) := hnum
    rw [decide_eq_false (by omega), cF, bnd, decide_eq_false (by omega), cF, valid_ref (by omega) (by omega) (by omega), bnd, keys_ref hn hw, twice_ref hn hw]
    cases hv : Lib.validD v.fText with
    | false =>
     rw [Bool.not_false, cT, alone_10 hp hnum (fun h => by rw [h.1] at hv; cases hv), if_neg (by decide)]
    | true =>
     rw [Bool.not_true, cF, bnd]
     by_cases ha : ∀ k ∈ v.fKeys, Lib.validD k = true
     ·have : v.fKeys.any (fun k => !Lib.validD k) = false := by
       rw [List.any_eq_false]
       intro x hx
       simp [ha x hx]
      rw [this, cF]
      dsimp only
      rw [bnd]
      by_cases hd : v.fKeys.Nodup
      ·rw [decide_eq_true hd, cT, alone_0 hp hnum ⟨hv, ha⟩ hd, if_pos rfl]
       dsimp only
       obtain ⟨b, hb, hpost⟩ := loop_inv (step := ref03_wrong_s4 n (ref03_wrong_k n k) v) (n := n) (s0 := (0 : Int)) (fun q s => s = (q : Int) ∧ faultL (walkVs (v.fList.take q)) = 0)
        (fun b => match b with | .inl e => e = faultL (walkVs v.fList) | .inr () => faultL (walkVs v.fList) = 0) v.fList.length ⟨rfl, by simp [walkVs, faultL]⟩
        (fun q s hq hI => by
         obtain ⟨rfl, hf⟩ := hI
         have hx : v.fList[q]? = some v.fList[q] := List.getElem?_eq_getElem hq
         have hg : getI v.fList (q : Int) = some v.fList[q] := by simp [getI]
         have hft := faultL_take hx
         rw [if_pos hf] at hft
         unfold ref03_wrong_s4
         rw [decide_eq_true (by omega), cT, hg, bnd, wrong_ref hn k d _ (by omega) (h5 _ (List.getElem_mem hq)), bnd]
         by_cases he : faultL (walkV v.fList[q]) = 0
         ·rw [decide_eq_true he, Bool.not_true, cF, need_i (by omega) (by omega)]
          exact .inl ⟨_, rfl, by omega, by rw [hft]; exact he⟩
         ·rw [decide_eq_false he, Bool.not_false, cT]
          refine .inr ⟨_, rfl, ?_⟩
          have hsplit : walkVs v.fList = walkVs (v.fList.take (q + 1)) ++ walkVs (v.fList.drop (q + 1)) := by rw [← walkVs_app, List.take_append_drop]
          dsimp only
          rw [hsplit, faultL_app, hft, if_neg he])
        (fun s hI => by
         obtain ⟨rfl, hf⟩ := hI
         rw [List.take_length] at hf
         unfold ref03_wrong_s4
         rw [decide_eq_false (by omega), cF]
         exact ⟨_, rfl, hf⟩) (by omega)
       rw [hb, bnd]
       cases b with
       | inl e => dsimp only at hpost ⊢; rw [hpost]
       | inr u => dsimp only at hpost ⊢; rw [hpost]
      ·rw [decide_eq_false hd, cF, alone_41 hp hnum ⟨hv, ha⟩ hd, if_neg (by decide)]
     ·rw [alone_10 hp hnum (fun h => ha h.2), if_neg (by decide)]
      have : v.fKeys.any (fun k => !Lib.validD k) = true := by
       rw [List.any_eq_true]
       apply Classical.byContradiction
       intro h
       apply ha
       intro k hk
       cases hvk : Lib.validD k with
       | true => rfl
       | false => exact absurd ⟨k, hk, by simp [hvk]⟩ h
      rw [this, cT]
  ·rw [decide_eq_false hp, Bool.not_false, cT, alone_2 hp, if_neg (by decide)]
end Go.Proofs.YtocefedhenhbfaaDoor
end
section
namespace Go.Proofs.YtocefedhenhbfaaDoor
open Go Go.Vc Go.RowKit
theorem valid_run {n : Nat} {s : List UInt8} (h : s.length < 1000000) : runes_Valid n s = some (Lib.validD s) := by
 unfold runes_Valid h_ValidString
 rw [need_t (by omega), bnd]
theorem contains_run {n : Nat} (hn : 6000 < n) {v : TD0} (hw : Wide v) : slices_ContainsFuncstring_string n v.fKeys = some (v.fKeys.any (fun k => !Lib.validD k)) := by
 unfold slices_ContainsFuncstring_string slices_IndexFuncstring_string
 have hl := hw.2.1
 have hd : ∀ k : Nat, k < v.fKeys.length → slices_IndexFuncstring_string_s1 n v.fKeys (k : Int) = some (if !Lib.validD (v.fKeys.getD k []) then .br (.inl (k : Int)) else .nx ((k : Int) + 1)) := fun k hk => by
  unfold slices_IndexFuncstring_string_s1 tree_alone_1
  have hm : v.fKeys.getD k [] ∈ v.fKeys := by simp [List.getD, hk]
  have := hw.2.2.2 _ hm
  rw [decide_eq_true (by omega), cT, getI_at [] hk, bnd, valid_run (by omega), bnd, bnd]
  cases Lib.validD (v.fKeys.getD k []) with
  | true => rw [Bool.not_true, cF, need_i (by omega) (by omega)]; rfl
  | false => rw [Bool.not_false, cT]; rfl
 obtain ⟨b, hb, hp⟩ := loop_inv (step := slices_IndexFuncstring_string_s1 n v.fKeys) (n := n) (s0 := (0 : Int)) (fun q s => s = (q : Int) ∧ ∀ k ∈ v.fKeys.take q, Lib.validD k = true)
  (fun b => match b with | .inl i => 0 ≤ i ∧ v.fKeys.any (fun k => !Lib.validD k) = true | .inr () => v.fKeys.any (fun k => !Lib.validD k) = false) v.fKeys.length ⟨rfl, by simp⟩
  (fun q s hq hI => by
   obtain ⟨rfl, hf⟩ := hI
   have hx : v.fKeys[q]? = some v.fKeys[q] := List.getElem?_eq_getElem hq
   rw [hd q hq]
   have hg : v.fKeys.getD q [] = v.fKeys[q] := by simp [List.getD, hq]
   rw [hg]
   cases hv : Lib.validD v.fKeys[q] with
   | true =>
    refine .inl ⟨_, rfl, by omega, fun k hk => ?_⟩
    rcases (mem_take_succ hx k).1 hk with h | h
    ·exact hf k h
    ·rw [h]; exact hv
   | false =>
    refine .inr ⟨_, rfl, by omega, ?_⟩
    rw [List.any_eq_true]
    exact ⟨_, List.getElem_mem hq, by simp [hv]⟩)
  (fun s hI => by
   obtain ⟨rfl, hf⟩ := hI
   rw [List.take_length] at hf
   unfold slices_IndexFuncstring_string_s1
   rw [decide_eq_false (by omega), cF]
   refine ⟨_, rfl, ?_⟩
   dsimp only
   rw [List.any_eq_false]
   intro x hx
   simp [hf x hx]) (by omega)
 rw [hb, bnd]
 cases b with
 | inl i => dsimp only at hp ⊢; rw [bnd, hp.2, decide_eq_true hp.1]
 | inr u => dsimp only at hp ⊢; rw [bnd, hp]; rfl
theorem twice_run {n : Nat} (hn : 6000 < n) {v : TD0} (hw : Wide v) : ∃ b, loopF (tree_alone_s1 n v) n ((0 : Int), ([] : List ((List UInt8) × Bool))) = some b ∧ (match b with | .inl _ => ¬ v.fKeys.Nodup | .inr _ => v.fKeys.Nodup) := by
 have hl := hw.2.1
 refine loop_inv (step := tree_alone_s1 n v) (n := n) (fun q s => s.1 = (q : Int) ∧ (∀ x, (mget s.2 x).getD false = decide (x ∈ v.fKeys.take q)) ∧ (v.fKeys.take q).Nodup)
  (fun b => match b with | .inl _ => ¬ v.fKeys.Nodup | .inr _ => v.fKeys.Nodup) v.fKeys.length ⟨rfl, fun x => by simp [mget], by simp⟩
  (fun q s hq hI => ?_) (fun s hI => ?_) (by omega)
 ·obtain ⟨i, m⟩ := s
  obtain ⟨h1, h2, h3⟩ := hI
  have h1' : i = (q : Int) := h1
  subst h1'
  dsimp only at h2
  have hx : v.fKeys[q]? = some v.fKeys[q] := List.getElem?_eq_getElem hq
  have hg : getI v.fKeys (q : Int) = some v.fKeys[q] := by simp [getI]
  unfold tree_alone_s1
  dsimp only
  rw [decide_eq_true (by omega), cT, hg, bnd, h2]
  by_cases hm : v.fKeys[q] ∈ v.fKeys.take q
  ·rw [decide_eq_true hm, cT]
   exact .inr ⟨_, rfl, fun h => ((nodup_take_succ hx).1 (nodup_of_take (q + 1) h)).2 hm⟩
  ·rw [decide_eq_false hm, cF, need_i (by omega) (by omega)]
   refine .inl ⟨_, rfl, by dsimp only; omega, fun x => ?_, (nodup_take_succ hx).2 ⟨h3, hm⟩⟩
   dsimp only
   rw [mget_mput]
   by_cases hxe : v.fKeys[q] = x
   ·rw [if_pos hxe, decide_eq_true ((mem_take_succ hx x).2 (.inr hxe.symm))]; rfl
   ·rw [if_neg hxe, h2]
    refine decide_eq_decide.2 ?_
    rw [mem_take_succ hx]
    exact ⟨.inl, fun h => h.elim id fun h => absurd h.symm hxe⟩
 ·obtain ⟨i, m⟩ := s
  obtain ⟨h1, h2, h3⟩ := hI
  have h1' : i = (v.fKeys.length : Int) := h1
  subst h1'
  rw [List.take_length] at h3
  unfold tree_alone_s1
  dsimp only
  rw [decide_eq_false (by omega), cF]
  exact ⟨_, rfl, h3⟩
theorem alone_run {n : Nat} (hn : 6000 < n) {v : TD0} (hw : Wide v) : tree_alone n v = some (aloneV v) := by
 obtain ⟨hl, hk, ht, hkk⟩ := id hw
 unfold tree_alone
 -- the rest: either 2 at once, or what is left
 have tail : ∀ y : Bool × Int × List UInt8 × List TD0 × List (List UInt8), y.2.2.2.1.length ≤ 3000 → y.2.2.2.2.length ≤ 3000 → (PlainV v ↔ (y.1 = false ∧ y.2.1 = 0 ∧ y.2.2.1 = [] ∧ y.2.2.2.1.length = 0 ∧ y.2.2.2.2.length = 0)) →
   (((((bif y.1 then
    (some ((true)))
   else
    bif (!(decide (y.2.1 = 0))) then
     (some ((true)))
    else
     bif (!(decide (y.2.2.1 = []))) then
      (some ((true)))
     else
      need (inR .i64 (((y.2.2.2.1.length : Nat) : Int) + ((y.2.2.2.2.length : Nat) : Int))) <|
      some ((decide ((0 : Int) < (((y.2.2.2.1.length : Nat) : Int) + ((y.2.2.2.2.length : Nat) : Int))))) : Option Bool)).bind fun y_2 =>
  bif y_2 then
   (((some ((2 : Int)) : Option Int)).map Lp.br)
  else
   ((bif (decide (v.fNum < (-9007199254740992))) then
     (some ((true)))
    else
     some ((decide ((9007199254740992 : Int) < v.fNum))) : Option Bool)).bind fun y_3 =>
   bif y_3 then
    (((some ((20 : Int)) : Option Int)).map Lp.br)
   else
    (runes_Valid n v.fText).bind fun x_1 =>
    bif !x_1 then
     (((some ((10 : Int)) : Option Int)).map Lp.br)
    else
     (slices_ContainsFuncstring_string n v.fKeys).bind fun x_2 =>
     bif x_2 then
      (((some ((10 : Int)) : Option Int)).map Lp.br)
     else
      some (.nx ()) : Option (Lp Unit Int))).bind fun j => joinF j fun _ =>
 (loopF (tree_alone_s1 n v) n ((0 : Int), ([] : List ((List UInt8) × Bool)))).bind fun b_2 =>
 (match b_2 with 
 | .inl y_5 => some ((41 : Int)) 
 | .inr y_6 => some ((0 : Int)))) = some (aloneV v) := by
  intro y hy1 hy2 hy
  have e : (bif y.1 then
    (some ((true)))
   else
    bif (!(decide (y.2.1 = 0))) then
     (some ((true)))
    else
     bif (!(decide (y.2.2.1 = []))) then
      (some ((true)))
     else
      need (inR .i64 (((y.2.2.2.1.length : Nat) : Int) + ((y.2.2.2.2.length : Nat) : Int))) <|
      some ((decide ((0 : Int) < (((y.2.2.2.1.length : Nat) : Int) + ((y.2.2.2.2.length : Nat) : Int))))) : Option Bool) = some (!decide (PlainV v)) := by
   rw [need_i (by omega) (by omega)]
   by_cases hp : PlainV v
   ·obtain ⟨a1, a2, a3, a4, a5⟩ := hy.1 hp
    rw [a1, cF, decide_eq_true a2, Bool.not_true, cF, decide_eq_true a3, Bool.not_true, cF, decide_eq_false (by omega), decide_eq_true hp]; rfl
   ·rw [decide_eq_false hp, Bool.not_false]
    cases hb : y.1 with
    | true => rw [cT]
    | false =>
     rw [cF]
     by_cases h2 : y.2.1 = 0
     ·rw [decide_eq_true h2, Bool.not_true, cF]
      by_cases h3 : y.2.2.1 = []
      ·rw [decide_eq_true h3, Bool.not_true, cF, decide_eq_true]
       by_cases h4 : y.2.2.2.1.length = 0
       ·by_cases h5 : y.2.2.2.2.length = 0
        ·exact absurd (hy.2 ⟨hb, h2, h3, h4, h5⟩) hp
        ·omega
       ·omega
      ·rw [decide_eq_false h3, Bool.not_false, cT]
     ·rw [decide_eq_false h2, Bool.not_false, cT]
  rw [e, bnd]
  by_cases hp : PlainV v
  ·rw [decide_eq_true hp, Bool.not_true, cF]
   by_cases hnum : NumOut v
   ·rw [alone_20 hp hnum]
    rcases hnum with hm | hm
    ·rw [decide_eq_true hm, cT, bnd, cT, mpS, bnd, jB]
    ·by_cases hm' : v.fNum < -9007199254740992
     ·omega
     ·rw [decide_eq_false hm', cF, bnd, decide_eq_true hm, cT, mpS, bnd, jB]
   ·have hnum' : ¬ (v.fNum < -9007199254740992 ∨ 9007199254740992 < v.fNum) := hnum
    rw [decide_eq_false (by omega), cF, bnd, decide_eq_false (by omega), cF, valid_run (by omega), bnd, contains_run hn hw]
    cases hv : Lib.validD v.fText with
    | false => rw [Bool.not_false, cT, mpS, bnd, jB, alone_10 hp hnum (fun h => by rw [h.1] at hv; cases hv)]
    | true =>
     rw [Bool.not_true, cF, bnd]
     by_cases ha : ∀ k ∈ v.fKeys, Lib.validD k = true
     ·have : v.fKeys.any (fun k => !Lib.validD k) = false := by
       rw [List.any_eq_false]
       intro x hx
       simp [ha x hx]
      rw [this, cF, bnd, jN]
      obtain ⟨b, hb, hpost⟩ := twice_run hn hw
      rw [hb, bnd]
      cases b with
      | inl m => dsimp only at hpost ⊢; rw [alone_41 hp hnum ⟨hv, ha⟩ hpost]
      | inr m => dsimp only at hpost ⊢; rw [alone_0 hp hnum ⟨hv, ha⟩ hpost]
     ·have : v.fKeys.any (fun k => !Lib.validD k) = true := by
       rw [List.any_eq_true]
       apply Classical.byContradiction
       intro h
       apply ha
       intro k hk
       cases hvk : Lib.validD k with
       | true => rfl
       | false => exact absurd ⟨k, hk, by simp [hvk]⟩ h
      rw [this, cT, mpS, bnd, jB, alone_10 hp hnum (fun h => ha h.2)]
  ·rw [decide_eq_false hp, Bool.not_false, cT, mpS, bnd, jB, alone_2 hp]
 have len0 : ∀ {α : Type} {l : List α}, l = [] ↔ l.length = 0 := fun {α l} => by simp
 by_cases h0 : v.fKind = 0
 ·rw [decide_eq_true h0, cT, bnd, jN]
  refine tail _ hl hk ?_
  unfold PlainV
  dsimp only
  rw [h0]
  constructor
  ·rintro ⟨_, _, a, b, c, d, _, e⟩
   refine ⟨?_, ?_, ?_, ?_, e (by omega)⟩
   ·cases hb : v.fBool with
    | false => rfl
    | true => have := a hb; omega
   ·apply Classical.byContradiction; intro h; have := b h; omega
   ·apply Classical.byContradiction; intro h; have := c h; omega
   ·apply Classical.byContradiction; intro h; have := d h; omega
  ·rintro ⟨a, b, c, d, e⟩
   exact ⟨by omega, by omega, fun h => (by rw [a] at h; cases h), fun h => absurd b h, fun h => absurd c h, fun h => absurd d h, fun h => by omega, fun _ => e⟩
 rw [decide_eq_false h0, cF]
 by_cases h1 : v.fKind = 1
 ·rw [decide_eq_true h1, cT, bnd, jN]
  refine tail _ hl hk ?_
  unfold PlainV
  dsimp only
  rw [h1]
  constructor
  ·rintro ⟨_, _, a, b, c, d, _, e⟩
   refine ⟨rfl, ?_, ?_, ?_, e (by omega)⟩
   ·apply Classical.byContradiction; intro h; have := b h; omega
   ·apply Classical.byContradiction; intro h; have := c h; omega
   ·apply Classical.byContradiction; intro h; have := d h; omega
  ·rintro ⟨_, b, c, d, e⟩
   exact ⟨by omega, by omega, fun _ => rfl, fun h => absurd b h, fun h => absurd c h, fun h => absurd d h, fun h => by omega, fun _ => e⟩
 rw [decide_eq_false h1, cF]
 by_cases h2 : v.fKind = 2
 ·rw [decide_eq_true h2, cT, bnd, jN]
  refine tail _ hl hk ?_
  unfold PlainV
  dsimp only
  rw [h2]
  constructor
  ·rintro ⟨_, _, a, b, c, d, _, e⟩
   refine ⟨?_, rfl, ?_, ?_, e (by omega)⟩
   ·cases hb : v.fBool with
    | false => rfl
    | true => have := a hb; omega
   ·apply Classical.byContradiction; intro h; have := c h; omega
   ·apply Classical.byContradiction; intro h; have := d h; omega
  ·rintro ⟨a, _, c, d, e⟩
   exact ⟨by omega, by omega, fun h => (by rw [a] at h; cases h), fun _ => rfl, fun h => absurd c h, fun h => absurd d h, fun h => by omega, fun _ => e⟩
 rw [decide_eq_false h2, cF]
 by_cases h3 : v.fKind = 3
 ·rw [decide_eq_true h3, cT, bnd, jN]
  refine tail _ hl hk ?_
  unfold PlainV
  dsimp only
  rw [h3]
  constructor
  ·rintro ⟨_, _, a, b, c, d, _, e⟩
   refine ⟨?_, ?_, rfl, ?_, e (by omega)⟩
   ·cases hb : v.fBool with
    | false => rfl
    | true => have := a hb; omega
   ·apply Classical.byContradiction; intro h; have := b h; omega
   ·apply Classical.byContradiction; intro h; have := d h; omega
  ·rintro ⟨a, b, _, d, e⟩
   exact ⟨by omega, by omega, fun h => (by rw [a] at h; cases h), fun h => absurd b h, fun _ => rfl, fun h => absurd d h, fun h => by omega, fun _ => e⟩
 rw [decide_eq_false h3, cF]
 by_cases h4 : v.fKind = 4
 ·rw [decide_eq_true h4, cT, bnd, jN]
  refine tail _ (by simp) hk ?_
  unfold PlainV
  dsimp only
  rw [h4]
  constructor
  ·rintro ⟨_, _, a, b, c, d, _, e⟩
   refine ⟨?_, ?_, ?_, rfl, e (by omega)⟩
   ·cases hb : v.fBool with
    | false => rfl
    | true => have := a hb; omega
   ·apply Classical.byContradiction; intro h; have := b h; omega
   ·apply Classical.byContradiction; intro h; have := c h; omega
  ·rintro ⟨a, b, c, _, e⟩
   exact ⟨by omega, by omega, fun h => (by rw [a] at h; cases h), fun h => absurd b h, fun h => absurd c h, fun _ => .inl rfl, fun h => by omega, fun _ => e⟩
 rw [decide_eq_false h4, cF]
 by_cases h5 : v.fKind = 5
 ·rw [decide_eq_true h5, cT]
  by_cases hkl : v.fKeys.length = v.fList.length
  ·rw [decide_eq_true (by omega), Bool.not_true, cF, bnd, jN]
   refine tail _ (by simp) (by simp) ?_
   unfold PlainV
   dsimp only
   rw [h5]
   constructor
   ·rintro ⟨_, _, a, b, c, d, _, e⟩
    refine ⟨?_, ?_, ?_, rfl, rfl⟩
    ·cases hb : v.fBool with
     | false => rfl
     | true => have := a hb; omega
    ·apply Classical.byContradiction; intro h; have := b h; omega
    ·apply Classical.byContradiction; intro h; have := c h; omega
   ·rintro ⟨a, b, c, _, _⟩
    exact ⟨by omega, by omega, fun h => (by rw [a] at h; cases h), fun h => absurd b h, fun h => absurd c h, fun _ => .inr rfl, fun _ => hkl, fun h => absurd rfl h⟩
  ·rw [decide_eq_false (by omega), Bool.not_false, cT, mpS, bnd, jB, alone_2 (fun h => hkl (h.2.2.2.2.2.2.1 h5))]
 ·rw [decide_eq_false h5, cF, mpS, bnd, jB, alone_2]
  intro h
  have a := h.1
  have b := h.2.1
  omega
end Go.Proofs.YtocefedhenhbfaaDoor
end
section
namespace Go.Proofs.YtocefedhenhbfaaDoor
open Go Go.Vc Go.RowKit
mutual
def depthV : TD0 → Nat
  | ⟨_, _, _, _, l, _⟩ => depthVs l + 1
def depthVs : List TD0 → Nat
  | [] => 0
  | x :: r => max (depthV x) (depthVs r)
end
theorem depthV_eq (v : TD0) : depthV v = depthVs v.fList + 1 := by cases v; rw [depthV]
theorem depthVs_app : ∀ l m : List TD0, depthVs (l ++ m) = max (depthVs l) (depthVs m)
 | [], m => by simp [depthVs]
 | x :: l, m => by rw [List.cons_append, depthVs, depthVs, depthVs_app l m]; omega
theorem depthVs_take {l : List TD0} {i : Nat} {x : TD0} (h : l[i]? = some x) : depthVs (l.take (i + 1)) = max (depthVs (l.take i)) (depthV x) := by
 rw [List.take_add_one, h, depthVs_app]
 simp [depthVs]
theorem depthVs_mem : ∀ {l : List TD0} {x : TD0}, x ∈ l → depthV x ≤ depthVs l
 | y :: r, x, h => by
  rw [depthVs]
  rcases List.mem_cons.1 h with rfl | h
  ·omega
  ·have := depthVs_mem h
   omega
theorem depthV_pos (v : TD0) : 1 ≤ depthV v := by rw [depthV_eq]; omega
theorem depth_run {n : Nat} (hn : 6000 < n) : ∀ (k d : Nat) (v : TD0) (left : Nat), d ≤ k → Small d v → left ≤ 1000 → tree_depth_k n k v (left : Int) = some ((min (depthV v) (left + 1) : Nat) : Int)
 | _, 0, v, _, _, h, _ => h.elim
 | 0, d + 1, v, _, h, _, _ => absurd h (by omega)
 | k + 1, d + 1, v, left, hk, hs, hle => by
  obtain ⟨h1, h2, h3, h4, h5⟩ := hs
  show tree_depth_b n (tree_depth_k n k) v left = _
  unfold tree_depth_b
  have := loop_all (step := tree_depth_s1 n (tree_depth_k n k) v (left : Int)) (n := n) (fun q => (((min (depthVs (v.fList.take q)) left : Nat) : Int), (q : Int))) v.fList.length ((min (depthVs v.fList) left : Nat) : Int) (fun q hq => by
   have hx : v.fList[q]? = some v.fList[q] := List.getElem?_eq_getElem hq
   have hg : getI v.fList (q : Int) = some v.fList[q] := by simp [getI]
   unfold tree_depth_s1
   dsimp only
   rw [decide_eq_true (by omega), cT]
   by_cases hl : left = 0
   ·subst hl
    rw [decide_eq_false (by omega), cF, need_i (by omega) (by omega)]
    simp
   ·have hl1 : ((left : Nat) : Int) - 1 = ((left - 1 : Nat) : Int) := by omega
    rw [decide_eq_true (by omega), cT, hg, bnd, need_i (by omega) (by omega), hl1, depth_run hn k d _ (left - 1) (by omega) (h5 _ (List.getElem_mem hq)) (by omega), bnd, need_i (by omega) (by omega), depthVs_take hx]
    congr 3
    omega) (by
   unfold tree_depth_s1
   dsimp only
   rw [decide_eq_false (by omega), cF, List.take_length]) (by omega)
  have e0 : ((0 : Nat) : Int) = 0 := rfl
  simp only [List.take_zero, depthVs, Nat.zero_min, e0] at this
  rw [this, bnd, need_i (by omega) (by omega), depthV_eq]
  congr 1
  omega
theorem deeper_ref {n : Nat} (hn : 6000 < n) : ∀ (k d : Nat) (v : TD0) (left : Nat), d ≤ k → Small d v → left ≤ 1000 → ref03_deeper_k n k v (left : Int) = some (decide (left < depthV v))
 | _, 0, v, _, _, h, _ => h.elim
 | 0, d + 1, v, _, h, _, _ => absurd h (by omega)
 | k + 1, d + 1, v, left, hk, hs, hle => by
  obtain ⟨h1, h2, h3, h4, h5⟩ := hs
  show ref03_deeper_b n (ref03_deeper_k n k) v left = _
  unfold ref03_deeper_b
  by_cases hl : left = 0
  ·subst hl
   have := depthV_pos v
   rw [decide_eq_true (by omega), cT, decide_eq_true (by omega)]
  rw [decide_eq_false (by omega), cF]
  obtain ⟨b, hb, hp⟩ := loop_inv (step := ref03_deeper_s1 n (ref03_deeper_k n k) v (left : Int)) (n := n) (s0 := (0 : Int)) (fun q s => s = (q : Int) ∧ depthVs (v.fList.take q) < left) (fun b => match b with | .inl _ => left ≤ depthVs v.fList | .inr _ => depthVs v.fList < left) v.fList.length ⟨rfl, by simp [depthVs]; omega⟩ (fun q s hq hI => by
   obtain ⟨rfl, hI⟩ := hI
   have hx : v.fList[q]? = some v.fList[q] := List.getElem?_eq_getElem hq
   have hg : getI v.fList (q : Int) = some v.fList[q] := by simp [getI]
   have hm : v.fList[q] ∈ v.fList := List.getElem_mem hq
   have hdm := depthVs_mem hm
   unfold ref03_deeper_s1
   have hl1 : ((left : Nat) : Int) - 1 = ((left - 1 : Nat) : Int) := by omega
   rw [decide_eq_true (by omega), cT, hg, bnd, need_i (by omega) (by omega), hl1, deeper_ref hn k d _ (left - 1) (by omega) (h5 _ hm) (by omega), bnd]
   by_cases hd : left - 1 < depthV v.fList[q]
   ·rw [decide_eq_true hd, cT]
    refine .inr ⟨_, rfl, ?_⟩
    dsimp only
    omega
   ·rw [decide_eq_false hd, cF, need_i (by omega) (by omega)]
    refine .inl ⟨_, rfl, by omega, ?_⟩
    rw [depthVs_take hx]
    omega) (fun s hI => by
   obtain ⟨rfl, hI⟩ := hI
   rw [List.take_length] at hI
   unfold ref03_deeper_s1
   rw [decide_eq_false (by omega), cF]
   exact ⟨_, rfl, hI⟩) (by omega)
  rw [hb, bnd]
  have := depthV_eq v
  cases b with
  | inl u => dsimp only at hp ⊢; rw [decide_eq_true (by omega)]
  | inr u => dsimp only at hp ⊢; rw [decide_eq_false (by omega)]
theorem count_ref {n : Nat} (hn : 6000 < n) : ∀ (k d : Nat) (v : TD0), d ≤ k → Small d v → (walkV v).length ≤ 5900 → ref03_Count_k n k v = some ((walkV v).length : Int)
 | _, 0, v, _, h, _ => h.elim
 | 0, d + 1, v, h, _, _ => absurd h (by omega)
 | k + 1, d + 1, v, hk, hs, hlen => by
  obtain ⟨h1, h2, h3, h4, h5⟩ := hs
  show ref03_Count_b n (ref03_Count_k n k) v = _
  unfold ref03_Count_b
  have hwl : (walkV v).length = (walkVs v.fList).length + 1 := by rw [walkV_eq, List.length_cons]
  have := loop_all (step := ref03_Count_s1 n (ref03_Count_k n k) v) (n := n) (fun q => (((walkVs (v.fList.take q)).length : Int) + 1, (q : Int))) v.fList.length ((walkVs v.fList).length + 1 : Int) (fun q hq => by
   have hx : v.fList[q]? = some v.fList[q] := List.getElem?_eq_getElem hq
   have hg : getI v.fList (q : Int) = some v.fList[q] := by simp [getI]
   have hm : v.fList[q] ∈ v.fList := List.getElem_mem hq
   have hw1 := walkVs_mem hm
   have hw2 : (walkVs (v.fList.take q)).length ≤ (walkVs v.fList).length := by
    have := congrArg List.length (walkVs_app (v.fList.take q) (v.fList.drop q))
    rw [List.take_append_drop, List.length_append] at this
    omega
   unfold ref03_Count_s1
   dsimp only
   rw [decide_eq_true (by omega), cT, hg, bnd, count_ref hn k d _ (by omega) (h5 _ hm) (by omega), bnd, need_i (by omega) (by omega), need_i (by omega) (by omega), walkVs_take hx, List.length_append]
   congr 3
   push_cast
   omega) (by
   unfold ref03_Count_s1
   dsimp only
   rw [decide_eq_false (by omega), cF, List.take_length]) (by omega)
  have e0 : ((0 : Nat) : Int) = 0 := rfl
  have e1 : (0 : Int) + 1 = 1 := rfl
  simp only [List.take_zero, walkVs, List.length_nil, e0, e1] at this
  rw [this, bnd, hwl]
  rfl
structure Fine (v : TD0) : Prop where
  small : Small 60 v
  few : (walkV v).length ≤ 5900
theorem Small.le : ∀ {d e : Nat} {v : TD0}, d ≤ e → Small d v → Small e v
 | 0, _, _, _, h => h.elim
 | d + 1, 0, _, hde, _ => absurd hde (by omega)
 | d + 1, e + 1, _, hde, h => ⟨h.1, h.2.1, h.2.2.1, h.2.2.2.1, fun x hx => Small.le (by omega) (h.2.2.2.2 x hx)⟩
theorem Fine.wide {v : TD0} (h : Fine v) : Wide v := h.small.wide
theorem Fine.part {v x : TD0} (h : Fine v) (hx : x ∈ v.fList) : Fine x := by
 refine ⟨Small.le (d := 59) (by omega) (h.small.2.2.2.2 x hx), ?_⟩
 have := walkVs_mem hx
 have := h.few
 rw [walkV_eq, List.length_cons] at this
 omega
theorem small_walk : ∀ {d : Nat} {v x : TD0}, Small d v → x ∈ walkV v → Small d x
 | d + 1, v, x, h, hx => by
  rw [walkV_eq] at hx
  rcases List.mem_cons.1 hx with rfl | hx
  ·exact h
  ·have key : ∀ l : List TD0, (∀ y ∈ l, Small d y) → x ∈ walkVs l → Small d x := by
    intro l
    induction l with
    | nil => intro _ hx; simp [walkVs] at hx
    | cons y r ih =>
     intro hl hx
     rw [walkVs, List.mem_append] at hx
     rcases hx with hx | hx
     ·exact small_walk (hl y List.mem_cons_self) hx
     ·exact ih (fun z hz => hl z (List.mem_cons_of_mem _ hz)) hx
   exact Small.le (by omega) (key _ h.2.2.2.2 hx)
def checkV (v : TD0) : Int := if 24 < depthV v then 30 else if faultL (walkV v) = 0 then (if 4096 < (walkV v).length then 3 else 0) else faultL (walkV v)
theorem check_ref {n : Nat} (hn : 6000 < n) {v : TD0} (h : Fine v) : ref03_Check n v = some (checkV v) := by
 unfold ref03_Check ref03_deeper ref03_wrong ref03_Count checkV
 have e : ((24 : Nat) : Int) = 24 := rfl
 have := deeper_ref hn n 60 v 24 (by omega) h.small (by omega)
 rw [e] at this
 rw [this, bnd]
 by_cases hd : 24 < depthV v
 ·rw [decide_eq_true hd, cT, if_pos hd]
 ·rw [decide_eq_false hd, cF, if_neg hd, wrong_ref hn n 60 v (by omega) h.small, bnd]
  by_cases hf : faultL (walkV v) = 0
  ·rw [if_pos hf, decide_eq_true hf, Bool.not_true, cF, count_ref hn n 60 v (by omega) h.small h.few, bnd]
   by_cases hc : 4096 < (walkV v).length
   ·rw [if_pos hc, decide_eq_true (by omega), cT]
   ·rw [if_neg hc, decide_eq_false (by omega), cF]
  ·rw [if_neg hf, decide_eq_false hf, Bool.not_false, cT]
theorem check_fold {n : Nat} (hn : 6000 < n) : ∀ (l : List TD0) (s : Nat), (∀ x ∈ l, Wide x) → s + l.length ≤ 6000 → ∃ j, foldY (tree_Check_s1 n) l (s : Int) = some j ∧ (match j with | .nx t => faultL l = 0 ∧ t = ((s + l.length : Nat) : Int) | .br b => faultL l ≠ 0 ∧ b.2 = faultL l)
 | [], s, _, _ => ⟨_, rfl, rfl, by simp⟩
 | x :: r, s, hw, hl => by
  rw [List.length_cons] at hl
  unfold foldY faultL
  have e : tree_Check_s1 n (s : Int) x = if aloneV x = 0 then some (.nx ((s + 1 : Nat) : Int)) else some (.br ((s : Int), aloneV x)) := by
   unfold tree_Check_s1
   have ex : (⟨x.fKind, (x.fBool), x.fNum, x.fText, x.fList, x.fKeys⟩ : TD0) = x := by cases x; rfl
   try rw [ex]
   rw [alone_run hn (hw x List.mem_cons_self), bnd]
   by_cases h : aloneV x = 0
   ·rw [if_pos h, decide_eq_true h, Bool.not_true, cF, need_i (by omega) (by omega)]
    congr 2
   ·rw [if_neg h, decide_eq_false h, Bool.not_false, cT]
  rw [e]
  by_cases h : aloneV x = 0
  ·rw [if_pos h, if_pos h, bnd]
   obtain ⟨j, hj, hp⟩ := check_fold hn r (s + 1) (fun y hy => hw y (List.mem_cons_of_mem _ hy)) (by omega)
   refine ⟨j, hj, ?_⟩
   cases j with
   | nx t => dsimp only at hp ⊢; exact ⟨hp.1, by rw [hp.2, List.length_cons]; omega⟩
   | br b => exact hp
  ·rw [if_neg h, if_neg h, bnd]
   exact ⟨_, rfl, h, rfl⟩
theorem check_run {n : Nat} (hn : 6000 < n) {v : TD0} (h : Fine v) : tree_Check n v = some (checkV v) := by
 unfold tree_Check tree_depth checkV
 have e : ((24 : Nat) : Int) = 24 := rfl
 have hd0 := depth_run hn n 60 v 24 (by omega) h.small (by omega)
 rw [e] at hd0
 rw [hd0, bnd]
 by_cases hd : 24 < depthV v
 ·rw [decide_eq_true (by omega), cT, if_pos hd]
 ·rw [decide_eq_false (by omega), cF, if_neg hd, need_t (by have := h.few; omega)]
  obtain ⟨j, hj, hp⟩ := check_fold hn (walkV v) 0 (fun x hx => (small_walk h.small hx).wide) (by have := h.few; omega)
  have e0 : ((0 : Nat) : Int) = 0 := rfl
  rw [e0] at hj
  rw [hj, bnd]
  cases j with
  | nx t =>
   dsimp only at hp ⊢
   rw [if_pos hp.1]
   by_cases hc : 4096 < (walkV v).length
   ·rw [if_pos hc, decide_eq_true (by omega), cT]
   ·rw [if_neg hc, decide_eq_false (by omega), cF]
  | br b =>
   dsimp only at hp ⊢
   rw [if_neg hp.1, hp.2]
end Go.Proofs.YtocefedhenhbfaaDoor
end
section
namespace Go.Proofs.YtocefedhenhbfaaDoor
open Go Go.Vc Go.RowKit
theorem less_cb : ∀ a b : List UInt8, Op.bytesLess a b = decide (Lib.compareBytes a b < 0)
 | [], [] => by simp [Op.bytesLess, Lib.compareBytes]
 | [], _ :: _ => by simp [Op.bytesLess, Lib.compareBytes]
 | _ :: _, [] => by simp [Op.bytesLess, Lib.compareBytes]
 | x :: r, y :: s => by
  unfold Op.bytesLess Lib.compareBytes
  rw [less_cb r s]
  by_cases h1 : x < y
  ·simp [h1]
  ·by_cases h2 : y < x
   ·have hne : (x == y) = false := by
     rw [beq_eq_false_iff_ne]
     intro e
     rw [e, UInt8.lt_iff_toNat_lt] at h2
     omega
    simp [h1, h2, hne]
   ·have hxy : x = y := UInt8.toNat_inj.1 (by rw [UInt8.lt_iff_toNat_lt] at h1 h2; omega)
    simp [h1, h2, hxy]
abbrev KV := List UInt8 × TD0
def leK (p q : KV) : Bool := !(decide (Lib.compareBytes q.1 p.1 < 0))
def insP (p : KV) : List KV → List KV
  | [] => [p]
  | q :: r => bif leK p q then p :: q :: r else q :: insP p r
def isortP : List KV → List KV
  | [] => []
  | p :: r => insP p (isortP r)
theorem insP_perm (p : KV) : ∀ l, (insP p l).Perm (p :: l)
 | [] => List.Perm.refl _
 | q :: r => by
  unfold insP
  cases leK p q with
  | true => exact List.Perm.refl _
  | false => exact ((insP_perm p r).cons q).trans (List.Perm.swap p q r)
theorem isortP_perm : ∀ l, (isortP l).Perm l
 | [] => List.Perm.refl _
 | p :: r => (insP_perm p _).trans ((isortP_perm r).cons p)
theorem ins_map (keys : List (List UInt8)) (f : Int → KV) (hf : ∀ i, (f i).1 = keys.getD i.toNat []) (x : Int) : ∀ l, (ins (keyLe keys) x l).map f = insP (f x) (l.map f)
 | [] => rfl
 | y :: r => by
  have e : leK (f x) (f y) = keyLe keys x y := by unfold leK keyLe; rw [hf, hf]
  unfold ins
  rw [List.map_cons, insP, e]
  cases keyLe keys x y with
  | true => rfl
  | false => rw [cF, cF, List.map_cons, ins_map keys f hf x r]
theorem isort_map (keys : List (List UInt8)) (f : Int → KV) (hf : ∀ i, (f i).1 = keys.getD i.toNat []) : ∀ l, (isort (keyLe keys) l).map f = isortP (l.map f)
 | [] => rfl
 | x :: r => by
  unfold isort
  rw [ins_map keys f hf, isort_map keys f hf r, List.map_cons, isortP]
mutual
def sortV : TD0 → TD0
  | ⟨k, b, n, t, l, ks⟩ => bif decide (k = 5) then ⟨k, b, n, t, (isortP (ks.zip (sortVs l))).map (·.2), (isortP (ks.zip (sortVs l))).map (·.1)⟩ else ⟨k, b, n, t, sortVs l, []⟩
def sortVs : List TD0 → List TD0
  | [] => []
  | x :: r => sortV x :: sortVs r
end
theorem sortVs_map : ∀ l, sortVs l = l.map sortV
 | [] => rfl
 | x :: r => by rw [sortVs, sortVs_map r, List.map_cons]
def pairsV (v : TD0) : List KV := isortP (v.fKeys.zip (v.fList.map sortV))
theorem sortV_5 {v : TD0} (h : v.fKind = 5) : sortV v = ⟨v.fKind, v.fBool, v.fNum, v.fText, (pairsV v).map (·.2), (pairsV v).map (·.1)⟩ := by
 cases v with
 | mk k b n t l ks =>
  dsimp only at h
  rw [sortV, sortVs_map, decide_eq_true h, cT]
  rfl
theorem sortV_n {v : TD0} (h : v.fKind ≠ 5) : sortV v = ⟨v.fKind, v.fBool, v.fNum, v.fText, v.fList.map sortV, []⟩ := by
 cases v with
 | mk k b n t l ks =>
  dsimp only at h
  rw [sortV, sortVs_map, decide_eq_false h, cF]
def OkV (v : TD0) : Prop := faultL (walkV v) = 0
theorem faultL_zero : ∀ {l : List TD0}, faultL l = 0 ↔ ∀ x ∈ l, aloneV x = 0
 | [] => by simp [faultL]
 | x :: r => by
  rw [faultL]
  by_cases h : aloneV x = 0
  ·rw [if_pos h, faultL_zero (l := r)]
   simp [h]
  ·rw [if_neg h]
   constructor
   ·intro e; exact absurd e h
   ·intro e; exact absurd (e x List.mem_cons_self) h
theorem mem_walkVs {x : TD0} : ∀ {l : List TD0}, x ∈ walkVs l ↔ ∃ y ∈ l, x ∈ walkV y
 | [] => by simp [walkVs]
 | y :: r => by
  rw [walkVs, List.mem_append, mem_walkVs (l := r)]
  simp
theorem OkV_iff {v : TD0} : OkV v ↔ aloneV v = 0 ∧ ∀ x ∈ v.fList, OkV x := by
 unfold OkV
 rw [faultL_zero, walkV_eq]
 constructor
 ·intro h
  refine ⟨h v List.mem_cons_self, fun x hx => ?_⟩
  rw [faultL_zero]
  intro y hy
  exact h y (List.mem_cons_of_mem _ (mem_walkVs.2 ⟨x, hx, hy⟩))
 ·rintro ⟨h1, h2⟩ x hx
  rcases List.mem_cons.1 hx with rfl | hx
  ·exact h1
  ·obtain ⟨y, hy, hxy⟩ := mem_walkVs.1 hx
   exact faultL_zero.1 (h2 y hy) x hxy
theorem checkV_ok {v : TD0} (h : checkV v = 0) : OkV v ∧ depthV v ≤ 24 ∧ (walkV v).length ≤ 4096 := by
 unfold checkV at h
 by_cases h1 : 24 < depthV v
 ·rw [if_pos h1] at h; omega
 ·rw [if_neg h1] at h
  by_cases h2 : faultL (walkV v) = 0
  ·rw [if_pos h2] at h
   by_cases h3 : 4096 < (walkV v).length
   ·rw [if_pos h3] at h; omega
   ·exact ⟨h2, by omega, by omega⟩
  ·rw [if_neg h2] at h; exact absurd h h2
def upto (n : Nat) : List Int := (List.range n).map Int.ofNat
theorem upto_succ (q : Nat) : upto (q + 1) = upto q ++ [(q : Int)] := by unfold upto; rw [List.range_succ, List.map_append]; rfl
theorem upto_len (q : Nat) : (upto q).length = q := by simp [upto]
theorem order_run {n : Nat} (hn : 6000 < n) {v : TD0} (hw : v.fKeys.length ≤ 3000) (hd : v.fKeys.Nodup) : tree_order n v = some (isort (keyLe v.fKeys) (upto v.fKeys.length)) := by
 unfold tree_order
 rw [need_t ⟨by omega, by omega, by omega⟩]
 have := loop_all (step := tree_order_s1 n v) (n := n) (fun q => (upto q ++ List.replicate (v.fKeys.length - q) (0 : Int), (q : Int))) v.fKeys.length (upto v.fKeys.length) (fun q hq => by
  unfold tree_order_s1
  dsimp only
  have hll : (List.replicate ((v.fKeys.length : Nat) : Int).toNat (0 : Int)).length = v.fKeys.length := by simp
  have hg : getI (upto q ++ List.replicate (v.fKeys.length - q) (0 : Int)) (q : Int) = some 0 := by
   rw [getI_at (k := q) 0 (by simp [upto_len]; omega)]
   rw [List.getD_eq_getElem?_getD, List.getElem?_append_right (by rw [upto_len]; omega), upto_len]
   simp [(by omega : 0 < v.fKeys.length - q)]
  rw [hll, decide_eq_true (by omega), cT, hg, bnd, need_i (by omega) (by omega)]
  congr 3
  have e : v.fKeys.length - q = (v.fKeys.length - (q + 1)) + 1 := by omega
  rw [Int.toNat_natCast, e, List.replicate_succ, List.set_append_right _ _ (by rw [upto_len]; omega), upto_len, Nat.sub_self, List.set_cons_zero, upto_succ, List.append_assoc]
  rfl) (by
  unfold tree_order_s1
  dsimp only
  have hll : (List.replicate ((v.fKeys.length : Nat) : Int).toNat (0 : Int)).length = v.fKeys.length := by simp
  rw [hll, decide_eq_false (by omega), cF, Nat.sub_self, List.replicate_zero, List.append_nil]) (by omega)
 have e0 : ((0 : Nat) : Int) = 0 := rfl
 have e1 : upto 0 = [] := rfl
 simp only [e1, e0, Nat.sub_zero, List.nil_append] at this
 rw [Int.toNat_natCast, this, bnd]
 unfold h_sortKeys
 rw [need_t, need_t (by rw [upto_len]; omega), bnd]
 refine ⟨hd, fun i hi => ?_⟩
 simp only [upto, List.mem_map, List.mem_range] at hi
 obtain ⟨j, hj, rfl⟩ := hi
 have : Int.ofNat j = (j : Int) := rfl
 omega
theorem map_take_succ {α β : Type} (f : α → β) {l : List α} {i : Nat} {x : α} (h : l[i]? = some x) : (l.take (i + 1)).map f = (l.take i).map f ++ [f x] := by
 rw [List.take_add_one, h]
 simp
theorem zip_upto (ks : List (List UInt8)) (l : List TD0) (hl : ks.length = l.length) (g : TD0 → TD0) (z : TD0) : (upto ks.length).map (fun i => (ks.getD i.toNat [], g (l.getD i.toNat z))) = ks.zip (l.map g) := by
 apply List.ext_getElem
 ·simp [upto, hl]
 ·intro i h1 h2
  simp [upto_len] at h1
  have h3 : i < l.length := by omega
  simp [upto, List.getD, h1, h3]
theorem sorted_run {n : Nat} (hn : 6000 < n) : ∀ (k d : Nat) (v : TD0), d ≤ k → Small d v → OkV v → tree_sorted_k n k v = some (sortV v)
 | _, 0, v, _, h, _ => h.elim
 | 0, d + 1, v, h, _, _ => absurd h (by omega)
 | k + 1, d + 1, v, hk, hs, hok => by
  obtain ⟨h1, h2, h3, h4, h5⟩ := hs
  obtain ⟨ha, hl⟩ := OkV_iff.1 hok
  obtain ⟨hp, _, _, hnd⟩ := alone_ok ha
  show tree_sorted_b n (tree_sorted_k n k) v = _
  unfold tree_sorted_b
  have ih : ∀ x ∈ v.fList, tree_sorted_k n k x = some (sortV x) := fun x hx => sorted_run hn k d x (by omega) (h5 x hx) (hl x hx)
  by_cases hkind : v.fKind = 5
  ·have hkl : v.fKeys.length = v.fList.length := hp.2.2.2.2.2.2.1 hkind
   rw [decide_eq_true hkind, cT, order_run hn h2 hnd, bnd]
   obtain ⟨idx, hidx⟩ : ∃ idx, idx = isort (keyLe v.fKeys) (upto v.fKeys.length) := ⟨_, rfl⟩
   rw [← hidx]
   have hperm : idx.Perm (upto v.fKeys.length) := hidx ▸ isort_perm _ _
   have hlen : idx.length = v.fKeys.length := by rw [hperm.length_eq, upto_len]
   have hin : ∀ i ∈ idx, ∃ j : Nat, i = (j : Int) ∧ j < v.fKeys.length := fun i hi => by
    have := hperm.mem_iff.1 hi
    simp only [upto, List.mem_map, List.mem_range] at this
    obtain ⟨j, hj, rfl⟩ := this
    exact ⟨j, rfl, hj⟩
   obtain ⟨f, hf⟩ : ∃ f : Int → KV, f = fun i => (v.fKeys.getD i.toNat [], sortV (v.fList.getD i.toNat v)) := ⟨_, rfl⟩
   have := loop_all (step := tree_sorted_s1 n (tree_sorted_k n k) v idx) (n := n) (fun q => ((q : Int), ((idx.take q).map f).map (·.2), ((idx.take q).map f).map (·.1))) idx.length ((idx.map f).map (·.2), (idx.map f).map (·.1)) (fun q hq => by
    have hx : idx[q]? = some idx[q] := List.getElem?_eq_getElem hq
    obtain ⟨j, hj, hjl⟩ := hin _ (List.getElem_mem hq)
    rw [hj] at hx
    have hg : getI idx (q : Int) = some (j : Int) := by simp [getI, hx]
    have hgk : getI v.fKeys (j : Int) = some (f j).1 := by rw [getI_at [] hjl, hf]; rfl
    have hgl : getI v.fList (j : Int) = some (v.fList.getD j v) := getI_at v (by omega)
    have hm : v.fList.getD j v ∈ v.fList := by simp [List.getD, (by omega : j < v.fList.length)]
    have ef : sortV (v.fList.getD j v) = (f j).2 := by rw [hf]; rfl
    unfold tree_sorted_s1
    dsimp only
    have ev : ∀ x : TD0, (⟨x.fKind, (x.fBool), x.fNum, x.fText, x.fList, x.fKeys⟩ : TD0) = x := fun x => by cases x; rfl
    have hlq : ((idx.take q).map f).length ≤ 3000 := by simp; omega
    rw [decide_eq_true (by omega), cT, hg, bnd, hgk, bnd, need_t (by rw [List.length_map]; omega), bnd, hgl, bnd, ih _ hm, bnd, need_t (by rw [List.length_map]; omega), bnd, need_i (by omega) (by omega), ev, ef, map_take_succ f hx, List.map_append, List.map_append]
    rfl) (by
    unfold tree_sorted_s1
    dsimp only
    rw [decide_eq_false (by omega), cF, List.take_length]) (by omega)
   have e0 : ((0 : Nat) : Int) = 0 := rfl
   simp only [List.take_zero, List.map_nil, e0] at this
   rw [this, bnd, sortV_5 hkind]
   have e : idx.map f = pairsV v := by
    rw [hidx, isort_map v.fKeys f (fun i => by rw [hf]), hf]
    unfold pairsV
    rw [zip_upto v.fKeys v.fList hkl sortV v]
   rw [e]
  ·rw [decide_eq_false hkind, cF]
   have := loop_all (step := tree_sorted_s2 n (tree_sorted_k n k) v) (n := n) (fun q => ((q : Int), (v.fList.take q).map sortV)) v.fList.length (v.fList.map sortV) (fun q hq => by
    have hx : v.fList[q]? = some v.fList[q] := List.getElem?_eq_getElem hq
    have hg : getI v.fList (q : Int) = some v.fList[q] := by simp [getI]
    unfold tree_sorted_s2
    dsimp only
    have ev : ∀ x : TD0, (⟨x.fKind, (x.fBool), x.fNum, x.fText, x.fList, x.fKeys⟩ : TD0) = x := fun x => by cases x; rfl
    rw [decide_eq_true (by omega), cT, hg, bnd, ih _ (List.getElem_mem hq), bnd, need_t (by simp; omega), bnd, need_i (by omega) (by omega), ev, map_take_succ sortV hx]
    rfl) (by
    unfold tree_sorted_s2
    dsimp only
    rw [decide_eq_false (by omega), cF, List.take_length]) (by omega)
   have e0 : ((0 : Nat) : Int) = 0 := rfl
   simp only [List.take_zero, List.map_nil, e0] at this
   rw [this, bnd, sortV_n hkind]
end Go.Proofs.YtocefedhenhbfaaDoor
end
section
namespace Go.Proofs.YtocefedhenhbfaaDoor
open Go Go.Vc Go.RowKit
theorem pairs_perm (v : TD0) : (pairsV v).Perm (v.fKeys.zip (v.fList.map sortV)) := isortP_perm _
theorem pairs_snd {v : TD0} (h : v.fKeys.length = v.fList.length) : ((pairsV v).map (·.2)).Perm (v.fList.map sortV) := by
 have := (pairs_perm v).map (·.2)
 rwa [List.map_snd_zip (by simp [h])] at this
theorem pairs_fst {v : TD0} (h : v.fKeys.length = v.fList.length) : ((pairsV v).map (·.1)).Perm v.fKeys := by
 have := (pairs_perm v).map (·.1)
 rwa [List.map_fst_zip (by simp [h])] at this
theorem plain_len {v : TD0} (h : PlainV v) (hk : v.fKind = 5) : v.fKeys.length = v.fList.length := h.2.2.2.2.2.2.1 hk
theorem sort_perm {v : TD0} (h : PlainV v) : (sortV v).fList.Perm (v.fList.map sortV) := by
 by_cases hk : v.fKind = 5
 ·rw [sortV_5 hk]; exact pairs_snd (plain_len h hk)
 ·rw [sortV_n hk]
theorem sort_keys {v : TD0} (h : PlainV v) : (sortV v).fKeys.Perm v.fKeys := by
 by_cases hk : v.fKind = 5
 ·rw [sortV_5 hk]; exact pairs_fst (plain_len h hk)
 ·rw [sortV_n hk]
  have := h.2.2.2.2.2.2.2 hk
  have e : v.fKeys = [] := by simpa using this
  rw [e]
theorem sort_kind (v : TD0) : (sortV v).fKind = v.fKind := by
 by_cases hk : v.fKind = 5
 ·rw [sortV_5 hk]
 ·rw [sortV_n hk]
theorem sort_bool (v : TD0) : (sortV v).fBool = v.fBool := by
 by_cases hk : v.fKind = 5
 ·rw [sortV_5 hk]
 ·rw [sortV_n hk]
theorem sort_num (v : TD0) : (sortV v).fNum = v.fNum := by
 by_cases hk : v.fKind = 5
 ·rw [sortV_5 hk]
 ·rw [sortV_n hk]
theorem sort_text (v : TD0) : (sortV v).fText = v.fText := by
 by_cases hk : v.fKind = 5
 ·rw [sortV_5 hk]
 ·rw [sortV_n hk]
theorem OkV.plain {v : TD0} (h : OkV v) : PlainV v := (alone_ok (OkV_iff.1 h).1).1
theorem OkV.part {v x : TD0} (h : OkV v) (hx : x ∈ v.fList) : OkV x := (OkV_iff.1 h).2 x hx
theorem sort_small : ∀ {d : Nat} {v : TD0}, Small d v → OkV v → Small d (sortV v)
 | d + 1, v, h, hok => by
  have hp := hok.plain
  have h1 := sort_perm hp
  have h2 := sort_keys hp
  refine ⟨by rw [h1.length_eq, List.length_map]; exact h.1, by rw [h2.length_eq]; exact h.2.1, by rw [sort_text]; exact h.2.2.1, fun k hk => h.2.2.2.1 k (h2.mem_iff.1 hk), fun x hx => ?_⟩
  obtain ⟨y, hy, rfl⟩ := List.mem_map.1 (h1.mem_iff.1 hx)
  exact sort_small (h.2.2.2.2 y hy) (hok.part hy)
theorem sort_ok : ∀ (m : Nat) {v : TD0}, SizeOf.sizeOf v < m → OkV v → OkV (sortV v)
 | 0, v, hm, _ => absurd hm (by omega)
 | m + 1, v, hm, hok => by
  have hp := hok.plain
  obtain ⟨_, hn, ht, hd⟩ := alone_ok (OkV_iff.1 hok).1
  have h1 := sort_perm hp
  have h2 := sort_keys hp
  rw [OkV_iff]
  constructor
  ·refine alone_0 ?_ ?_ ?_ ?_
   ·obtain ⟨a, b, c, d, e, f, g, i⟩ := hp
    refine ⟨by rw [sort_kind]; exact a, by rw [sort_kind]; exact b, by rw [sort_kind, sort_bool]; exact c, by rw [sort_kind, sort_num]; exact d, by rw [sort_kind, sort_text]; exact e, ?_, ?_, ?_⟩
    ·rw [sort_kind, h1.length_eq, List.length_map]; exact f
    ·rw [sort_kind, h1.length_eq, List.length_map, h2.length_eq]; exact g
    ·rw [sort_kind, h2.length_eq]; exact i
   ·unfold NumOut; rw [sort_num]; exact hn
   ·unfold TextsOk; rw [sort_text]; exact ⟨ht.1, fun k hk => ht.2 k (h2.mem_iff.1 hk)⟩
   ·exact h2.nodup_iff.2 hd
  ·intro x hx
   obtain ⟨y, hy, rfl⟩ := List.mem_map.1 (h1.mem_iff.1 hx)
   exact sort_ok m (by have := part_small hy; omega) (hok.part hy)
theorem OkV.sort {v : TD0} (h : OkV v) : OkV (sortV v) := sort_ok _ (Nat.lt_succ_self _) h
def lenW (l : List TD0) : List Nat := l.map fun x => (walkV x).length
theorem walkVs_sum : ∀ l : List TD0, (walkVs l).length = (lenW l).sum
 | [] => rfl
 | x :: r => by rw [walkVs, List.length_append, walkVs_sum r]; rfl
theorem sort_count : ∀ (m : Nat) {v : TD0}, SizeOf.sizeOf v < m → OkV v → (walkV (sortV v)).length = (walkV v).length
 | 0, v, hm, _ => absurd hm (by omega)
 | m + 1, v, hm, hok => by
  rw [walkV_eq, walkV_eq v, List.length_cons, List.length_cons, walkVs_sum, walkVs_sum]
  have h1 := (sort_perm hok.plain).map fun x => (walkV x).length
  have e : (lenW (sortV v).fList).sum = (lenW (v.fList.map sortV)).sum := h1.sum_nat
  rw [e]
  unfold lenW
  rw [List.map_map]
  congr 2
  refine List.map_congr_left fun x hx => ?_
  exact sort_count m (by have := part_small hx; omega) (hok.part hx)
theorem Fine.sort {v : TD0} (h : Fine v) (hok : OkV v) : Fine (sortV v) := ⟨sort_small h.small hok, by rw [sort_count _ (Nat.lt_succ_self _) hok]; exact h.few⟩
theorem cmpC_run {n : Nat} (a b : Int) : cmp_Compare n a b = some (cmpI a b) := by
 unfold cmp_Compare cmp_isNaN cmpI
 rw [bnd, bnd, cF, cF]
 by_cases h : a < b
 ·rw [decide_eq_true h, cT, cT]
 ·rw [decide_eq_false h, cF, cF]
  by_cases h2 : b < a
  ·rw [decide_eq_true h2, cT, cT]
  ·rw [decide_eq_false h2, cF, cF]
theorem cmpC2_run {n : Nat} (a b : Int) : cmp_Compare_2 n a b = some (cmpI a b) := by
 unfold cmp_Compare_2 cmp_isNaN_2 cmpI
 rw [bnd, bnd, cF, cF]
 by_cases h : a < b
 ·rw [decide_eq_true h, cT, cT]
 ·rw [decide_eq_false h, cF, cF]
  by_cases h2 : b < a
  ·rw [decide_eq_true h2, cT, cT]
  ·rw [decide_eq_false h2, cF, cF]
theorem bit_run {n : Nat} (a : Bool) : tree_bit n a = some (bitI a) := by unfold tree_bit bitI; cases a <;> rfl
theorem or_run {n : Nat} (hn : 6000 < n) (a b c d : Int) : cmp_Or n [a, b, c, d] = some (thenC a (thenC b (thenC c d))) := by
 obtain ⟨m, rfl⟩ : ∃ m, n = m + 5 := ⟨n - 5, by omega⟩
 have st : ∀ (x : Int) (i : Nat), [a, b, c, d][i]? = some x → cmp_Or_s1 (m + 5) [a, b, c, d] (i : Int) = bif decide (x = 0) then some (.nx ((i : Int) + 1)) else some (.br (.inl x)) := fun x i hx => by
  have hi : i < 4 := by
   have := (List.getElem?_eq_some_iff.1 hx).1
   simpa using this
  unfold cmp_Or_s1
  have hg : getI [a, b, c, d] (i : Int) = some x := by simp [getI, hx]
  rw [decide_eq_true (by simp; omega), cT, hg, bnd]
  by_cases h : x = 0
  ·rw [decide_eq_true h, Bool.not_true, cF, cT, need_i (by omega) (by omega)]
  ·rw [decide_eq_false h, Bool.not_false, cT, cF]
 have s0 := st a 0 rfl
 have s1 := st b 1 rfl
 have s2 := st c 2 rfl
 have s3 := st d 3 rfl
 have e0 : ((0 : Nat) : Int) = 0 := rfl
 have e1 : ((0 : Nat) : Int) + 1 = ((1 : Nat) : Int) := rfl
 have e2 : ((1 : Nat) : Int) + 1 = ((2 : Nat) : Int) := rfl
 have e3 : ((2 : Nat) : Int) + 1 = ((3 : Nat) : Int) := rfl
 have e4 : ((3 : Nat) : Int) + 1 = 4 := rfl
 rw [e1] at s0
 rw [e2] at s1
 rw [e3] at s2
 rw [e4] at s3
 have s4 : cmp_Or_s1 (m + 5) [a, b, c, d] 4 = some (.br (.inr ())) := by
  unfold cmp_Or_s1
  rw [decide_eq_false (by simp), cF]
 unfold cmp_Or
 rw [← e0]
 unfold loopF
 rw [s0]
 by_cases ha : a = 0
 ·rw [decide_eq_true ha, cT, bnd, ha, thenC0]
  dsimp only
  unfold loopF
  rw [← ha, s1]
  by_cases hb : b = 0
  ·rw [decide_eq_true hb, cT, bnd]
   have : thenC b (thenC c d) = thenC c d := by rw [hb, thenC0]
   rw [this]
   dsimp only
   unfold loopF
   rw [s2]
   by_cases hc : c = 0
   ·rw [decide_eq_true hc, cT, bnd]
    have : thenC c d = d := by rw [hc, thenC0]
    rw [this]
    dsimp only
    unfold loopF
    rw [s3]
    by_cases hd : d = 0
    ·rw [decide_eq_true hd, cT, bnd]
     dsimp only
     unfold loopF
     rw [s4, bnd]
     dsimp only
     rw [bnd, hd]
     rfl
    ·rw [decide_eq_false hd, cF, bnd]
     dsimp only
     rw [bnd]
   ·rw [decide_eq_false hc, cF, bnd, thenCn d hc]
    dsimp only
    rw [bnd]
  ·rw [decide_eq_false hb, cF, bnd, thenCn _ hb]
   dsimp only
   rw [bnd]
 ·rw [decide_eq_false ha, cF, bnd, thenCn _ ha]
  dsimp only
  rw [bnd]
theorem cmpVs_drop (o : Bool) {l : List TD0} {ks : List (List UInt8)} {m : List TD0} {js : List (List UInt8)} {q : Nat} (h1 : q < l.length) (h2 : q < m.length) :
  cmpVs o (l.drop q) (ks.drop q) (m.drop q) (js.drop q) = thenC (bif o then Lib.compareBytes (ks.getD q []) (js.getD q []) else 0) (thenC (cmpV l[q] m[q]) (cmpVs o (l.drop (q + 1)) (ks.drop (q + 1)) (m.drop (q + 1)) (js.drop (q + 1)))) := by
 have hh : ∀ ks : List (List UInt8), (ks.drop q).headD [] = ks.getD q [] := fun ks => by
  rw [List.headD_eq_head?_getD, List.head?_drop, List.getD_eq_getElem?_getD]
 rw [List.drop_eq_getElem_cons h1, List.drop_eq_getElem_cons h2, cmpVs, hh, hh, List.tail_drop, List.tail_drop]
theorem cmpVs_end (o : Bool) {l : List TD0} {ks : List (List UInt8)} {m : List TD0} {js : List (List UInt8)} {q : Nat} (h : q = min l.length m.length) :
  cmpVs o (l.drop q) (ks.drop q) (m.drop q) (js.drop q) = cmpI (l.length : Int) (m.length : Int) := by
 rcases Nat.lt_trichotomy l.length m.length with hl | hl | hl
 ·rw [List.drop_of_length_le (l := l) (by omega), List.drop_eq_getElem_cons (l := m) (by omega : q < m.length), cmpVs]
  have := cmpI_cases (l.length : Int) (m.length : Int)
  omega
 ·rw [List.drop_of_length_le (l := l) (by omega), List.drop_of_length_le (l := m) (by omega), cmpVs]
  have := cmpI_cases (l.length : Int) (m.length : Int)
  omega
 ·rw [List.drop_of_length_le (l := m) (by omega), List.drop_eq_getElem_cons (l := l) (by omega : q < l.length), cmpVs]
  have := cmpI_cases (l.length : Int) (m.length : Int)
  omega
theorem compare_loop {n : Nat} (hn : 6000 < n) (rec : TD0 → TD0 → Option Int) (v w : TD0) (hv : v.fList.length ≤ 3000) (hk : v.fKind = 5 → v.fKeys.length = v.fList.length ∧ w.fKeys.length = w.fList.length) (hr : ∀ x ∈ v.fList, ∀ y ∈ w.fList, rec x y = some (cmpV x y)) :
  ∃ b, loopF (tree_compare_s1 n rec v w) n (0 : Int) = some b ∧ (match b with | .inl c => c ≠ 0 ∧ cmpVs (decide (v.fKind = 5)) v.fList v.fKeys w.fList w.fKeys = c | .inr _ => cmpVs (decide (v.fKind = 5)) v.fList v.fKeys w.fList w.fKeys = cmpI (v.fList.length : Int) (w.fList.length : Int)) := by
 refine loop_inv (step := tree_compare_s1 n rec v w) (n := n) (fun q s => s = (q : Int) ∧ cmpVs (decide (v.fKind = 5)) v.fList v.fKeys w.fList w.fKeys = cmpVs (decide (v.fKind = 5)) (v.fList.drop q) (v.fKeys.drop q) (w.fList.drop q) (w.fKeys.drop q)) _ (min v.fList.length w.fList.length) ⟨rfl, by simp only [List.drop_zero]⟩ (fun q s hq hI => ?_) (fun s hI => ?_) (by omega)
 ·obtain ⟨rfl, hI⟩ := hI
  have h1 : q < v.fList.length := by omega
  have h2 : q < w.fList.length := by omega
  rw [cmpVs_drop _ h1 h2] at hI
  have hg1 : getI v.fList (q : Int) = some v.fList[q] := by simp [getI]
  have hg2 : getI w.fList (q : Int) = some w.fList[q] := by simp [getI]
  have tail : ∀ (h0 : cmpVs (decide (v.fKind = 5)) v.fList v.fKeys w.fList w.fKeys = thenC (cmpV v.fList[q] w.fList[q]) (cmpVs (decide (v.fKind = 5)) (v.fList.drop (q + 1)) (v.fKeys.drop (q + 1)) (w.fList.drop (q + 1)) (w.fKeys.drop (q + 1)))) (t : Option (Lp Int (Sum Int Unit))), t = ((getI v.fList (q : Int)).bind fun x_10 =>
   (getI w.fList (q : Int)).bind fun x_11 =>
   (rec x_10 x_11).bind fun x_12 =>
   bif (!(decide (x_12 = 0))) then
    (some (.br (.inl x_12)))
   else
    need (inR .i64 ((q : Int) + 1)) <|
    some (.nx ((q : Int) + 1))) → (∃ s', t = some (.nx s') ∧ (s' = ((q + 1 : Nat) : Int) ∧ cmpVs (decide (v.fKind = 5)) v.fList v.fKeys w.fList w.fKeys = cmpVs (decide (v.fKind = 5)) (v.fList.drop (q + 1)) (v.fKeys.drop (q + 1)) (w.fList.drop (q + 1)) (w.fKeys.drop (q + 1)))) ∨ ∃ b, t = some (.br b) ∧ (match b with | .inl c => c ≠ 0 ∧ cmpVs (decide (v.fKind = 5)) v.fList v.fKeys w.fList w.fKeys = c | .inr _ => cmpVs (decide (v.fKind = 5)) v.fList v.fKeys w.fList w.fKeys = cmpI (v.fList.length : Int) (w.fList.length : Int)) := by
   intro h0 t ht
   rw [hg1, bnd, hg2, bnd, hr _ (List.getElem_mem h1) _ (List.getElem_mem h2), bnd] at ht
   by_cases hc : cmpV v.fList[q] w.fList[q] = 0
   ·rw [decide_eq_true hc, Bool.not_true, cF, need_i (by omega) (by omega)] at ht
    rw [hc, thenC0] at h0
    exact .inl ⟨_, ht, by omega, h0⟩
   ·rw [decide_eq_false hc, Bool.not_false, cT] at ht
    rw [thenCn _ hc] at h0
    exact .inr ⟨_, ht, hc, h0⟩
  unfold tree_compare_s1
  rw [decide_eq_true (by omega), cT]
  by_cases hkind : v.fKind = 5
  ·obtain ⟨k1, k2⟩ := hk hkind
   rw [decide_eq_true hkind, cT] at hI
   rw [decide_eq_true hkind, cT, getI_at [] (by omega), bnd, getI_at [] (by omega), bnd]
   unfold h_Compare
   rw [bnd]
   by_cases hc : Lib.compareBytes (v.fKeys.getD q []) (w.fKeys.getD q []) = 0
   ·rw [decide_eq_true hc, Bool.not_true, cF, bnd, jN]
    rw [hc, thenC0] at hI
    have := tail (by rw [decide_eq_true hkind]; exact hI) _ rfl
    rw [decide_eq_true hkind] at this
    exact this
   ·rw [decide_eq_false hc, Bool.not_false, cT, mpS, bnd, jB]
    rw [thenCn _ hc] at hI
    exact .inr ⟨_, rfl, hc, hI⟩
  ·rw [decide_eq_false hkind, cF] at hI
   rw [decide_eq_false hkind, cF, bnd, jN]
   rw [thenC0] at hI
   have := tail (by rw [decide_eq_false hkind]; exact hI) _ rfl
   rw [decide_eq_false hkind] at this
   exact this
 ·obtain ⟨rfl, hI⟩ := hI
  unfold tree_compare_s1
  rw [decide_eq_false (by omega), cF]
  refine ⟨_, rfl, ?_⟩
  dsimp only
  rw [hI, cmpVs_end _ rfl]
theorem bit_cmp (a b : Bool) : bitI a - bitI b = cmpI (bitI a) (bitI b) := by cases a <;> cases b <;> rfl
theorem compare_b {n : Nat} (hn : 6000 < n) (rec : TD0 → TD0 → Option Int) (v w : TD0) (hv : v.fList.length ≤ 3000) (hok : OkV v) (how : OkV w) (hr : ∀ x ∈ v.fList, ∀ y ∈ w.fList, rec x y = some (cmpV x y)) : tree_compare_b n rec v w = some (cmpV v w) := by
 unfold tree_compare_b h_Compare
 rw [cmpC_run, bnd, bit_run, bnd, bit_run, bnd, bit_cmp, need_i (by have := cmpI_range (bitI v.fBool) (bitI w.fBool); omega) (by have := cmpI_range (bitI v.fBool) (bitI w.fBool); omega), cmpC2_run, bnd, bnd, or_run hn, bnd, cmpV_eq]
 generalize hA : cmpI v.fKind w.fKind = A
 generalize hB : cmpI (bitI v.fBool) (bitI w.fBool) = B
 generalize hC : cmpI v.fNum w.fNum = C
 generalize hD : Lib.compareBytes v.fText w.fText = D
 have assoc : ∀ E, thenC A (thenC B (thenC C (thenC D E))) = thenC (thenC A (thenC B (thenC C D))) E := fun E => by
  by_cases a : A = 0
  ·subst a
   rw [thenC0, thenC0]
   by_cases b : B = 0
   ·rw [b, thenC0, thenC0]
    by_cases c : C = 0
    ·rw [c, thenC0, thenC0]
    ·rw [thenCn _ c, thenCn D c, thenCn _ c]
   ·rw [thenCn _ b, thenCn _ b, thenCn _ b]
  ·rw [thenCn _ a, thenCn _ a, thenCn _ a]
 rw [assoc]
 by_cases hx : thenC A (thenC B (thenC C D)) = 0
 ·have ha := (thenC_zero hx).1
  rw [decide_eq_true hx, Bool.not_true, cF, hx, thenC0]
  have hkk : v.fKind = w.fKind := cmpI_zero (hA.trans ha)
  obtain ⟨b, hb, hp⟩ := compare_loop hn rec v w hv (fun hk => ⟨plain_len hok.plain hk, plain_len how.plain (by rw [← hkk]; exact hk)⟩) hr
  rw [hb, bnd]
  cases b with
  | inl c => dsimp only at hp ⊢; rw [hp.2]
  | inr u => dsimp only at hp ⊢; rw [cmpC2_run, bnd, hp]
 ·rw [decide_eq_false hx, Bool.not_false, cT, thenCn _ hx]
theorem compare_run {n : Nat} (hn : 6000 < n) : ∀ (k d : Nat) (v w : TD0), d ≤ k → Small d v → OkV v → OkV w → tree_compare_k n k v w = some (cmpV v w)
 | _, 0, v, _, _, h, _, _ => h.elim
 | 0, d + 1, v, _, h, _, _, _ => absurd h (by omega)
 | k + 1, d + 1, v, w, hk, hs, hok, how => compare_b hn _ v w hs.1 hok how fun x hx y hy => compare_run hn k d x y (by omega) (hs.2.2.2.2 x hx) (hok.part hx) (how.part hy)
end Go.Proofs.YtocefedhenhbfaaDoor
end
section
namespace Go.Proofs.YtocefedhenhbfaaDoor
open Go Go.Vc Go.RowKit
theorem great_fine {n : Nat} (hn : 6000 < n) (v : TD0) : ∃ g, ref03_Great n v = some g ∧ (g = false → Fine v ∧ Small 30 v ∧ (walkV v).length ≤ 5000) := by
 obtain ⟨g, h1, h2⟩ := great_ok (n := n) (by omega) v
 exact ⟨g, h1, fun h => ⟨⟨Small.le (by omega) (h2 h).1, by have := (h2 h).2; omega⟩, h2 h⟩⟩
def eqV (a b : TD0) : Bool := decide (checkV a = 0) && (decide (checkV b = 0) && decide (cmpV (sortV a) (sortV b) = 0))
theorem sortedT_run {n : Nat} (hn : 6000 < n) {v : TD0} (h : Fine v) (hok : OkV v) : tree_sorted n v = some (sortV v) := sorted_run hn n 60 v (by omega) h.small hok
theorem compareT_run {n : Nat} (hn : 6000 < n) {v w : TD0} (h : Fine v) (hok : OkV v) (how : OkV w) : tree_compare n v w = some (cmpV v w) := compare_run hn n 60 v w (by omega) h.small hok how
theorem compare2_run {n : Nat} (hn : 6000 < n) {v w : TD0} (h : Fine v) (hok : OkV v) (how : OkV w) : ∃ z, tree_compare_2 n v.fKind (v.fBool) v.fNum v.fText v.fList v.fKeys w.fKind (w.fBool) w.fNum w.fText w.fList w.fKeys = some z ∧ z.1 = cmpV v w := by
 have key : (tree_compare_2 n v.fKind (v.fBool) v.fNum v.fText v.fList v.fKeys w.fKind (w.fBool) w.fNum w.fText w.fList w.fKeys).map (·.1) = tree_compare_b n (tree_compare n) v w := by
  have hs : tree_compare_2_s1 n v.fKind v.fList v.fKeys w.fList w.fKeys = tree_compare_s1 n (tree_compare n) v w := rfl
  unfold tree_compare_2 tree_compare_b
  rw [hs, cmpC_run, bnd, bnd, bit_run, bnd, bnd, bit_run, bnd, bnd]
  unfold need
  split
  ·rw [cmpC2_run, bnd, bnd]
   unfold h_Compare
   rw [bnd, bnd, or_run hn, bnd, bnd]
   generalize thenC _ _ = x
   by_cases hx : x = 0
   ·rw [decide_eq_true hx, Bool.not_true, cF, cF]
    cases loopF (tree_compare_s1 n (tree_compare n) v w) n (0 : Int) with
    | none => rfl
    | some b =>
     rw [bnd, bnd]
     cases b with
     | inl c => rfl
     | inr u => dsimp only; rw [cmpC2_run, bnd, bnd]; rfl
   ·rw [decide_eq_false hx, Bool.not_false, cT, cT]; rfl
  ·rfl
 rw [compare_b hn (tree_compare n) v w h.wide.1 hok how (fun x hx y hy => compareT_run hn (h.part hx) (hok.part hx) (how.part hy))] at key
 obtain ⟨z, hz, e⟩ := Option.map_eq_some_iff.1 key
 exact ⟨z, hz, e⟩
theorem both_run {n : Nat} (hn : 6000 < n) {v w : TD0} (h : Fine v) (h' : Fine w) : tree_both n v w = some (if checkV v = 0 ∧ checkV w = 0 then (cmpV (sortV v) (sortV w), true) else (0, false)) := by
 unfold tree_both
 rw [check_run hn h, bnd]
 by_cases a : checkV v = 0
 ·rw [decide_eq_true a, Bool.not_true, cF, check_run hn h', bnd]
  by_cases b : checkV w = 0
  ·rw [decide_eq_true b, Bool.not_true, bnd, cF, if_pos ⟨a, b⟩]
   have oa := (checkV_ok a).1
   have ob := (checkV_ok b).1
   rw [sortedT_run hn h oa, bnd, sortedT_run hn h' ob, bnd]
   obtain ⟨z, hz, e⟩ := compare2_run hn (h.sort oa) oa.sort ob.sort
   rw [hz, bnd, e]
  ·rw [decide_eq_false b, Bool.not_false, bnd, cT, if_neg (fun x => b x.2)]
 ·rw [decide_eq_false a, Bool.not_false, cT, bnd, cT, if_neg (fun x => a x.1)]
theorem Equal_run {n : Nat} (hn : 6000 < n) {v w : TD0} (h : Fine v) (h' : Fine w) : tree_Equal n v w = some (eqV v w) := by
 unfold tree_Equal eqV
 rw [both_run hn h h', bnd]
 by_cases a : checkV v = 0
 ·by_cases b : checkV w = 0
  ·rw [if_pos ⟨a, b⟩, decide_eq_true a, decide_eq_true b]; rfl
  ·rw [if_neg (fun x => b x.2), decide_eq_true a, decide_eq_false b]; rfl
 ·rw [if_neg (fun x => a x.1), decide_eq_false a]; rfl
def placeV (key : List UInt8) : List (List UInt8) → Option Nat
  | [] => none
  | k :: r => if k = key then some 0 else (placeV key r).map (· + 1)
theorem place_some : ∀ {key : List UInt8} {l : List (List UInt8)} {i : Nat}, placeV key l = some i → l[i]? = some key ∧ ∀ j, j < i → l[j]? ≠ some key
 | key, k :: r, i, h => by
  rw [placeV] at h
  by_cases e : k = key
  ·rw [if_pos e] at h
   obtain rfl := Option.some.inj h
   exact ⟨by rw [e]; rfl, fun j hj => absurd hj (by omega)⟩
  ·rw [if_neg e] at h
   obtain ⟨j, hj, rfl⟩ := Option.map_eq_some_iff.1 h
   obtain ⟨h1, h2⟩ := place_some hj
   refine ⟨by simpa using h1, fun q hq => ?_⟩
   cases q with
   | zero => simpa using e
   | succ q => simpa using h2 q (by omega)
theorem place_none : ∀ {key : List UInt8} {l : List (List UInt8)}, placeV key l = none → key ∉ l
 | key, [], _ => by simp
 | key, k :: r, h => by
  rw [placeV] at h
  by_cases e : k = key
  ·rw [if_pos e] at h; cases h
  ·rw [if_neg e] at h
   have := place_none (Option.map_eq_none_iff.1 h)
   simp only [List.mem_cons, not_or]
   exact ⟨fun h => e h.symm, this⟩
theorem place_lt {key : List UInt8} {l : List (List UInt8)} {i : Nat} (h : placeV key l = some i) : i < l.length := (List.getElem?_eq_some_iff.1 (place_some h).1).1
theorem place_first {key : List UInt8} {l : List (List UInt8)} {q : Nat} (hq : l[q]? = some key) (hf : ∀ j, j < q → l[j]? ≠ some key) : placeV key l = some q := by
 cases h : placeV key l with
 | none => exact absurd (List.mem_of_getElem? hq) (place_none h)
 | some i =>
  obtain ⟨a, b⟩ := place_some h
  rcases Nat.lt_trichotomy i q with hl | hl | hl
  ·exact absurd a (hf i hl)
  ·rw [hl]
  ·exact absurd hq (b q hl)
end Go.Proofs.YtocefedhenhbfaaDoor
end
end

section
namespace Go.Proofs.YtocefedhenhbfaaDoor
open Go Go.Vc Go.RowKit
def ref09_Great_s1 (n : Nat) (d0 : List TE0) (s_1 : Int) : Option (Lp Int (Sum Unit Unit)) :=
    bif (decide (s_1 < ((d0.length : Nat) : Int))) then
      ((getI d0 s_1).bind fun x_1 =>
      bif (decide ((200 : Int) < (x_1.fName.length : Int))) then
        (some (.br (.inl ())))
      else
        (getI d0 s_1).bind fun x_2 =>
        (ref03_Great n (⟨x_2.fV.fKind, (x_2.fV.fBool), x_2.fV.fNum, x_2.fV.fText, x_2.fV.fList, x_2.fV.fKeys⟩ : TD0)).bind fun x_3 =>
        bif x_3 then
          (some (.br (.inl ())))
        else
          need (inR .i64 (s_1 + 1)) <|
          some (.nx (s_1 + 1)))
    else
      some (.br (.inr ()))
def ref09_Great (n : Nat) (d0 : List TE0) : Option Bool :=
  bif (decide ((60 : Int) < ((d0.length : Nat) : Int))) then
    (some ((true)))
  else
    (loopF (ref09_Great_s1 n d0) n (0 : Int)).bind fun b_1 =>
    (match b_1 with 
    | .inl y_1 => some ((true)) 
    | .inr y_2 => some ((false)))
set_option maxRecDepth 20000 in
theorem ref09_Great_ok (n : Nat) (M : Mem) (hG : GL M) (A0 : Option Addr) (cap0 : Nat) (d0 : List TE0) (h0 : Sli M 8 emb_TE0 A0 cap0 d0) (r : Bool) (hF : ref09_Great n d0 = some r) : Ok Tryd.prog M 49 [.slice A0 d0.length cap0] (fun _ v => v = .bool r) := by
 unfold ref09_Great at hF
 intro M1 hM0 w0 H w p0
 replace hG := GL.mono hM0 hG
 replace h0 := h0.mono hM0
 refine R_enter 28 Tryd.func49 rfl rfl (by simp) fun a0 f0 => RR (Y f0 1 fun _ f => eT (R_seq (RR (Y f 3 fun _ f => eT (RcF f hF (fun h_1 hF_1 => ?_) fun h_1 hF_2 => ?_)))))
 ·have k_1 := dI.1 h_1
  refine RR (Y f 1 fun _ f => eT (wp_ret (T_r (E_ret1 f rfl (by kernel_rfl : Vc.look _ 2 = some (.bool true)) ?_))))
  obtain rfl := sI hF_1
  exact ⟨_, rfl, M1, (mR _), p0, rfl⟩
 ·have k_2 := iff_f dI h_1
  refine wp_skip (T_n (R_seq (RR (Y f 1 fun _ f => eT (wp_block ?_)))))
  obtain ⟨b_1, hL_1, hF_3⟩ := bS hF_2
  refine wp_mono (Q := fun e a w => (e = .ret ∧ (∃ y_1 : Unit, b_1 = .inl y_1 ∧ ∃ M_2 : Mem, M1.le M_2 ∧ Frm 28 [(2, .bool true)] a ∧ Hp w0 M_2 (H) w)) ∨ (e = .exit 0 ∧ (∃ y_2 : Unit, b_1 = .inr y_2 ∧ ∃ M_3 : Mem, M1.le M_3 ∧ Frm 28 [] a ∧ Hp w0 M_3 (H) w))) (R_loop (n := 28) (w0 := w0) (M := M1) (fun (x : Nat × Int) => match x with | (m_1, s_1) => [(0, .slice A0 d0.length cap0), (3, .int .i64 s_1)]) (fun (x : Nat × Int) => match x with | (m_1, s_1) => (H)) (fun (x : Nat × Int) (MM : Mem) => match x with | (m_1, s_1) => loopF (ref09_Great_s1 n d0) m_1 s_1 = some b_1) (fun (x : Nat × Int) => match x with | (m_1, s_1) => m_1) (n, (0 : Int)) (f.kp) p0 hL_1 ?_) ?_
  ·rintro ⟨m_1, s_1⟩ M_1 _ w_1 hM_1 I_1 f p_1
   have I_1L := I_1
   obtain ⟨m_2, r_1, rfl, hs_1, hn_1⟩ := loop_step I_1L
   unfold ref09_Great_s1 at hs_1
   refine R_seq (RR (Y f 4 fun _ f => eT (RcF f hs_1 (fun h_2 hF_4 => ?_) fun h_2 hF_13 => ?_)))
   ·have k_3 := dI.1 h_2
    refine wp_skip (T_n (R_seq (wp_block (RR (Y f 2 fun _ f => ?_)))))
    obtain ⟨x_1, hx_1, hF_5⟩ := bS hF_4
    obtain ⟨ad_1, c_1, e_1, -, hr_1, hc_1⟩ := Sli.at_ (h0.mono hM_1) hx_1
    obtain ⟨A_1, cap_1, A_2, cap_2, rfl, h_3, h_4⟩ := TE0.opn hr_1
    refine Z f (Y31 e_1 rfl (len := d0.length) (cap := cap0) (k := .i64) (i := s_1) (e := 79) (sz := 8) (getI_nn hx_1) (getI_lt hx_1)) fun _ f => Y f 1 fun _ f => Y15 f p_1 hc_1 0 rfl fun _ f => Y f 3 fun _ f => ?_
    rcases cE hF_5 with ⟨h_5, hF_6⟩ | ⟨h_5, hF_7⟩
    ·have k_4 := dI.1 h_5
     have f := f.st 20 (cB h_5)
     refine Y f 7 fun _ f => eT (Y8 f (RR (Y f 1 fun _ f => eT (wp_ret (B_r (T_r (T_r ?_)))))))
     obtain rfl := sI hF_6
     exact .inl ⟨rfl, (), (sI hn_1).symm, M_1, hM_1, f.kp, p_1⟩
    ·have k_5 := iff_f dI h_5
     have f := f.st 20 (cB h_5)
     refine Y f 2 fun _ f => ?_
     obtain ⟨x_2, hx_2, hF_8⟩ := bS hF_7
     obtain ⟨ad_2, c_2, e_2, -, hr_2, hc_2⟩ := Sli.at_ (h0.mono hM_1) hx_2
     obtain ⟨A_3, cap_3, A_4, cap_4, rfl, h_6, h_7⟩ := TE0.opn hr_2
     refine Z f (Y31 e_2 rfl (len := d0.length) (cap := cap0) (k := .i64) (i := s_1) (e := 79) (sz := 8) (getI_nn hx_2) (getI_lt hx_2)) fun _ f => Y f 1 fun _ f => Z (v := .agg #[.int .i8 x_2.fV.fKind, .bool x_2.fV.fBool, .int .i64 x_2.fV.fNum, S x_2.fV.fText, .slice A_3 x_2.fV.fList.length cap_3, .slice A_4 x_2.fV.fKeys.length cap_4]) f (Y33 (cs := [.int .i8 x_2.fV.fKind, .bool x_2.fV.fBool, .int .i64 x_2.fV.fNum, S x_2.fV.fText, .slice A_3 x_2.fV.fList.length cap_3, .slice A_4 x_2.fV.fKeys.length cap_4]) rfl (ad := (ad_2.add (s_1.toNat * 8)).add 2) (fz_part (base := ad_2.add (s_1.toNat * 8)) (fun j v h => p_1.cell (hc_2 j v h)) 2 rfl)) fun _ f => ?_
     obtain ⟨x_3, hx_3, hF_9⟩ := bS hF_8
     refine Y18 f p_1 (ref03_Great_ok n _ _ (⟨x_2.fV.fKind, (x_2.fV.fBool), x_2.fV.fNum, x_2.fV.fText, x_2.fV.fList, x_2.fV.fKeys⟩ : TD0) (TD0.shut h_6 h_7) x_3 hx_3) fun w_2 p_2 _ f => Y f 1 fun _ f => eT (RcF f hF_9 (fun h_8 hF_10 => ?_) fun h_8 hF_11 => ?_)
     ·refine RR (Y f 1 fun _ f => eT (wp_ret (B_r (T_r (T_r ?_)))))
      obtain rfl := sI hF_10
      exact .inl ⟨rfl, (), (sI hn_1).symm, M_1, hM_1, f.kp, p_2⟩
     ·refine wp_skip (B_n (T_n (R_reg (Y f 1 fun _ f => ?_))))
      obtain ⟨g_1, hF_12⟩ := nS hF_11
      refine Y f 1 fun _ f => ?_
      have f := f.st 12 (congrArg (Value.int .i64) (inR_wrap g_1))
      refine Y f 1 fun _ f => eT ?_
      obtain rfl := sI hF_12
      exact ⟨⟨m_2, s_1 + 1⟩, Nat.lt_succ_self _, M_1, hM_1, hn_1, f.kp, p_2⟩
   ·have k_8 := iff_f dI h_2
    refine wp_exit (T_x (T_x ?_))
    obtain rfl := sI hF_13
    exact .inr ⟨rfl, (), (sI hn_1).symm, M_1, hM_1, f.kp, p_1⟩
  ·rintro _ _ w_5 (⟨rfl, y_1, rfl, M_2, hM_2, f, p_3⟩ | ⟨rfl, y_2, rfl, M_3, hM_3, f, p_4⟩)
   ·refine B_r (T_r (E_ret1 f rfl (by kernel_rfl : Vc.look _ 2 = some (.bool true)) ?_))
    obtain rfl := sI hF_3
    exact ⟨_, rfl, M_2, hM_2, p_3, rfl⟩
   ·refine B_x (T_n (RR (Y f 1 fun _ f => eT (wp_ret (E_ret1 f rfl (by kernel_rfl : Vc.look _ 2 = some (.bool false)) ?_)))))
    obtain rfl := sI hF_3
    exact ⟨_, rfl, M_3, hM_3, p_4, rfl⟩
end Go.Proofs.YtocefedhenhbfaaDoor
end

section
namespace Go.Vc
open Go Go.RowKit
variable {dd : List Deferred}
def idV (v : Value) : Value := v
def RepMap {κ δ : Type} (M : Mem) (emb : δ → Dat) : List (κ × δ) → List (κ × Value) → Prop
  | [], m => m = []
  | p :: r, m => ∃ cs m', m = (p.1, Value.agg cs.toArray) :: m' ∧ Rep M (emb p.2) cs ∧ RepMap M emb r m'
section
variable {κ δ : Type} {M M' : Mem} {emb : δ → Dat}
theorem RepMap.mono (h : M.le M') : ∀ {d : List (κ × δ)} {m : List (κ × Value)}, RepMap M emb d m → RepMap M' emb d m
 | [], _, hr => hr
 | p :: r, m, ⟨cs, m', h1, h2, h3⟩ => ⟨cs, m', h1, Rep.mono h _ _ h2, RepMap.mono h h3⟩
theorem RepMap.nil : RepMap M emb ([] : List (κ × δ)) [] := rfl
variable [DecidableEq κ]
theorem RepMap.put {k : κ} {x : δ} {cs : List Value} (hx : Rep M (emb x) cs) : ∀ {d : List (κ × δ)} {m : List (κ × Value)}, RepMap M emb d m → RepMap M emb (mput d k x) (mput m k (.agg cs.toArray))
 | [], m, h => by
  have : m = [] := h
  subst this
  exact ⟨cs, [], rfl, hx, rfl⟩
 | p :: r, m, ⟨c, m', h1, h2, h3⟩ => by
  subst h1
  unfold mput
  by_cases hk : p.1 = k
  ·rw [if_pos hk, if_pos hk]
   exact ⟨cs, m', rfl, hx, h3⟩
  ·rw [if_neg hk, if_neg hk]
   exact ⟨c, _, rfl, h2, RepMap.put hx h3⟩
theorem RepMap.isSome {k : κ} : ∀ {d : List (κ × δ)} {m : List (κ × Value)}, RepMap M emb d m → (mget m k).isSome = (mget d k).isSome
 | [], m, h => by
  have : m = [] := h
  subst this; rfl
 | p :: r, m, ⟨c, m', h1, h2, h3⟩ => by
  subst h1
  unfold mget
  by_cases hk : p.1 = k
  ·rw [if_pos hk, if_pos hk]; rfl
  ·rw [if_neg hk, if_neg hk]; exact RepMap.isSome h3
theorem RepMap.get {k : κ} {z : δ} {zc : List Value} (hz : Rep M (emb z) zc) : ∀ {d : List (κ × δ)} {m : List (κ × Value)}, RepMap M emb d m → ∃ cs, (mget m k).getD (.agg zc.toArray) = .agg cs.toArray ∧ Rep M (emb ((mget d k).getD z)) cs
 | [], m, h => by
  have : m = [] := h
  subst this
  exact ⟨zc, rfl, hz⟩
 | p :: r, m, ⟨c, m', h1, h2, h3⟩ => by
  subst h1
  unfold mget
  by_cases hk : p.1 = k
  ·rw [if_pos hk, if_pos hk]; exact ⟨c, rfl, h2⟩
  ·rw [if_neg hk, if_neg hk]; exact RepMap.get hz h3
end
theorem Hp.fzObj {w0 w : World} {M : Mem} {H : List Ent} {b : Nat} {o : Obj} (h : Hp w0 M (.obj b o :: H) w) : ∃ M', M.le M' ∧ Hp w0 M' H w ∧ M' b = some o :=
 ⟨_, h.freeze.1, h.freeze.2, by simp [Mem.add]⟩
section
variable {κ : Type} [DecidableEq κ] {P : Program} {ek : κ → Value} {w : World}
theorem X_lookupR2 {o : Oper} {ρ : Operand → Value} {t kt et : TypeId} {x ix : Operand} {b : Nat} {m : List (κ × Value)} {k : κ} {z v : Value} {i : Bool} (hv : (mget m k).getD z = v) (hi : (mget m k).isSome = i) (ho : o.op = .lookup t x ix true) (hx : ρ x = .map (some b)) (hk : ρ ix = ek k) (ht : P.underlying t = some (.map kt et)) (K : KeyLaw P kt ek)
  (hz : (P.info? et).bind (·.zero) = some z) (hb : w.heap[b]? = some (mapO ek idV m)) : (execOp ρ o).run P w = .ok (.value (.tuple #[v, .bool i])) w := by
 subst hv; subst hi
 exact X_lookup2 (ev := idV) ho hx hk ht K hz hb
end
section
variable {α : Type}
def insAll (x : α) : List α → List (List α)
  | [] => [[x]]
  | y :: l => (x :: y :: l) :: (insAll x l).map (y :: ·)
def permsL : List α → List (List α)
  | [] => [[]]
  | x :: l => (permsL l).flatMap (insAll x)
theorem mem_insAll {x : α} : ∀ (a b : List α), a ++ x :: b ∈ insAll x (a ++ b)
 | [], [] => by simp [insAll]
 | [], y :: b => by simp [insAll]
 | y :: a, b => by
  simp only [List.cons_append, insAll, List.mem_cons, List.mem_map]
  exact .inr ⟨_, mem_insAll a b, rfl⟩
theorem insAll_perm {x : α} : ∀ {l r : List α}, r ∈ insAll x l → r.Perm (x :: l)
 | [], r, h => by simp [insAll] at h; subst h; exact .refl _
 | y :: l, r, h => by
  simp only [insAll, List.mem_cons, List.mem_map] at h
  rcases h with rfl | ⟨r', h1, rfl⟩
  ·exact .refl _
  ·exact ((insAll_perm h1).cons y).trans (.swap x y l)
theorem permsL_of : ∀ {all l : List α}, l.Perm all → l ∈ permsL all
 | [], l, h => by simp [permsL, h.eq_nil]
 | x :: all, l, h => by
  obtain ⟨a, b, rfl⟩ := List.append_of_mem (h.symm.subset List.mem_cons_self)
  have h2 : (a ++ b).Perm all := List.Perm.cons_inv (a := x) (List.perm_middle.symm.trans h)
  exact List.mem_flatMap.2 ⟨_, permsL_of h2, mem_insAll a b⟩
theorem permsL_perm : ∀ {all l : List α}, l ∈ permsL all → l.Perm all
 | [], l, h => by simp [permsL] at h; subst h; exact .refl _
 | x :: all, l, h => by
  obtain ⟨r, h1, h2⟩ := List.mem_flatMap.1 h
  exact (insAll_perm h2).trans ((permsL_perm h1).cons x)
end
section
variable {π σ β : Type}
def foldO (E : σ → Option (Lp σ β)) (Y : π → σ → Option (Lp σ β)) : List π → σ → Option β
  | [], s => (E s).bind fun r => match r with | .nx _ => none | .br b => some b
  | p :: l, s => (Y p s).bind fun r => match r with | .nx s' => foldO E Y l s' | .br b => some b
def foldP [DecidableEq β] (E : σ → Option (Lp σ β)) (Y : π → σ → Option (Lp σ β)) (all : List π) (s : σ) : Option β :=
  need (∀ l ∈ permsL all, foldO E Y l s = foldO E Y all s) (foldO E Y all s)
def todoD (m : List π) (seen : Array Nat) : List (π × Nat) := m.zipIdx.filter fun p => !seen.contains p.2
def leftD (m : List π) (seen : Array Nat) : List π := (todoD m seen).map (·.1)
theorem leftD_start (m : List π) : leftD m #[] = m := by
 unfold leftD todoD
 have : (m.zipIdx.filter fun p => !(#[] : Array Nat).contains p.2) = m.zipIdx := List.filter_eq_self.2 (fun p _ => by simp)
 rw [this]; simp
variable {E : σ → Option (Lp σ β)} {Y : π → σ → Option (Lp σ β)} {m : List π} {seen : Array Nat} {s : σ} {b : β}
theorem foldP_start [DecidableEq β] (h : foldP E Y m s = some b) : ∀ l, l.Perm (leftD m #[]) → foldO E Y l s = some b := by
 intro l hl
 rw [leftD_start] at hl
 obtain ⟨h1, h2⟩ := need_some h
 rw [h1 l (permsL_of hl)]; exact h2
theorem foldP_run [DecidableEq β] (h : ∀ l, l.Perm m → foldO E Y l s = some b) : foldP E Y m s = some b := by
 unfold foldP
 rw [need_t (fun l hl => by rw [h l (permsL_perm hl), h m (.refl _)]), h m (.refl _)]
theorem foldO_end (h : ∀ l, l.Perm (leftD m seen) → foldO E Y l s = some b) (h0 : leftD m seen = []) : ∃ r, E s = some r ∧ (match r with | .nx _ => none | .br b => some b) = some b := by
 have := h [] (by rw [h0])
 exact Option.bind_eq_some_iff.1 this
theorem perm_pick {j : Nat} {p : π} : ∀ {Z : List (π × Nat)}, (Z.map (·.2)).Nodup → (p, j) ∈ Z → Z.Perm ((p, j) :: Z.filter fun q => !(q.2 == j))
 | [], _, h => by simp at h
 | z :: Z, hn, h => by
  simp only [List.map_cons, List.nodup_cons] at hn
  rcases List.mem_cons.1 h with rfl | h
  ·rw [List.filter_cons_of_neg (by simp)]
   have : (Z.filter fun q => !(q.2 == j)) = Z := List.filter_eq_self.2 (fun q hq => by
    have : q.2 ≠ j := fun e => hn.1 (List.mem_map.2 ⟨q, hq, e⟩)
    simp [this])
   rw [this]
  ·have hz : z.2 ≠ j := fun e => hn.1 (e ▸ List.mem_map.2 ⟨_, h, rfl⟩)
   rw [List.filter_cons_of_pos (by simp [hz])]
   exact ((perm_pick hn.2 h).cons z).trans (.swap _ _ _)
theorem zipIdx_nodup : ∀ (m : List π) (n : Nat), ((m.zipIdx n).map (·.2)).Nodup ∧ ∀ q ∈ m.zipIdx n, n ≤ q.2
 | [], n => ⟨by simp, by simp⟩
 | x :: m, n => by
  obtain ⟨h1, h2⟩ := zipIdx_nodup m (n + 1)
  simp only [List.zipIdx_cons, List.map_cons, List.nodup_cons, List.mem_cons]
  refine ⟨⟨fun h => ?_, h1⟩, fun q hq => ?_⟩
  ·obtain ⟨q, hq, e⟩ := List.mem_map.1 h
   have := h2 q hq; omega
  ·rcases hq with rfl | hq
   ·exact Nat.le_refl _
   ·have := h2 q hq; omega
theorem todoD_push {p : π} {j : Nat} (h : (p, j) ∈ todoD m seen) : (todoD m seen).Perm ((p, j) :: todoD m (seen.push j)) := by
 have hn : ((todoD m seen).map (·.2)).Nodup := List.Nodup.sublist (List.Sublist.map _ List.filter_sublist) (zipIdx_nodup m 0).1
 have := perm_pick hn h
 have e : todoD m (seen.push j) = (todoD m seen).filter fun q => !(q.2 == j) := by
  unfold todoD
  rw [List.filter_filter]
  congr 1
  funext q
  by_cases hq : q.2 = j <;> simp [hq, Array.contains_push]
 rw [e]; exact this
theorem leftD_push {p : π} {j : Nat} (h : (p, j) ∈ todoD m seen) : (leftD m seen).Perm (p :: leftD m (seen.push j)) := (todoD_push h).map _
theorem leftD_lt {p : π} {j : Nat} (h : (p, j) ∈ todoD m seen) : (leftD m (seen.push j)).length < (leftD m seen).length := by
 rw [(leftD_push h).length_eq]; simp
theorem foldO_go {p : π} {j : Nat} (hj : (p, j) ∈ todoD m seen) (h : ∀ l, l.Perm (leftD m seen) → foldO E Y l s = some b) :
  ∃ r, Y p s = some r ∧ (match r with | .nx s' => ∀ l, l.Perm (leftD m (seen.push j)) → foldO E Y l s' = some b | .br b' => some b' = some b) := by
 have h2 : ∀ l, l.Perm (leftD m (seen.push j)) → foldO E Y (p :: l) s = some b := fun l hl => h _ ((hl.cons p).trans (leftD_push hj).symm)
 obtain ⟨r, h3, h4⟩ := Option.bind_eq_some_iff.1 (h2 _ (.refl _))
 refine ⟨r, h3, ?_⟩
 cases r with
 | nx s' =>
  intro l hl
  have := h2 l hl
  unfold foldO at this
  rw [h3] at this
  exact this
 | br b' => exact h4
end
section
variable {κ V : Type} {ek : κ → Value} {ev : V → Value} {P : Program} {ops : Array Oper} {n : Nat} {Q : Exit → Act → World → Prop} {L : Fr} {a : Act} {w0 w : World} {M : Mem} {H : List Ent}
def KMapAt (M : Mem) (o : Option Nat) (ek : κ → Value) (ev : V → Value) (m : List (κ × V)) : Prop := (∃ b, o = some b ∧ M b = some (mapO ek ev m)) ∨ (o = none ∧ m = [])
theorem KMapAt.mono {M M' : Mem} (h : M.le M') {o : Option Nat} {m : List (κ × V)} : KMapAt M o ek ev m → KMapAt M' o ek ev m
 | .inl ⟨b, h1, h2⟩ => .inl ⟨b, h1, h _ _ h2⟩
 | .inr h1 => .inr h1
theorem todo_mapO (m : List (κ × V)) (seen : Array Nat) : todo (m.map fun p => (p.1, ev p.2)) seen = (todoD m seen).map fun q => ((q.1.1, ev q.1.2), q.2) := by
 unfold todo todoD
 rw [List.zipIdx_map, List.filter_map]
 rfl
theorem W_rangeM {o : Oper} {rest : List Oper} {d : Nat} {t kt et : TypeId} {x : Operand} {ob : Option Nat} {m : List (κ × V)} (hK : KMapAt M ob ek ev m) (hf : Frm n L a dd) (hp : Hp w0 M H w) (hw : wantedL ops L o = some true) (hr : readyL L o = true)
  (hd : o.dst = some d) (hdn : Nat.blt d n = true) (ho : o.op = .range t x) (hx : Vc.ev L x = .map ob) (ht : P.underlying t = some (.map kt et))
  (hk : ∀ r w', Hp w0 M (.obj r (.mapIter ob m.length #[] m.length) :: H) w' → ∀ a', Frm n ((d, .pointer (some ⟨r, 0, none⟩)) :: L) a' dd → wpList P ops Q rest a' w') : wpList P ops Q (o :: rest) a w := by
 rcases hK with ⟨b, rfl, hb⟩ | ⟨rfl, rfl⟩
 ·refine W_range (enc := ek) (m := m.map fun (p : κ × V) => (p.1, ev p.2)) hf hp hw hr hd hdn ho hx ht (hp.mem _ (mapO ek ev m) hb) ?_
  rw [List.length_map]; exact hk
 ·exact W_range_nil hf hp hw hr hd hdn ho hx ht hk
theorem X_next_nil' {ρ : Operand → Value} {o : Oper} {x : Operand} {r : Nat} {seen : Array Nat} (ho : o.op = .next x false) (hx : ρ x = .pointer (some ⟨r, 0, none⟩)) (hr : w.heap[r]? = some (.mapIter none 0 seen 0)) :
  (execOp ρ o).run P w = .ok (.value (.tuple #[.bool false])) w := by
 have hg : (getObj r).run P w = .ok (.mapIter none 0 seen 0) w := run_getObj hr (by intro _ _ _ h; cases h)
 unfold execOp
 simp only [ho, hx, Instr.next, Sem.run_bind, hg, Result.andThen_ok]
 rfl
theorem W_nextM {o : Oper} {rest : List Oper} {d : Nat} {x : Operand} {r : Nat} {ob : Option Nat} {m : List (κ × V)} {seen : Array Nat} (hK : KMapAt M ob ek ev m) (hf : Frm n L a dd) (hp : Hp w0 M (.obj r (.mapIter ob m.length seen m.length) :: H) w) (hw : wantedL ops L o = some true) (hr : readyL L o = true)
  (hd : o.dst = some d) (hdn : Nat.blt d n = true) (ho : o.op = .next x false) (hx : Vc.ev L x = .pointer (some ⟨r, 0, none⟩))
  (hover : leftD m seen = [] → ∀ w', Hp w0 M (.obj r (.mapIter ob m.length seen m.length) :: H) w' → ∀ a', Frm n ((d, .tuple #[.bool false]) :: L) a' dd → wpList P ops Q rest a' w')
  (hstep : ∀ (p : κ × V) (j : Nat), (p, j) ∈ todoD m seen → ∀ w', Hp w0 M (.obj r (.mapIter ob m.length (seen.push j) m.length) :: H) w' → ∀ a', Frm n ((d, .tuple #[.bool true, ek p.1, ev p.2]) :: L) a' dd → wpList P ops Q rest a' w') :
  wpList P ops Q (o :: rest) a w := by
 rcases hK with ⟨b, rfl, hb⟩ | ⟨rfl, rfl⟩
 ·have hl : (m.map fun p => (p.1, ev p.2)).length = m.length := List.length_map ..
  have hp' := hp
  rw [← hl] at hp'
  refine W_next (enc := ek) (m := m.map fun (p : κ × V) => (p.1, ev p.2)) hf hp' hw hr hd hdn ho hx (hp.mem _ (mapO ek ev m) hb) ?_ ?_
  ·rw [todo_mapO, hl]
   intro h0
   exact hover (by unfold leftD; rw [List.map_eq_nil_iff] at h0 ⊢; exact h0)
  ·rw [todo_mapO, hl]
   intro q hq
   obtain ⟨z, hz, rfl⟩ := List.mem_map.1 hq
   exact hstep z.1 z.2 hz
 ·exact W_eq hf hw hr hd hdn (X_next_nil' ho hx (hp.ownObj 0 rfl)) (hover rfl w hp)
theorem todoD_get {π : Type} {m : List π} {seen : Array Nat} {p : π} {j : Nat} (h : (p, j) ∈ todoD m seen) : m[j]? = some p := by
 obtain ⟨h1, h2⟩ := List.mem_filter.1 h
 have h3 := List.mem_zipIdx h1
 obtain ⟨a, b, c⟩ := h3
 simp only [Nat.sub_zero] at c
 rw [c]
 exact List.getElem?_eq_getElem _
theorem X_entryM {ρ : Operand → Value} {o : Oper} {x : Operand} {r j : Nat} {ob : Option Nat} {m : List (κ × V)} {seen : Array Nat} {p : κ × V} (hK : KMapAt M ob ek ev m) (hp : Hp w0 M H w) (hj : (p, j) ∈ todoD m seen) (i : Nat) (he : H[i]? = some (.obj r (.mapIter ob m.length (seen.push j) m.length)))
  (ho : o.op = .entry x) (hx : ρ x = .pointer (some ⟨r, 0, none⟩)) : (execOp ρ o).run P w = .ok (.value (.tuple #[ek p.1, ev p.2])) w := by
 rcases hK with ⟨b, rfl, hb⟩ | ⟨rfl, rfl⟩
 ·have hl : (m.map fun p => (p.1, ev p.2)).length = m.length := List.length_map ..
  have hr := hp.ownObj i he
  rw [← hl] at hr
  exact X_entry (enc := ek) (m := m.map fun (p : κ × V) => (p.1, ev p.2)) (p := (p.1, ev p.2)) ho hx hr (hp.mem _ (mapO ek ev m) hb) (by rw [List.getElem?_map, todoD_get hj]; rfl)
 ·simp [todoD] at hj
end
end Go.Vc
end

section
namespace Go.Proofs.YtocefedhenhbfaaDoor
open Go Go.Vc Go.RowKit
def kDisk : List UInt8 := [68, 105, 115, 107]
def kNet : List UInt8 := [78, 101, 116]
def kNode : List UInt8 := [78, 111, 100, 101]
def kRule : List UInt8 := [82, 117, 108, 101]
def dDisk : List (List UInt8 × TG0) := [([83, 105, 122, 101], ⟨[83, 105, 122, 101], 2, false⟩), ([84, 97, 103, 115], ⟨[84, 97, 103, 115], 4, false⟩), ([75, 105, 110, 100], ⟨[75, 105, 110, 100], 3, true⟩)]
def dNet : List (List UInt8 × TG0) := [([76, 97, 98, 101, 108], ⟨[76, 97, 98, 101, 108], 3, false⟩), ([82, 97, 110, 103, 101], ⟨[82, 97, 110, 103, 101], 3, true⟩)]
def dNode : List (List UInt8 × TG0) := [([67, 111, 117, 110, 116], ⟨[67, 111, 117, 110, 116], 2, false⟩), ([68, 105, 115, 107], ⟨[68, 105, 115, 107], 3, false⟩), ([73, 109, 97, 103, 101], ⟨[73, 109, 97, 103, 101], 3, true⟩), ([78, 101, 116], ⟨[78, 101, 116], 3, true⟩)]
def dRule : List (List UInt8 × TG0) := [([78, 111, 100, 101], ⟨[78, 111, 100, 101], 3, false⟩), ([80, 111, 114, 116], ⟨[80, 111, 114, 116], 2, true⟩)]
def propsD (kind : List UInt8) : List (List UInt8 × TG0) := bif decide (kDisk = kind) then dDisk else bif decide (kNet = kind) then dNet else bif decide (kNode = kind) then dNode else bif decide (kRule = kind) then dRule else []
def kindIn (kind : List UInt8) : Bool := decide (kDisk = kind) || (decide (kNet = kind) || (decide (kNode = kind) || decide (kRule = kind)))
def specE (x : TG0) : Value := .agg #[S x.fName, .int .i8 x.fKind, .bool x.fReplace]
def mapE (o : Option Nat) : Value := .map o
def allB (b1 b2 b3 b4 : Nat) : List (List UInt8 × Option Nat) := [(kDisk, some b1), (kNet, some b2), (kNode, some b3), (kRule, some b4)]
def blkOf (b1 b2 b3 b4 : Nat) (kind : List UInt8) : Option Nat := bif decide (kDisk = kind) then some b1 else bif decide (kNet = kind) then some b2 else bif decide (kNode = kind) then some b3 else bif decide (kRule = kind) then some b4 else none
structure AllAt (M : Mem) (b0 b1 b2 b3 b4 : Nat) : Prop where
  h0 : M b0 = some (mapO S mapE (allB b1 b2 b3 b4))
  h1 : M b1 = some (mapO S specE dDisk)
  h2 : M b2 = some (mapO S specE dNet)
  h3 : M b3 = some (mapO S specE dNode)
  h4 : M b4 = some (mapO S specE dRule)
theorem AllAt.mono {M M' : Mem} {b0 b1 b2 b3 b4 : Nat} (hM : M.le M') (h : AllAt M b0 b1 b2 b3 b4) : AllAt M' b0 b1 b2 b3 b4 := ⟨hM _ _ h.h0, hM _ _ h.h1, hM _ _ h.h2, hM _ _ h.h3, hM _ _ h.h4⟩
theorem mget_allB (b1 b2 b3 b4 : Nat) (kind : List UInt8) : (mget (allB b1 b2 b3 b4) kind).getD none = blkOf b1 b2 b3 b4 kind ∧ (mget (allB b1 b2 b3 b4) kind).isSome = kindIn kind := by
 unfold allB blkOf kindIn mget mget mget mget mget
 dsimp only
 by_cases h1 : kDisk = kind
 ·rw [if_pos h1, decide_eq_true h1]; exact ⟨rfl, rfl⟩
 rw [if_neg h1, decide_eq_false h1, cond_false, Bool.false_or]
 by_cases h2 : kNet = kind
 ·rw [if_pos h2, decide_eq_true h2]; exact ⟨rfl, rfl⟩
 rw [if_neg h2, decide_eq_false h2, cond_false, Bool.false_or]
 by_cases h3 : kNode = kind
 ·rw [if_pos h3, decide_eq_true h3]; exact ⟨rfl, rfl⟩
 rw [if_neg h3, decide_eq_false h3, cond_false, Bool.false_or]
 by_cases h4 : kRule = kind
 ·rw [if_pos h4, decide_eq_true h4]; exact ⟨rfl, rfl⟩
 rw [if_neg h4, decide_eq_false h4]
 exact ⟨rfl, rfl⟩
section
variable {P : Program} {ρ : Operand → Value} {o : Oper} {w0 w : World} {M : Mem} {H : List Ent} {b0 b1 b2 b3 b4 : Nat}
theorem X_all2 {t kt et : TypeId} {x ix : Operand} {k : List UInt8} (hA : AllAt M b0 b1 b2 b3 b4) (hp : Hp w0 M H w) (ho : o.op = .lookup t x ix true) (hx : ρ x = .map (some b0)) (hk : ρ ix = S k) (ht : P.underlying t = some (.map kt et)) (K : KeyLaw P kt S) (hz : (P.info? et).bind (·.zero) = some (.map none)) :
  (execOp ρ o).run P w = .ok (.value (.tuple #[.map (blkOf b1 b2 b3 b4 k), .bool (kindIn k)])) w := by
 have := X_lookup2 (ek := S) (ev := mapE) (m := allB b1 b2 b3 b4) (k := k) (z := none) ho hx hk ht K hz (hp.mem _ _ hA.h0)
 rw [(mget_allB b1 b2 b3 b4 k).1, (mget_allB b1 b2 b3 b4 k).2] at this
 exact this
theorem X_all1 {t kt et : TypeId} {x ix : Operand} {k : List UInt8} (hA : AllAt M b0 b1 b2 b3 b4) (hp : Hp w0 M H w) (ho : o.op = .lookup t x ix false) (hx : ρ x = .map (some b0)) (hk : ρ ix = S k) (ht : P.underlying t = some (.map kt et)) (K : KeyLaw P kt S) (hz : (P.info? et).bind (·.zero) = some (.map none)) :
  (execOp ρ o).run P w = .ok (.value (.map (blkOf b1 b2 b3 b4 k))) w := by
 have := X_lookup1 (ek := S) (ev := mapE) (m := allB b1 b2 b3 b4) (k := k) (z := none) ho hx hk ht K hz (hp.mem _ _ hA.h0)
 rw [(mget_allB b1 b2 b3 b4 k).1] at this
 exact this
theorem blk_at (hA : AllAt M b0 b1 b2 b3 b4) (kind : List UInt8) : (∃ b, blkOf b1 b2 b3 b4 kind = some b ∧ M b = some (mapO S specE (propsD kind))) ∨ (blkOf b1 b2 b3 b4 kind = none ∧ propsD kind = [] ∧ kindIn kind = false) := by
 unfold blkOf propsD kindIn
 by_cases h1 : kDisk = kind
 ·rw [decide_eq_true h1]; exact .inl ⟨b1, rfl, hA.h1⟩
 rw [decide_eq_false h1, cond_false, cond_false, Bool.false_or]
 by_cases h2 : kNet = kind
 ·rw [decide_eq_true h2]; exact .inl ⟨b2, rfl, hA.h2⟩
 rw [decide_eq_false h2, cond_false, cond_false, Bool.false_or]
 by_cases h3 : kNode = kind
 ·rw [decide_eq_true h3]; exact .inl ⟨b3, rfl, hA.h3⟩
 rw [decide_eq_false h3, cond_false, cond_false, Bool.false_or]
 by_cases h4 : kRule = kind
 ·rw [decide_eq_true h4]; exact .inl ⟨b4, rfl, hA.h4⟩
 rw [decide_eq_false h4]
 exact .inr ⟨rfl, rfl, rfl⟩
theorem kmap_of (hA : AllAt M b0 b1 b2 b3 b4) (kind : List UInt8) : KMapAt M (blkOf b1 b2 b3 b4 kind) S specE (propsD kind) := by
 rcases blk_at hA kind with h | ⟨h1, h2, _⟩
 ·exact .inl h
 ·exact .inr ⟨h1, h2⟩
def specAt (kind prop : List UInt8) : Option TG0 := mget (propsD kind) prop
theorem X_prop2 {t kt et : TypeId} {x ix : Operand} {k kind : List UInt8} {z : TG0} (hA : AllAt M b0 b1 b2 b3 b4) (hp : Hp w0 M H w) (ho : o.op = .lookup t x ix true) (hx : ρ x = .map (blkOf b1 b2 b3 b4 kind)) (hk : ρ ix = S k) (ht : P.underlying t = some (.map kt et)) (K : KeyLaw P kt S) (hz : (P.info? et).bind (·.zero) = some (specE z)) :
  (execOp ρ o).run P w = .ok (.value (.tuple #[specE ((specAt kind k).getD z), .bool (specAt kind k).isSome])) w := by
 rcases blk_at hA kind with ⟨b, h1, h2⟩ | ⟨h1, h2, _⟩
 ·rw [h1] at hx
  exact X_lookup2 (ek := S) (ev := specE) (m := propsD kind) (k := k) (z := z) ho hx hk ht K hz (hp.mem _ _ h2)
 ·rw [h1] at hx
  have := X_lookup_nil (ok := true) (enc := S) (k := k) ho hx hk ht K hz (w := w)
  rw [this]
  unfold specAt
  rw [h2]
  rfl
end
theorem X_lookupL {P : Program} {o : Oper} {ρ : Operand → Value} {w : World} {κ V : Type} [DecidableEq κ] {ek : κ → Value} {ev : V → Value} {t kt et : TypeId} {x ix : Operand} {b : Nat} {m : List (κ × V)} {k : κ} {z v : V} (ho : o.op = .lookup t x ix false) (hx : ρ x = .map (some b)) (hk : ρ ix = ek k) (ht : P.underlying t = some (.map kt et)) (K : KeyLaw P kt ek)
  (hz : (P.info? et).bind (·.zero) = some (ev z)) (hv : (mget m k).getD z = v) (hb : w.heap[b]? = some (mapO ek ev m)) : (execOp ρ o).run P w = .ok (.value (ev v)) w := by
 subst hv
 exact X_lookup1 ho hx hk ht K hz hb
theorem W_mapputL {P : Program} {ops : Array Oper} {n : Nat} {Q : Exit → Act → World → Prop} {L : Fr} {a : Act} {w0 w : World} {M : Mem} {H : List Ent} {κ V : Type} [DecidableEq κ] {ek : κ → Value} {ev : V → Value} {o : Oper} {rest : List Oper} {t kt et : TypeId} {x ix y : Operand} {b : Nat} {m m2 : List (κ × V)} {k : κ} {v : V} (hm : mput m k v = m2) (hf : Frm n L a) (hp : Hp w0 M (.obj b (mapO ek ev m) :: H) w) (hw : wantedL ops L o = some true) (hr : readyL L o = true) (hd : o.dst = none)
  (ho : o.op = .mapUpdate t x ix y ∨ o.op = .insert t x ix y) (hx : Vc.ev L x = .map (some b)) (hk : Vc.ev L ix = ek k) (hv : Vc.ev L y = ev v) (ht : P.underlying t = some (.map kt et)) (K : KeyLaw P kt ek)
  (hq : ∀ w', Hp w0 M (.obj b (mapO ek ev m2) :: H) w' → ∀ a', Frm n L a' → wpList P ops Q rest a' w') : wpList P ops Q (o :: rest) a w := by
 subst hm
 exact W_mapput hf hp hw hr hd ho hx hk hv ht K hq
theorem fzObj {w0 w : World} {M : Mem} {H : List Ent} {b : Nat} {o : Obj} (h : Hp w0 M (.obj b o :: H) w) : ∃ M', M.le M' ∧ Hp w0 M' H w ∧ M' b = some o :=
 ⟨_, h.freeze.1, h.freeze.2, by simp [Mem.add]⟩
theorem rounds_go {P : Program} {Q : Exit → Act → World → Prop} {c : Code} {n : Nat} {a : Act} {w : World} (h : c.wp P (Exit.then (Code.rounds P c Q n) Q) a w) : Code.rounds P c Q (n + 1) a w := h
set_option maxRecDepth 100000 in
set_option maxHeartbeats 4000000 in
theorem all_ok (M : Mem) : Ok Tryd.prog M 73 [] (fun M' v => ∃ b0 b1 b2 b3 b4, v = .map (some b0) ∧ AllAt M' b0 b1 b2 b3 b4) := by
 intro M1 hM0 w0 H w p0
 refine R_enter 47 Tryd.func73 rfl rfl (by simp) fun a0 f0 => RR (Y f0 1 fun _ f => eT (RR (W_newmap S mapE f p0 (by kernel_rfl) (by kernel_rfl) rfl rfl rfl fun bm_1 w_1 p_1 _ f => W_newmap S specE f p_1 (by kernel_rfl) (by kernel_rfl) rfl rfl rfl fun bm_2 w_2 p_2 _ f => ?_)))
 have p_3 := p_2.pl [1]
 refine W_mapputL (ek := S) (ev := mapE) (m := ([] : List (List UInt8 × Option Nat))) (k := [68, 105, 115, 107]) (v := some bm_2) (m2 := [([68, 105, 115, 107], some bm_2)]) (kt := 9) (et := 119) (by kernel_rfl) f p_3 (by kernel_rfl) (by kernel_rfl) rfl (.inr rfl) (by kernel_rfl) (by kernel_rfl) (by kernel_rfl) (by kernel_rfl) (strKey (by kernel_rfl)) fun w_3 p_4 _ f => W_newmap S specE f p_4 (by kernel_rfl) (by kernel_rfl) rfl rfl rfl fun bm_3 w_4 p_5 _ f => ?_
 have p_6 := p_5.pl [1]
 refine W_mapputL (ek := S) (ev := mapE) (m := [([68, 105, 115, 107], some bm_2)]) (k := [78, 101, 116]) (v := some bm_3) (m2 := [([68, 105, 115, 107], some bm_2), ([78, 101, 116], some bm_3)]) (kt := 9) (et := 119) (by kernel_rfl) f p_6 (by kernel_rfl) (by kernel_rfl) rfl (.inr rfl) (by kernel_rfl) (by kernel_rfl) (by kernel_rfl) (by kernel_rfl) (strKey (by kernel_rfl)) fun w_5 p_7 _ f => W_newmap S specE f p_7 (by kernel_rfl) (by kernel_rfl) rfl rfl rfl fun bm_4 w_6 p_8 _ f => ?_
 have p_9 := p_8.pl [1]
 refine W_mapputL (ek := S) (ev := mapE) (m := [([68, 105, 115, 107], some bm_2), ([78, 101, 116], some bm_3)]) (k := [78, 111, 100, 101]) (v := some bm_4) (m2 := [([68, 105, 115, 107], some bm_2), ([78, 101, 116], some bm_3), ([78, 111, 100, 101], some bm_4)]) (kt := 9) (et := 119) (by kernel_rfl) f p_9 (by kernel_rfl) (by kernel_rfl) rfl (.inr rfl) (by kernel_rfl) (by kernel_rfl) (by kernel_rfl) (by kernel_rfl) (strKey (by kernel_rfl)) fun w_7 p_10 _ f => W_newmap S specE f p_10 (by kernel_rfl) (by kernel_rfl) rfl rfl rfl fun bm_5 w_8 p_11 _ f => ?_
 have p_12 := p_11.pl [1]
 refine W_mapputL (ek := S) (ev := mapE) (m := [([68, 105, 115, 107], some bm_2), ([78, 101, 116], some bm_3), ([78, 111, 100, 101], some bm_4)]) (k := [82, 117, 108, 101]) (v := some bm_5) (m2 := [([68, 105, 115, 107], some bm_2), ([78, 101, 116], some bm_3), ([78, 111, 100, 101], some bm_4), ([82, 117, 108, 101], some bm_5)]) (kt := 9) (et := 119) (by kernel_rfl) f p_12 (by kernel_rfl) (by kernel_rfl) rfl (.inr rfl) (by kernel_rfl) (by kernel_rfl) (by kernel_rfl) (by kernel_rfl) (strKey (by kernel_rfl)) fun w_9 p_13 _ f => Y f 2 fun _ f => eT (R_seq (RR (Y f 24 fun _ f => eT (wp_block ?_))))
 refine wp_loop_rounds 12 (rounds_go (RR (Y f 1 fun _ f => eT (R_seq (Y8 f (wp_skip (T_n ?_)))))))
 refine R_seq (wp_block (RR (Y f 1 fun _ f => Y12 f p_13 (.cells #[S [], S [], .int .i8 0, .bool false] 147 (0, 0)) fun b_1 w_10 p_14 _ f => Y27 (vs := [S [68, 105, 115, 107], S [83, 105, 122, 101], .int .i8 2, .bool false]) (j := 0) f p_14 rfl rfl (by simp [Value.oneCell', S]) (by simp) (by decide) (cs' := #[S [68, 105, 115, 107], S [83, 105, 122, 101], .int .i8 2, .bool false]) rfl fun w_11 p_15 _ f => eT (R_reg (Y f 2 fun _ f => ?_)))))
 refine Z f (Y32 (v := S [68, 105, 115, 107]) rfl (ad := ⟨b_1, 0, none⟩) (p_15.ownCell 0 rfl 0)) fun _ f => Z (v := .map (some bm_2)) f (X_lookupL (ek := S) (ev := mapE) (m := [([68, 105, 115, 107], some bm_2), ([78, 101, 116], some bm_3), ([78, 111, 100, 101], some bm_4), ([82, 117, 108, 101], some bm_5)]) (k := [68, 105, 115, 107]) (z := none) (v := some bm_2) (kt := 9) (et := 119) rfl (by kernel_rfl) (by kernel_rfl) (by kernel_rfl) (strKey (by kernel_rfl)) (by kernel_rfl) (by kernel_rfl) (p_15.ownObj 1 rfl)) fun _ f => Y f 2 fun _ f => Z f (Y32 (v := S [83, 105, 122, 101]) rfl (ad := ⟨b_1, 1, none⟩) (p_15.ownCell 0 rfl 1)) fun _ f => Y f 1 fun _ f => Z (v := .agg #[S [83, 105, 122, 101], .int .i8 2, .bool false]) f (Y33 (cs := [S [83, 105, 122, 101], .int .i8 2, .bool false]) rfl (ad := ⟨b_1, 1, none⟩) (own_cells (p_15.ownCell 0 rfl) 1 rfl)) fun _ f => ?_
 have p_16 := p_15.pl [5]
 refine W_mapputL (ek := S) (ev := specE) (m := ([] : List (List UInt8 × TG0))) (k := [83, 105, 122, 101]) (v := ⟨[83, 105, 122, 101], 2, false⟩) (m2 := [([83, 105, 122, 101], ⟨[83, 105, 122, 101], 2, false⟩)]) (kt := 9) (et := 124) (by kernel_rfl) f p_16 (by kernel_rfl) (by kernel_rfl) rfl (.inl rfl) (by kernel_rfl) (by kernel_rfl) (by kernel_rfl) (by kernel_rfl) (strKey (by kernel_rfl)) fun w_12 p_17 _ f => W_end rfl (B_n (T_n (R_reg (Y f 2 fun _ f => eT (rounds_go (RR ?_))))))
 refine Y f 1 fun _ f => eT (R_seq (Y8 f (wp_skip (T_n (R_seq (wp_block (RR ?_)))))))
 refine Y f 1 fun _ f => Y12 f p_17 (.cells #[S [], S [], .int .i8 0, .bool false] 147 (0, 0)) fun b_2 w_13 p_18 _ f => Y27 (vs := [S [68, 105, 115, 107], S [84, 97, 103, 115], .int .i8 4, .bool false]) (j := 0) f p_18 rfl rfl (by simp [Value.oneCell', S]) (by simp) (by decide) (cs' := #[S [68, 105, 115, 107], S [84, 97, 103, 115], .int .i8 4, .bool false]) rfl fun w_14 p_19 _ f => eT (R_reg (Y f 2 fun _ f => Z f (Y32 (v := S [68, 105, 115, 107]) rfl (ad := ⟨b_2, 0, none⟩) (p_19.ownCell 0 rfl 0)) fun _ f => Z (v := .map (some bm_2)) f (X_lookupL (ek := S) (ev := mapE) (m := [([68, 105, 115, 107], some bm_2), ([78, 101, 116], some bm_3), ([78, 111, 100, 101], some bm_4), ([82, 117, 108, 101], some bm_5)]) (k := [68, 105, 115, 107]) (z := none) (v := some bm_2) (kt := 9) (et := 119) rfl (by kernel_rfl) (by kernel_rfl) (by kernel_rfl) (strKey (by kernel_rfl)) (by kernel_rfl) (by kernel_rfl) (p_19.ownObj 3 rfl)) fun _ f => Y f 2 fun _ f => Z f (Y32 (v := S [84, 97, 103, 115]) rfl (ad := ⟨b_2, 1, none⟩) (p_19.ownCell 0 rfl 1)) fun _ f => ?_))
 refine Y f 1 fun _ f => Z (v := .agg #[S [84, 97, 103, 115], .int .i8 4, .bool false]) f (Y33 (cs := [S [84, 97, 103, 115], .int .i8 4, .bool false]) rfl (ad := ⟨b_2, 1, none⟩) (own_cells (p_19.ownCell 0 rfl) 1 rfl)) fun _ f => ?_
 have p_20 := p_19.pl [1]
 refine W_mapputL (ek := S) (ev := specE) (m := [([83, 105, 122, 101], ⟨[83, 105, 122, 101], 2, false⟩)]) (k := [84, 97, 103, 115]) (v := ⟨[84, 97, 103, 115], 4, false⟩) (m2 := [([83, 105, 122, 101], ⟨[83, 105, 122, 101], 2, false⟩), ([84, 97, 103, 115], ⟨[84, 97, 103, 115], 4, false⟩)]) (kt := 9) (et := 124) (by kernel_rfl) f p_20 (by kernel_rfl) (by kernel_rfl) rfl (.inl rfl) (by kernel_rfl) (by kernel_rfl) (by kernel_rfl) (by kernel_rfl) (strKey (by kernel_rfl)) fun w_15 p_21 _ f => W_end rfl (B_n (T_n (R_reg (Y f 2 fun _ f => eT (rounds_go (RR ?_))))))
 refine Y f 1 fun _ f => eT (R_seq (Y8 f (wp_skip (T_n (R_seq (wp_block (RR ?_)))))))
 refine Y f 1 fun _ f => Y12 f p_21 (.cells #[S [], S [], .int .i8 0, .bool false] 147 (0, 0)) fun b_3 w_16 p_22 _ f => Y27 (vs := [S [68, 105, 115, 107], S [75, 105, 110, 100], .int .i8 3, .bool true]) (j := 0) f p_22 rfl rfl (by simp [Value.oneCell', S]) (by simp) (by decide) (cs' := #[S [68, 105, 115, 107], S [75, 105, 110, 100], .int .i8 3, .bool true]) rfl fun w_17 p_23 _ f => eT (R_reg (Y f 2 fun _ f => Z f (Y32 (v := S [68, 105, 115, 107]) rfl (ad := ⟨b_3, 0, none⟩) (p_23.ownCell 0 rfl 0)) fun _ f => Z (v := .map (some bm_2)) f (X_lookupL (ek := S) (ev := mapE) (m := [([68, 105, 115, 107], some bm_2), ([78, 101, 116], some bm_3), ([78, 111, 100, 101], some bm_4), ([82, 117, 108, 101], some bm_5)]) (k := [68, 105, 115, 107]) (z := none) (v := some bm_2) (kt := 9) (et := 119) rfl (by kernel_rfl) (by kernel_rfl) (by kernel_rfl) (strKey (by kernel_rfl)) (by kernel_rfl) (by kernel_rfl) (p_23.ownObj 4 rfl)) fun _ f => Y f 2 fun _ f => Z f (Y32 (v := S [75, 105, 110, 100]) rfl (ad := ⟨b_3, 1, none⟩) (p_23.ownCell 0 rfl 1)) fun _ f => ?_))
 refine Y f 1 fun _ f => Z (v := .agg #[S [75, 105, 110, 100], .int .i8 3, .bool true]) f (Y33 (cs := [S [75, 105, 110, 100], .int .i8 3, .bool true]) rfl (ad := ⟨b_3, 1, none⟩) (own_cells (p_23.ownCell 0 rfl) 1 rfl)) fun _ f => ?_
 have p_24 := p_23.pl [1]
 refine W_mapputL (ek := S) (ev := specE) (m := [([83, 105, 122, 101], ⟨[83, 105, 122, 101], 2, false⟩), ([84, 97, 103, 115], ⟨[84, 97, 103, 115], 4, false⟩)]) (k := [75, 105, 110, 100]) (v := ⟨[75, 105, 110, 100], 3, true⟩) (m2 := [([83, 105, 122, 101], ⟨[83, 105, 122, 101], 2, false⟩), ([84, 97, 103, 115], ⟨[84, 97, 103, 115], 4, false⟩), ([75, 105, 110, 100], ⟨[75, 105, 110, 100], 3, true⟩)]) (kt := 9) (et := 124) (by kernel_rfl) f p_24 (by kernel_rfl) (by kernel_rfl) rfl (.inl rfl) (by kernel_rfl) (by kernel_rfl) (by kernel_rfl) (by kernel_rfl) (strKey (by kernel_rfl)) fun w_18 p_25 _ f => W_end rfl (B_n (T_n (R_reg (Y f 2 fun _ f => eT (rounds_go (RR ?_))))))
 refine Y f 1 fun _ f => eT (R_seq (Y8 f (wp_skip (T_n (R_seq (wp_block (RR ?_)))))))
 refine Y f 1 fun _ f => Y12 f p_25 (.cells #[S [], S [], .int .i8 0, .bool false] 147 (0, 0)) fun b_4 w_19 p_26 _ f => Y27 (vs := [S [78, 101, 116], S [76, 97, 98, 101, 108], .int .i8 3, .bool false]) (j := 0) f p_26 rfl rfl (by simp [Value.oneCell', S]) (by simp) (by decide) (cs' := #[S [78, 101, 116], S [76, 97, 98, 101, 108], .int .i8 3, .bool false]) rfl fun w_20 p_27 _ f => eT (R_reg (Y f 2 fun _ f => Z f (Y32 (v := S [78, 101, 116]) rfl (ad := ⟨b_4, 0, none⟩) (p_27.ownCell 0 rfl 0)) fun _ f => Z (v := .map (some bm_3)) f (X_lookupL (ek := S) (ev := mapE) (m := [([68, 105, 115, 107], some bm_2), ([78, 101, 116], some bm_3), ([78, 111, 100, 101], some bm_4), ([82, 117, 108, 101], some bm_5)]) (k := [78, 101, 116]) (z := none) (v := some bm_3) (kt := 9) (et := 119) rfl (by kernel_rfl) (by kernel_rfl) (by kernel_rfl) (strKey (by kernel_rfl)) (by kernel_rfl) (by kernel_rfl) (p_27.ownObj 5 rfl)) fun _ f => Y f 2 fun _ f => Z f (Y32 (v := S [76, 97, 98, 101, 108]) rfl (ad := ⟨b_4, 1, none⟩) (p_27.ownCell 0 rfl 1)) fun _ f => ?_))
 refine Y f 1 fun _ f => Z (v := .agg #[S [76, 97, 98, 101, 108], .int .i8 3, .bool false]) f (Y33 (cs := [S [76, 97, 98, 101, 108], .int .i8 3, .bool false]) rfl (ad := ⟨b_4, 1, none⟩) (own_cells (p_27.ownCell 0 rfl) 1 rfl)) fun _ f => ?_
 have p_28 := p_27.pl [8]
 refine W_mapputL (ek := S) (ev := specE) (m := ([] : List (List UInt8 × TG0))) (k := [76, 97, 98, 101, 108]) (v := ⟨[76, 97, 98, 101, 108], 3, false⟩) (m2 := [([76, 97, 98, 101, 108], ⟨[76, 97, 98, 101, 108], 3, false⟩)]) (kt := 9) (et := 124) (by kernel_rfl) f p_28 (by kernel_rfl) (by kernel_rfl) rfl (.inl rfl) (by kernel_rfl) (by kernel_rfl) (by kernel_rfl) (by kernel_rfl) (strKey (by kernel_rfl)) fun w_21 p_29 _ f => W_end rfl (B_n (T_n (R_reg (Y f 2 fun _ f => eT (rounds_go (RR ?_))))))
 refine Y f 1 fun _ f => eT (R_seq (Y8 f (wp_skip (T_n (R_seq (wp_block (RR ?_)))))))
 refine Y f 1 fun _ f => Y12 f p_29 (.cells #[S [], S [], .int .i8 0, .bool false] 147 (0, 0)) fun b_5 w_22 p_30 _ f => Y27 (vs := [S [78, 101, 116], S [82, 97, 110, 103, 101], .int .i8 3, .bool true]) (j := 0) f p_30 rfl rfl (by simp [Value.oneCell', S]) (by simp) (by decide) (cs' := #[S [78, 101, 116], S [82, 97, 110, 103, 101], .int .i8 3, .bool true]) rfl fun w_23 p_31 _ f => eT (R_reg (Y f 2 fun _ f => Z f (Y32 (v := S [78, 101, 116]) rfl (ad := ⟨b_5, 0, none⟩) (p_31.ownCell 0 rfl 0)) fun _ f => Z (v := .map (some bm_3)) f (X_lookupL (ek := S) (ev := mapE) (m := [([68, 105, 115, 107], some bm_2), ([78, 101, 116], some bm_3), ([78, 111, 100, 101], some bm_4), ([82, 117, 108, 101], some bm_5)]) (k := [78, 101, 116]) (z := none) (v := some bm_3) (kt := 9) (et := 119) rfl (by kernel_rfl) (by kernel_rfl) (by kernel_rfl) (strKey (by kernel_rfl)) (by kernel_rfl) (by kernel_rfl) (p_31.ownObj 7 rfl)) fun _ f => Y f 2 fun _ f => Z f (Y32 (v := S [82, 97, 110, 103, 101]) rfl (ad := ⟨b_5, 1, none⟩) (p_31.ownCell 0 rfl 1)) fun _ f => ?_))
 refine Y f 1 fun _ f => Z (v := .agg #[S [82, 97, 110, 103, 101], .int .i8 3, .bool true]) f (Y33 (cs := [S [82, 97, 110, 103, 101], .int .i8 3, .bool true]) rfl (ad := ⟨b_5, 1, none⟩) (own_cells (p_31.ownCell 0 rfl) 1 rfl)) fun _ f => ?_
 have p_32 := p_31.pl [1]
 refine W_mapputL (ek := S) (ev := specE) (m := [([76, 97, 98, 101, 108], ⟨[76, 97, 98, 101, 108], 3, false⟩)]) (k := [82, 97, 110, 103, 101]) (v := ⟨[82, 97, 110, 103, 101], 3, true⟩) (m2 := [([76, 97, 98, 101, 108], ⟨[76, 97, 98, 101, 108], 3, false⟩), ([82, 97, 110, 103, 101], ⟨[82, 97, 110, 103, 101], 3, true⟩)]) (kt := 9) (et := 124) (by kernel_rfl) f p_32 (by kernel_rfl) (by kernel_rfl) rfl (.inl rfl) (by kernel_rfl) (by kernel_rfl) (by kernel_rfl) (by kernel_rfl) (strKey (by kernel_rfl)) fun w_24 p_33 _ f => W_end rfl (B_n (T_n (R_reg (Y f 2 fun _ f => eT (rounds_go (RR ?_))))))
 refine Y f 1 fun _ f => eT (R_seq (Y8 f (wp_skip (T_n (R_seq (wp_block (RR ?_)))))))
 refine Y f 1 fun _ f => Y12 f p_33 (.cells #[S [], S [], .int .i8 0, .bool false] 147 (0, 0)) fun b_6 w_25 p_34 _ f => Y27 (vs := [S [78, 111, 100, 101], S [67, 111, 117, 110, 116], .int .i8 2, .bool false]) (j := 0) f p_34 rfl rfl (by simp [Value.oneCell', S]) (by simp) (by decide) (cs' := #[S [78, 111, 100, 101], S [67, 111, 117, 110, 116], .int .i8 2, .bool false]) rfl fun w_26 p_35 _ f => eT (R_reg (Y f 2 fun _ f => Z f (Y32 (v := S [78, 111, 100, 101]) rfl (ad := ⟨b_6, 0, none⟩) (p_35.ownCell 0 rfl 0)) fun _ f => Z (v := .map (some bm_4)) f (X_lookupL (ek := S) (ev := mapE) (m := [([68, 105, 115, 107], some bm_2), ([78, 101, 116], some bm_3), ([78, 111, 100, 101], some bm_4), ([82, 117, 108, 101], some bm_5)]) (k := [78, 111, 100, 101]) (z := none) (v := some bm_4) (kt := 9) (et := 119) rfl (by kernel_rfl) (by kernel_rfl) (by kernel_rfl) (strKey (by kernel_rfl)) (by kernel_rfl) (by kernel_rfl) (p_35.ownObj 8 rfl)) fun _ f => Y f 2 fun _ f => Z f (Y32 (v := S [67, 111, 117, 110, 116]) rfl (ad := ⟨b_6, 1, none⟩) (p_35.ownCell 0 rfl 1)) fun _ f => ?_))
 refine Y f 1 fun _ f => Z (v := .agg #[S [67, 111, 117, 110, 116], .int .i8 2, .bool false]) f (Y33 (cs := [S [67, 111, 117, 110, 116], .int .i8 2, .bool false]) rfl (ad := ⟨b_6, 1, none⟩) (own_cells (p_35.ownCell 0 rfl) 1 rfl)) fun _ f => ?_
 have p_36 := p_35.pl [10]
 refine W_mapputL (ek := S) (ev := specE) (m := ([] : List (List UInt8 × TG0))) (k := [67, 111, 117, 110, 116]) (v := ⟨[67, 111, 117, 110, 116], 2, false⟩) (m2 := [([67, 111, 117, 110, 116], ⟨[67, 111, 117, 110, 116], 2, false⟩)]) (kt := 9) (et := 124) (by kernel_rfl) f p_36 (by kernel_rfl) (by kernel_rfl) rfl (.inl rfl) (by kernel_rfl) (by kernel_rfl) (by kernel_rfl) (by kernel_rfl) (strKey (by kernel_rfl)) fun w_27 p_37 _ f => W_end rfl (B_n (T_n (R_reg (Y f 2 fun _ f => eT (rounds_go (RR ?_))))))
 refine Y f 1 fun _ f => eT (R_seq (Y8 f (wp_skip (T_n (R_seq (wp_block (RR ?_)))))))
 refine Y f 1 fun _ f => Y12 f p_37 (.cells #[S [], S [], .int .i8 0, .bool false] 147 (0, 0)) fun b_7 w_28 p_38 _ f => Y27 (vs := [S [78, 111, 100, 101], S [68, 105, 115, 107], .int .i8 3, .bool false]) (j := 0) f p_38 rfl rfl (by simp [Value.oneCell', S]) (by simp) (by decide) (cs' := #[S [78, 111, 100, 101], S [68, 105, 115, 107], .int .i8 3, .bool false]) rfl fun w_29 p_39 _ f => eT (R_reg (Y f 2 fun _ f => Z f (Y32 (v := S [78, 111, 100, 101]) rfl (ad := ⟨b_7, 0, none⟩) (p_39.ownCell 0 rfl 0)) fun _ f => Z (v := .map (some bm_4)) f (X_lookupL (ek := S) (ev := mapE) (m := [([68, 105, 115, 107], some bm_2), ([78, 101, 116], some bm_3), ([78, 111, 100, 101], some bm_4), ([82, 117, 108, 101], some bm_5)]) (k := [78, 111, 100, 101]) (z := none) (v := some bm_4) (kt := 9) (et := 119) rfl (by kernel_rfl) (by kernel_rfl) (by kernel_rfl) (strKey (by kernel_rfl)) (by kernel_rfl) (by kernel_rfl) (p_39.ownObj 10 rfl)) fun _ f => Y f 2 fun _ f => Z f (Y32 (v := S [68, 105, 115, 107]) rfl (ad := ⟨b_7, 1, none⟩) (p_39.ownCell 0 rfl 1)) fun _ f => ?_))
 refine Y f 1 fun _ f => Z (v := .agg #[S [68, 105, 115, 107], .int .i8 3, .bool false]) f (Y33 (cs := [S [68, 105, 115, 107], .int .i8 3, .bool false]) rfl (ad := ⟨b_7, 1, none⟩) (own_cells (p_39.ownCell 0 rfl) 1 rfl)) fun _ f => ?_
 have p_40 := p_39.pl [1]
 refine W_mapputL (ek := S) (ev := specE) (m := [([67, 111, 117, 110, 116], ⟨[67, 111, 117, 110, 116], 2, false⟩)]) (k := [68, 105, 115, 107]) (v := ⟨[68, 105, 115, 107], 3, false⟩) (m2 := [([67, 111, 117, 110, 116], ⟨[67, 111, 117, 110, 116], 2, false⟩), ([68, 105, 115, 107], ⟨[68, 105, 115, 107], 3, false⟩)]) (kt := 9) (et := 124) (by kernel_rfl) f p_40 (by kernel_rfl) (by kernel_rfl) rfl (.inl rfl) (by kernel_rfl) (by kernel_rfl) (by kernel_rfl) (by kernel_rfl) (strKey (by kernel_rfl)) fun w_30 p_41 _ f => W_end rfl (B_n (T_n (R_reg (Y f 2 fun _ f => eT (rounds_go (RR ?_))))))
 refine Y f 1 fun _ f => eT (R_seq (Y8 f (wp_skip (T_n (R_seq (wp_block (RR ?_)))))))
 refine Y f 1 fun _ f => Y12 f p_41 (.cells #[S [], S [], .int .i8 0, .bool false] 147 (0, 0)) fun b_8 w_31 p_42 _ f => Y27 (vs := [S [78, 111, 100, 101], S [73, 109, 97, 103, 101], .int .i8 3, .bool true]) (j := 0) f p_42 rfl rfl (by simp [Value.oneCell', S]) (by simp) (by decide) (cs' := #[S [78, 111, 100, 101], S [73, 109, 97, 103, 101], .int .i8 3, .bool true]) rfl fun w_32 p_43 _ f => eT (R_reg (Y f 2 fun _ f => Z f (Y32 (v := S [78, 111, 100, 101]) rfl (ad := ⟨b_8, 0, none⟩) (p_43.ownCell 0 rfl 0)) fun _ f => Z (v := .map (some bm_4)) f (X_lookupL (ek := S) (ev := mapE) (m := [([68, 105, 115, 107], some bm_2), ([78, 101, 116], some bm_3), ([78, 111, 100, 101], some bm_4), ([82, 117, 108, 101], some bm_5)]) (k := [78, 111, 100, 101]) (z := none) (v := some bm_4) (kt := 9) (et := 119) rfl (by kernel_rfl) (by kernel_rfl) (by kernel_rfl) (strKey (by kernel_rfl)) (by kernel_rfl) (by kernel_rfl) (p_43.ownObj 11 rfl)) fun _ f => Y f 2 fun _ f => Z f (Y32 (v := S [73, 109, 97, 103, 101]) rfl (ad := ⟨b_8, 1, none⟩) (p_43.ownCell 0 rfl 1)) fun _ f => ?_))
 refine Y f 1 fun _ f => Z (v := .agg #[S [73, 109, 97, 103, 101], .int .i8 3, .bool true]) f (Y33 (cs := [S [73, 109, 97, 103, 101], .int .i8 3, .bool true]) rfl (ad := ⟨b_8, 1, none⟩) (own_cells (p_43.ownCell 0 rfl) 1 rfl)) fun _ f => ?_
 have p_44 := p_43.pl [1]
 refine W_mapputL (ek := S) (ev := specE) (m := [([67, 111, 117, 110, 116], ⟨[67, 111, 117, 110, 116], 2, false⟩), ([68, 105, 115, 107], ⟨[68, 105, 115, 107], 3, false⟩)]) (k := [73, 109, 97, 103, 101]) (v := ⟨[73, 109, 97, 103, 101], 3, true⟩) (m2 := [([67, 111, 117, 110, 116], ⟨[67, 111, 117, 110, 116], 2, false⟩), ([68, 105, 115, 107], ⟨[68, 105, 115, 107], 3, false⟩), ([73, 109, 97, 103, 101], ⟨[73, 109, 97, 103, 101], 3, true⟩)]) (kt := 9) (et := 124) (by kernel_rfl) f p_44 (by kernel_rfl) (by kernel_rfl) rfl (.inl rfl) (by kernel_rfl) (by kernel_rfl) (by kernel_rfl) (by kernel_rfl) (strKey (by kernel_rfl)) fun w_33 p_45 _ f => W_end rfl (B_n (T_n (R_reg (Y f 2 fun _ f => eT (rounds_go (RR ?_))))))
 refine Y f 1 fun _ f => eT (R_seq (Y8 f (wp_skip (T_n (R_seq (wp_block (RR ?_)))))))
 refine Y f 1 fun _ f => Y12 f p_45 (.cells #[S [], S [], .int .i8 0, .bool false] 147 (0, 0)) fun b_9 w_34 p_46 _ f => Y27 (vs := [S [78, 111, 100, 101], S [78, 101, 116], .int .i8 3, .bool true]) (j := 0) f p_46 rfl rfl (by simp [Value.oneCell', S]) (by simp) (by decide) (cs' := #[S [78, 111, 100, 101], S [78, 101, 116], .int .i8 3, .bool true]) rfl fun w_35 p_47 _ f => eT (R_reg (Y f 2 fun _ f => Z f (Y32 (v := S [78, 111, 100, 101]) rfl (ad := ⟨b_9, 0, none⟩) (p_47.ownCell 0 rfl 0)) fun _ f => Z (v := .map (some bm_4)) f (X_lookupL (ek := S) (ev := mapE) (m := [([68, 105, 115, 107], some bm_2), ([78, 101, 116], some bm_3), ([78, 111, 100, 101], some bm_4), ([82, 117, 108, 101], some bm_5)]) (k := [78, 111, 100, 101]) (z := none) (v := some bm_4) (kt := 9) (et := 119) rfl (by kernel_rfl) (by kernel_rfl) (by kernel_rfl) (strKey (by kernel_rfl)) (by kernel_rfl) (by kernel_rfl) (p_47.ownObj 12 rfl)) fun _ f => Y f 2 fun _ f => Z f (Y32 (v := S [78, 101, 116]) rfl (ad := ⟨b_9, 1, none⟩) (p_47.ownCell 0 rfl 1)) fun _ f => ?_))
 refine Y f 1 fun _ f => Z (v := .agg #[S [78, 101, 116], .int .i8 3, .bool true]) f (Y33 (cs := [S [78, 101, 116], .int .i8 3, .bool true]) rfl (ad := ⟨b_9, 1, none⟩) (own_cells (p_47.ownCell 0 rfl) 1 rfl)) fun _ f => ?_
 have p_48 := p_47.pl [1]
 refine W_mapputL (ek := S) (ev := specE) (m := [([67, 111, 117, 110, 116], ⟨[67, 111, 117, 110, 116], 2, false⟩), ([68, 105, 115, 107], ⟨[68, 105, 115, 107], 3, false⟩), ([73, 109, 97, 103, 101], ⟨[73, 109, 97, 103, 101], 3, true⟩)]) (k := [78, 101, 116]) (v := ⟨[78, 101, 116], 3, true⟩) (m2 := [([67, 111, 117, 110, 116], ⟨[67, 111, 117, 110, 116], 2, false⟩), ([68, 105, 115, 107], ⟨[68, 105, 115, 107], 3, false⟩), ([73, 109, 97, 103, 101], ⟨[73, 109, 97, 103, 101], 3, true⟩), ([78, 101, 116], ⟨[78, 101, 116], 3, true⟩)]) (kt := 9) (et := 124) (by kernel_rfl) f p_48 (by kernel_rfl) (by kernel_rfl) rfl (.inl rfl) (by kernel_rfl) (by kernel_rfl) (by kernel_rfl) (by kernel_rfl) (strKey (by kernel_rfl)) fun w_36 p_49 _ f => W_end rfl (B_n (T_n (R_reg (Y f 2 fun _ f => eT (rounds_go (RR ?_))))))
 refine Y f 1 fun _ f => eT (R_seq (Y8 f (wp_skip (T_n (R_seq (wp_block (RR ?_)))))))
 refine Y f 1 fun _ f => Y12 f p_49 (.cells #[S [], S [], .int .i8 0, .bool false] 147 (0, 0)) fun b_10 w_37 p_50 _ f => Y27 (vs := [S [82, 117, 108, 101], S [78, 111, 100, 101], .int .i8 3, .bool false]) (j := 0) f p_50 rfl rfl (by simp [Value.oneCell', S]) (by simp) (by decide) (cs' := #[S [82, 117, 108, 101], S [78, 111, 100, 101], .int .i8 3, .bool false]) rfl fun w_38 p_51 _ f => eT (R_reg (Y f 2 fun _ f => Z f (Y32 (v := S [82, 117, 108, 101]) rfl (ad := ⟨b_10, 0, none⟩) (p_51.ownCell 0 rfl 0)) fun _ f => Z (v := .map (some bm_5)) f (X_lookupL (ek := S) (ev := mapE) (m := [([68, 105, 115, 107], some bm_2), ([78, 101, 116], some bm_3), ([78, 111, 100, 101], some bm_4), ([82, 117, 108, 101], some bm_5)]) (k := [82, 117, 108, 101]) (z := none) (v := some bm_5) (kt := 9) (et := 119) rfl (by kernel_rfl) (by kernel_rfl) (by kernel_rfl) (strKey (by kernel_rfl)) (by kernel_rfl) (by kernel_rfl) (p_51.ownObj 13 rfl)) fun _ f => Y f 2 fun _ f => Z f (Y32 (v := S [78, 111, 100, 101]) rfl (ad := ⟨b_10, 1, none⟩) (p_51.ownCell 0 rfl 1)) fun _ f => ?_))
 refine Y f 1 fun _ f => Z (v := .agg #[S [78, 111, 100, 101], .int .i8 3, .bool false]) f (Y33 (cs := [S [78, 111, 100, 101], .int .i8 3, .bool false]) rfl (ad := ⟨b_10, 1, none⟩) (own_cells (p_51.ownCell 0 rfl) 1 rfl)) fun _ f => ?_
 have p_52 := p_51.pl [14]
 refine W_mapputL (ek := S) (ev := specE) (m := ([] : List (List UInt8 × TG0))) (k := [78, 111, 100, 101]) (v := ⟨[78, 111, 100, 101], 3, false⟩) (m2 := [([78, 111, 100, 101], ⟨[78, 111, 100, 101], 3, false⟩)]) (kt := 9) (et := 124) (by kernel_rfl) f p_52 (by kernel_rfl) (by kernel_rfl) rfl (.inl rfl) (by kernel_rfl) (by kernel_rfl) (by kernel_rfl) (by kernel_rfl) (strKey (by kernel_rfl)) fun w_39 p_53 _ f => W_end rfl (B_n (T_n (R_reg (Y f 2 fun _ f => eT (rounds_go (RR ?_))))))
 refine Y f 1 fun _ f => eT (R_seq (Y8 f (wp_skip (T_n (R_seq (wp_block (RR ?_)))))))
 refine Y f 1 fun _ f => Y12 f p_53 (.cells #[S [], S [], .int .i8 0, .bool false] 147 (0, 0)) fun b_11 w_40 p_54 _ f => Y27 (vs := [S [82, 117, 108, 101], S [80, 111, 114, 116], .int .i8 2, .bool true]) (j := 0) f p_54 rfl rfl (by simp [Value.oneCell', S]) (by simp) (by decide) (cs' := #[S [82, 117, 108, 101], S [80, 111, 114, 116], .int .i8 2, .bool true]) rfl fun w_41 p_55 _ f => eT (R_reg (Y f 2 fun _ f => Z f (Y32 (v := S [82, 117, 108, 101]) rfl (ad := ⟨b_11, 0, none⟩) (p_55.ownCell 0 rfl 0)) fun _ f => Z (v := .map (some bm_5)) f (X_lookupL (ek := S) (ev := mapE) (m := [([68, 105, 115, 107], some bm_2), ([78, 101, 116], some bm_3), ([78, 111, 100, 101], some bm_4), ([82, 117, 108, 101], some bm_5)]) (k := [82, 117, 108, 101]) (z := none) (v := some bm_5) (kt := 9) (et := 119) rfl (by kernel_rfl) (by kernel_rfl) (by kernel_rfl) (strKey (by kernel_rfl)) (by kernel_rfl) (by kernel_rfl) (p_55.ownObj 15 rfl)) fun _ f => Y f 2 fun _ f => Z f (Y32 (v := S [80, 111, 114, 116]) rfl (ad := ⟨b_11, 1, none⟩) (p_55.ownCell 0 rfl 1)) fun _ f => ?_))
 refine Y f 1 fun _ f => Z (v := .agg #[S [80, 111, 114, 116], .int .i8 2, .bool true]) f (Y33 (cs := [S [80, 111, 114, 116], .int .i8 2, .bool true]) rfl (ad := ⟨b_11, 1, none⟩) (own_cells (p_55.ownCell 0 rfl) 1 rfl)) fun _ f => ?_
 have p_56 := p_55.pl [1]
 refine W_mapputL (ek := S) (ev := specE) (m := [([78, 111, 100, 101], ⟨[78, 111, 100, 101], 3, false⟩)]) (k := [80, 111, 114, 116]) (v := ⟨[80, 111, 114, 116], 2, true⟩) (m2 := [([78, 111, 100, 101], ⟨[78, 111, 100, 101], 3, false⟩), ([80, 111, 114, 116], ⟨[80, 111, 114, 116], 2, true⟩)]) (kt := 9) (et := 124) (by kernel_rfl) f p_56 (by kernel_rfl) (by kernel_rfl) rfl (.inl rfl) (by kernel_rfl) (by kernel_rfl) (by kernel_rfl) (by kernel_rfl) (strKey (by kernel_rfl)) fun w_42 p_57 _ f => W_end rfl (B_n (T_n (R_reg (Y f 2 fun _ f => eT (rounds_go (RR ?_))))))
 refine Y f 1 fun _ f => eT (R_seq (Y7 f (wp_exit (T_x (T_x (B_x (T_n (R_seq ?_))))))))
 refine R_reg (Y f 2 fun _ f => eT (wp_ret ?_))
 have p_58 := p_57.pl [15]
 obtain ⟨M_1, hM_1, p_59, h_1⟩ := fzObj p_58
 have p_60 := p_59.pl [11]
 obtain ⟨M_2, hM_2, p_61, h_2⟩ := fzObj p_60
 have p_62 := p_61.pl [8]
 obtain ⟨M_3, hM_3, p_63, h_3⟩ := fzObj p_62
 have p_64 := p_63.pl [3]
 obtain ⟨M_4, hM_4, p_65, h_4⟩ := fzObj p_64
 obtain ⟨M_5, hM_5, p_66, h_5⟩ := fzObj p_65
 refine E_ret1 f rfl (by kernel_rfl : Vc.look _ 0 = some (.map (some bm_1))) ?_
 exact ⟨_, rfl, M_5, ((((hM_1.trans hM_2).trans hM_3).trans hM_4).trans hM_5), (p_66.dropN 11), bm_1, bm_2, bm_3, bm_4, bm_5, rfl, ⟨((((hM_2.trans hM_3).trans hM_4).trans hM_5) _ _ h_1), (((hM_3.trans hM_4).trans hM_5) _ _ h_2), ((hM_4.trans hM_5) _ _ h_3), (hM_5 _ _ h_4), h_5⟩⟩
def schema_Find (n : Nat) (d0 : List UInt8) (d1 : List UInt8) : Option (TG0 × Bool) :=
  some ((((specAt d0 d1).getD z_TG0), ((specAt d0 d1).isSome)))
theorem schema_Find_ok (n : Nat) (M : Mem) (hG : GL M) (d0 : List UInt8) (d1 : List UInt8) (r : TG0 × Bool) (hF : schema_Find n d0 d1 = some r) : Ok Tryd.prog M 74 [S d0, S d1] (fun M' v => ∃ (c0 : List Value), v = .tuple #[.agg c0.toArray, .bool r.2] ∧ Rep M' (emb_TG0 r.1) c0) := by
 unfold schema_Find at hF
 intro M1 hM0 w0 H w p0
 replace hG := GL.mono hM0 hG
 refine R_enter 18 Tryd.func74 rfl rfl (by simp) fun a0 f0 => RR (Y12 f0 p0 (.cells #[S [], .int .i8 0, .bool false] 124 (0, 0)) fun b_1 w_1 p_1 _ f => Y f 1 fun _ f => eT (RR (Y16 f p_1 (all_ok _) fun _ M_1 w_2 hM_1 p_2 q_1 _ f => ?_)))
 obtain ⟨b_2, b_3, b_4, b_5, b_6, rfl, hA_1⟩ := q_1
 refine Y f 1 fun _ f => Z (v := .map (blkOf b_3 b_4 b_5 b_6 d0)) f (X_all1 (k := d0) (kt := 9) (et := 119) hA_1 p_2 rfl (by kernel_rfl) (by kernel_rfl) (by kernel_rfl) (strKey (by kernel_rfl)) (by kernel_rfl)) fun _ f => Y f 1 fun _ f => Z (v := .tuple #[.agg #[S ((specAt d0 d1).getD z_TG0).fName, .int .i8 ((specAt d0 d1).getD z_TG0).fKind, .bool ((specAt d0 d1).getD z_TG0).fReplace], .bool (specAt d0 d1).isSome]) f (X_prop2 (k := d1) (kind := d0) (z := z_TG0) (kt := 9) (et := 124) hA_1 p_2 rfl (by kernel_rfl) (by kernel_rfl) (by kernel_rfl) (strKey (by kernel_rfl)) (by kernel_rfl)) fun _ f => Y f 3 fun _ f => Y12 f p_2 (.cells #[S [], .int .i8 0, .bool false] 124 (0, 0)) fun b_7 w_3 p_3 _ f => Y27 (vs := [S ((specAt d0 d1).getD z_TG0).fName, .int .i8 ((specAt d0 d1).getD z_TG0).fKind, .bool ((specAt d0 d1).getD z_TG0).fReplace]) (j := 0) f p_3 rfl rfl (by simp [Value.oneCell', S]) (by simp) (by decide) (cs' := #[S ((specAt d0 d1).getD z_TG0).fName, .int .i8 ((specAt d0 d1).getD z_TG0).fKind, .bool ((specAt d0 d1).getD z_TG0).fReplace]) (by kernel_rfl) fun w_4 p_4 _ f => Y f 1 fun _ f => eT (RR (Z (v := .agg #[S ((specAt d0 d1).getD z_TG0).fName, .int .i8 ((specAt d0 d1).getD z_TG0).fKind, .bool ((specAt d0 d1).getD z_TG0).fReplace]) f (Y33 (cs := [S ((specAt d0 d1).getD z_TG0).fName, .int .i8 ((specAt d0 d1).getD z_TG0).fKind, .bool ((specAt d0 d1).getD z_TG0).fReplace]) rfl (ad := ⟨b_7, 0, none⟩) (own_cells (p_4.ownCell 0 rfl) 0 rfl)) fun _ f => Y f 1 fun _ f => ?_))
 have p_5 := p_4.pl [1]
 refine Y27 (vs := [S ((specAt d0 d1).getD z_TG0).fName, .int .i8 ((specAt d0 d1).getD z_TG0).fKind, .bool ((specAt d0 d1).getD z_TG0).fReplace]) (j := 0) f p_5 rfl rfl (by simp [Value.oneCell', S]) (by simp) (by decide) (cs' := #[S ((specAt d0 d1).getD z_TG0).fName, .int .i8 ((specAt d0 d1).getD z_TG0).fKind, .bool ((specAt d0 d1).getD z_TG0).fReplace]) (by kernel_rfl) fun w_5 p_6 _ f => Y f 1 fun _ f => eT (wp_ret (E_rv2 f rfl (Y10 (cs := [S ((specAt d0 d1).getD z_TG0).fName, .int .i8 ((specAt d0 d1).getD z_TG0).fKind, .bool ((specAt d0 d1).getD z_TG0).fReplace]) (ad := ⟨b_1, 0, none⟩) f (own_cells (p_6.ownCell 0 rfl) 0 rfl)) (Y11 (v := .bool (specAt d0 d1).isSome) f) ?_))
 obtain rfl := sI hF
 exact ⟨_, rfl, M_1, hM_1, (p_6.dropN 2), ⟨[S ((specAt d0 d1).getD z_TG0).fName, .int .i8 ((specAt d0 d1).getD z_TG0).fKind, .bool ((specAt d0 d1).getD z_TG0).fReplace], rfl, (TG0.shutx (x := ((specAt d0 d1).getD z_TG0)) )⟩⟩
def print_Word (n : Nat) (d0 : List UInt8) : Option Bool :=
  bif (decide ((d0.length : Int) ≤ 64)) then
    ((runes_Valid n d0).bind fun x_1 =>
    some ((x_1)))
  else
    some ((false))
theorem print_Word_ok (n : Nat) (M : Mem) (hG : GL M) (d0 : List UInt8) (r : Bool) (hF : print_Word n d0 = some r) : Ok Tryd.prog M 95 [S d0] (fun _ v => v = .bool r) := by
 unfold print_Word at hF
 intro M1 hM0 w0 H w p0
 replace hG := GL.mono hM0 hG
 refine R_enter 10 Tryd.func95 rfl rfl (by simp) fun a0 f0 => RR (Y f0 1 fun _ f => eT (RR (Y f 4 fun _ f => ?_)))
 rcases cE hF with ⟨h_1, hF_1⟩ | ⟨h_1, hF_3⟩
 ·have k_1 := dI.1 h_1
  have f := f.st 6 (cB h_1)
  refine Y f 1 fun _ f => ?_
  obtain ⟨x_1, hx_1, hF_2⟩ := bS hF_1
  refine Y18 f p0 (runes_Valid_ok n _ hG d0 x_1 hx_1) fun w_1 p_1 _ f => Y f 2 fun _ f => eT (wp_ret (E_ret1 f rfl (by kernel_rfl : Vc.look _ 2 = some (.bool x_1)) ?_))
  obtain rfl := sI hF_2
  exact ⟨_, rfl, M1, (mR _), p_1, rfl⟩
 ·have k_2 := iff_f dI h_1
  have f := f.st 6 (cB h_1)
  refine Y f 4 fun _ f => eT (wp_ret (E_ret1 f rfl (by kernel_rfl : Vc.look _ 2 = some (.bool false)) ?_))
  obtain rfl := sI hF_3
  exact ⟨_, rfl, M1, (mR _), p0, rfl⟩
def schema_value_1_2 (n : Nat) (rec_schema_value : TD0 → Int → Option Bool) (d0 : TD0) : Option Bool :=
  (rec_schema_value d0 (3 : Int)).bind fun x_1 =>
  some ((!x_1))
theorem schema_value_1_2_ok (n : Nat) (rec_schema_value : TD0 → Int → Option Bool) (hrec_schema_value : ∀ (M : Mem) (hG : GL M) (ad0 : Addr) (c0 : List Value) (d0 : TD0) (h0 : Rep M (emb_TD0 d0) c0) (q0 : ∀ j v, c0[j]? = some v → M.cell? (ad0.add j) = some v) (d1 : Int) (r : Bool) (hF : rec_schema_value d0 d1 = some r), Ok Tryd.prog M 75 [.pointer (some ad0), .int .i8 d1] (fun _ v => v = .bool r)) (M : Mem) (hG : GL M) (c0 : List Value) (d0 : TD0) (h0 : Rep M (emb_TD0 d0) c0) (r : Bool) (hF : schema_value_1_2 n rec_schema_value d0 = some r) : Ok Tryd.prog M 97 [.agg c0.toArray] (fun _ v => v = .bool r) := by
 unfold schema_value_1_2 at hF
 intro M1 hM0 w0 H w p0
 replace hG := GL.mono hM0 hG
 replace h0 := Rep.mono hM0 _ _ h0
 obtain ⟨A_1, cap_1, A_2, cap_2, rfl, h_1, h_2⟩ := TD0.opn h0
 refine R_enter 5 Tryd.func97 rfl rfl (by simp) fun a0 f0 => RR (Y13 (cs := #[.int .i8 d0.fKind, .bool d0.fBool, .int .i64 d0.fNum, S d0.fText, .slice A_1 d0.fList.length cap_1, .slice A_2 d0.fKeys.length cap_2]) (T := 26) f0 p0 fun b_1 M_1 w_1 hM_1 hc_1 p_1 _ f => ?_)
 have hc_2 := fz_box hc_1
 refine Y f 1 fun _ f => eT (RR ?_)
 obtain ⟨x_1, hx_1, hF_1⟩ := bS hF
 refine Y18 f p_1 (hrec_schema_value _ (GL.mono hM_1 hG) (⟨b_1, 0, none⟩) [.int .i8 d0.fKind, .bool d0.fBool, .int .i64 d0.fNum, S d0.fText, .slice A_1 d0.fList.length cap_1, .slice A_2 d0.fKeys.length cap_2] d0 (TD0.shutx (x := d0) (h_1.mono hM_1) (h_2.mono hM_1)) (fz_at (hc_2) 0 rfl) (3 : Int) x_1 hx_1) fun w_2 p_2 _ f => Y f 2 fun _ f => eT (wp_ret (E_ret1 f rfl (by kernel_rfl : Vc.look _ 2 = some (.bool !x_1)) ?_))
 obtain rfl := sI hF_1
 exact ⟨_, rfl, M_1, hM_1, p_2, rfl⟩
def slices_IndexFuncapi_Value_api_Value_2_s1 (n : Nat) (rec_schema_value : TD0 → Int → Option Bool) (d0 : List TD0) (s_1 : Int) : Option (Lp Int (Sum Int Unit)) :=
    bif (decide (s_1 < ((d0.length : Nat) : Int))) then
      ((getI d0 s_1).bind fun x_1 =>
      (schema_value_1_2 n rec_schema_value x_1).bind fun x_2 =>
      bif x_2 then
        (some (.br (.inl s_1)))
      else
        need (inR .i64 (s_1 + 1)) <|
        some (.nx (s_1 + 1)))
    else
      some (.br (.inr ()))
def slices_IndexFuncapi_Value_api_Value_2 (n : Nat) (rec_schema_value : TD0 → Int → Option Bool) (d0 : List TD0) : Option Int :=
  (loopF (slices_IndexFuncapi_Value_api_Value_2_s1 n rec_schema_value d0) n (0 : Int)).bind fun b_1 =>
  (match b_1 with 
  | .inl y_1 => some (y_1) 
  | .inr y_2 => some ((-1 : Int)))
theorem slices_IndexFuncapi_Value_api_Value_2_ok (n : Nat) (rec_schema_value : TD0 → Int → Option Bool) (hrec_schema_value : ∀ (M : Mem) (hG : GL M) (ad0 : Addr) (c0 : List Value) (d0 : TD0) (h0 : Rep M (emb_TD0 d0) c0) (q0 : ∀ j v, c0[j]? = some v → M.cell? (ad0.add j) = some v) (d1 : Int) (r : Bool) (hF : rec_schema_value d0 d1 = some r), Ok Tryd.prog M 75 [.pointer (some ad0), .int .i8 d1] (fun _ v => v = .bool r)) (M : Mem) (hG : GL M) (A0 : Option Addr) (cap0 : Nat) (d0 : List TD0) (h0 : Sli M 6 emb_TD0 A0 cap0 d0) (r : Int) (hF : slices_IndexFuncapi_Value_api_Value_2 n rec_schema_value d0 = some r) : Ok Tryd.prog M 124 [.slice A0 d0.length cap0, .func (.func 97) #[] #[]] (fun _ v => v = .int .i64 r) := by
 unfold slices_IndexFuncapi_Value_api_Value_2 at hF
 intro M1 hM0 w0 H w p0
 replace hG := GL.mono hM0 hG
 replace h0 := h0.mono hM0
 refine R_enter 19 Tryd.func124 rfl rfl (by simp) fun a0 f0 => RR (Y f0 1 fun _ f => eT (R_seq (RR (Y f 3 fun _ f => eT (wp_block ?_)))))
 obtain ⟨b_1, hL_1, hF_1⟩ := bS hF
 refine wp_mono (Q := fun e a w => (e = .ret ∧ (∃ y_1 : Int, b_1 = .inl y_1 ∧ ∃ M_2 : Mem, M1.le M_2 ∧ Frm 19 [(4, .int .i64 y_1)] a ∧ Hp w0 M_2 (H) w)) ∨ (e = .exit 0 ∧ (∃ y_2 : Unit, b_1 = .inr y_2 ∧ ∃ M_3 : Mem, M1.le M_3 ∧ Frm 19 [] a ∧ Hp w0 M_3 (H) w))) (R_loop (n := 19) (w0 := w0) (M := M1) (fun (x : Nat × Int) => match x with | (m_1, s_1) => [(0, .slice A0 d0.length cap0), (1, .func (.func 97) #[] #[]), (7, .int .i64 ((d0.length : Nat) : Int)), (8, .int .i64 s_1)]) (fun (x : Nat × Int) => match x with | (m_1, s_1) => (H)) (fun (x : Nat × Int) (MM : Mem) => match x with | (m_1, s_1) => loopF (slices_IndexFuncapi_Value_api_Value_2_s1 n rec_schema_value d0) m_1 s_1 = some b_1) (fun (x : Nat × Int) => match x with | (m_1, s_1) => m_1) (n, (0 : Int)) (f.kp) p0 hL_1 ?_) ?_
 ·rintro ⟨m_1, s_1⟩ M_1 _ w_1 hM_1 I_1 f p_1
  have I_1L := I_1
  obtain ⟨m_2, r_1, rfl, hs_1, hn_1⟩ := loop_step I_1L
  unfold slices_IndexFuncapi_Value_api_Value_2_s1 at hs_1
  refine RR (Y f 1 fun _ f => eT (R_seq (RcF f hs_1 (fun h_1 hF_2 => ?_) fun h_1 hF_8 => ?_)))
  ·have k_1 := dI.1 h_1
   refine wp_skip (T_n (R_seq (wp_block (RR (Y f 2 fun _ f => eT (RR (Y f 3 fun _ f => ?_)))))))
   obtain ⟨x_1, hx_1, hF_3⟩ := bS hF_2
   obtain ⟨ad_1, c_1, e_1, -, hr_1, hc_1⟩ := Sli.at_ (h0.mono hM_1) hx_1
   obtain ⟨A_1, cap_1, A_2, cap_2, rfl, h_2, h_3⟩ := TD0.opn hr_1
   refine Z f (Y31 e_1 rfl (len := d0.length) (cap := cap0) (k := .i64) (i := s_1) (e := 26) (sz := 6) (getI_nn hx_1) (getI_lt hx_1)) fun _ f => Z (v := .agg #[.int .i8 x_1.fKind, .bool x_1.fBool, .int .i64 x_1.fNum, S x_1.fText, .slice A_1 x_1.fList.length cap_1, .slice A_2 x_1.fKeys.length cap_2]) f (Y33 (cs := [.int .i8 x_1.fKind, .bool x_1.fBool, .int .i64 x_1.fNum, S x_1.fText, .slice A_1 x_1.fList.length cap_1, .slice A_2 x_1.fKeys.length cap_2]) rfl (ad := ad_1.add (s_1.toNat * 6)) (fun j v h => p_1.cell (hc_1 j v h))) fun _ f => ?_
   obtain ⟨x_2, hx_2, hF_4⟩ := bS hF_3
   refine Y18 f p_1 (schema_value_1_2_ok n rec_schema_value hrec_schema_value _ (GL.mono hM_1 hG) _ x_1 (TD0.shutx (x := x_1) h_2 h_3) x_2 hx_2) fun w_2 p_2 _ f => eT (RcF f hF_4 (fun h_4 hF_5 => ?_) fun h_4 hF_6 => ?_)
   ·refine RR (Y f 2 fun _ f => eT (wp_ret (B_r (T_r (T_r ?_)))))
    obtain rfl := sI hF_5
    exact .inl ⟨rfl, s_1, (sI hn_1).symm, M_1, hM_1, f.kp, p_2⟩
   ·refine wp_skip (B_n (T_n (R_reg ?_)))
    obtain ⟨g_1, hF_7⟩ := nS hF_6
    refine Y f 1 fun _ f => ?_
    have f := f.st 18 (congrArg (Value.int .i64) (inR_wrap g_1))
    refine Y f 1 fun _ f => eT ?_
    obtain rfl := sI hF_7
    exact ⟨⟨m_2, s_1 + 1⟩, Nat.lt_succ_self _, M_1, hM_1, hn_1, f.kp, p_2⟩
  ·have k_4 := iff_f dI h_1
   refine wp_exit (T_x (T_x ?_))
   obtain rfl := sI hF_8
   exact .inr ⟨rfl, (), (sI hn_1).symm, M_1, hM_1, f.kp, p_1⟩
 ·rintro _ _ w_5 (⟨rfl, y_1, rfl, M_2, hM_2, f, p_3⟩ | ⟨rfl, y_2, rfl, M_3, hM_3, f, p_4⟩)
  ·refine B_r (T_r (E_ret1 f rfl (by kernel_rfl : Vc.look _ 4 = some (.int .i64 y_1)) ?_))
   obtain rfl := sI hF_1
   exact ⟨_, rfl, M_2, hM_2, p_3, rfl⟩
  ·refine B_x (T_n (RR (Y f 1 fun _ f => eT (wp_ret (E_ret1 f rfl (by kernel_rfl : Vc.look _ 4 = some (.int .i64 (-1))) ?_)))))
   obtain rfl := sI hF_1
   exact ⟨_, rfl, M_3, hM_3, p_4, rfl⟩
def slices_ContainsFuncapi_Value_api_Value_2 (n : Nat) (rec_schema_value : TD0 → Int → Option Bool) (d0 : List TD0) : Option Bool :=
  (slices_IndexFuncapi_Value_api_Value_2 n rec_schema_value d0).bind fun x_1 =>
  some ((decide ((0 : Int) ≤ x_1)))
theorem slices_ContainsFuncapi_Value_api_Value_2_ok (n : Nat) (rec_schema_value : TD0 → Int → Option Bool) (hrec_schema_value : ∀ (M : Mem) (hG : GL M) (ad0 : Addr) (c0 : List Value) (d0 : TD0) (h0 : Rep M (emb_TD0 d0) c0) (q0 : ∀ j v, c0[j]? = some v → M.cell? (ad0.add j) = some v) (d1 : Int) (r : Bool) (hF : rec_schema_value d0 d1 = some r), Ok Tryd.prog M 75 [.pointer (some ad0), .int .i8 d1] (fun _ v => v = .bool r)) (M : Mem) (hG : GL M) (A0 : Option Addr) (cap0 : Nat) (d0 : List TD0) (h0 : Sli M 6 emb_TD0 A0 cap0 d0) (r : Bool) (hF : slices_ContainsFuncapi_Value_api_Value_2 n rec_schema_value d0 = some r) : Ok Tryd.prog M 96 [.slice A0 d0.length cap0, .func (.func 97) #[] #[]] (fun _ v => v = .bool r) := by
 unfold slices_ContainsFuncapi_Value_api_Value_2 at hF
 intro M1 hM0 w0 H w p0
 replace hG := GL.mono hM0 hG
 replace h0 := h0.mono hM0
 refine R_enter 9 Tryd.func96 rfl rfl (by simp) fun a0 f0 => RR (Y f0 1 fun _ f => eT (RR (Y f 2 fun _ f => ?_)))
 obtain ⟨x_1, hx_1, hF_1⟩ := bS hF
 refine Y18 f p0 (slices_IndexFuncapi_Value_api_Value_2_ok n rec_schema_value hrec_schema_value _ hG A0 cap0 d0 h0 x_1 hx_1) fun w_1 p_1 _ f => Y f 2 fun _ f => eT (wp_ret (E_ret1 f rfl (by kernel_rfl : Vc.look _ 4 = some (.bool (decide ((0 : Int) ≤ x_1)))) ?_))
 obtain rfl := sI hF_1
 exact ⟨_, rfl, M1, (mR _), p_1, rfl⟩
def schema_value_b (n : Nat) (rec_schema_value : TD0 → Int → Option Bool) (d0 : TD0) (d1 : Int) : Option Bool :=
  ((bif (!(decide (d0.fKind = d1))) then
      (some ((true)))
    else
      (tree_Check n d0).bind fun x_1 =>
      some ((!(decide (x_1 = 0)))) : Option Bool)).bind fun y_1 =>
  bif y_1 then
    (some ((false)))
  else
    bif (decide (d1 = 3)) then
      ((print_Word n d0.fText).bind fun x_2 =>
      some ((x_2)))
    else
      bif (decide (d1 = 4)) then
        (bif (decide (((d0.fList.length : Nat) : Int) ≤ 8)) then
          ((slices_ContainsFuncapi_Value_api_Value_2 n rec_schema_value d0.fList).bind fun x_3 =>
          some ((!x_3)))
        else
          some ((false)))
      else
        some ((true))
set_option maxRecDepth 20000 in
theorem schema_value_b_ok (n : Nat) (rec_schema_value : TD0 → Int → Option Bool) (hrec_schema_value : ∀ (M : Mem) (hG : GL M) (ad0 : Addr) (c0 : List Value) (d0 : TD0) (h0 : Rep M (emb_TD0 d0) c0) (q0 : ∀ j v, c0[j]? = some v → M.cell? (ad0.add j) = some v) (d1 : Int) (r : Bool) (hF : rec_schema_value d0 d1 = some r), Ok Tryd.prog M 75 [.pointer (some ad0), .int .i8 d1] (fun _ v => v = .bool r)) (M : Mem) (hG : GL M) (ad0 : Addr) (c0 : List Value) (d0 : TD0) (h0 : Rep M (emb_TD0 d0) c0) (q0 : ∀ j v, c0[j]? = some v → M.cell? (ad0.add j) = some v) (d1 : Int) (r : Bool) (hF : schema_value_b n rec_schema_value d0 d1 = some r) : Ok Tryd.prog M 75 [.pointer (some ad0), .int .i8 d1] (fun _ v => v = .bool r) := by
 unfold schema_value_b at hF
 intro M1 hM0 w0 H w p0
 replace hG := GL.mono hM0 hG
 replace h0 := Rep.mono hM0 _ _ h0
 replace q0 := fun j v h => hM0.cell (q0 j v h)
 obtain ⟨A_1, cap_1, A_2, cap_2, rfl, h_1, h_2⟩ := TD0.opn h0
 refine R_enter 42 Tryd.func75 rfl rfl (by simp) fun a0 f0 => RR (Y f0 1 fun _ f => eT (R_seq (R_seq ?_)))
 obtain ⟨j_1, hj_1, hF_1⟩ := bS hF
 refine R_mid (fun a_10 w_2 => ∃ y_1 : Bool, j_1 = y_1 ∧ ∃ M_1 : Mem, M1.le M_1 ∧ Frm 42 [(0, .pointer (some ad0)), (1, .int .i8 d1), (17, .bool y_1)] a_10 ∧ Hp w0 M_1 (H) w_2) ?_ ?_
 ·refine R_reg (Y f 3 fun _ f => Y15 f p0 q0 0 rfl fun _ f => Y f 3 fun _ f => ?_)
  rcases cE hj_1 with ⟨h_3, hF_2⟩ | ⟨h_3, hF_3⟩
  ·have k_1 : ¬ (d0.fKind = d1) := (not_iff dI).1 h_3
   have f := f.st 11 (cB h_3)
   refine Y f 6 fun _ f => eT ?_
   exact ⟨(true), (sI hF_2).symm, M1, (mR _), f.kp, p0⟩
  ·have k_2 : ¬ (¬ (d0.fKind = d1)) := iff_f (not_iff dI) h_3
   have f := f.st 11 (cB h_3)
   refine Y f 2 fun _ f => Z (v := .agg #[.int .i8 d0.fKind, .bool d0.fBool, .int .i64 d0.fNum, S d0.fText, .slice A_1 d0.fList.length cap_1, .slice A_2 d0.fKeys.length cap_2]) f (Y33 (cs := [.int .i8 d0.fKind, .bool d0.fBool, .int .i64 d0.fNum, S d0.fText, .slice A_1 d0.fList.length cap_1, .slice A_2 d0.fKeys.length cap_2]) rfl (ad := ad0) (fun j v h => p0.cell (q0 j v h))) fun _ f => ?_
   obtain ⟨x_1, hx_1, hF_4⟩ := bS hF_3
   refine Y18 f p0 (tree_Check_ok n _ hG _ d0 (TD0.shutx (x := d0) h_1 h_2) x_1 hx_1) fun w_1 p_1 _ f => Y f 2 fun _ f => eT ?_
   exact ⟨(!(decide (x_1 = 0))), (sI hF_4).symm, M1, (mR _), f.kp, p_1⟩
 ·rintro a_10 w_2 ⟨y_1, hq_1, M_1, hM_1, f, p_2⟩
  subst j_1
  refine T_n (RcF f hF_1 (fun h_4 hF_5 => ?_) fun h_4 hF_6 => ?_)
  ·refine RR (Y f 1 fun _ f => eT (wp_ret (T_r (E_ret1 f rfl (by kernel_rfl : Vc.look _ 4 = some (.bool false)) ?_))))
   obtain rfl := sI hF_5
   exact ⟨_, rfl, M_1, hM_1, p_2, rfl⟩
  ·refine wp_skip (T_n (R_seq (RR (Y f 1 fun _ f => eT (wp_block (RR (Y f 2 fun _ f => eT (RcF f hF_6 (fun h_5 hF_7 => ?_) fun h_5 hF_9 => ?_))))))))
   ·have k_5 := dI.1 h_5
    refine RR (Y f 3 fun _ f => Y15 f p_2 (fzu hM_1 q0) 3 rfl fun _ f => ?_)
    obtain ⟨x_2, hx_2, hF_8⟩ := bS hF_7
    refine Y18 f p_2 (print_Word_ok n _ (GL.mono hM_1 hG) d0.fText x_2 hx_2) fun w_3 p_3 _ f => Y f 1 fun _ f => eT (wp_ret (B_r (T_r (E_ret1 f rfl (by kernel_rfl : Vc.look _ 4 = some (.bool x_2)) ?_))))
    obtain rfl := sI hF_8
    exact ⟨_, rfl, M_1, hM_1, p_3, rfl⟩
   ·have k_6 := iff_f dI h_5
    refine RR (Y f 2 fun _ f => eT (RcF f hF_9 (fun h_6 hF_10 => ?_) fun h_6 hF_14 => ?_))
    ·have k_7 := dI.1 h_6
     refine RR (Y f 3 fun _ f => Y15 f p_2 (fzu hM_1 q0) 4 rfl fun _ f => Y f 3 fun _ f => ?_)
     rcases cE hF_10 with ⟨h_7, hF_11⟩ | ⟨h_7, hF_13⟩
     ·have k_8 := dI.1 h_7
      have f := f.st 34 (cB h_7)
      refine Y f 3 fun _ f => Y15 f p_2 (fzu hM_1 q0) 4 rfl fun _ f => ?_
      obtain ⟨x_3, hx_3, hF_12⟩ := bS hF_11
      refine Y18 f p_2 (slices_ContainsFuncapi_Value_api_Value_2_ok n rec_schema_value hrec_schema_value _ (GL.mono hM_1 hG) A_1 cap_1 d0.fList (h_1.mono hM_1) x_3 hx_3) fun w_4 p_4 _ f => Y f 3 fun _ f => eT (wp_ret (B_r (T_r (E_ret1 f rfl (by kernel_rfl : Vc.look _ 4 = some (.bool !x_3)) ?_))))
      obtain rfl := sI hF_12
      exact ⟨_, rfl, M_1, hM_1, p_4, rfl⟩
     ·have k_9 := iff_f dI h_7
      have f := f.st 34 (cB h_7)
      refine Y f 8 fun _ f => eT (wp_ret (B_r (T_r (E_ret1 f rfl (by kernel_rfl : Vc.look _ 4 = some (.bool false)) ?_))))
      obtain rfl := sI hF_13
      exact ⟨_, rfl, M_1, hM_1, p_2, rfl⟩
    ·have k_10 := iff_f dI h_6
     refine wp_skip (B_n (T_n (RR (Y f 1 fun _ f => eT (wp_ret (E_ret1 f rfl (by kernel_rfl : Vc.look _ 4 = some (.bool true)) ?_))))))
     obtain rfl := sI hF_14
     exact ⟨_, rfl, M_1, hM_1, p_2, rfl⟩
def schema_value_k (n : Nat) : Nat → TD0 → Int → Option Bool
  | 0 => fun _ _ => none
  | k + 1 => schema_value_b n (schema_value_k n k)
def schema_value (n : Nat) (d0 : TD0) (d1 : Int) : Option Bool := schema_value_k n n d0 d1
theorem schema_value_ok (n : Nat) (M : Mem) (hG : GL M) (ad0 : Addr) (c0 : List Value) (d0 : TD0) (h0 : Rep M (emb_TD0 d0) c0) (q0 : ∀ j v, c0[j]? = some v → M.cell? (ad0.add j) = some v) (d1 : Int) (r : Bool) (hF : schema_value n d0 d1 = some r) : Ok Tryd.prog M 75 [.pointer (some ad0), .int .i8 d1] (fun _ v => v = .bool r) := by
 have key : ∀ (k : Nat) (M : Mem) (hG : GL M) (ad0 : Addr) (c0 : List Value) (d0 : TD0) (h0 : Rep M (emb_TD0 d0) c0) (q0 : ∀ j v, c0[j]? = some v → M.cell? (ad0.add j) = some v) (d1 : Int) (r : Bool) (hF : schema_value_k n k d0 d1 = some r), Ok Tryd.prog M 75 [.pointer (some ad0), .int .i8 d1] (fun _ v => v = .bool r) := by
  intro k
  induction k with
  | zero => intro M hG ad0 c0 d0 h0 q0 d1 r hF; simp [schema_value_k] at hF
  | succ k ih => intro M hG ad0 c0 d0 h0 q0 d1 r hF; exact schema_value_b_ok n (schema_value_k n k) ih M hG ad0 c0 d0 h0 q0 d1 r hF
 exact key n M hG ad0 c0 d0 h0 q0 d1 r hF
def schema_empty (n : Nat) (d0 : TD0) : Option Bool :=
  bif (decide (d0.fKind = 0)) then
    ((tree_Check n d0).bind fun x_1 =>
    some ((decide (x_1 = 0))))
  else
    some ((false))
theorem schema_empty_ok (n : Nat) (M : Mem) (hG : GL M) (ad0 : Addr) (c0 : List Value) (d0 : TD0) (h0 : Rep M (emb_TD0 d0) c0) (q0 : ∀ j v, c0[j]? = some v → M.cell? (ad0.add j) = some v) (r : Bool) (hF : schema_empty n d0 = some r) : Ok Tryd.prog M 76 [.pointer (some ad0)] (fun _ v => v = .bool r) := by
 unfold schema_empty at hF
 intro M1 hM0 w0 H w p0
 replace hG := GL.mono hM0 hG
 replace h0 := Rep.mono hM0 _ _ h0
 replace q0 := fun j v h => hM0.cell (q0 j v h)
 obtain ⟨A_1, cap_1, A_2, cap_2, rfl, h_1, h_2⟩ := TD0.opn h0
 refine R_enter 15 Tryd.func76 rfl rfl (by simp) fun a0 f0 => RR (Y f0 1 fun _ f => eT (RR (Y f 3 fun _ f => Y15 f p0 q0 0 rfl fun _ f => Y f 2 fun _ f => ?_)))
 rcases cE hF with ⟨h_3, hF_1⟩ | ⟨h_3, hF_3⟩
 ·have k_1 := dI.1 h_3
  have f := f.st 8 (cB h_3)
  refine Y f 2 fun _ f => Z (v := .agg #[.int .i8 d0.fKind, .bool d0.fBool, .int .i64 d0.fNum, S d0.fText, .slice A_1 d0.fList.length cap_1, .slice A_2 d0.fKeys.length cap_2]) f (Y33 (cs := [.int .i8 d0.fKind, .bool d0.fBool, .int .i64 d0.fNum, S d0.fText, .slice A_1 d0.fList.length cap_1, .slice A_2 d0.fKeys.length cap_2]) rfl (ad := ad0) (fun j v h => p0.cell (q0 j v h))) fun _ f => ?_
  obtain ⟨x_1, hx_1, hF_2⟩ := bS hF_1
  refine Y18 f p0 (tree_Check_ok n _ hG _ d0 (TD0.shutx (x := d0) h_1 h_2) x_1 hx_1) fun w_1 p_1 _ f => Y f 3 fun _ f => eT (wp_ret (E_ret1 f rfl (by kernel_rfl : Vc.look _ 2 = some (.bool (decide (x_1 = 0)))) ?_))
  obtain rfl := sI hF_2
  exact ⟨_, rfl, M1, (mR _), p_1, rfl⟩
 ·have k_2 := iff_f dI h_3
  have f := f.st 8 (cB h_3)
  refine Y f 7 fun _ f => eT (wp_ret (E_ret1 f rfl (by kernel_rfl : Vc.look _ 2 = some (.bool false)) ?_))
  obtain rfl := sI hF_3
  exact ⟨_, rfl, M1, (mR _), p0, rfl⟩
def schema_Check_s1 (n : Nat) (d0 : List UInt8) (d1 : List TE0) (s_1 : Int) : Option (Lp Int (Sum Unit Unit)) :=
    bif (decide (s_1 < ((d1.length : Nat) : Int))) then
      ((getI d1 s_1).bind fun x_1 =>
      (schema_Find n d0 x_1.fName).bind fun x_2 =>
      (schema_value n x_1.fV x_2.1.fKind).bind fun x_3 =>
      ((bif x_1.fUnknown then
          (bif (!(decide (x_2.1.fKind = 2))) then
            ((schema_empty n x_1.fV).bind fun x_4 =>
            some ((x_4)))
          else
            some ((false)))
        else
          some ((x_3)) : Option Bool)).bind fun y_1 =>
      bif !x_2.2 then
        (some (.br (.inl ())))
      else
        bif !y_1 then
          (some (.br (.inl ())))
        else
          bif (decide ((0 : Int) < s_1)) then
            (need (inR .i64 (s_1 - 1)) <|
            (getI d1 (s_1 - 1)).bind fun x_5 =>
            bif (Op.bytesLess x_1.fName x_5.fName || x_1.fName == x_5.fName) then
              (some (.br (.inl ())))
            else
              need (inR .i64 (s_1 + 1)) <|
              some (.nx (s_1 + 1)))
          else
            need (inR .i64 (s_1 + 1)) <|
            some (.nx (s_1 + 1)))
    else
      some (.br (.inr ()))
def schema_Check (n : Nat) (d0 : List UInt8) (d1 : List TE0) : Option Int :=
  bif (!(kindIn d0)) then
    (some ((90 : Int)))
  else
    (loopF (schema_Check_s1 n d0 d1) n (0 : Int)).bind fun b_6 =>
    (match b_6 with 
    | .inl y_2 => some ((91 : Int)) 
    | .inr y_3 => some ((0 : Int)))
set_option maxRecDepth 20000 in
theorem schema_Check_ok (n : Nat) (M : Mem) (hG : GL M) (d0 : List UInt8) (A1 : Option Addr) (cap1 : Nat) (d1 : List TE0) (h1 : Sli M 8 emb_TE0 A1 cap1 d1) (r : Int) (hF : schema_Check n d0 d1 = some r) : Ok Tryd.prog M 52 [S d0, .slice A1 d1.length cap1] (fun _ v => v = .int .i64 r) := by
 unfold schema_Check at hF
 intro M1 hM0 w0 H w p0
 replace hG := GL.mono hM0 hG
 replace h1 := h1.mono hM0
 refine R_enter 69 Tryd.func52 rfl rfl (by simp) fun a0 f0 => RR (Y f0 1 fun _ f => eT (R_seq (RR (Y16 f p0 (all_ok _) fun _ M_1 w_1 hM_1 p_1 q_1 _ f => ?_))))
 obtain ⟨b_1, b_2, b_3, b_4, b_5, rfl, hA_1⟩ := q_1
 refine Y f 1 fun _ f => Z (v := .tuple #[.map (blkOf b_2 b_3 b_4 b_5 d0), .bool (kindIn d0)]) f (X_all2 (k := d0) (kt := 9) (et := 119) hA_1 p_1 rfl (by kernel_rfl) (by kernel_rfl) (by kernel_rfl) (strKey (by kernel_rfl)) (by kernel_rfl)) fun _ f => Y f 5 fun _ f => eT (RR (Y f 2 fun _ f => eT (RcF f hF (fun h_1 hF_1 => ?_) fun h_1 hF_2 => ?_)))
 ·have k_1 : (kindIn d0) = false := by simpa using h_1
  refine RR (Y f 1 fun _ f => eT (wp_ret (T_r (E_ret1 f rfl (by kernel_rfl : Vc.look _ 4 = some (.int .i64 90)) ?_))))
  obtain rfl := sI hF_1
  exact ⟨_, rfl, M_1, hM_1, p_1, rfl⟩
 ·have k_2 : (kindIn d0) = true := by simpa using h_1
  refine wp_skip (T_n (R_seq (RR (Y f 3 fun _ f => eT (wp_block ?_)))))
  obtain ⟨b_6, hL_1, hF_3⟩ := bS hF_2
  refine wp_mono (Q := fun e a w => (e = .ret ∧ (∃ y_2 : Unit, b_6 = .inl y_2 ∧ ∃ M_6 : Mem, M_1.le M_6 ∧ Frm 69 [(4, .int .i64 91)] a ∧ Hp w0 M_6 (H) w)) ∨ (e = .exit 0 ∧ (∃ y_3 : Unit, b_6 = .inr y_3 ∧ ∃ M_7 : Mem, M_1.le M_7 ∧ Frm 69 [] a ∧ Hp w0 M_7 (H) w))) (R_loop (n := 69) (w0 := w0) (M := M_1) (fun (x : Nat × Int) => match x with | (m_1, s_1) => [(0, S d0), (1, .slice A1 d1.length cap1), (20, .slice A1 d1.length cap1), (21, .int .i64 ((d1.length : Nat) : Int)), (22, .int .i64 s_1)]) (fun (x : Nat × Int) => match x with | (m_1, s_1) => (H)) (fun (x : Nat × Int) (MM : Mem) => match x with | (m_1, s_1) => loopF (schema_Check_s1 n d0 d1) m_1 s_1 = some b_6) (fun (x : Nat × Int) => match x with | (m_1, s_1) => m_1) (n, (0 : Int)) (f.kp) p_1 hL_1 ?_) ?_
  ·rintro ⟨m_1, s_1⟩ M_2 _ w_2 hM_2 I_1 f p_2
   have I_1L := I_1
   obtain ⟨m_2, r_1, rfl, hs_1, hn_1⟩ := loop_step I_1L
   unfold schema_Check_s1 at hs_1
   refine RR (Y f 1 fun _ f => eT (R_seq (RcF f hs_1 (fun h_2 hF_4 => ?_) fun h_2 hF_26 => ?_)))
   ·have k_3 := dI.1 h_2
    refine wp_skip (T_n (R_seq (wp_block (RR (Y f 1 fun _ f => ?_)))))
    obtain ⟨x_1, hx_1, hF_5⟩ := bS hF_4
    obtain ⟨ad_1, c_1, e_1, -, hr_1, hc_1⟩ := Sli.at_ (h1.mono (hM_1.trans hM_2)) hx_1
    obtain ⟨A_1, cap_1, A_2, cap_2, rfl, h_3, h_4⟩ := TE0.opn hr_1
    refine Z f (Y31 e_1 rfl (len := d1.length) (cap := cap1) (k := .i64) (i := s_1) (e := 79) (sz := 8) (getI_nn hx_1) (getI_lt hx_1)) fun _ f => Z (v := .agg #[S x_1.fName, .bool x_1.fUnknown, .int .i8 x_1.fV.fKind, .bool x_1.fV.fBool, .int .i64 x_1.fV.fNum, S x_1.fV.fText, .slice A_1 x_1.fV.fList.length cap_1, .slice A_2 x_1.fV.fKeys.length cap_2]) f (Y33 (cs := [S x_1.fName, .bool x_1.fUnknown, .int .i8 x_1.fV.fKind, .bool x_1.fV.fBool, .int .i64 x_1.fV.fNum, S x_1.fV.fText, .slice A_1 x_1.fV.fList.length cap_1, .slice A_2 x_1.fV.fKeys.length cap_2]) rfl (ad := ad_1.add (s_1.toNat * 8)) (fun j v h => p_2.cell (hc_1 j v h))) fun _ f => Y12 f p_2 (.cells #[S [], .bool false, .int .i8 0, .bool false, .int .i64 0, S [], .slice none 0 0, .slice none 0 0] 79 (0, 0)) fun b_7 w_3 p_3 _ f => Y f 1 fun _ f => Y27 (vs := [S x_1.fName, .bool x_1.fUnknown, .int .i8 x_1.fV.fKind, .bool x_1.fV.fBool, .int .i64 x_1.fV.fNum, S x_1.fV.fText, .slice A_1 x_1.fV.fList.length cap_1, .slice A_2 x_1.fV.fKeys.length cap_2]) (j := 0) f p_3 rfl rfl (by simp [Value.oneCell', S]) (by simp) (by decide) (cs' := #[S x_1.fName, .bool x_1.fUnknown, .int .i8 x_1.fV.fKind, .bool x_1.fV.fBool, .int .i64 x_1.fV.fNum, S x_1.fV.fText, .slice A_1 x_1.fV.fList.length cap_1, .slice A_2 x_1.fV.fKeys.length cap_2]) (by kernel_rfl) fun w_4 p_4 _ f => eT (RR (Y f 2 fun _ f => Z f (Y32 (v := S x_1.fName) rfl (ad := ⟨b_7, 0, none⟩) (p_4.ownCell 0 rfl 0)) fun _ f => ?_))
    obtain ⟨x_2, hx_2, hF_6⟩ := bS hF_5
    refine Y16 f p_4 (schema_Find_ok n _ (GL.mono (hM_1.trans hM_2) hG) d0 x_1.fName x_2 hx_2) fun _ M_3 w_5 hM_3 p_5 q_2 _ f => ?_
    obtain ⟨c_2, rfl, hr_2⟩ := q_2
    obtain rfl := TG0.opn hr_2
    refine Y f 3 fun _ f => Y12 f p_5 (.cells #[S [], .int .i8 0, .bool false] 124 (0, 0)) fun b_8 w_6 p_6 _ f => Y27 (vs := [S x_2.1.fName, .int .i8 x_2.1.fKind, .bool x_2.1.fReplace]) (j := 0) f p_6 rfl rfl (by simp [Value.oneCell', S]) (by simp) (by decide) (cs' := #[S x_2.1.fName, .int .i8 x_2.1.fKind, .bool x_2.1.fReplace]) (by kernel_rfl) fun w_7 p_7 _ f => Y f 1 fun _ f => eT (RR (Y f 2 fun _ f => Z f (Y32 (v := .int .i8 x_2.1.fKind) rfl (ad := ⟨b_8, 1, none⟩) (p_7.ownCell 0 rfl 1)) fun _ f => ?_))
    have p_8 := p_7.pl [1]
    obtain ⟨M_4, hM_4, p_9, hc_2⟩ := p_8.fzOwn
    obtain ⟨x_3, hx_3, hF_7⟩ := bS hF_6
    refine Y18 f p_9 (schema_value_ok n _ (GL.mono (((hM_1.trans hM_2).trans hM_3).trans hM_4) hG) (⟨b_7, 2, none⟩) [.int .i8 x_1.fV.fKind, .bool x_1.fV.fBool, .int .i64 x_1.fV.fNum, S x_1.fV.fText, .slice A_1 x_1.fV.fList.length cap_1, .slice A_2 x_1.fV.fKeys.length cap_2] x_1.fV (TD0.shutx (x := x_1.fV) (h_3.mono (hM_3.trans hM_4)) (h_4.mono (hM_3.trans hM_4))) (fz_at (hc_2) 2 rfl) x_2.1.fKind x_3 hx_3) fun w_8 p_10 _ f => Y f 1 fun _ f => eT (R_seq (RR (Y f 1 fun _ f => Y15 f p_10 hc_2 1 rfl fun _ f => eT ?_)))
    obtain ⟨j_1, hj_1, hF_8⟩ := bS hF_7
    refine R_mid (fun a_37 w_10 => ∃ y_1 : Bool, j_1 = y_1 ∧ ∃ M_5 : Mem, M_4.le M_5 ∧ Frm 69 [(0, S d0), (1, .slice A1 d1.length cap1), (7, .int .i64 s_1), (8, .pointer (some (⟨b_7, 0, none⟩))), (10, .bool x_2.2), (11, .bool y_1), (20, .slice A1 d1.length cap1), (21, .int .i64 ((d1.length : Nat) : Int)), (22, .int .i64 s_1)] a_37 ∧ Hp w0 M_5 ((Ent.obj b_8 (.cells #[S x_2.1.fName, .int .i8 x_2.1.fKind, .bool x_2.1.fReplace] 124 (0, 0))) :: H) w_10) ?_ ?_
    ·refine RcF f hj_1 (fun h_5 hF_9 => ?_) fun h_5 hF_13 => ?_
     ·refine R_reg (Y f 1 fun _ f => Z f (Y32 (v := .int .i8 x_2.1.fKind) rfl (ad := ⟨b_8, 1, none⟩) (p_10.ownCell 0 rfl 1)) fun _ f => Y f 2 fun _ f => ?_)
      rcases cE hF_9 with ⟨h_6, hF_10⟩ | ⟨h_6, hF_12⟩
      ·have k_5 : ¬ (x_2.1.fKind = 2) := (not_iff dI).1 h_6
       have f := f.st 43 (cB h_6)
       refine Y f 1 fun _ f => ?_
       obtain ⟨x_4, hx_4, hF_11⟩ := bS hF_10
       refine Y18 f p_10 (schema_empty_ok n _ (GL.mono (((hM_1.trans hM_2).trans hM_3).trans hM_4) hG) ((⟨b_7, 0, none⟩ : Addr).add 2) [.int .i8 x_1.fV.fKind, .bool x_1.fV.fBool, .int .i64 x_1.fV.fNum, S x_1.fV.fText, .slice A_1 x_1.fV.fList.length cap_1, .slice A_2 x_1.fV.fKeys.length cap_2] x_1.fV (TD0.shutx (x := x_1.fV) (h_3.mono (hM_3.trans hM_4)) (h_4.mono (hM_3.trans hM_4))) (fz_at (hc_2) 2 rfl) x_4 hx_4) fun w_9 p_11 _ f => Y f 2 fun _ f => eT ?_
       exact ⟨(x_4), (sI hF_11).symm, M_4, (mR _), f.kp, p_11⟩
      ·have k_6 : ¬ (¬ (x_2.1.fKind = 2)) := iff_f (not_iff dI) h_6
       have f := f.st 43 (cB h_6)
       refine Y f 4 fun _ f => eT ?_
       exact ⟨(false), (sI hF_12).symm, M_4, (mR _), f.kp, p_10⟩
     ·refine wp_skip (T_n ?_)
      exact ⟨(x_3), (sI hF_13).symm, M_4, (mR _), f.kp, p_10⟩
    ·rintro a_37 w_10 ⟨y_1, hq_1, M_5, hM_5, f, p_12⟩
     subst j_1
     refine T_n (R_seq (R_draw p_12 (by kernel_rfl) (by kernel_rfl) (Y5 default f 3 fun _ f => ?_)))
     rcases cE hF_8 with ⟨h_7, hF_14⟩ | ⟨h_7, hF_15⟩
     ·have k_8 : (x_2.2) = false := by simpa using h_7
      have f := f.st 49 (cB h_7)
      refine Y5 default f 18 fun _ f => Q_end rfl ?_
      intro w_11 p_13
      refine T_n (Y8 f (RR (Y f 1 fun _ f => eT (wp_ret (B_r (T_r (T_r ?_)))))))
      obtain rfl := sI hF_14
      exact .inl ⟨rfl, (), (sI hn_1).symm, M_5, (((hM_2.trans hM_3).trans hM_4).trans hM_5), f.kp, (p_13.dropN 1)⟩
     ·have k_9 : (x_2.2) = true := by simpa using h_7
      have f := f.st 49 (cB h_7)
      refine Y5 default f 4 fun _ f => ?_
      rcases cE hF_15 with ⟨h_8, hF_16⟩ | ⟨h_8, hF_17⟩
      ·have k_10 : (y_1) = false := by simpa using h_8
       have f := f.st 53 (cB h_8)
       refine Y5 default f 14 fun _ f => Q_end rfl ?_
       intro w_12 p_14
       refine T_n (Y8 f (RR (Y f 1 fun _ f => eT (wp_ret (B_r (T_r (T_r ?_)))))))
       obtain rfl := sI hF_16
       exact .inl ⟨rfl, (), (sI hn_1).symm, M_5, (((hM_2.trans hM_3).trans hM_4).trans hM_5), f.kp, (p_14.dropN 1)⟩
      ·have k_11 : (y_1) = true := by simpa using h_8
       have f := f.st 53 (cB h_8)
       refine Y5 default f 3 fun _ f => ?_
       rcases cE hF_17 with ⟨h_9, hF_18⟩ | ⟨h_9, hF_24⟩
       ·have k_12 := dI.1 h_9
        have f := f.st 56 (cB h_9)
        refine Y5 default f 1 fun _ f => Y4 f (fzu hM_5 hc_2) 0 rfl fun _ f => Y5 default f 2 fun _ f => ?_
        obtain ⟨g_1, hF_19⟩ := nS hF_18
        refine Y2 (v := .int .i64 (IntKind.wrap .i64 (s_1 - 1))) f (fun _ pq => by kernel_rfl) fun _ f => ?_
        have f := f.st 61 (congrArg (Value.int .i64) (inR_wrap g_1))
        obtain ⟨x_5, hx_5, hF_20⟩ := bS hF_19
        obtain ⟨ad_2, c_3, e_2, -, hr_3, hc_3⟩ := Sli.at_ (h1.mono ((((hM_1.trans hM_2).trans hM_3).trans hM_4).trans hM_5)) hx_5
        obtain ⟨A_3, cap_3, A_4, cap_4, rfl, h_10, h_11⟩ := TE0.opn hr_3
        refine Y2 (v := .pointer (some (ad_2.add ((s_1 - 1).toNat * 8)))) f (fun _ pq => Y31 e_2 rfl (len := d1.length) (cap := cap1) (k := .i64) (i := s_1 - 1) (e := 79) (sz := 8) (getI_nn hx_5) (getI_lt hx_5)) fun _ f => Y5 default f 1 fun _ f => Y4 f hc_3 0 rfl fun _ f => Y2 (v := .bool (Op.bytesLess x_1.fName x_5.fName || x_1.fName == x_5.fName)) f (fun _ pq => X_strle rfl (l := x_1.fName) (m := x_5.fName) (by kernel_rfl) (by kernel_rfl)) fun _ f => Y5 default f 2 fun _ f => Q_end rfl ?_
        intro w_13 p_15
        refine T_n (RcF f hF_20 (fun h_12 hF_21 => ?_) fun h_12 hF_22 => ?_)
        ·refine RR (Y f 1 fun _ f => eT (wp_ret (B_r (T_r (T_r ?_)))))
         obtain rfl := sI hF_21
         exact .inl ⟨rfl, (), (sI hn_1).symm, M_5, (((hM_2.trans hM_3).trans hM_4).trans hM_5), f.kp, (p_15.dropN 1)⟩
        ·refine wp_skip (B_n (T_n (R_reg ?_)))
         obtain ⟨g_2, hF_23⟩ := nS hF_22
         refine Y f 1 fun _ f => ?_
         have f := f.st 68 (congrArg (Value.int .i64) (inR_wrap g_2))
         refine Y f 1 fun _ f => eT ?_
         obtain rfl := sI hF_23
         exact ⟨⟨m_2, s_1 + 1⟩, Nat.lt_succ_self _, M_5, (((hM_2.trans hM_3).trans hM_4).trans hM_5), hn_1, f.kp, (p_15.dropN 1)⟩
       ·have k_15 := iff_f dI h_9
        have f := f.st 56 (cB h_9)
        refine Y5 default f 11 fun _ f => Q_end rfl ?_
        intro w_14 p_16
        refine T_n (Y7 f (wp_skip (B_n (T_n (R_reg ?_)))))
        obtain ⟨g_3, hF_25⟩ := nS hF_24
        refine Y f 1 fun _ f => ?_
        have f := f.st 68 (congrArg (Value.int .i64) (inR_wrap g_3))
        refine Y f 1 fun _ f => eT ?_
        obtain rfl := sI hF_25
        exact ⟨⟨m_2, s_1 + 1⟩, Nat.lt_succ_self _, M_5, (((hM_2.trans hM_3).trans hM_4).trans hM_5), hn_1, f.kp, (p_16.dropN 1)⟩
   ·have k_16 := iff_f dI h_2
    refine wp_exit (T_x (T_x ?_))
    obtain rfl := sI hF_26
    exact .inr ⟨rfl, (), (sI hn_1).symm, M_2, hM_2, f.kp, p_2⟩
  ·rintro _ _ w_17 (⟨rfl, y_2, rfl, M_6, hM_6, f, p_17⟩ | ⟨rfl, y_3, rfl, M_7, hM_7, f, p_18⟩)
   ·refine B_r (T_r (E_ret1 f rfl (by kernel_rfl : Vc.look _ 4 = some (.int .i64 91)) ?_))
    obtain rfl := sI hF_3
    exact ⟨_, rfl, M_6, (hM_1.trans hM_6), p_17, rfl⟩
   ·refine B_x (T_n (RR (Y f 1 fun _ f => eT (wp_ret (E_ret1 f rfl (by kernel_rfl : Vc.look _ 4 = some (.int .i64 0)) ?_)))))
    obtain rfl := sI hF_3
    exact ⟨_, rfl, M_7, (hM_1.trans hM_7), p_18, rfl⟩
theorem index_any {n : Nat} {α : Type} (d : α) (q : α → Bool) (xs : List α) {step : Int → Option (Lp Int (Sum Int Unit))} (hd : ∀ k : Nat, k < xs.length → step (k : Int) = some (if q (xs.getD k d) then .br (.inl (k : Int)) else .nx ((k : Int) + 1))) (he : step ((xs.length : Nat) : Int) = some (.br (.inr ()))) (hn : xs.length < n) :
  ∃ b, loopF step n 0 = some b ∧ (match b with | .inl i => 0 ≤ i ∧ xs.any q = true | .inr () => xs.any q = false) := by
 refine loop_inv (fun k s => s = (k : Int) ∧ ∀ x ∈ xs.take k, q x = false) _ xs.length ⟨rfl, by simp⟩ (fun k s hk hI => ?_) (fun s hI => ?_) hn
 ·obtain ⟨rfl, hf⟩ := hI
  have hx : xs[k]? = some xs[k] := List.getElem?_eq_getElem hk
  have hg : xs.getD k d = xs[k] := by simp [List.getD, hk]
  rw [hd k hk, hg]
  cases hv : q xs[k] with
  | false =>
   refine .inl ⟨_, rfl, by omega, fun y hy => ?_⟩
   rcases (mem_take_succ hx y).1 hy with h | h
   ·exact hf y h
   ·rw [h]; exact hv
  | true => exact .inr ⟨_, rfl, by omega, List.any_eq_true.2 ⟨_, List.getElem_mem hk, hv⟩⟩
 ·obtain ⟨rfl, hf⟩ := hI
  rw [List.take_length] at hf
  refine ⟨_, he, ?_⟩
  dsimp only
  rw [List.any_eq_false]
  intro x hx
  simp [hf x hx]
def wordV (t : List UInt8) : Bool := bif decide ((t.length : Int) ≤ 64) then Lib.validD t else false
theorem word_run {n : Nat} {t : List UInt8} : print_Word n t = some (wordV t) := by
 unfold print_Word wordV
 by_cases h : (t.length : Int) ≤ 64
 ·rw [decide_eq_true h, cT, cT, valid_run (by omega), bnd]
 ·rw [decide_eq_false h, cF, cF]
def fitV (v : TD0) (k : Int) : Bool := bif !decide (v.fKind = k) then false else decide (checkV v = 0)
def wordy (v : TD0) : Bool := bif fitV v 3 then wordV v.fText else false
def valueV (v : TD0) (k : Int) : Bool := bif fitV v k then (bif decide (k = 3) then wordV v.fText else bif decide (k = 4) then (bif decide (((v.fList.length : Nat) : Int) ≤ 8) then !(v.fList.any fun x => !wordy x) else false) else true) else false
theorem contains_vals {n : Nat} (hn : 6000 < n) {rc : TD0 → Int → Option Bool} {l : List TD0} (hl : l.length ≤ 8) (h : ∀ x ∈ l, rc x 3 = some (wordy x)) : slices_ContainsFuncapi_Value_api_Value_2 n rc l = some (l.any fun x => !wordy x) := by
 unfold slices_ContainsFuncapi_Value_api_Value_2 slices_IndexFuncapi_Value_api_Value_2
 obtain ⟨b, hb, hp⟩ := index_any (n := n) z_TD0 (fun x => !wordy x) l (step := slices_IndexFuncapi_Value_api_Value_2_s1 n rc l) (fun k hk => by
  unfold slices_IndexFuncapi_Value_api_Value_2_s1 schema_value_1_2
  have hm : l.getD k z_TD0 ∈ l := by simp [List.getD, hk]
  rw [decide_eq_true (by omega), cT, getI_at z_TD0 hk, bnd, h _ hm, bnd, bnd]
  cases wordy (l.getD k z_TD0) with
  | true => rw [Bool.not_true, cF, need_i (by omega) (by omega)]; rfl
  | false => rw [Bool.not_false, cT]; rfl) (by
  unfold slices_IndexFuncapi_Value_api_Value_2_s1
  rw [decide_eq_false (by omega), cF]) (by omega)
 rw [hb, bnd]
 cases b with
 | inl i =>
  obtain ⟨h0, h1⟩ := hp
  dsimp only
  rw [bnd, h1, decide_eq_true h0]
 | inr u =>
  have h1 : l.any (fun x => !wordy x) = false := hp
  dsimp only
  rw [bnd, h1]
  rfl
theorem value_b_run {n : Nat} (hn : 6000 < n) {v : TD0} (h : Fine v) (k : Int) {rc : TD0 → Int → Option Bool} (hrec : k = 4 → ∀ x ∈ v.fList, rc x 3 = some (wordy x)) : schema_value_b n rc v k = some (valueV v k) := by
 unfold schema_value_b valueV fitV
 by_cases hk : v.fKind = k
 ·rw [decide_eq_true hk, Bool.not_true, cF, cF, check_run hn h, bnd, bnd]
  by_cases hc : checkV v = 0
  ·rw [decide_eq_true hc, Bool.not_true, cF, cT]
   by_cases h3 : k = 3
   ·rw [decide_eq_true h3, cT, cT, word_run, bnd]
   ·rw [decide_eq_false h3, cF, cF]
    by_cases h4 : k = 4
    ·rw [decide_eq_true h4, cT, cT]
     by_cases h8 : ((v.fList.length : Nat) : Int) ≤ 8
     ·rw [decide_eq_true h8, cT, cT, contains_vals hn (by omega) (hrec h4), bnd]
     ·rw [decide_eq_false h8, cF, cF]
    ·rw [decide_eq_false h4, cF, cF]
  ·rw [decide_eq_false hc, Bool.not_false, cT, cF]
 ·rw [decide_eq_false hk, Bool.not_false, cT, cT, bnd, cT, cF]
theorem value_run {n : Nat} (hn : 6000 < n) {v : TD0} (h : Fine v) (k : Int) : schema_value n v k = some (valueV v k) := by
 unfold schema_value
 obtain ⟨m, rfl⟩ : ∃ m, n = m + 2 := ⟨n - 2, by omega⟩
 refine value_b_run hn h k fun _ x hx => ?_
 exact value_b_run hn (h.part hx) 3 (fun e => absurd e (by decide))
def emptyV (v : TD0) : Bool := bif decide (v.fKind = 0) then decide (checkV v = 0) else false
theorem empty_run {n : Nat} (hn : 6000 < n) {v : TD0} (h : Fine v) : schema_empty n v = some (emptyV v) := by
 unfold schema_empty emptyV
 by_cases hk : v.fKind = 0
 ·rw [decide_eq_true hk, cT, cT, check_run hn h, bnd]
 ·rw [decide_eq_false hk, cF, cF]
def specOf (kind prop : List UInt8) : TG0 := (specAt kind prop).getD z_TG0
def fitG (kind : List UInt8) (g : TE0) : Bool := bif g.fUnknown then (bif !decide ((specOf kind g.fName).fKind = 2) then emptyV g.fV else false) else valueV g.fV (specOf kind g.fName).fKind
def okG (kind : List UInt8) (g : TE0) : Bool := (specAt kind g.fName).isSome && fitG kind g
def upG (gs : List TE0) (k : Nat) : Bool := decide (k = 0) || Op.bytesLess (gs.getD (k - 1) z_TE0).fName (gs.getD k z_TE0).fName
theorem cb_flip (a b : List UInt8) : (Lib.compareBytes a b < 0 ∨ a = b) ↔ ¬ Lib.compareBytes b a < 0 := by
 have h := cb_anti a b
 constructor
 ·rintro (h1 | rfl)
  ·omega
  ·rw [cb_self]; omega
 ·intro h1
  by_cases e : Lib.compareBytes a b = 0
  ·exact .inr (cb_eq _ _ e)
  ·exact .inl (by omega)
theorem less_flip (a b : List UInt8) : (Op.bytesLess a b || a == b) = !Op.bytesLess b a := by
 have h1 := less_cb a b
 have h2 := less_cb b a
 rw [h1, h2]
 rw [Bool.eq_iff_iff]
 simp only [Bool.or_eq_true, decide_eq_true_eq, beq_iff_eq, Bool.not_eq_true', decide_eq_false_iff_not]
 exact cb_flip a b
def checkG (kind : List UInt8) (gs : List TE0) : Int := bif !kindIn kind then 90 else bif (List.range gs.length).any (fun k => !(okG kind (gs.getD k z_TE0) && upG gs k)) then 91 else 0
theorem schemaCheck_run {n : Nat} (hn : 6000 < n) (kind : List UInt8) {gs : List TE0} (hl : gs.length ≤ 60) (hf : ∀ g ∈ gs, Fine g.fV) : schema_Check n kind gs = some (checkG kind gs) := by
 unfold schema_Check checkG
 cases hk : kindIn kind with
 | false => rw [Bool.not_false, cT, cT]
 | true =>
  rw [Bool.not_true, cF, cF]
  have hlp := loop_any (n := n) (step := schema_Check_s1 n kind gs) (fun k => !(okG kind (gs.getD k z_TE0) && upG gs k)) gs.length (.inl ()) (.inr ()) (fun k hk => by
   unfold schema_Check_s1 schema_Find
   have hm : gs.getD k z_TE0 ∈ gs := by simp [List.getD, hk]
   rw [decide_eq_true (by omega), cT, getI_at z_TE0 hk, bnd, bnd, value_run hn (hf _ hm), bnd]
   have e : (bif (gs.getD k z_TE0).fUnknown then (bif !decide ((specOf kind (gs.getD k z_TE0).fName).fKind = 2) then (schema_empty n (gs.getD k z_TE0).fV).bind fun x => some x else some false) else some (valueV (gs.getD k z_TE0).fV (specOf kind (gs.getD k z_TE0).fName).fKind) : Option Bool) = some (fitG kind (gs.getD k z_TE0)) := by
    unfold fitG
    cases (gs.getD k z_TE0).fUnknown with
    | false => rw [cF, cF]
    | true =>
     rw [cT, cT]
     cases decide ((specOf kind (gs.getD k z_TE0).fName).fKind = 2) with
     | true => rw [Bool.not_true, cF, cF]
     | false => rw [Bool.not_false, cT, cT, empty_run hn (hf _ hm), bnd]
   unfold specOf at e
   dsimp only
   rw [e, bnd]
   unfold okG
   cases (specAt kind (gs.getD k z_TE0).fName).isSome with
   | false => rw [Bool.not_false, cT]; rfl
   | true =>
    rw [Bool.not_true, cF]
    cases fitG kind (gs.getD k z_TE0) with
    | false => rw [Bool.not_false, cT]; rfl
    | true =>
     rw [Bool.not_true, cF]
     unfold upG
     by_cases h0 : k = 0
     ·subst h0
      rw [decide_eq_false (by decide), cF, need_i (by omega) (by omega)]
      rfl
     ·have hk1 : k - 1 < gs.length := by omega
      have e1 : (k : Int) - 1 = ((k - 1 : Nat) : Int) := by omega
      rw [decide_eq_true (by omega : (0 : Int) < (k : Int)), cT, need_i (by omega) (by omega), e1, getI_at z_TE0 hk1, bnd, less_flip, decide_eq_false h0]
      cases Op.bytesLess (gs.getD (k - 1) z_TE0).fName (gs.getD k z_TE0).fName with
      | true => rw [Bool.not_true, cF, need_i (by omega) (by omega)]; rfl
      | false => rw [Bool.not_false, cT]; rfl) (by
   unfold schema_Check_s1
   rw [decide_eq_false (by omega), cF]) (by omega)
  rw [hlp, bnd]
  cases (List.range gs.length).any (fun k => !(okG kind (gs.getD k z_TE0) && upG gs k)) with
  | true => rw [cT, cT]
  | false => rw [cF, cF]
theorem great9 {n : Nat} (hn : 6000 < n) (gs : List TE0) : ∃ g, ref09_Great n gs = some g ∧ (g = false → gs.length ≤ 60 ∧ ∀ x ∈ gs, x.fName.length ≤ 200 ∧ Fine x.fV) := by
 unfold ref09_Great
 by_cases hl : (60 : Int) < ((gs.length : Nat) : Int)
 ·exact ⟨true, by rw [decide_eq_true hl, cT], fun h => by cases h⟩
 rw [decide_eq_false hl, cF]
 obtain ⟨b, hb, hp⟩ := loop_inv (step := ref09_Great_s1 n gs) (n := n) (s0 := (0 : Int)) (fun k s => s = (k : Int) ∧ ∀ x ∈ gs.take k, x.fName.length ≤ 200 ∧ Fine x.fV)
  (fun b => match b with | .inl _ => True | .inr _ => ∀ x ∈ gs, x.fName.length ≤ 200 ∧ Fine x.fV) gs.length ⟨rfl, by simp⟩
  (fun k s hk hI => by
   obtain ⟨rfl, hf⟩ := hI
   have hx : gs[k]? = some gs[k] := List.getElem?_eq_getElem hk
   have hg : gs.getD k z_TE0 = gs[k] := by simp [List.getD, hk]
   unfold ref09_Great_s1
   rw [decide_eq_true (by omega), cT, getI_at z_TE0 hk, bnd, hg]
   by_cases h2 : (200 : Int) < (gs[k].fName.length : Int)
   ·exact .inr ⟨_, by rw [decide_eq_true h2, cT], trivial⟩
   obtain ⟨g, hg1, hg2⟩ := great_fine hn gs[k].fV
   rw [decide_eq_false h2, cF, bnd]
   have ex : (⟨gs[k].fV.fKind, (gs[k].fV.fBool), gs[k].fV.fNum, gs[k].fV.fText, gs[k].fV.fList, gs[k].fV.fKeys⟩ : TD0) = gs[k].fV := by cases gs[k].fV; rfl
   rw [ex, hg1, bnd]
   cases g with
   | true => exact .inr ⟨_, cT _ _, trivial⟩
   | false =>
    rw [cF, need_i (by omega) (by omega)]
    refine .inl ⟨_, rfl, by omega, fun y hy => ?_⟩
    rcases (mem_take_succ hx y).1 hy with h | h
    ·exact hf y h
    ·rw [h]; exact ⟨by omega, (hg2 rfl).1⟩)
  (fun s hI => by
   obtain ⟨rfl, hf⟩ := hI
   rw [List.take_length] at hf
   unfold ref09_Great_s1
   rw [decide_eq_false (by omega), cF]
   exact ⟨_, rfl, hf⟩) (by omega)
 rw [hb, bnd]
 cases b with
 | inl u => exact ⟨true, rfl, fun h => by cases h⟩
 | inr u => exact ⟨false, rfl, fun _ => ⟨by omega, hp⟩⟩
def cmp_Or_2_s1 (n : Nat) (d0 : List Int) (s_1 : Int) : Option (Lp Int (Sum Int Unit)) :=
    bif (decide (s_1 < ((d0.length : Nat) : Int))) then
      ((getI d0 s_1).bind fun x_1 =>
      bif (!(decide (x_1 = 0))) then
        (some (.br (.inl x_1)))
      else
        need (inR .i64 (s_1 + 1)) <|
        some (.nx (s_1 + 1)))
    else
      some (.br (.inr ()))
def cmp_Or_2 (n : Nat) (d0 : List Int) : Option Int :=
  (loopF (cmp_Or_2_s1 n d0) n (0 : Int)).bind fun b_1 =>
  (match b_1 with 
  | .inl y_1 => some (y_1) 
  | .inr y_2 => some ((0 : Int)))
theorem cmp_Or_2_ok (n : Nat) (M : Mem) (hG : GL M) (A0 : Option Addr) (cap0 : Nat) (d0 : List Int) (h0 : Sli M 1 (Dat.int .i64) A0 cap0 d0) (r : Int) (hF : cmp_Or_2 n d0 = some r) : Ok Tryd.prog M 103 [.slice A0 d0.length cap0] (fun _ v => v = .int .i64 r) := by
 unfold cmp_Or_2 at hF
 intro M1 hM0 w0 H w p0
 replace hG := GL.mono hM0 hG
 replace h0 := h0.mono hM0
 refine R_enter 18 Tryd.func103 rfl rfl (by simp) fun a0 f0 => RR (Y f0 1 fun _ f => eT (RR (Y f 1 fun _ f => eT (R_seq (RR (Y f 3 fun _ f => eT (wp_block ?_)))))))
 obtain ⟨b_1, hL_1, hF_1⟩ := bS hF
 refine wp_mono (Q := fun e a w => (e = .ret ∧ (∃ y_1 : Int, b_1 = .inl y_1 ∧ ∃ M_2 : Mem, M1.le M_2 ∧ Frm 18 [(2, .int .i64 y_1)] a ∧ Hp w0 M_2 (H) w)) ∨ (e = .exit 0 ∧ (∃ y_2 : Unit, b_1 = .inr y_2 ∧ ∃ M_3 : Mem, M1.le M_3 ∧ Frm 18 [(3, .int .i64 0)] a ∧ Hp w0 M_3 (H) w))) (R_loop (n := 18) (w0 := w0) (M := M1) (fun (x : Nat × Int) => match x with | (m_1, s_1) => [(3, .int .i64 0), (6, .slice A0 d0.length cap0), (7, .int .i64 ((d0.length : Nat) : Int)), (8, .int .i64 s_1)]) (fun (x : Nat × Int) => match x with | (m_1, s_1) => (H)) (fun (x : Nat × Int) (MM : Mem) => match x with | (m_1, s_1) => loopF (cmp_Or_2_s1 n d0) m_1 s_1 = some b_1) (fun (x : Nat × Int) => match x with | (m_1, s_1) => m_1) (n, (0 : Int)) (f.kp) p0 hL_1 ?_) ?_
 ·rintro ⟨m_1, s_1⟩ M_1 _ w_1 hM_1 I_1 f p_1
  have I_1L := I_1
  obtain ⟨m_2, r_1, rfl, hs_1, hn_1⟩ := loop_step I_1L
  unfold cmp_Or_2_s1 at hs_1
  refine RR (Y f 1 fun _ f => eT (R_seq (RcF f hs_1 (fun h_1 hF_2 => ?_) fun h_1 hF_7 => ?_)))
  ·have k_1 := dI.1 h_1
   refine wp_skip (T_n (R_seq (wp_block (RR ?_))))
   obtain ⟨x_1, hx_1, hF_3⟩ := bS hF_2
   obtain ⟨ad_1, c_1, e_1, -, hr_1, hc_1⟩ := Sli.at_ (h0.mono hM_1) hx_1
   obtain rfl : c_1 = [.int .i64 x_1] := hr_1
   refine Z f (Y31 e_1 rfl (len := d0.length) (cap := cap0) (k := .i64) (i := s_1) (e := 29) (sz := 1) (getI_nn hx_1) (getI_lt hx_1)) fun _ f => Y15 f p_1 hc_1 0 rfl fun _ f => Y f 1 fun _ f => eT (RR (Y f 3 fun _ f => eT (RcF f hF_3 (fun h_2 hF_4 => ?_) fun h_2 hF_5 => ?_)))
   ·have k_2 : ¬ (x_1 = 0) := (not_iff dI).1 h_2
    refine RR (Y f 2 fun _ f => eT (wp_ret (B_r (T_r (T_r ?_)))))
    obtain rfl := sI hF_4
    exact .inl ⟨rfl, x_1, (sI hn_1).symm, M_1, hM_1, f.kp, p_1⟩
   ·have k_3 : ¬ (¬ (x_1 = 0)) := iff_f (not_iff dI) h_2
    refine wp_skip (B_n (T_n (R_reg ?_)))
    obtain ⟨g_1, hF_6⟩ := nS hF_5
    refine Y f 1 fun _ f => ?_
    have f := f.st 16 (congrArg (Value.int .i64) (inR_wrap g_1))
    refine Y f 1 fun _ f => eT ?_
    obtain rfl := sI hF_6
    exact ⟨⟨m_2, s_1 + 1⟩, Nat.lt_succ_self _, M_1, hM_1, hn_1, f.kp, p_1⟩
  ·have k_4 := iff_f dI h_1
   refine wp_exit (T_x (T_x ?_))
   obtain rfl := sI hF_7
   exact .inr ⟨rfl, (), (sI hn_1).symm, M_1, hM_1, f.kp, p_1⟩
 ·rintro _ _ w_4 (⟨rfl, y_1, rfl, M_2, hM_2, f, p_2⟩ | ⟨rfl, y_2, rfl, M_3, hM_3, f, p_3⟩)
  ·refine B_r (T_r (E_ret1 f rfl (by kernel_rfl : Vc.look _ 2 = some (.int .i64 y_1)) ?_))
   obtain rfl := sI hF_1
   exact ⟨_, rfl, M_2, hM_2, p_2, rfl⟩
  ·refine B_x (T_n (RR (Y f 2 fun _ f => eT (wp_ret (E_ret1 f rfl (by kernel_rfl : Vc.look _ 2 = some (.int .i64 0)) ?_)))))
   obtain rfl := sI hF_1
   exact ⟨_, rfl, M_3, hM_3, p_3, rfl⟩
def schema_Differ_1 (n : Nat) (d0 : TE0) : Option Bool :=
  some ((d0.fUnknown))
theorem schema_Differ_1_ok (n : Nat) (M : Mem) (hG : GL M) (c0 : List Value) (d0 : TE0) (h0 : Rep M (emb_TE0 d0) c0) (r : Bool) (hF : schema_Differ_1 n d0 = some r) : Ok Tryd.prog M 104 [.agg c0.toArray] (fun _ v => v = .bool r) := by
 unfold schema_Differ_1 at hF
 intro M1 hM0 w0 H w p0
 replace hG := GL.mono hM0 hG
 replace h0 := Rep.mono hM0 _ _ h0
 obtain ⟨A_1, cap_1, A_2, cap_2, rfl, h_1, h_2⟩ := TE0.opn h0
 refine R_enter 5 Tryd.func104 rfl rfl (by simp) fun a0 f0 => RR (Y13 (cs := #[S d0.fName, .bool d0.fUnknown, .int .i8 d0.fV.fKind, .bool d0.fV.fBool, .int .i64 d0.fV.fNum, S d0.fV.fText, .slice A_1 d0.fV.fList.length cap_1, .slice A_2 d0.fV.fKeys.length cap_2]) (T := 79) f0 p0 fun b_1 M_1 w_1 hM_1 hc_1 p_1 _ f => ?_)
 have hc_2 := fz_box hc_1
 refine Y f 1 fun _ f => eT (RR (Y f 1 fun _ f => Y15 f p_1 hc_2 1 rfl fun _ f => Y f 1 fun _ f => eT (wp_ret (E_ret1 f rfl (by kernel_rfl : Vc.look _ 2 = some (.bool d0.fUnknown)) ?_))))
 obtain rfl := sI hF
 exact ⟨_, rfl, M_1, hM_1, p_1, rfl⟩
def slices_IndexFuncapi_Given_api_Given_s1 (n : Nat) (d0 : List TE0) (s_1 : Int) : Option (Lp Int (Sum Int Unit)) :=
    bif (decide (s_1 < ((d0.length : Nat) : Int))) then
      ((getI d0 s_1).bind fun x_1 =>
      (schema_Differ_1 n x_1).bind fun x_2 =>
      bif x_2 then
        (some (.br (.inl s_1)))
      else
        need (inR .i64 (s_1 + 1)) <|
        some (.nx (s_1 + 1)))
    else
      some (.br (.inr ()))
def slices_IndexFuncapi_Given_api_Given (n : Nat) (d0 : List TE0) : Option Int :=
  (loopF (slices_IndexFuncapi_Given_api_Given_s1 n d0) n (0 : Int)).bind fun b_1 =>
  (match b_1 with 
  | .inl y_1 => some (y_1) 
  | .inr y_2 => some ((-1 : Int)))
theorem slices_IndexFuncapi_Given_api_Given_ok (n : Nat) (M : Mem) (hG : GL M) (A0 : Option Addr) (cap0 : Nat) (d0 : List TE0) (h0 : Sli M 8 emb_TE0 A0 cap0 d0) (r : Int) (hF : slices_IndexFuncapi_Given_api_Given n d0 = some r) : Ok Tryd.prog M 72 [.slice A0 d0.length cap0, .func (.func 104) #[] #[]] (fun _ v => v = .int .i64 r) := by
 unfold slices_IndexFuncapi_Given_api_Given at hF
 intro M1 hM0 w0 H w p0
 replace hG := GL.mono hM0 hG
 replace h0 := h0.mono hM0
 refine R_enter 19 Tryd.func72 rfl rfl (by simp) fun a0 f0 => RR (Y f0 1 fun _ f => eT (R_seq (RR (Y f 3 fun _ f => eT (wp_block ?_)))))
 obtain ⟨b_1, hL_1, hF_1⟩ := bS hF
 refine wp_mono (Q := fun e a w => (e = .ret ∧ (∃ y_1 : Int, b_1 = .inl y_1 ∧ ∃ M_2 : Mem, M1.le M_2 ∧ Frm 19 [(4, .int .i64 y_1)] a ∧ Hp w0 M_2 (H) w)) ∨ (e = .exit 0 ∧ (∃ y_2 : Unit, b_1 = .inr y_2 ∧ ∃ M_3 : Mem, M1.le M_3 ∧ Frm 19 [] a ∧ Hp w0 M_3 (H) w))) (R_loop (n := 19) (w0 := w0) (M := M1) (fun (x : Nat × Int) => match x with | (m_1, s_1) => [(0, .slice A0 d0.length cap0), (1, .func (.func 104) #[] #[]), (7, .int .i64 ((d0.length : Nat) : Int)), (8, .int .i64 s_1)]) (fun (x : Nat × Int) => match x with | (m_1, s_1) => (H)) (fun (x : Nat × Int) (MM : Mem) => match x with | (m_1, s_1) => loopF (slices_IndexFuncapi_Given_api_Given_s1 n d0) m_1 s_1 = some b_1) (fun (x : Nat × Int) => match x with | (m_1, s_1) => m_1) (n, (0 : Int)) (f.kp) p0 hL_1 ?_) ?_
 ·rintro ⟨m_1, s_1⟩ M_1 _ w_1 hM_1 I_1 f p_1
  have I_1L := I_1
  obtain ⟨m_2, r_1, rfl, hs_1, hn_1⟩ := loop_step I_1L
  unfold slices_IndexFuncapi_Given_api_Given_s1 at hs_1
  refine RR (Y f 1 fun _ f => eT (R_seq (RcF f hs_1 (fun h_1 hF_2 => ?_) fun h_1 hF_8 => ?_)))
  ·have k_1 := dI.1 h_1
   refine wp_skip (T_n (R_seq (wp_block (RR (Y f 2 fun _ f => eT (RR (Y f 3 fun _ f => ?_)))))))
   obtain ⟨x_1, hx_1, hF_3⟩ := bS hF_2
   obtain ⟨ad_1, c_1, e_1, -, hr_1, hc_1⟩ := Sli.at_ (h0.mono hM_1) hx_1
   obtain ⟨A_1, cap_1, A_2, cap_2, rfl, h_2, h_3⟩ := TE0.opn hr_1
   refine Z f (Y31 e_1 rfl (len := d0.length) (cap := cap0) (k := .i64) (i := s_1) (e := 79) (sz := 8) (getI_nn hx_1) (getI_lt hx_1)) fun _ f => Z (v := .agg #[S x_1.fName, .bool x_1.fUnknown, .int .i8 x_1.fV.fKind, .bool x_1.fV.fBool, .int .i64 x_1.fV.fNum, S x_1.fV.fText, .slice A_1 x_1.fV.fList.length cap_1, .slice A_2 x_1.fV.fKeys.length cap_2]) f (Y33 (cs := [S x_1.fName, .bool x_1.fUnknown, .int .i8 x_1.fV.fKind, .bool x_1.fV.fBool, .int .i64 x_1.fV.fNum, S x_1.fV.fText, .slice A_1 x_1.fV.fList.length cap_1, .slice A_2 x_1.fV.fKeys.length cap_2]) rfl (ad := ad_1.add (s_1.toNat * 8)) (fun j v h => p_1.cell (hc_1 j v h))) fun _ f => ?_
   obtain ⟨x_2, hx_2, hF_4⟩ := bS hF_3
   refine Y18 f p_1 (schema_Differ_1_ok n _ (GL.mono hM_1 hG) _ x_1 (TE0.shutx (x := x_1) h_2 h_3) x_2 hx_2) fun w_2 p_2 _ f => eT (RcF f hF_4 (fun h_4 hF_5 => ?_) fun h_4 hF_6 => ?_)
   ·refine RR (Y f 2 fun _ f => eT (wp_ret (B_r (T_r (T_r ?_)))))
    obtain rfl := sI hF_5
    exact .inl ⟨rfl, s_1, (sI hn_1).symm, M_1, hM_1, f.kp, p_2⟩
   ·refine wp_skip (B_n (T_n (R_reg ?_)))
    obtain ⟨g_1, hF_7⟩ := nS hF_6
    refine Y f 1 fun _ f => ?_
    have f := f.st 18 (congrArg (Value.int .i64) (inR_wrap g_1))
    refine Y f 1 fun _ f => eT ?_
    obtain rfl := sI hF_7
    exact ⟨⟨m_2, s_1 + 1⟩, Nat.lt_succ_self _, M_1, hM_1, hn_1, f.kp, p_2⟩
  ·have k_4 := iff_f dI h_1
   refine wp_exit (T_x (T_x ?_))
   obtain rfl := sI hF_8
   exact .inr ⟨rfl, (), (sI hn_1).symm, M_1, hM_1, f.kp, p_1⟩
 ·rintro _ _ w_5 (⟨rfl, y_1, rfl, M_2, hM_2, f, p_3⟩ | ⟨rfl, y_2, rfl, M_3, hM_3, f, p_4⟩)
  ·refine B_r (T_r (E_ret1 f rfl (by kernel_rfl : Vc.look _ 4 = some (.int .i64 y_1)) ?_))
   obtain rfl := sI hF_1
   exact ⟨_, rfl, M_2, hM_2, p_3, rfl⟩
  ·refine B_x (T_n (RR (Y f 1 fun _ f => eT (wp_ret (E_ret1 f rfl (by kernel_rfl : Vc.look _ 4 = some (.int .i64 (-1))) ?_)))))
   obtain rfl := sI hF_1
   exact ⟨_, rfl, M_3, hM_3, p_4, rfl⟩
def slices_ContainsFuncapi_Given_api_Given (n : Nat) (d0 : List TE0) : Option Bool :=
  (slices_IndexFuncapi_Given_api_Given n d0).bind fun x_1 =>
  some ((decide ((0 : Int) ≤ x_1)))
theorem slices_ContainsFuncapi_Given_api_Given_ok (n : Nat) (M : Mem) (hG : GL M) (A0 : Option Addr) (cap0 : Nat) (d0 : List TE0) (h0 : Sli M 8 emb_TE0 A0 cap0 d0) (r : Bool) (hF : slices_ContainsFuncapi_Given_api_Given n d0 = some r) : Ok Tryd.prog M 50 [.slice A0 d0.length cap0, .func (.func 104) #[] #[]] (fun _ v => v = .bool r) := by
 unfold slices_ContainsFuncapi_Given_api_Given at hF
 intro M1 hM0 w0 H w p0
 replace hG := GL.mono hM0 hG
 replace h0 := h0.mono hM0
 refine R_enter 9 Tryd.func50 rfl rfl (by simp) fun a0 f0 => RR (Y f0 1 fun _ f => eT (RR (Y f 2 fun _ f => ?_)))
 obtain ⟨x_1, hx_1, hF_1⟩ := bS hF
 refine Y18 f p0 (slices_IndexFuncapi_Given_api_Given_ok n _ hG A0 cap0 d0 h0 x_1 hx_1) fun w_1 p_1 _ f => Y f 2 fun _ f => eT (wp_ret (E_ret1 f rfl (by kernel_rfl : Vc.look _ 4 = some (.bool (decide ((0 : Int) ≤ x_1)))) ?_))
 obtain rfl := sI hF_1
 exact ⟨_, rfl, M1, (mR _), p_1, rfl⟩
def schema_byName_s1 (n : Nat) (d0 : List TE0) (s_1 : Int × (List ((List UInt8) × TE0))) : Option (Lp (Int × (List ((List UInt8) × TE0))) (List ((List UInt8) × TE0))) :=
    bif (decide (s_1.1 < ((d0.length : Nat) : Int))) then
      ((getI d0 s_1.1).bind fun x_1 =>
      need (inR .i64 (s_1.1 + 1)) <|
      some (.nx (s_1.1 + 1, mput s_1.2 x_1.fName x_1)))
    else
      some (.br s_1.2)
def schema_byName (n : Nat) (d0 : List TE0) : Option (List ((List UInt8) × TE0)) :=
  (loopF (schema_byName_s1 n d0) n ((0 : Int), ([] : List ((List UInt8) × TE0)))).bind fun y_1 =>
  some (y_1)
theorem schema_byName_ok (n : Nat) (M : Mem) (hG : GL M) (A0 : Option Addr) (cap0 : Nat) (d0 : List TE0) (h0 : Sli M 8 emb_TE0 A0 cap0 d0) (r : (List ((List UInt8) × TE0))) (hF : schema_byName n d0 = some r) : Ok Tryd.prog M 105 [.slice A0 d0.length cap0] (fun M' v => ∃ (b0 : Nat) (m0 : List ((List UInt8) × Value)), v = .map (some b0) ∧ M' b0 = some (mapO S idV m0) ∧ RepMap M' emb_TE0 r m0) := by
 unfold schema_byName at hF
 intro M1 hM0 w0 H w p0
 replace hG := GL.mono hM0 hG
 replace h0 := h0.mono hM0
 refine R_enter 19 Tryd.func105 rfl rfl (by simp) fun a0 f0 => RR (Y f0 1 fun _ f => eT (RR (W_newmap S idV f p0 (by kernel_rfl) (by kernel_rfl) rfl rfl rfl fun bm_1 w_1 p_1 _ f => ?_)))
 have hm_1 : RepMap M1 emb_TE0 ([] : List ((List UInt8) × TE0)) ([] : List ((List UInt8) × Value)) := RepMap.nil
 refine Y f 1 fun _ f => eT (R_seq (RR (Y f 3 fun _ f => eT (wp_block ?_))))
 obtain ⟨b_1, hL_1, hF_1⟩ := bS hF
 refine wp_mono (Q := fun e a w => (e = .exit 0 ∧ (∃ y_1 : (List ((List UInt8) × TE0)), b_1 = y_1 ∧ ∃ M_2 : Mem, M1.le M_2 ∧ ∃ (m_4 : List ((List UInt8) × Value)), RepMap M_2 emb_TE0 y_1 m_4 ∧ Frm 19 [(3, .map (some bm_1))] a ∧ Hp w0 M_2 ((Ent.obj bm_1 (mapO S idV m_4)) :: H) w))) (R_loop (n := 19) (w0 := w0) (M := M1) (fun (x : Nat × (Int × (List ((List UInt8) × TE0))) × (List ((List UInt8) × Value))) => match x with | (m_1, s_1, m_2) => [(3, .map (some bm_1)), (7, .slice A0 d0.length cap0), (8, .int .i64 ((d0.length : Nat) : Int)), (9, .int .i64 s_1.1)]) (fun (x : Nat × (Int × (List ((List UInt8) × TE0))) × (List ((List UInt8) × Value))) => match x with | (m_1, s_1, m_2) => ((Ent.obj bm_1 (mapO S idV m_2)) :: H)) (fun (x : Nat × (Int × (List ((List UInt8) × TE0))) × (List ((List UInt8) × Value))) (MM : Mem) => match x with | (m_1, s_1, m_2) => loopF (schema_byName_s1 n d0) m_1 s_1 = some b_1 ∧ RepMap MM emb_TE0 s_1.2 m_2) (fun (x : Nat × (Int × (List ((List UInt8) × TE0))) × (List ((List UInt8) × Value))) => match x with | (m_1, s_1, m_2) => m_1) (n, ((0 : Int), ([] : List ((List UInt8) × TE0))), ([] : List ((List UInt8) × Value))) (f.kp) p_1 ⟨hL_1, hm_1⟩ ?_) ?_
 ·rintro ⟨m_1, s_1, m_2⟩ M_1 _ w_2 hM_1 I_1 f p_2
  obtain ⟨I_1L, hm_2⟩ := I_1
  obtain ⟨m_3, r_1, rfl, hs_1, hn_1⟩ := loop_step I_1L
  unfold schema_byName_s1 at hs_1
  refine RR (Y f 1 fun _ f => eT (R_seq (RcF f hs_1 (fun h_1 hF_2 => ?_) fun h_1 hF_5 => ?_)))
  ·have k_1 := dI.1 h_1
   refine wp_skip (T_n (R_seq (wp_block (RR ?_))))
   obtain ⟨x_1, hx_1, hF_3⟩ := bS hF_2
   obtain ⟨ad_1, c_1, e_1, -, hr_1, hc_1⟩ := Sli.at_ (h0.mono hM_1) hx_1
   obtain ⟨A_1, cap_1, A_2, cap_2, rfl, h_2, h_3⟩ := TE0.opn hr_1
   refine Z f (Y31 e_1 rfl (len := d0.length) (cap := cap0) (k := .i64) (i := s_1.1) (e := 79) (sz := 8) (getI_nn hx_1) (getI_lt hx_1)) fun _ f => Z (v := .agg #[S x_1.fName, .bool x_1.fUnknown, .int .i8 x_1.fV.fKind, .bool x_1.fV.fBool, .int .i64 x_1.fV.fNum, S x_1.fV.fText, .slice A_1 x_1.fV.fList.length cap_1, .slice A_2 x_1.fV.fKeys.length cap_2]) f (Y33 (cs := [S x_1.fName, .bool x_1.fUnknown, .int .i8 x_1.fV.fKind, .bool x_1.fV.fBool, .int .i64 x_1.fV.fNum, S x_1.fV.fText, .slice A_1 x_1.fV.fList.length cap_1, .slice A_2 x_1.fV.fKeys.length cap_2]) rfl (ad := ad_1.add (s_1.1.toNat * 8)) (fun j v h => p_2.cell (hc_1 j v h))) fun _ f => Y12 f p_2 (.cells #[S [], .bool false, .int .i8 0, .bool false, .int .i64 0, S [], .slice none 0 0, .slice none 0 0] 79 (0, 0)) fun b_2 w_3 p_3 _ f => Y27 (vs := [S x_1.fName, .bool x_1.fUnknown, .int .i8 x_1.fV.fKind, .bool x_1.fV.fBool, .int .i64 x_1.fV.fNum, S x_1.fV.fText, .slice A_1 x_1.fV.fList.length cap_1, .slice A_2 x_1.fV.fKeys.length cap_2]) (j := 0) f p_3 rfl rfl (by simp [Value.oneCell', S]) (by simp) (by decide) (cs' := #[S x_1.fName, .bool x_1.fUnknown, .int .i8 x_1.fV.fKind, .bool x_1.fV.fBool, .int .i64 x_1.fV.fNum, S x_1.fV.fText, .slice A_1 x_1.fV.fList.length cap_1, .slice A_2 x_1.fV.fKeys.length cap_2]) (by kernel_rfl) fun w_4 p_4 _ f => eT (R_reg (Y f 2 fun _ f => Z f (Y32 (v := S x_1.fName) rfl (ad := ⟨b_2, 0, none⟩) (p_4.ownCell 0 rfl 0)) fun _ f => Z (v := .agg #[S x_1.fName, .bool x_1.fUnknown, .int .i8 x_1.fV.fKind, .bool x_1.fV.fBool, .int .i64 x_1.fV.fNum, S x_1.fV.fText, .slice A_1 x_1.fV.fList.length cap_1, .slice A_2 x_1.fV.fKeys.length cap_2]) f (Y33 (cs := [S x_1.fName, .bool x_1.fUnknown, .int .i8 x_1.fV.fKind, .bool x_1.fV.fBool, .int .i64 x_1.fV.fNum, S x_1.fV.fText, .slice A_1 x_1.fV.fList.length cap_1, .slice A_2 x_1.fV.fKeys.length cap_2]) rfl (ad := ⟨b_2, 0, none⟩) (own_cells (p_4.ownCell 0 rfl) 0 rfl)) fun _ f => ?_))
   have p_5 := p_4.pl [1]
   have hm_3 := RepMap.put (k := x_1.fName) (x := x_1) (cs := [S x_1.fName, .bool x_1.fUnknown, .int .i8 x_1.fV.fKind, .bool x_1.fV.fBool, .int .i64 x_1.fV.fNum, S x_1.fV.fText, .slice A_1 x_1.fV.fList.length cap_1, .slice A_2 x_1.fV.fKeys.length cap_2]) (TE0.shutx (x := x_1) h_2 h_3) hm_2
   refine W_mapput (ek := S) (ev := idV) (m := m_2) (k := x_1.fName) (v := .agg [S x_1.fName, .bool x_1.fUnknown, .int .i8 x_1.fV.fKind, .bool x_1.fV.fBool, .int .i64 x_1.fV.fNum, S x_1.fV.fText, .slice A_1 x_1.fV.fList.length cap_1, .slice A_2 x_1.fV.fKeys.length cap_2].toArray) (kt := 9) (et := 79) f p_5 (by kernel_rfl) (by kernel_rfl) rfl (.inl rfl) (by kernel_rfl) (by kernel_rfl) (by kernel_rfl) (by kernel_rfl) (strKey (by kernel_rfl)) fun w_5 p_6 _ f => W_end rfl (B_n (T_n (R_reg ?_)))
   obtain ⟨g_1, hF_4⟩ := nS hF_3
   refine Y f 1 fun _ f => ?_
   have f := f.st 17 (congrArg (Value.int .i64) (inR_wrap g_1))
   refine Y f 1 fun _ f => W_end rfl ?_
   have p_8 := p_6.pl [1]
   refine T_n ?_
   obtain rfl := sI hF_4
   exact ⟨⟨m_3, (s_1.1 + 1, mput s_1.2 x_1.fName x_1), mput m_2 x_1.fName (.agg [S x_1.fName, .bool x_1.fUnknown, .int .i8 x_1.fV.fKind, .bool x_1.fV.fBool, .int .i64 x_1.fV.fNum, S x_1.fV.fText, .slice A_1 x_1.fV.fList.length cap_1, .slice A_2 x_1.fV.fKeys.length cap_2].toArray)⟩, Nat.lt_succ_self _, M_1, hM_1, ⟨hn_1, hm_3⟩, f.kp, (p_8.dropN 1)⟩
  ·have k_2 := iff_f dI h_1
   refine wp_exit (T_x (T_x ?_))
   obtain rfl := sI hF_5
   exact ⟨rfl, s_1.2, (sI hn_1).symm, M_1, hM_1, m_2, hm_2, f.kp, p_2⟩
 ·rintro _ _ w_7 ⟨rfl, y_1, hq_, M_2, hM_2, m_4, hm_4, f, p_7⟩
  subst b_1
  refine B_x (T_n (RR (Y f 2 fun _ f => eT (wp_ret ?_))))
  obtain ⟨M_3, hM_3, p_9, h_4⟩ := p_7.fzObj
  refine E_ret1 f rfl (by kernel_rfl : Vc.look _ 2 = some (.map (some bm_1))) ?_
  obtain rfl := sI hF_1
  exact ⟨_, rfl, M_3, (hM_2.trans hM_3), p_9, ⟨bm_1, m_4, rfl, h_4, (hm_4.mono hM_3)⟩⟩
def schema_Differ_s1_e (n : Nat) (x_5 : (List ((List UInt8) × TE0))) (x_6 : (List ((List UInt8) × TE0))) (s_1 : Int) : Option (Lp Int (Sum Int Unit)) :=
    some (.br (.inl s_1))
def schema_Differ_s1_y (n : Nat) (x_5 : (List ((List UInt8) × TE0))) (x_6 : (List ((List UInt8) × TE0))) (pv_1 : List UInt8 × TG0) (s_1 : Int) : Option (Lp Int (Sum Int Unit)) :=
    ((bif ((mget x_5 pv_1.1).isSome == (mget x_6 pv_1.1).isSome) then
        (bif (!((mget x_6 pv_1.1).getD z_TE0).fUnknown) then
          (bif (!(mget x_5 pv_1.1).isSome) then
            (some ((true)))
          else
            (tree_Equal n (⟨((mget x_5 pv_1.1).getD z_TE0).fV.fKind, (((mget x_5 pv_1.1).getD z_TE0).fV.fBool), ((mget x_5 pv_1.1).getD z_TE0).fV.fNum, ((mget x_5 pv_1.1).getD z_TE0).fV.fText, ((mget x_5 pv_1.1).getD z_TE0).fV.fList, ((mget x_5 pv_1.1).getD z_TE0).fV.fKeys⟩ : TD0) (⟨((mget x_6 pv_1.1).getD z_TE0).fV.fKind, (((mget x_6 pv_1.1).getD z_TE0).fV.fBool), ((mget x_6 pv_1.1).getD z_TE0).fV.fNum, ((mget x_6 pv_1.1).getD z_TE0).fV.fText, ((mget x_6 pv_1.1).getD z_TE0).fV.fList, ((mget x_6 pv_1.1).getD z_TE0).fV.fKeys⟩ : TD0)).bind fun x_7 =>
            some ((x_7)))
        else
          some ((false)))
      else
        some ((false)) : Option Bool)).bind fun y_1 =>
    bif y_1 then
      (some (.nx s_1))
    else
      bif pv_1.2.fReplace then
        (some (.br (.inr ())))
      else
        some (.nx (2 : Int))
def schema_Differ (n : Nat) (d0 : List UInt8) (d1 : List TE0) (d2 : List TE0) : Option (Int × Int) :=
  (schema_Check n d0 d1).bind fun x_1 =>
  (schema_Check n d0 d2).bind fun x_2 =>
  (cmp_Or_2 n [x_1, x_2]).bind fun x_3 =>
  bif (!(decide (x_3 = 0))) then
    (some (((0 : Int), x_3)))
  else
    (slices_ContainsFuncapi_Given_api_Given n d1).bind fun x_4 =>
    bif x_4 then
      (some (((0 : Int), (91 : Int))))
    else
      (schema_byName n d1).bind fun x_5 =>
      (schema_byName n d2).bind fun x_6 =>
      (foldP (schema_Differ_s1_e n x_5 x_6) (schema_Differ_s1_y n x_5 x_6) (propsD d0) (0 : Int)).bind fun b_7 =>
      (match b_7 with 
      | .inl y_2 => some ((y_2, (0 : Int))) 
      | .inr y_3 => some (((3 : Int), (0 : Int))))
set_option maxRecDepth 20000 in
theorem schema_Differ_ok (n : Nat) (M : Mem) (hG : GL M) (d0 : List UInt8) (A1 : Option Addr) (cap1 : Nat) (d1 : List TE0) (h1 : Sli M 8 emb_TE0 A1 cap1 d1) (A2 : Option Addr) (cap2 : Nat) (d2 : List TE0) (h2 : Sli M 8 emb_TE0 A2 cap2 d2) (r : Int × Int) (hF : schema_Differ n d0 d1 d2 = some r) : Ok Tryd.prog M 81 [S d0, .slice A1 d1.length cap1, .slice A2 d2.length cap2] (fun _ v => v = .tuple #[.int .i8 r.1, .int .i64 r.2]) := by
 unfold schema_Differ at hF
 intro M1 hM0 w0 H w p0
 replace hG := GL.mono hM0 hG
 replace h1 := h1.mono hM0
 replace h2 := h2.mono hM0
 refine R_enter 78 Tryd.func81 rfl rfl (by simp) fun a0 f0 => RR (Y f0 2 fun _ f => eT (R_seq (RR (Y f 2 fun _ f => ?_))))
 obtain ⟨x_1, hx_1, hF_1⟩ := bS hF
 refine Y18 f p0 (schema_Check_ok n _ hG d0 A1 cap1 d1 h1 x_1 hx_1) fun w_1 p_1 _ f => Y f 2 fun _ f => ?_
 obtain ⟨x_2, hx_2, hF_2⟩ := bS hF_1
 refine Y18 f p_1 (schema_Check_ok n _ hG d0 A2 cap2 d2 h2 x_2 hx_2) fun w_2 p_2 _ f => V_allocS (k := 2) (c := 2) f p_2 (.cells #[.int .i64 x_1, .int .i64 x_2] 29 (0, 0)) (by kernel_rfl) (fun _ => by kernel_rfl) fun b_1 w_3 p_3 _ f => ?_
 have hr_1 : RepSeq M1 ([x_1, x_2].map (Dat.int .i64)) [.int .i64 x_1, .int .i64 x_2] := ⟨_, _, rfl, rfl, ⟨_, _, rfl, rfl, rfl⟩⟩
 have p_4 : Hp w0 M1 ((Ent.row 29 1 (.slice (some ⟨b_1, 0, none⟩) 2 2) [x_1, x_2].length [.int .i64 x_1, .int .i64 x_2]) :: H) w_3 := p_3.objRow (n := 2) (cap := 2) (size := 1) (by decide) (by decide) (blk_eq (by decide) rfl) rfl rfl
 obtain ⟨M_1, A_1, cap_1, hM_1, hv_1, p_5, h_1, hb_1⟩ := p_4.lend (f := (Dat.int .i64)) (xs := [x_1, x_2]) (szd_int .i64) hr_1
 have f := f.st 24 (hv_1)
 obtain ⟨x_3, hx_3, hF_3⟩ := bS hF_2
 refine Y18 f p_5 (cmp_Or_2_ok n _ (GL.mono hM_1 hG) A_1 cap_1 [x_1, x_2] h_1 x_3 hx_3) fun w_4 p_6 _ f => ?_
 obtain ⟨M_2, hM_2, p_7⟩ := hb_1 _ _ _ (mR _) p_6
 have f := f.st 24 (hv_1.symm)
 refine Y f 1 fun _ f => eT (RR (Y f 2 fun _ f => eT (RcF f hF_3 (fun h_2 hF_4 => ?_) fun h_2 hF_5 => ?_)))
 ·have k_1 : ¬ (x_3 = 0) := (not_iff dI).1 h_2
  refine RR (Y f 3 fun _ f => eT (wp_ret (T_r (E_ret2 f rfl (by kernel_rfl : Vc.look _ 6 = some (.int .i8 0)) (by kernel_rfl : Vc.look _ 7 = some (.int .i64 x_3)) ?_))))
  obtain rfl := sI hF_4
  exact ⟨_, rfl, M_2, hM_2, (p_7.dropN 1), rfl⟩
 ·have k_2 : ¬ (¬ (x_3 = 0)) := iff_f (not_iff dI) h_2
  refine wp_skip (T_n (R_seq (RR (Y f 1 fun _ f => ?_))))
  obtain ⟨x_4, hx_4, hF_6⟩ := bS hF_5
  refine Y18 f p_7 (slices_ContainsFuncapi_Given_api_Given_ok n _ (GL.mono hM_2 hG) A1 cap1 d1 (h1.mono hM_2) x_4 hx_4) fun w_5 p_8 _ f => eT (RcF f hF_6 (fun h_3 hF_7 => ?_) fun h_3 hF_8 => ?_)
  ·refine RR (Y f 2 fun _ f => eT (wp_ret (T_r (E_ret2 f rfl (by kernel_rfl : Vc.look _ 6 = some (.int .i8 0)) (by kernel_rfl : Vc.look _ 7 = some (.int .i64 91)) ?_))))
   obtain rfl := sI hF_7
   exact ⟨_, rfl, M_2, hM_2, (p_8.dropN 1), rfl⟩
  ·refine wp_skip (T_n (RR (Y f 1 fun _ f => ?_)))
   obtain ⟨x_5, hx_5, hF_9⟩ := bS hF_8
   refine Y16 f p_8 (schema_byName_ok n _ (GL.mono hM_2 hG) A1 cap1 d1 (h1.mono hM_2) x_5 hx_5) fun _ M_3 w_6 hM_3 p_9 q_1 _ f => ?_
   obtain ⟨bk_1, m_1, rfl, h0_1, hm_1⟩ := q_1
   refine Y f 1 fun _ f => ?_
   obtain ⟨x_6, hx_6, hF_10⟩ := bS hF_9
   refine Y16 f p_9 (schema_byName_ok n _ (GL.mono (hM_2.trans hM_3) hG) A2 cap2 d2 (h2.mono (hM_2.trans hM_3)) x_6 hx_6) fun _ M_4 w_7 hM_4 p_10 q_2 _ f => ?_
   obtain ⟨bk_2, m_2, rfl, h0_2, hm_2⟩ := q_2
   refine Y f 2 fun _ f => eT (RR (Y f 1 fun _ f => eT (R_seq (RR (Y16 f p_10 (all_ok _) fun _ M_5 w_8 hM_5 p_11 q_3 _ f => ?_)))))
   obtain ⟨b_2, b_3, b_4, b_5, b_6, rfl, hA_1⟩ := q_3
   refine Y f 1 fun _ f => Z (v := .map (blkOf b_3 b_4 b_5 b_6 d0)) f (X_all1 (k := d0) (kt := 9) (et := 119) hA_1 p_11 rfl (by kernel_rfl) (by kernel_rfl) (by kernel_rfl) (strKey (by kernel_rfl)) (by kernel_rfl)) fun _ f => W_rangeM (kt := 9) (et := 124) (kmap_of hA_1 d0) f p_11 (by kernel_rfl) (by kernel_rfl) rfl rfl rfl (by kernel_rfl) (by kernel_rfl) fun r_1 w_9 p_12 _ f => eT (wp_block ?_)
   obtain ⟨b_7, hL_1, hF_11⟩ := bS hF_10
   refine wp_mono (Q := fun e a w => (e = .exit 0 ∧ (∃ y_2 : Int, b_7 = .inl y_2 ∧ ∃ M_8 : Mem, M_5.le M_8 ∧ Frm 78 [(11, .int .i8 y_2)] a ∧ Hp w0 M_8 ((Ent.row 29 1 (.slice (some ⟨b_1, 0, none⟩) 2 2) [x_1, x_2].length [.int .i64 x_1, .int .i64 x_2]) :: H) w)) ∨ (e = .ret ∧ (∃ y_3 : Unit, b_7 = .inr y_3 ∧ ∃ M_9 : Mem, M_5.le M_9 ∧ Frm 78 [(6, .int .i8 3), (7, .int .i64 0)] a ∧ Hp w0 M_9 ((Ent.row 29 1 (.slice (some ⟨b_1, 0, none⟩) 2 2) [x_1, x_2].length [.int .i64 x_1, .int .i64 x_2]) :: H) w))) (R_loop (n := 78) (w0 := w0) (M := M_5) (fun (x : Int × (Array Nat)) => match x with | (s_1, sn_1) => [(9, .map (some bk_1)), (10, .map (some bk_2)), (11, .int .i8 s_1), (38, .pointer (some (⟨r_1, 0, none⟩)))]) (fun (x : Int × (Array Nat)) => match x with | (s_1, sn_1) => ((Ent.obj r_1 (.mapIter (blkOf b_3 b_4 b_5 b_6 d0) (propsD d0).length sn_1 (propsD d0).length)) :: (Ent.row 29 1 (.slice (some ⟨b_1, 0, none⟩) 2 2) [x_1, x_2].length [.int .i64 x_1, .int .i64 x_2]) :: H)) (fun (x : Int × (Array Nat)) (MM : Mem) => match x with | (s_1, sn_1) => (∀ l, l.Perm (leftD (propsD d0) sn_1) → foldO (schema_Differ_s1_e n x_5 x_6) (schema_Differ_s1_y n x_5 x_6) l s_1 = some b_7)) (fun (x : Int × (Array Nat)) => match x with | (s_1, sn_1) => (leftD (propsD d0) sn_1).length) ((0 : Int), #[]) (f.kp) p_12 (foldP_start hL_1) ?_) ?_
   ·rintro ⟨s_1, sn_1⟩ M_6 _ w_10 hM_6 I_1 f p_13
    have I_1L := I_1
    refine RR (W_nextM (kmap_of (hA_1.mono hM_6) d0) f p_13 (by kernel_rfl) (by kernel_rfl) rfl rfl rfl (by kernel_rfl) (fun ho_1 w_11 p_14 _ f => ?_) fun pv_1 j_1 hj_1 w_12 p_15 _ f => ?_)
    ·obtain ⟨r_2, hs_1, hn_1⟩ := foldO_end I_1L ho_1
     unfold schema_Differ_s1_e at hs_1
     refine Y f 1 fun _ f => eT (R_seq (Y7 f (wp_exit (T_x (T_x ?_)))))
     obtain rfl := sI hs_1
     exact .inl ⟨rfl, s_1, (sI hn_1).symm, M_6, hM_6, f.kp, (p_14.dropN 1)⟩
    ·obtain ⟨r_2, hs_1, hn_1⟩ := foldO_go hj_1 I_1L
     unfold schema_Differ_s1_y at hs_1
     refine Y f 1 fun _ f => eT (R_seq (Y8 f (wp_skip (T_n (wp_block (RR (Z (v := .tuple #[S pv_1.1, .agg #[S pv_1.2.fName, .int .i8 pv_1.2.fKind, .bool pv_1.2.fReplace]]) f (X_entryM (m := propsD d0) (kmap_of (hA_1.mono hM_6) d0) p_15 hj_1 0 rfl rfl (by kernel_rfl)) fun _ f => Y f 2 fun _ f => Y12 f p_15 (.cells #[S [], .int .i8 0, .bool false] 124 (0, 0)) fun b_8 w_13 p_16 _ f => Y f 1 fun _ f => Y27 (vs := [S pv_1.2.fName, .int .i8 pv_1.2.fKind, .bool pv_1.2.fReplace]) (j := 0) f p_16 rfl rfl (by simp [Value.oneCell', S]) (by simp) (by decide) (cs' := #[S pv_1.2.fName, .int .i8 pv_1.2.fKind, .bool pv_1.2.fReplace]) (by kernel_rfl) fun w_14 p_17 _ f => eT (RR (Y f 2 fun _ f => ?_)))))))))
     obtain ⟨c_1, hc_1, hr_2⟩ := RepMap.get (k := pv_1.1) (z := z_TE0) (zc := [S [], .bool false, .int .i8 0, .bool false, .int .i64 0, S [], .slice none 0 0, .slice none 0 0]) (TE0.shutx (x := z_TE0) Sli.nil Sli.nil) (hm_1.mono ((hM_4.trans hM_5).trans hM_6))
     obtain ⟨A_2, cap_2, A_3, cap_3, rfl, h_4, h_5⟩ := TE0.opn hr_2
     refine Z (v := .tuple #[.agg #[S ((mget x_5 pv_1.1).getD z_TE0).fName, .bool ((mget x_5 pv_1.1).getD z_TE0).fUnknown, .int .i8 ((mget x_5 pv_1.1).getD z_TE0).fV.fKind, .bool ((mget x_5 pv_1.1).getD z_TE0).fV.fBool, .int .i64 ((mget x_5 pv_1.1).getD z_TE0).fV.fNum, S ((mget x_5 pv_1.1).getD z_TE0).fV.fText, .slice A_2 ((mget x_5 pv_1.1).getD z_TE0).fV.fList.length cap_2, .slice A_3 ((mget x_5 pv_1.1).getD z_TE0).fV.fKeys.length cap_3], .bool (mget x_5 pv_1.1).isSome]) f (X_lookupR2 (ek := S) (kt := 9) (et := 79) hc_1 (RepMap.isSome (hm_1.mono ((hM_4.trans hM_5).trans hM_6))) rfl (by kernel_rfl) (by kernel_rfl) (by kernel_rfl) (strKey (by kernel_rfl)) (by kernel_rfl) (p_17.mem _ _ (((hM_4.trans hM_5).trans hM_6) _ _ h0_1))) fun _ f => Y f 3 fun _ f => Y12 f p_17 (.cells #[S [], .bool false, .int .i8 0, .bool false, .int .i64 0, S [], .slice none 0 0, .slice none 0 0] 79 (0, 0)) fun b_9 w_15 p_18 _ f => Y27 (vs := [S ((mget x_5 pv_1.1).getD z_TE0).fName, .bool ((mget x_5 pv_1.1).getD z_TE0).fUnknown, .int .i8 ((mget x_5 pv_1.1).getD z_TE0).fV.fKind, .bool ((mget x_5 pv_1.1).getD z_TE0).fV.fBool, .int .i64 ((mget x_5 pv_1.1).getD z_TE0).fV.fNum, S ((mget x_5 pv_1.1).getD z_TE0).fV.fText, .slice A_2 ((mget x_5 pv_1.1).getD z_TE0).fV.fList.length cap_2, .slice A_3 ((mget x_5 pv_1.1).getD z_TE0).fV.fKeys.length cap_3]) (j := 0) f p_18 rfl rfl (by simp [Value.oneCell', S]) (by simp) (by decide) (cs' := #[S ((mget x_5 pv_1.1).getD z_TE0).fName, .bool ((mget x_5 pv_1.1).getD z_TE0).fUnknown, .int .i8 ((mget x_5 pv_1.1).getD z_TE0).fV.fKind, .bool ((mget x_5 pv_1.1).getD z_TE0).fV.fBool, .int .i64 ((mget x_5 pv_1.1).getD z_TE0).fV.fNum, S ((mget x_5 pv_1.1).getD z_TE0).fV.fText, .slice A_2 ((mget x_5 pv_1.1).getD z_TE0).fV.fList.length cap_2, .slice A_3 ((mget x_5 pv_1.1).getD z_TE0).fV.fKeys.length cap_3]) (by kernel_rfl) fun w_16 p_19 _ f => Y f 1 fun _ f => eT (RR (Y f 2 fun _ f => ?_))
     obtain ⟨c_2, hc_2, hr_3⟩ := RepMap.get (k := pv_1.1) (z := z_TE0) (zc := [S [], .bool false, .int .i8 0, .bool false, .int .i64 0, S [], .slice none 0 0, .slice none 0 0]) (TE0.shutx (x := z_TE0) Sli.nil Sli.nil) (hm_2.mono (hM_5.trans hM_6))
     obtain ⟨A_4, cap_4, A_5, cap_5, rfl, h_6, h_7⟩ := TE0.opn hr_3
     refine Z (v := .tuple #[.agg #[S ((mget x_6 pv_1.1).getD z_TE0).fName, .bool ((mget x_6 pv_1.1).getD z_TE0).fUnknown, .int .i8 ((mget x_6 pv_1.1).getD z_TE0).fV.fKind, .bool ((mget x_6 pv_1.1).getD z_TE0).fV.fBool, .int .i64 ((mget x_6 pv_1.1).getD z_TE0).fV.fNum, S ((mget x_6 pv_1.1).getD z_TE0).fV.fText, .slice A_4 ((mget x_6 pv_1.1).getD z_TE0).fV.fList.length cap_4, .slice A_5 ((mget x_6 pv_1.1).getD z_TE0).fV.fKeys.length cap_5], .bool (mget x_6 pv_1.1).isSome]) f (X_lookupR2 (ek := S) (kt := 9) (et := 79) hc_2 (RepMap.isSome (hm_2.mono (hM_5.trans hM_6))) rfl (by kernel_rfl) (by kernel_rfl) (by kernel_rfl) (strKey (by kernel_rfl)) (by kernel_rfl) (p_19.mem _ _ ((hM_5.trans hM_6) _ _ h0_2))) fun _ f => Y f 3 fun _ f => Y12 f p_19 (.cells #[S [], .bool false, .int .i8 0, .bool false, .int .i64 0, S [], .slice none 0 0, .slice none 0 0] 79 (0, 0)) fun b_10 w_17 p_20 _ f => Y27 (vs := [S ((mget x_6 pv_1.1).getD z_TE0).fName, .bool ((mget x_6 pv_1.1).getD z_TE0).fUnknown, .int .i8 ((mget x_6 pv_1.1).getD z_TE0).fV.fKind, .bool ((mget x_6 pv_1.1).getD z_TE0).fV.fBool, .int .i64 ((mget x_6 pv_1.1).getD z_TE0).fV.fNum, S ((mget x_6 pv_1.1).getD z_TE0).fV.fText, .slice A_4 ((mget x_6 pv_1.1).getD z_TE0).fV.fList.length cap_4, .slice A_5 ((mget x_6 pv_1.1).getD z_TE0).fV.fKeys.length cap_5]) (j := 0) f p_20 rfl rfl (by simp [Value.oneCell', S]) (by simp) (by decide) (cs' := #[S ((mget x_6 pv_1.1).getD z_TE0).fName, .bool ((mget x_6 pv_1.1).getD z_TE0).fUnknown, .int .i8 ((mget x_6 pv_1.1).getD z_TE0).fV.fKind, .bool ((mget x_6 pv_1.1).getD z_TE0).fV.fBool, .int .i64 ((mget x_6 pv_1.1).getD z_TE0).fV.fNum, S ((mget x_6 pv_1.1).getD z_TE0).fV.fText, .slice A_4 ((mget x_6 pv_1.1).getD z_TE0).fV.fList.length cap_4, .slice A_5 ((mget x_6 pv_1.1).getD z_TE0).fV.fKeys.length cap_5]) (by kernel_rfl) fun w_18 p_21 _ f => Y f 1 fun _ f => eT (R_seq (R_seq ?_))
     obtain ⟨j_2, hj_2, hF_12⟩ := bS hs_1
     refine R_mid (fun a_60 w_20 => ∃ y_1 : Bool, j_2 = y_1 ∧ ∃ M_7 : Mem, M_6.le M_7 ∧ Frm 78 [(9, .map (some bk_1)), (10, .map (some bk_2)), (11, .int .i8 s_1), (13, .pointer (some (⟨b_8, 0, none⟩))), (38, .pointer (some (⟨r_1, 0, none⟩))), (74, .bool y_1)] a_60 ∧ Hp w0 M_7 ((Ent.obj b_10 (.cells #[S ((mget x_6 pv_1.1).getD z_TE0).fName, .bool ((mget x_6 pv_1.1).getD z_TE0).fUnknown, .int .i8 ((mget x_6 pv_1.1).getD z_TE0).fV.fKind, .bool ((mget x_6 pv_1.1).getD z_TE0).fV.fBool, .int .i64 ((mget x_6 pv_1.1).getD z_TE0).fV.fNum, S ((mget x_6 pv_1.1).getD z_TE0).fV.fText, .slice A_4 ((mget x_6 pv_1.1).getD z_TE0).fV.fList.length cap_4, .slice A_5 ((mget x_6 pv_1.1).getD z_TE0).fV.fKeys.length cap_5] 79 (0, 0))) :: (Ent.obj b_9 (.cells #[S ((mget x_5 pv_1.1).getD z_TE0).fName, .bool ((mget x_5 pv_1.1).getD z_TE0).fUnknown, .int .i8 ((mget x_5 pv_1.1).getD z_TE0).fV.fKind, .bool ((mget x_5 pv_1.1).getD z_TE0).fV.fBool, .int .i64 ((mget x_5 pv_1.1).getD z_TE0).fV.fNum, S ((mget x_5 pv_1.1).getD z_TE0).fV.fText, .slice A_2 ((mget x_5 pv_1.1).getD z_TE0).fV.fList.length cap_2, .slice A_3 ((mget x_5 pv_1.1).getD z_TE0).fV.fKeys.length cap_3] 79 (0, 0))) :: (Ent.obj b_8 (.cells #[S pv_1.2.fName, .int .i8 pv_1.2.fKind, .bool pv_1.2.fReplace] 124 (0, 0))) :: (Ent.obj r_1 (.mapIter (blkOf b_3 b_4 b_5 b_6 d0) (propsD d0).length (sn_1.push j_1) (propsD d0).length)) :: (Ent.row 29 1 (.slice (some ⟨b_1, 0, none⟩) 2 2) [x_1, x_2].length [.int .i64 x_1, .int .i64 x_2]) :: H) w_20) ?_ ?_
     ·refine R_reg (Y f 4 fun _ f => ?_)
      rcases cE hj_2 with ⟨h_8, hF_13⟩ | ⟨h_8, hF_19⟩
      ·have f := f.st 59 (cB h_8)
       refine Y f 1 fun _ f => Z f (Y32 (v := .bool ((mget x_6 pv_1.1).getD z_TE0).fUnknown) rfl (ad := ⟨b_10, 1, none⟩) (p_21.ownCell 0 rfl 1)) fun _ f => Y f 3 fun _ f => ?_
       rcases cE hF_13 with ⟨h_9, hF_14⟩ | ⟨h_9, hF_18⟩
       ·have k_6 : (((mget x_6 pv_1.1).getD z_TE0).fUnknown) = false := by simpa using h_9
        have f := f.st 64 (cB h_9)
        refine Y f 3 fun _ f => ?_
        rcases cE hF_14 with ⟨h_10, hF_15⟩ | ⟨h_10, hF_16⟩
        ·have k_7 : ((mget x_5 pv_1.1).isSome) = false := by simpa using h_10
         have f := f.st 67 (cB h_10)
         refine Y f 7 fun _ f => eT ?_
         exact ⟨(true), (sI hF_15).symm, M_6, (mR _), f.kp, p_21⟩
        ·have k_8 : ((mget x_5 pv_1.1).isSome) = true := by simpa using h_10
         have f := f.st 67 (cB h_10)
         refine Y f 1 fun _ f => Z (v := .agg #[.int .i8 ((mget x_5 pv_1.1).getD z_TE0).fV.fKind, .bool ((mget x_5 pv_1.1).getD z_TE0).fV.fBool, .int .i64 ((mget x_5 pv_1.1).getD z_TE0).fV.fNum, S ((mget x_5 pv_1.1).getD z_TE0).fV.fText, .slice A_2 ((mget x_5 pv_1.1).getD z_TE0).fV.fList.length cap_2, .slice A_3 ((mget x_5 pv_1.1).getD z_TE0).fV.fKeys.length cap_3]) f (Y33 (cs := [.int .i8 ((mget x_5 pv_1.1).getD z_TE0).fV.fKind, .bool ((mget x_5 pv_1.1).getD z_TE0).fV.fBool, .int .i64 ((mget x_5 pv_1.1).getD z_TE0).fV.fNum, S ((mget x_5 pv_1.1).getD z_TE0).fV.fText, .slice A_2 ((mget x_5 pv_1.1).getD z_TE0).fV.fList.length cap_2, .slice A_3 ((mget x_5 pv_1.1).getD z_TE0).fV.fKeys.length cap_3]) rfl (ad := ⟨b_9, 2, none⟩) (own_cells (p_21.ownCell 1 rfl) 2 rfl)) fun _ f => Y f 1 fun _ f => Z (v := .agg #[.int .i8 ((mget x_6 pv_1.1).getD z_TE0).fV.fKind, .bool ((mget x_6 pv_1.1).getD z_TE0).fV.fBool, .int .i64 ((mget x_6 pv_1.1).getD z_TE0).fV.fNum, S ((mget x_6 pv_1.1).getD z_TE0).fV.fText, .slice A_4 ((mget x_6 pv_1.1).getD z_TE0).fV.fList.length cap_4, .slice A_5 ((mget x_6 pv_1.1).getD z_TE0).fV.fKeys.length cap_5]) f (Y33 (cs := [.int .i8 ((mget x_6 pv_1.1).getD z_TE0).fV.fKind, .bool ((mget x_6 pv_1.1).getD z_TE0).fV.fBool, .int .i64 ((mget x_6 pv_1.1).getD z_TE0).fV.fNum, S ((mget x_6 pv_1.1).getD z_TE0).fV.fText, .slice A_4 ((mget x_6 pv_1.1).getD z_TE0).fV.fList.length cap_4, .slice A_5 ((mget x_6 pv_1.1).getD z_TE0).fV.fKeys.length cap_5]) rfl (ad := ⟨b_10, 2, none⟩) (own_cells (p_21.ownCell 0 rfl) 2 rfl)) fun _ f => ?_
         obtain ⟨x_7, hx_7, hF_17⟩ := bS hF_16
         refine Y18 f p_21 (tree_Equal_ok n _ (GL.mono ((((hM_2.trans hM_3).trans hM_4).trans hM_5).trans hM_6) hG) _ (⟨((mget x_5 pv_1.1).getD z_TE0).fV.fKind, (((mget x_5 pv_1.1).getD z_TE0).fV.fBool), ((mget x_5 pv_1.1).getD z_TE0).fV.fNum, ((mget x_5 pv_1.1).getD z_TE0).fV.fText, ((mget x_5 pv_1.1).getD z_TE0).fV.fList, ((mget x_5 pv_1.1).getD z_TE0).fV.fKeys⟩ : TD0) (TD0.shut h_4 h_5) _ (⟨((mget x_6 pv_1.1).getD z_TE0).fV.fKind, (((mget x_6 pv_1.1).getD z_TE0).fV.fBool), ((mget x_6 pv_1.1).getD z_TE0).fV.fNum, ((mget x_6 pv_1.1).getD z_TE0).fV.fText, ((mget x_6 pv_1.1).getD z_TE0).fV.fList, ((mget x_6 pv_1.1).getD z_TE0).fV.fKeys⟩ : TD0) (TD0.shut h_6 h_7) x_7 hx_7) fun w_19 p_22 _ f => Y f 2 fun _ f => eT ?_
         exact ⟨(x_7), (sI hF_17).symm, M_6, (mR _), f.kp, p_22⟩
       ·have k_9 : (((mget x_6 pv_1.1).getD z_TE0).fUnknown) = true := by simpa using h_9
        have f := f.st 64 (cB h_9)
        refine Y f 10 fun _ f => eT ?_
        exact ⟨(false), (sI hF_18).symm, M_6, (mR _), f.kp, p_21⟩
      ·have f := f.st 59 (cB h_8)
       refine Y f 15 fun _ f => eT ?_
       exact ⟨(false), (sI hF_19).symm, M_6, (mR _), f.kp, p_21⟩
     ·rintro a_60 w_20 ⟨y_1, hq_1, M_7, hM_7, f, p_23⟩
      subst j_2
      refine T_n (RcF f hF_12 (fun h_11 hF_20 => ?_) fun h_11 hF_21 => ?_)
      ·refine wp_exit (T_x (B_x (T_n ?_)))
       obtain rfl := sI hF_20
       exact ⟨⟨s_1, sn_1.push j_1⟩, leftD_lt hj_1, M_7, (hM_6.trans hM_7), hn_1, f.kp, (p_23.dropN 3)⟩
      ·refine wp_skip (T_n (R_seq (RR (Y f 1 fun _ f => Z f (Y32 (v := .bool pv_1.2.fReplace) rfl (ad := ⟨b_8, 2, none⟩) (p_23.ownCell 2 rfl 2)) fun _ f => eT (RcF f hF_21 (fun h_12 hF_22 => ?_) fun h_12 hF_23 => ?_)))))
       ·refine RR (Y f 2 fun _ f => eT (wp_ret (T_r (B_r (T_r ?_)))))
        obtain rfl := sI hF_22
        exact .inr ⟨rfl, (), (sI hn_1).symm, M_7, (hM_6.trans hM_7), f.kp, (p_23.dropN 4)⟩
       ·refine wp_skip (T_n (R_reg (Y f 1 fun _ f => W_end rfl (B_n (T_n ?_)))))
        obtain rfl := sI hF_23
        exact ⟨⟨(2 : Int), sn_1.push j_1⟩, leftD_lt hj_1, M_7, (hM_6.trans hM_7), hn_1, f.kp, (p_23.dropN 3)⟩
   ·rintro _ _ w_23 (⟨rfl, y_2, rfl, M_8, hM_8, f, p_24⟩ | ⟨rfl, y_3, rfl, M_9, hM_9, f, p_25⟩)
    ·refine B_x (T_n (RR (Y f 3 fun _ f => eT (wp_ret (E_ret2 f rfl (by kernel_rfl : Vc.look _ 6 = some (.int .i8 y_2)) (by kernel_rfl : Vc.look _ 7 = some (.int .i64 0)) ?_)))))
     obtain rfl := sI hF_11
     exact ⟨_, rfl, M_8, ((((hM_2.trans hM_3).trans hM_4).trans hM_5).trans hM_8), (p_24.dropN 1), rfl⟩
    ·refine B_r (T_r (E_ret2 f rfl (by kernel_rfl : Vc.look _ 6 = some (.int .i8 3)) (by kernel_rfl : Vc.look _ 7 = some (.int .i64 0)) ?_))
     obtain rfl := sI hF_11
     exact ⟨_, rfl, M_9, ((((hM_2.trans hM_3).trans hM_4).trans hM_5).trans hM_9), (p_25.dropN 1), rfl⟩
def byN (gs : List TE0) : List (List UInt8 × TE0) := gs.foldl (fun m g => mput m g.fName g) []
theorem byN_snoc (gs : List TE0) (g : TE0) : byN (gs ++ [g]) = mput (byN gs) g.fName g := by unfold byN; rw [List.foldl_append]; rfl
theorem byName_run {n : Nat} (gs : List TE0) (hl : gs.length ≤ 60) (hn : 6000 < n) : schema_byName n gs = some (byN gs) := by
 unfold schema_byName
 have := loop_all (n := n) (step := schema_byName_s1 n gs) (fun k => ((k : Int), byN (gs.take k))) gs.length (byN gs) (fun k hk => by
  unfold schema_byName_s1
  have hx : gs[k]? = some gs[k] := List.getElem?_eq_getElem hk
  have hg : gs.getD k z_TE0 = gs[k] := by simp [List.getD, hk]
  dsimp only
  rw [decide_eq_true (by omega), cT, getI_at z_TE0 hk, bnd, need_i (by omega) (by omega), hg, List.take_add_one, hx]
  have e : byN (gs.take k ++ (some gs[k]).toList) = mput (byN (gs.take k)) gs[k].fName gs[k] := byN_snoc _ _
  rw [e]; rfl) (by
  unfold schema_byName_s1
  dsimp only
  rw [decide_eq_false (by omega), cF, List.take_length]) (by omega)
 have e0 : (((0 : Nat) : Int), byN (gs.take 0)) = ((0 : Int), ([] : List (List UInt8 × TE0))) := rfl
 rw [e0] at this
 rw [this, bnd]
theorem byN_some {k : List UInt8} {g : TE0} : ∀ {m : Nat} {gs : List TE0}, gs.length = m → mget (byN gs) k = some g → g ∈ gs ∧ g.fName = k
 | 0, gs, hm, h => by
  have : gs = [] := List.length_eq_zero_iff.1 hm
  subst this; cases h
 | m + 1, gs, hm, h => by
  obtain ⟨l, x, rfl⟩ : ∃ l x, gs = l ++ [x] := ⟨gs.dropLast, gs.getLast (by intro e; subst e; cases hm), (List.dropLast_concat_getLast _).symm⟩
  rw [byN_snoc, mget_mput] at h
  by_cases hx : x.fName = k
  ·rw [if_pos hx] at h
   cases h
   exact ⟨by simp, hx⟩
  ·rw [if_neg hx] at h
   obtain ⟨h1, h2⟩ := byN_some (m := m) (by simpa using hm) h
   exact ⟨by simp [h1], h2⟩
def sameK (a b : List TE0) (k : List UInt8) : Bool :=
  bif (mget (byN a) k).isSome == (mget (byN b) k).isSome then
    bif !((mget (byN b) k).getD z_TE0).fUnknown then
      bif !(mget (byN a) k).isSome then true else eqV ((mget (byN a) k).getD z_TE0).fV ((mget (byN b) k).getD z_TE0).fV
    else false
  else false
def stepK (a b : List TE0) (p : List UInt8 × TG0) (s : Int) : Lp Int (Sum Int Unit) := bif sameK a b p.1 then .nx s else bif p.2.fReplace then .br (.inr ()) else .nx 2
def endK (a b : List TE0) (l : List (List UInt8 × TG0)) (s : Int) : Sum Int Unit := bif l.any (fun p => !sameK a b p.1 && p.2.fReplace) then .inr () else .inl (bif l.any (fun p => !sameK a b p.1) then 2 else s)
theorem step_run {n : Nat} (hn : 6000 < n) {a b : List TE0} (ha : ∀ g ∈ a, Fine g.fV) (hb : ∀ g ∈ b, Fine g.fV) (p : List UInt8 × TG0) (s : Int) : schema_Differ_s1_y n (byN a) (byN b) p s = some (stepK a b p s) := by
 unfold schema_Differ_s1_y stepK sameK
 cases h1 : (mget (byN a) p.1).isSome == (mget (byN b) p.1).isSome with
 | false =>
  rw [cF, cF, bnd, cF, cF]
  cases p.2.fReplace <;> rfl
 | true =>
  rw [cT, cT]
  cases h2 : ((mget (byN b) p.1).getD z_TE0).fUnknown with
  | true =>
   rw [Bool.not_true, cF, cF, bnd, cF, cF]
   cases p.2.fReplace <;> rfl
  | false =>
   rw [Bool.not_false, cT, cT]
   cases h3 : (mget (byN a) p.1).isSome with
   | false => rw [Bool.not_false, cT, cT, bnd, cT, cT]
   | true =>
    rw [Bool.not_true, cF, cF]
    have h4 : (mget (byN b) p.1).isSome = true := by rw [h3] at h1; simpa using h1.symm
    obtain ⟨x, hx⟩ := Option.isSome_iff_exists.1 h3
    obtain ⟨y, hy⟩ := Option.isSome_iff_exists.1 h4
    have fx := ha x (byN_some rfl hx).1
    have fy := hb y (byN_some rfl hy).1
    have ex : ∀ v : TD0, (⟨v.fKind, (v.fBool), v.fNum, v.fText, v.fList, v.fKeys⟩ : TD0) = v := fun v => by cases v; rfl
    rw [hx, hy, Option.getD_some, Option.getD_some, ex, ex, Equal_run hn fx fy, bnd, bnd]
    cases eqV x.fV y.fV with
    | true => rw [cT, cT]
    | false =>
     rw [cF, cF]
     cases p.2.fReplace <;> rfl
theorem fold_run {n : Nat} (hn : 6000 < n) {a b : List TE0} (ha : ∀ g ∈ a, Fine g.fV) (hb : ∀ g ∈ b, Fine g.fV) : ∀ (l : List (List UInt8 × TG0)) (s : Int), foldO (schema_Differ_s1_e n (byN a) (byN b)) (schema_Differ_s1_y n (byN a) (byN b)) l s = some (endK a b l s)
 | [], s => rfl
 | p :: l, s => by
  unfold foldO
  rw [step_run hn ha hb, bnd]
  unfold stepK endK
  rw [List.any_cons, List.any_cons]
  cases sameK a b p.1 with
  | true =>
   rw [cT]
   dsimp only
   rw [fold_run hn ha hb l s]
   unfold endK
   rw [Bool.not_true, Bool.false_and, Bool.false_or, Bool.false_or]
  | false =>
   rw [cF]
   cases p.2.fReplace with
   | true => rfl
   | false =>
    rw [cF]
    dsimp only
    rw [fold_run hn ha hb l 2]
    unfold endK
    rw [Bool.not_false, Bool.and_false, Bool.false_or, Bool.true_or, cT]
    cases l.any (fun p => !sameK a b p.1) <;> rfl
theorem endK_perm (a b : List TE0) {l l' : List (List UInt8 × TG0)} (h : l.Perm l') (s : Int) : endK a b l s = endK a b l' s := by
 have e : ∀ q : List UInt8 × TG0 → Bool, l.any q = l'.any q := fun q => by
  rw [Bool.eq_iff_iff, List.any_eq_true, List.any_eq_true]
  exact ⟨fun ⟨x, h1, h2⟩ => ⟨x, h.mem_iff.1 h1, h2⟩, fun ⟨x, h1, h2⟩ => ⟨x, h.mem_iff.2 h1, h2⟩⟩
 unfold endK
 rw [e, e]
def differV (kind : List UInt8) (a b : List TE0) : Int × Int :=
  bif !decide (checkG kind a = 0) then (0, checkG kind a) else bif !decide (checkG kind b = 0) then (0, checkG kind b) else
  bif a.any (·.fUnknown) then (0, 91) else match endK a b (propsD kind) 0 with | .inl y => (y, 0) | .inr _ => (3, 0)
theorem or2_run {n : Nat} (hn : 6000 < n) (x y : Int) : cmp_Or_2 n [x, y] = some (bif !decide (x = 0) then x else y) := by
 obtain ⟨n, rfl⟩ : ∃ m, n = m + 3 := ⟨n - 3, by omega⟩
 unfold cmp_Or_2
 have s0 : cmp_Or_2_s1 (n + 3) [x, y] 0 = bif !decide (x = 0) then some (.br (.inl x)) else some (.nx 1) := by
  unfold cmp_Or_2_s1
  have e : getI [x, y] 0 = some x := rfl
  rw [decide_eq_true (by simp only [List.length_cons, List.length_nil]; omega), cT, e, bnd, need_i (by omega) (by omega)]; rfl
 have s1 : cmp_Or_2_s1 (n + 3) [x, y] 1 = bif !decide (y = 0) then some (.br (.inl y)) else some (.nx 2) := by
  unfold cmp_Or_2_s1
  have e : getI [x, y] 1 = some y := rfl
  rw [decide_eq_true (by simp only [List.length_cons, List.length_nil]; omega), cT, e, bnd, need_i (by omega) (by omega)]; rfl
 have s2 : cmp_Or_2_s1 (n + 3) [x, y] 2 = some (.br (.inr ())) := by
  unfold cmp_Or_2_s1
  rw [decide_eq_false (by simp only [List.length_cons, List.length_nil]; omega), cF]
 have l0 : loopF (cmp_Or_2_s1 (n + 3) [x, y]) (n + 3) 0 = some (bif !decide (x = 0) then .inl x else bif !decide (y = 0) then .inl y else .inr ()) := by
  unfold loopF
  rw [s0]
  by_cases hx : x = 0
  ·rw [decide_eq_true hx, Bool.not_true, cF, cF, bnd]
   dsimp only
   unfold loopF
   rw [s1]
   by_cases hy : y = 0
   ·rw [decide_eq_true hy, Bool.not_true, cF, cF, bnd]
    dsimp only
    unfold loopF
    rw [s2, bnd]
   ·rw [decide_eq_false hy, Bool.not_false, cT, cT, bnd]
  ·rw [decide_eq_false hx, Bool.not_false, cT, cT, bnd]
 rw [l0, bnd]
 by_cases hx : x = 0
 ·rw [decide_eq_true hx, Bool.not_true, cF, cF]
  by_cases hy : y = 0
  ·rw [decide_eq_true hy, Bool.not_true, cF]; rw [hy]
  ·rw [decide_eq_false hy, Bool.not_false, cT]
 ·rw [decide_eq_false hx, Bool.not_false, cT, cT]
theorem unknown_run {n : Nat} (hn : 6000 < n) (gs : List TE0) (hl : gs.length ≤ 60) : slices_ContainsFuncapi_Given_api_Given n gs = some (gs.any (·.fUnknown)) := by
 unfold slices_ContainsFuncapi_Given_api_Given slices_IndexFuncapi_Given_api_Given
 obtain ⟨b, hb, hp⟩ := index_any (n := n) z_TE0 (·.fUnknown) gs (step := slices_IndexFuncapi_Given_api_Given_s1 n gs) (fun k hk => by
  unfold slices_IndexFuncapi_Given_api_Given_s1 schema_Differ_1
  rw [decide_eq_true (by omega), cT, getI_at z_TE0 hk, bnd, bnd]
  cases (gs.getD k z_TE0).fUnknown with
  | false => rw [cF, need_i (by omega) (by omega)]; rfl
  | true => rw [cT]; rfl) (by
  unfold slices_IndexFuncapi_Given_api_Given_s1
  rw [decide_eq_false (by omega), cF]) (by omega)
 rw [hb, bnd]
 cases b with
 | inl i =>
  obtain ⟨h0, h1⟩ := hp
  dsimp only
  rw [bnd, h1, decide_eq_true h0]
 | inr u =>
  have h1 : gs.any (·.fUnknown) = false := hp
  dsimp only
  rw [bnd, h1]
  rfl
theorem Differ_run {n : Nat} (hn : 6000 < n) (kind : List UInt8) {a b : List TE0} (la : a.length ≤ 60) (lb : b.length ≤ 60) (ha : ∀ g ∈ a, Fine g.fV) (hb : ∀ g ∈ b, Fine g.fV) : schema_Differ n kind a b = some (differV kind a b) := by
 unfold schema_Differ differV
 rw [schemaCheck_run hn kind la ha, bnd, schemaCheck_run hn kind lb hb, bnd, or2_run hn, bnd]
 by_cases h1 : checkG kind a = 0
 ·rw [decide_eq_true h1, Bool.not_true, cF, cF]
  by_cases h2 : checkG kind b = 0
  ·rw [decide_eq_true h2, Bool.not_true, cF, cF, unknown_run hn a la, bnd]
   cases a.any (·.fUnknown) with
   | true => rw [cT, cT]
   | false =>
    rw [cF, cF, byName_run a la hn, bnd, byName_run b lb hn, bnd, foldP_run (b := endK a b (propsD kind) 0) (fun l hl => by rw [fold_run hn ha hb, endK_perm a b hl]), bnd]
    cases endK a b (propsD kind) 0 <;> rfl
  ·rw [decide_eq_false h2, Bool.not_false, cT, cT]
 ·rw [decide_eq_false h1, Bool.not_false, cT, cT, decide_eq_false h1, Bool.not_false, cT]
theorem getD_in {gs : List TE0} {k : Nat} (hk : k < gs.length) : gs.getD k z_TE0 = gs[k] := by simp [List.getD, hk]
theorem mget_mem {κ V : Type} [DecidableEq κ] {k : κ} : ∀ {m : List (κ × V)}, (mget m k).isSome = true → ∃ v, (k, v) ∈ m ∧ mget m k = some v
 | [], h => by cases h
 | p :: r, h => by
  unfold mget at h ⊢
  by_cases hk : p.1 = k
  ·rw [if_pos hk]; exact ⟨p.2, by subst hk; exact List.mem_cons_self, rfl⟩
  ·rw [if_neg hk] at h ⊢
   obtain ⟨v, h1, h2⟩ := mget_mem h
   exact ⟨v, List.mem_cons_of_mem _ h1, h2⟩
noncomputable instance decV : DecidableEq TD0 := fun a b => Classical.propDecidable _
end Go.Proofs.YtocefedhenhbfaaDoor
end

section
namespace Go.Proofs.YtocefedhenhbfaaDoor
open Go Go.Vc Go.RowKit
open Go Go.Vc Go.RowKit
open Go Go.Vc Go.RowKit
open Go Go.Vc Go.RowKit
open Go Go.Vc Go.RowKit
open Go Go.Vc Go.RowKit
end Go.Proofs.YtocefedhenhbfaaDoor
end

section
namespace Go.Num
def dig (c : UInt8) : Bool := 48 ≤ c && c ≤ 57
def nd : List UInt8 → Nat → Nat
  | [], k => k
  | c :: r, k => if dig c then nd r (k + 1) else k
def vl : List UInt8 → Nat → Nat
  | [], v => v
  | c :: r, v => if dig c then vl r (10 * v + (c.toNat - 48)) else v
def neg (l : List UInt8) : Bool := decide (l.getD 0 0 = 45)
def fst (l : List UInt8) : Nat := if neg l then 1 else 0
def big : Nat := 9007199254740992
def scanL (l : List UInt8) (at_ : Int) : Int × Int × Int :=
  let f := fst l
  let k := nd (l.drop f) f
  let v := vl (l.drop f) 0
  if l.getD f 0 = 48 ∧ f + 2 ≤ k then (0, at_ + (f + 1), 20)
  else if k = f ∨ l.getD k 0 = 46 ∨ l.getD k 0 = 101 ∨ l.getD k 0 = 69 then (0, at_ + k, 20)
  else if big < v ∨ (neg l = true ∧ v = 0) then (0, at_, 20)
  else (if neg l then -(v : Int) else v, at_ + k, 0)
def scan (s : List UInt8) (at_ : Int) : Int × Int × Int :=
  if at_ < 0 ∨ (s.length : Int) < at_ then (0, 0, 2) else scanL (s.drop at_.toNat) at_
theorem dig_iff (c : UInt8) : dig c = true ↔ 48 ≤ c.toNat ∧ c.toNat ≤ 57 := by
 simp [dig, UInt8.le_iff_toNat_le]
theorem nd_ge : ∀ (l : List UInt8) (k : Nat), k ≤ nd l k
 | [], k => Nat.le_refl _
 | c :: r, k => by
  simp only [nd]
  split
  ·have := nd_ge r (k + 1); omega
  ·exact Nat.le_refl _
theorem drop_cons (l : List UInt8) (k : Nat) (h : k < l.length) : l.drop k = l.getD k 0 :: l.drop (k + 1) := by
 rw [List.drop_eq_getElem_cons h]; simp [List.getD, h]
theorem nd_step (l : List UInt8) (k : Nat) (h : k < l.length) (hd : dig (l.getD k 0) = true) : nd (l.drop k) k = nd (l.drop (k + 1)) (k + 1) := by
 rw [drop_cons l k h]; simp only [nd, hd, if_true]
theorem nd_stop (l : List UInt8) (k : Nat) (hd : dig (l.getD k 0) = false) : nd (l.drop k) k = k := by
 by_cases h : k < l.length
 ·rw [drop_cons l k h]; simp only [nd, hd]; rfl
 ·rw [List.drop_eq_nil_of_le (by omega)]; rfl
theorem vl_step (l : List UInt8) (k v : Nat) (h : k < l.length) (hd : dig (l.getD k 0) = true) : vl (l.drop k) v = vl (l.drop (k + 1)) (10 * v + ((l.getD k 0).toNat - 48)) := by
 rw [drop_cons l k h]; simp only [vl, hd, if_true]
theorem vl_stop (l : List UInt8) (k v : Nat) (hd : dig (l.getD k 0) = false) : vl (l.drop k) v = v := by
 by_cases h : k < l.length
 ·rw [drop_cons l k h]; simp only [vl, hd]; rfl
 ·rw [List.drop_eq_nil_of_le (by omega)]; rfl
structure ScanI (l : List UInt8) (k : Nat) (v : Nat) : Prop where
  ge : fst l ≤ k
  le : k ≤ l.length
  nd : nd (l.drop k) k = nd (l.drop (fst l)) (fst l)
  vl : vl (l.drop k) v = vl (l.drop (fst l)) 0
  zero : fst l + 2 ≤ k → l.getD (fst l) 0 ≠ 48
  one : fst l + 1 ≤ k → dig (l.getD (fst l) 0) = true
theorem fst_le (l : List UInt8) : fst l ≤ l.length := by
 unfold fst neg
 split
 ·rename_i h
  cases l with
  | nil => simp at h
  | cons c r => simp
 ·omega
theorem ScanI.start (l : List UInt8) : ScanI l (fst l) 0 := ⟨Nat.le_refl _, fst_le l, rfl, rfl, fun h => by omega, fun h => by omega⟩
theorem ScanI.step {l : List UInt8} {k v : Nat} (h : ScanI l k v) (hd : dig (l.getD k 0) = true) (hk : k < l.length) (hz : ¬ (k = fst l + 1 ∧ l.getD (fst l) 0 = 48)) : ScanI l (k + 1) (10 * v + ((l.getD k 0).toNat - 48)) := by
 refine ⟨by have := h.ge; omega, by omega, by rw [← nd_step l k hk hd]; exact h.nd, by rw [← vl_step l k v hk hd]; exact h.vl, fun hge h0 => ?_, fun hge => ?_⟩
 ·rcases Nat.lt_or_ge k (fst l + 2) with hlt | hge2
  ·exact hz ⟨by omega, h0⟩
  ·exact h.zero hge2 h0
 ·rcases Nat.lt_or_ge k (fst l + 1) with hlt | hge2
  ·have : k = fst l := by have := h.ge; omega
   subst this; exact hd
  ·exact h.one hge2
theorem ScanI.lt {l : List UInt8} {k v : Nat} (_ : ScanI l k v) (hd : dig (l.getD k 0) = true) : k < l.length := by
 rcases Nat.lt_or_ge k l.length with h | h
 ·exact h
 ·have : l.getD k 0 = 0 := by simp [List.getD, List.getElem?_eq_none h]
  rw [this] at hd; simp [dig] at hd
theorem ScanI.early {l : List UInt8} {k v : Nat} (h : ScanI l k v) (at_ : Int) (hd : dig (l.getD k 0) = true) (hk : k = fst l + 1) (h0 : l.getD (fst l) 0 = 48) : scanL l at_ = (0, at_ + k, 20) := by
 have h1 := h.nd
 rw [nd_step l k (h.lt hd) hd] at h1
 have h2 := nd_ge (l.drop (k + 1)) (k + 1)
 unfold scanL
 simp only []
 rw [if_pos ⟨h0, by omega⟩, hk]
 simp
theorem ScanI.stop {l : List UInt8} {k v : Nat} (h : ScanI l k v) (at_ : Int) (hd : dig (l.getD k 0) = false) :
  scanL l at_ = if k = fst l ∨ l.getD k 0 = 46 ∨ l.getD k 0 = 101 ∨ l.getD k 0 = 69 then (0, at_ + k, 20)
   else if big < v ∨ (neg l = true ∧ v = 0) then (0, at_, 20)
   else (if neg l then -(v : Int) else v, at_ + k, 0) := by
 have h1 := h.nd
 rw [nd_stop l k hd] at h1
 have h2 := h.vl
 rw [vl_stop l k v hd] at h2
 unfold scanL
 simp only []
 rw [← h1, ← h2, if_neg]
 rintro ⟨h3, h4⟩
 exact h.zero h4 h3
theorem fst_le1 (l : List UInt8) : fst l ≤ 1 := by unfold fst; split <;> omega
theorem byte_of {c : UInt8} {n : Int} (d : UInt8) (h : ((c.toNat : Nat) : Int) = n) (hd : (d.toNat : Int) = n) : c = d := UInt8.toNat_inj.1 (by omega)
theorem to_byte {c d : UInt8} {n : Int} (h : c = d) (hd : (d.toNat : Int) = n) : ((c.toNat : Nat) : Int) = n := by rw [h]; exact hd
theorem dig_prog (c : UInt8) : decide (((c.toNat : Int) - 48) % 256 < 10) = dig c := by
 rw [Bool.eq_iff_iff, dig_iff]
 have := c.toNat_lt
 simp only [decide_eq_true_eq]
 omega
def KeepP (n : Int) (v : Nat) : Prop := 0 ≤ n ∧ n ≤ 90071992547409929 ∧ (v ≤ 9007199254740992 → n = v) ∧ (9007199254740992 < v → 9007199254740992 < n)
theorem KeepP.start : KeepP 0 0 := ⟨by omega, by omega, fun _ => rfl, fun h => by omega⟩
theorem KeepP.more {n : Int} {v : Nat} (c : UInt8) (h : KeepP n v) (hd : dig c = true) (hn : n ≤ 9007199254740992) : KeepP (10 * n + ((c.toNat : Int) - 48) % 256) (10 * v + (c.toNat - 48)) := by
 obtain ⟨h1, h2, h3, h4⟩ := h
 rw [dig_iff] at hd
 have hv : v ≤ 9007199254740992 := by
  rcases Nat.lt_or_ge 9007199254740992 v with h | h
  ·have := h4 h; omega
  ·exact h
 have := h3 hv
 refine ⟨by omega, by omega, fun _ => by omega, fun _ => by omega⟩
theorem KeepP.full {n : Int} {v d : Nat} (h : KeepP n v) (hn : ¬ n ≤ 9007199254740992) : KeepP n (10 * v + d) := by
 obtain ⟨h1, h2, h3, h4⟩ := h
 have hv : 9007199254740992 < v := by
  rcases Nat.lt_or_ge 9007199254740992 v with h | h
  ·exact h
  ·have := h3 h; omega
 exact ⟨h1, h2, fun h => by omega, fun _ => by omega⟩
theorem KeepP.fits {n : Int} {v : Nat} (h : KeepP n v) : (decide (-9007199254740992 ≤ n) && decide (n ≤ 9007199254740992)) = decide (v ≤ 9007199254740992) := by
 obtain ⟨h1, h2, h3, h4⟩ := h
 rw [Bool.eq_iff_iff]
 simp only [Bool.and_eq_true, decide_eq_true_eq]
 constructor
 ·rintro ⟨_, h⟩
  rcases Nat.lt_or_ge 9007199254740992 v with h' | h'
  ·have := h4 h'; omega
  ·exact h'
 ·intro h; have := h3 h; omega
theorem scan_inside {s : List UInt8} {at_ : Int} (h : ¬ (at_ < 0 ∨ (s.length : Int) < at_)) : scan s at_ = scanL (s.drop at_.toNat) at_ := by unfold scan; rw [if_neg h]
theorem scan_out {s : List UInt8} {at_ : Int} (h : at_ < 0 ∨ (s.length : Int) < at_) : scan s at_ = (0, 0, 2) := by unfold scan; rw [if_pos h]
def fitsB (n : Int) : Bool := decide (-9007199254740992 ≤ n ∧ n ≤ 9007199254740992)
theorem fits_eq (n : Int) : (decide ((-9007199254740992 : Int) ≤ n) && decide (n ≤ 9007199254740992)) = fitsB n := by simp [fitsB]
theorem neg_byte (l : List UInt8) : decide (((l.getD 0 0).toNat : Int) = 45) = neg l := by
 unfold neg
 rw [Bool.eq_iff_iff]
 simp only [decide_eq_true_eq]
 exact ⟨fun h => byte_of 45 h rfl, fun h => to_byte h rfl⟩
theorem fst_t {l : List UInt8} (h : neg l = true) : fst l = 1 := by simp [fst, h]
theorem fst_f {l : List UInt8} (h : neg l = false) : fst l = 0 := by simp [fst, h]
theorem notboth {l : List UInt8} {k : Nat} (h : ¬ ((k : Int) = (fst l : Int) + 1 ∧ ((l.getD (fst l) 0).toNat : Int) = 48)) : ¬ (k = fst l + 1 ∧ l.getD (fst l) 0 = 48) :=
 fun ⟨h1, h2⟩ => h ⟨by omega, to_byte h2 rfl⟩
theorem isboth {l : List UInt8} {k : Nat} (h : (k : Int) = (fst l : Int) + 1 ∧ ((l.getD (fst l) 0).toNat : Int) = 48) : k = fst l + 1 ∧ l.getD (fst l) 0 = 48 :=
 ⟨by omega, byte_of 48 h.2 rfl⟩
theorem KeepP.fitsEq {n : Int} {v : Nat} (h : KeepP n v) : fitsB n = decide (v ≤ 9007199254740992) := by rw [← fits_eq]; exact h.fits
section
variable {l : List UInt8} {k v : Nat} {n at_ sl : Int} (I : ScanI l k v) (hd : dig (l.getD k 0) = false)
include I hd
theorem ScanI.e1 (h : (k : Int) = (fst l : Int) ∨ (at_ + (k : Int) < sl ∧ (((l.getD k 0).toNat : Int) = 46 ∨ (((l.getD k 0).toNat : Int) = 101 ∨ ((l.getD k 0).toNat : Int) = 69)))) : scanL l at_ = (0, at_ + k, 20) := by
 rw [I.stop at_ hd, if_pos]
 rcases h with h | ⟨_, h | h | h⟩
 ·exact .inl (by omega)
 ·exact .inr (.inl (byte_of 46 h rfl))
 ·exact .inr (.inr (.inl (byte_of 101 h rfl)))
 ·exact .inr (.inr (.inr (byte_of 69 h rfl)))
omit I hd in
theorem ScanI.no (hsl : sl = at_ + l.length) (h : ¬ ((k : Int) = (fst l : Int) ∨ (at_ + (k : Int) < sl ∧ (((l.getD k 0).toNat : Int) = 46 ∨ (((l.getD k 0).toNat : Int) = 101 ∨ ((l.getD k 0).toNat : Int) = 69))))) :
  ¬ (k = fst l ∨ l.getD k 0 = 46 ∨ l.getD k 0 = 101 ∨ l.getD k 0 = 69) := by
 have hk : l.getD k 0 ≠ 0 → k < l.length := fun h0 => by
  rcases Nat.lt_or_ge k l.length with h | h
  ·exact h
  ·exact absurd (by simp [List.getD, List.getElem?_eq_none h]) h0
 rintro (h1 | h1 | h1 | h1)
 ·exact h (.inl (by omega))
 ·have := hk (by rw [h1]; decide); exact h (.inr ⟨by omega, .inl (to_byte h1 rfl)⟩)
 ·have := hk (by rw [h1]; decide); exact h (.inr ⟨by omega, .inr (.inl (to_byte h1 rfl))⟩)
 ·have := hk (by rw [h1]; decide); exact h (.inr ⟨by omega, .inr (.inr (to_byte h1 rfl))⟩)
theorem ScanI.e2 (hno : ¬ (k = fst l ∨ l.getD k 0 = 46 ∨ l.getD k 0 = 101 ∨ l.getD k 0 = 69)) (h : 9007199254740992 < v ∨ (neg l = true ∧ v = 0)) : scanL l at_ = (0, at_, 20) := by
 rw [I.stop at_ hd, if_neg hno, if_pos (by unfold big; exact h)]
theorem ScanI.e3 (hno : ¬ (k = fst l ∨ l.getD k 0 = 46 ∨ l.getD k 0 = 101 ∨ l.getD k 0 = 69)) (h : ¬ (9007199254740992 < v ∨ (neg l = true ∧ v = 0))) : scanL l at_ = (if neg l then -(v : Int) else v, at_ + k, 0) := by
 rw [I.stop at_ hd, if_neg hno, if_neg (by unfold big; exact h)]
end
theorem KeepP.bad {l : List UInt8} {n : Int} {v : Nat} (K : KeepP n v) : (¬ (fitsB n = true) ∨ (neg l = true ∧ n = 0)) ↔ (9007199254740992 < v ∨ (neg l = true ∧ v = 0)) := by
 rw [K.fitsEq]
 obtain ⟨h1, h2, h3, h4⟩ := K
 simp only [decide_eq_true_eq]
 constructor
 ·rintro (h | ⟨a, h⟩)
  ·exact .inl (by omega)
  ·rcases Nat.lt_or_ge 9007199254740992 v with hv | hv
   ·exact .inl hv
   ·exact .inr ⟨a, by have := h3 hv; omega⟩
 ·rintro (h | ⟨a, h⟩)
  ·exact .inl (by omega)
  ·exact .inr ⟨a, by have := h3 (by omega); omega⟩
theorem KeepP.val {n : Int} {v : Nat} {b : Prop} (K : KeepP n v) (h : ¬ (9007199254740992 < v ∨ b)) : n = v := by
 obtain ⟨h1, h2, h3, h4⟩ := K
 exact h3 (by have : ¬ 9007199254740992 < v := fun x => h (.inl x); omega)
def KeepR (n : Int) (gr : Bool) (v : Nat) : Prop := 0 ≤ n ∧ n ≤ 9007199254740992 ∧ (v ≤ 9007199254740992 → n = v ∧ gr = false) ∧ (9007199254740992 < v → n = 9007199254740992 ∧ gr = true)
theorem KeepR.bad {l : List UInt8} {n : Int} {gr : Bool} {v : Nat} (K : KeepR n gr v) : (gr = true ∨ (neg l = true ∧ n = 0)) ↔ (9007199254740992 < v ∨ (neg l = true ∧ v = 0)) := by
 obtain ⟨h1, h2, h3, h4⟩ := K
 constructor
 ·rintro (h | ⟨a, h⟩)
  ·rcases Nat.lt_or_ge 9007199254740992 v with hv | hv
   ·exact .inl hv
   ·rw [(h3 hv).2] at h; cases h
  ·rcases Nat.lt_or_ge 9007199254740992 v with hv | hv
   ·exact .inl hv
   ·exact .inr ⟨a, by have := (h3 hv).1; omega⟩
 ·rintro (h | ⟨a, h⟩)
  ·exact .inl (h4 h).2
  ·exact .inr ⟨a, by have := (h3 (by omega)).1; omega⟩
def read (s : List UInt8) : Int × Int := if (scan s 0).2.2 = 0 ∧ (scan s 0).2.1 = s.length then ((scan s 0).1, 0) else (0, 20)
def dch (n : Nat) : UInt8 := UInt8.ofNat (48 + n % 10)
def digsF : Nat → Nat → List UInt8
  | 0, _ => []
  | f + 1, n => if n < 10 then [dch n] else digsF f (n / 10) ++ [dch n]
def digs (n : Nat) : List UInt8 := digsF (n + 1) n
theorem digsF_more : ∀ (f g n : Nat), n < f → n < g → digsF f n = digsF g n
 | 0, _, n, h, _ => by omega
 | f + 1, 0, n, _, h => by omega
 | f + 1, g + 1, n, h1, h2 => by
  simp only [digsF]
  split
  ·rfl
  ·rw [digsF_more f g (n / 10) (by omega) (by omega)]
theorem digs_lt {n : Nat} (h : n < 10) : digs n = [dch n] := by unfold digs; simp only [digsF]; rw [if_pos h]
theorem digs_ge {n : Nat} (h : ¬ n < 10) : digs n = digs (n / 10) ++ [dch n] := by
 unfold digs
 rw [digsF, if_neg h, digsF_more n (n / 10 + 1) (n / 10) (by omega) (by omega)]
theorem dch_toNat (n : Nat) : (dch n).toNat = 48 + n % 10 := by
 unfold dch; rw [UInt8.toNat_ofNat']; omega
theorem dch_int (n : Nat) : (48 + (n : Int) % 10) % 256 = ((dch n).toNat : Int) := by rw [dch_toNat]; omega
theorem digs_len : ∀ (k n : Nat), n < 10 ^ (k + 1) → (digs n).length ≤ k + 1
 | 0, n, h => by rw [digs_lt (by omega)]; simp
 | k + 1, n, h => by
  by_cases h10 : n < 10
  ·rw [digs_lt h10]; simp
  ·rw [digs_ge h10]
   have := digs_len k (n / 10) (by rw [Nat.pow_succ] at h; omega)
   simp; omega
theorem digs_len16 {n : Nat} (h : n ≤ 9007199254740992) : (digs n).length ≤ 16 := digs_len 15 n (by omega)
def text (n : Int) : List UInt8 × Int := if fitsB n then (if n < 0 then 45 :: digs (-n).toNat else digs n.toNat, 0) else ([], 20)
theorem fitsB_iff {n : Int} : fitsB n = true ↔ -9007199254740992 ≤ n ∧ n ≤ 9007199254740992 := by simp [fitsB]
theorem text_no {n : Int} (h : fitsB n = false) : text n = ([], 20) := by simp [text, h]
theorem text_neg {n : Int} (h : fitsB n = true) (h0 : n < 0) : text n = (45 :: digs (-n).toNat, 0) := by simp [text, h, h0]
theorem text_pos {n : Int} (h : fitsB n = true) (h0 : ¬ n < 0) : text n = (digs n.toNat, 0) := by simp [text, h, h0]
end Go.Num
end
